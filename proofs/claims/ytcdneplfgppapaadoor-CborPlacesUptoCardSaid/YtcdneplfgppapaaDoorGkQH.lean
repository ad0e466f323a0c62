import Derived.Test.YtcdneplfgppapaaDoorGkQD
import Derived.Test.YtcdneplfgppapaaDoorGkR3
set_option linter.unusedVariables false
set_option linter.unusedSimpArgs false

section
/- CBOR: items one in another. No program. -/
set_option linter.unusedSimpArgs false
set_option linter.unusedVariables false
namespace Go.Gk.Cb
open Go Go.Gk

/-! ### more room around it: the same is written -/
def Le_ (w1 w2 : Wr) : Prop := ∀ i x, w1 i = some x → w2 i = some x
theorem kids_mono {w1 w2 : Wr} (h : Le_ w1 w2) (pr : Bool) : ∀ (r : Nat) (key : Bool) (last : Option (List UInt8)) (i : Nat) (x : List UInt8 × Nat), kidsE w1 pr r key last i = some x → kidsE w2 pr r key last i = some x
  | 0, key, last, i, x, h1 => by simpa [kidsE] using h1
  | r + 1, key, last, i, x, h1 => by
    simp only [kidsE] at h1 ⊢
    cases h2 : w1 i with
    | none => rw [h2] at h1; cases h1
    | some a =>
      obtain ⟨t, j⟩ := a
      rw [h2] at h1
      rw [h i _ h2]
      simp only at h1 ⊢
      split at h1
      · cases h1
      · rename_i hk
        rw [if_neg hk]
        cases h3 : kidsE w1 pr r (!key) (if (pr && key) = true then some t else last) j with
        | none => rw [h3] at h1; cases h1
        | some b =>
          rw [h3] at h1
          rw [kids_mono h pr r _ _ j b h3]
          exact h1
theorem item_mono {v : List It} {s1 s2 : Option Wr} (h : ∀ w1, s1 = some w1 → ∃ w2, s2 = some w2 ∧ Le_ w1 w2) : Le_ (itemE v s1) (itemE v s2) := by
  intro i x h1
  unfold itemE at h1 ⊢
  cases hx : v[i]? with
  | none => rw [hx] at h1; cases h1
  | some y =>
    rw [hx] at h1
    simp only at h1 ⊢
    split at h1
    · cases h1
    · rename_i hf
      rw [if_neg hf]
      split at h1
      · rename_i hk
        rw [if_pos hk]
        cases s1 with
        | none => cases h1
        | some w1 =>
          obtain ⟨w2, rfl, hle⟩ := h w1 rfl
          simp only at h1 ⊢
          cases h2 : kidsE w1 (y.1 == 5) y.2.2.2.toNat true none (i + 1) with
          | none => rw [h2] at h1; cases h1
          | some a =>
            rw [h2] at h1
            rw [kids_mono hle _ _ _ _ _ _ h2]
            exact h1
      · rename_i hk
        rw [if_neg hk]
        exact h1
theorem encD_mono (v : List It) : ∀ d, Le_ (encD d v) (encD (d + 1) v)
  | 0 => item_mono (by simp)
  | d + 1 => item_mono (by intro w1 h; cases h; exact ⟨_, rfl, encD_mono v d⟩)

/-! ### the same items further on -/
def shf (n : Nat) (x : Option (List UInt8 × Nat)) : Option (List UInt8 × Nat) := x.map fun y => (y.1, n + y.2)
theorem kids_shift {n : Nat} {w1 w2 : Wr} (h : ∀ i, w2 (n + i) = shf n (w1 i)) (pr : Bool) : ∀ (r : Nat) (key : Bool) (last : Option (List UInt8)) (i : Nat), kidsE w2 pr r key last (n + i) = shf n (kidsE w1 pr r key last i)
  | 0, key, last, i => by simp [kidsE, shf]
  | r + 1, key, last, i => by
    simp only [kidsE, h i]
    cases w1 i with
    | none => rfl
    | some a =>
      obtain ⟨t, j⟩ := a
      simp only [shf, Option.map_some]
      split
      · rfl
      · rw [kids_shift h pr r _ _ j]
        cases kidsE w1 pr r (!key) (if (pr && key) = true then some t else last) j with
        | none => rfl
        | some b => rfl
theorem item_shift {p v : List It} {s1 s2 : Option Wr} (h : (s1 = none ∧ s2 = none) ∨ ∃ w1 w2, s1 = some w1 ∧ s2 = some w2 ∧ ∀ i, w2 (p.length + i) = shf p.length (w1 i)) (i : Nat) :
    itemE (p ++ v) s2 (p.length + i) = shf p.length (itemE v s1 i) := by
  unfold itemE
  rw [List.getElem?_append_right (by omega), show p.length + i - p.length = i by omega]
  cases v[i]? with
  | none => rfl
  | some x =>
    simp only
    split
    · rfl
    · split
      · rcases h with ⟨rfl, rfl⟩ | ⟨w1, w2, rfl, rfl, hw⟩
        · rfl
        · simp only
          rw [show p.length + i + 1 = p.length + (i + 1) by omega, kids_shift hw]
          cases kidsE w1 (x.1 == 5) x.2.2.2.toNat true none (i + 1) with
          | none => rfl
          | some b => rfl
      · simp [shf]; omega
theorem encD_shift (p v : List It) : ∀ (d i : Nat), encD d (p ++ v) (p.length + i) = shf p.length (encD d v i)
  | 0, i => item_shift (.inl ⟨rfl, rfl⟩) i
  | d + 1, i => item_shift (.inr ⟨_, _, rfl, rfl, encD_shift p v d⟩) i

/-! ### Nests -/
def hb (k : UInt8) : List UInt8 := if k = 0 then [0x81] else if k = 1 then [0xa1, 0x00] else [0xc1]
def nestB (ks : List UInt8) : List UInt8 := ks.flatMap hb
theorem nestB_cons (k : UInt8) (ks : List UInt8) : nestB (k :: ks) = hb k ++ nestB ks := rfl
theorem hb_len (k : UInt8) : 1 ≤ (hb k).length ∧ (hb k).length ≤ 2 := by
  unfold hb
  split
  · simp
  · split <;> simp
theorem nestB_len (ks : List UInt8) : (nestB ks).length ≤ 2 * ks.length := by
  induction ks with
  | nil => simp [nestB]
  | cons k r ih => rw [nestB_cons, List.length_append, List.length_cons]; have := hb_len k; omega

theorem h81 : hd 4 1 = [0x81] := by decide
theorem ha1 : hd 5 1 = [0xa1] := by decide
theorem hc1 : hd 6 1 = [0xc1] := by decide
theorem h00 : hd 0 0 = [0x00] := by decide

/-- what an item does whose head is one of these -/
theorem nest_step (d : Nat) (k : UInt8) (p q : List UInt8) : itemD (d + 1) (p ++ hb k ++ q) p.length =
    match itemD d (p ++ hb k ++ q) (p.length + (hb k).length) with
    | .error e => .error e
    | .ok (j, is) => .ok (j, (if k = 0 then [(4, 0, [], 1)] else if k = 1 then [(5, 0, [], 2), (0, 0, [], 0)] else [(6, 1, [], 1)]) ++ is) := by
  show itemS _ _ _ = _
  unfold itemS hb
  by_cases h0 : k = 0
  · have hh := headD_hd p q 4 1 (by omega) (by omega)
    rw [h81] at hh
    simp only [h0, if_true]
    rw [hh]
    simp only [insD, if_true, listD]
    rw [show (1 : UInt64).toNat = 0 + 1 from rfl]
    simp only [listD, true_or, if_true]
    cases itemD d (p ++ [0x81] ++ q) (p.length + [0x81].length) with
    | error e => rfl
    | ok a =>
      obtain ⟨j, is⟩ := a
      simp only
      cases hbl : (p ++ [0x81] ++ q).length with
      | zero => simp at hbl
      | succ n => simp [listD]
  · by_cases h1 : k = 1
    · have hh := headD_hd p ([0x00] ++ q) 5 1 (by omega) (by omega)
      rw [ha1] at hh
      have hz := headD_hd (p ++ [0xa1]) q 0 0 (by omega) (by omega)
      rw [h00] at hz
      have e1 : p ++ [0xa1] ++ ([0x00] ++ q) = p ++ [0xa1, 0x00] ++ q := by simp
      have e2 : p ++ [0xa1] ++ [0x00] ++ q = p ++ [0xa1, 0x00] ++ q := by simp
      rw [e1] at hh
      rw [e2] at hz
      have hl : (p ++ [(0xa1 : UInt8)]).length = p.length + 1 := by simp
      rw [hl] at hz
      simp only [h0, h1, if_true, if_false, show ¬ ((1 : UInt8) = 0) by decide]
      rw [hh]
      have hz' : ∀ e, itemD e (p ++ [0xa1, 0x00] ++ q) (p.length + 1) = .ok (p.length + 2, [(0, 0, [], 0)]) := by
        intro e
        cases e <;> (show itemS _ _ _ = _; unfold itemS; rw [hz]; simp)
      simp only [insD, show ¬ (5 = 4) by omega, if_false, if_true, show (5 = 4 ∨ 5 = 5 ∨ 5 = 6) by omega]
      rw [show (1 : UInt64).toNat = 0 + 1 from rfl]
      simp only [pairsD, List.length_singleton, hz', keyOk, Bool.true_eq_false, if_false]
      have hl2 : p.length + [(0xa1 : UInt8), 0x00].length = p.length + 2 := rfl
      rw [hl2]
      cases itemD d (p ++ [0xa1, 0x00] ++ q) (p.length + 2) with
      | error e => rfl
      | ok a =>
        obtain ⟨j, is⟩ := a
        simp only
        cases hbl : (p ++ [0xa1, 0x00] ++ q).length with
        | zero => simp at hbl
        | succ n => simp [pairsD]
    · have hh := headD_hd p q 6 1 (by omega) (by omega)
      rw [hc1] at hh
      simp only [h0, h1, if_false]
      rw [hh]
      simp only [insD, show ¬ (6 = 4) by omega, show ¬ (6 = 5) by omega, if_false, show (6 = 4 ∨ 6 = 5 ∨ 6 = 6) by omega, if_true]
      cases itemD d (p ++ [0xc1] ++ q) (p.length + [0xc1].length) with
      | error e => rfl
      | ok a => rfl
theorem nest_deep0 (k : UInt8) (p q : List UInt8) : itemD 0 (p ++ hb k ++ q) p.length = .error (11, (p.length : Int)) := by
  show itemS _ _ _ = _
  unfold itemS hb
  by_cases h0 : k = 0
  · have hh := headD_hd p q 4 1 (by omega) (by omega)
    rw [h81] at hh
    simp only [h0, if_true]
    rw [hh]; simp
  · by_cases h1 : k = 1
    · have hh := headD_hd p ([0x00] ++ q) 5 1 (by omega) (by omega)
      rw [ha1] at hh
      have e1 : p ++ [0xa1] ++ ([0x00] ++ q) = p ++ [0xa1, 0x00] ++ q := by simp
      rw [e1] at hh
      simp only [h0, h1, if_true, if_false, show ¬ ((1 : UInt8) = 0) by decide]
      rw [hh]; simp
    · have hh := headD_hd p q 6 1 (by omega) (by omega)
      rw [hc1] at hh
      simp only [h0, h1, if_false]
      rw [hh]; simp

theorem nest_deep : ∀ (d : Nat) (ks : List UInt8) (p r : List UInt8), d < ks.length → itemD d (p ++ nestB ks ++ r) p.length = .error (11, ((p.length + (nestB (ks.take d)).length : Nat) : Int))
  | d, [], p, r, h => by simp at h
  | 0, k :: ks, p, r, h => by
    rw [nestB_cons, show p ++ (hb k ++ nestB ks) ++ r = p ++ hb k ++ (nestB ks ++ r) by simp, nest_deep0]
    simp [nestB]
  | d + 1, k :: ks, p, r, h => by
    have ih := nest_deep d ks (p ++ hb k) r (by simpa using h)
    rw [nestB_cons, show p ++ (hb k ++ nestB ks) ++ r = p ++ hb k ++ (nestB ks ++ r) by simp, nest_step]
    rw [show p ++ hb k ++ nestB ks ++ r = p ++ hb k ++ (nestB ks ++ r) by simp, List.length_append] at ih
    rw [ih]
    simp only [List.take_succ_cons, nestB_cons, List.length_append]
    congr 2; omega
theorem nest_ok : ∀ (d : Nat) (ks : List UInt8) (p : List UInt8), ks.length ≤ d → ∃ is, itemD d (p ++ nestB ks ++ [0x00]) p.length = .ok (p.length + (nestB ks).length + 1, is)
  | d, [], p, h => by
    have hz := headD_hd p [] 0 0 (by omega) (by omega)
    rw [h00, List.append_nil] at hz
    refine ⟨[(0, 0, [], 0)], ?_⟩
    rw [show p ++ nestB [] ++ [0x00] = p ++ [0x00] by simp [nestB]]
    cases d <;> (show itemS _ _ _ = _; unfold itemS; rw [hz]; simp [nestB])
  | 0, k :: ks, p, h => by simp at h
  | d + 1, k :: ks, p, h => by
    obtain ⟨is, hi⟩ := nest_ok d ks (p ++ hb k) (by simpa using h)
    rw [nestB_cons, show p ++ (hb k ++ nestB ks) ++ [0x00] = p ++ hb k ++ (nestB ks ++ [0x00]) by simp, nest_step]
    rw [show p ++ hb k ++ nestB ks ++ [0x00] = p ++ hb k ++ (nestB ks ++ [0x00]) by simp, List.length_append] at hi
    rw [hi]
    refine ⟨(if k = 0 then [(4, 0, [], 1)] else if k = 1 then [(5, 0, [], 2), (0, 0, [], 0)] else [(6, 1, [], 1)]) ++ is, ?_⟩
    simp only [List.length_append]
    congr 2; omega

theorem joined_loop (l : List (List It)) (hl : l.length ≤ 100) : ∀ (k i : Nat) (acc : List It), l.length - i = k → i ≤ l.length → acc.length + ((l.drop i).map List.length).sum ≤ 5000000000000 →
    loop (F.law30_joined_L1 l) (acc, (i : Int)) = some (acc ++ (l.drop i).flatten)
  | 0, i, acc, h1, h2, h3 => by
    have : i = l.length := by omega
    subst this
    refine loop_inr ?_
    have hd : decide (((l.length : Nat) : Int) < (l.length : Int)) = false := by simp
    simp only [F.law30_joined_L1, hd, Bool.false_eq_true, if_false]
    simp; rfl
  | k + 1, i, acc, h1, h2, h3 => by
    have hi : i < l.length := by omega
    have hd : decide ((i : Int) < (l.length : Int)) = true := by simp; omega
    have hfl : (l.drop i).flatten = l[i] ++ (l.drop (i + 1)).flatten := by rw [List.drop_eq_getElem_cons hi, List.flatten_cons]
    rw [List.drop_eq_getElem_cons hi, List.map_cons, List.sum_cons] at h3
    have hs : F.law30_joined_L1 l (acc, (i : Int)) = some (.inl (acc ++ l[i], ((i + 1 : Nat) : Int))) := by
      simp only [F.law30_joined_L1, hd, if_true, getO_lt hi, bind_some']
      rw [apO_ok (by omega), bind_some', wI_in (by omega) (by omega)]; rfl
    rw [loop_inl hs, joined_loop l hl k (i + 1) _ (by omega) (by omega) (by simp only [List.length_append]; omega), hfl]
    simp
theorem joined_eq (m : Int) (l : List (List It)) (hl : l.length ≤ 100) (hs : (l.map List.length).sum ≤ 4000000000000) : F.law30_joined m l = some ((m, 0, [], (l.length : Int)) :: l.flatten) := by
  unfold F.law30_joined
  have := joined_loop l hl l.length 0 [(m, 0, [], (l.length : Int))] (by omega) (by omega) (by simp; omega)
  rw [show (0 : Int) = ((0 : Nat) : Int) from rfl, this]
  simp

/-- one list around it: it fits if it is not as deep as it may be -/
theorem shaped_around (v : List It) (hs : shapedD v = true) : shapedD ((4, 0, [], 1) :: v) = (encD 31 v 0).isSome := by
  unfold shapedD at hs ⊢
  cases h : encD 32 v 0 with
  | none => rw [h] at hs; cases hs
  | some a =>
    obtain ⟨t, j⟩ := a
    rw [h] at hs
    have hj : j = v.length := by simpa using hs
    subst hj
    have hsh := encD_shift [(4, 0, [], 1)] v 31 0
    simp only [List.singleton_append, List.length_singleton, Nat.add_zero] at hsh
    have hE : encD 32 ((4, 0, [], 1) :: v) 0 = (match encD 31 v 0 with
      | none => none
      | some (t, j) => some (hd 4 1 ++ t, 1 + j)) := by
      show itemE _ _ 0 = _
      unfold itemE
      have hf : fitE (4, 0, [], 1) := by simp [fitE]
      simp only [List.getElem?_cons_zero]
      rw [if_neg (show ¬ ¬ fitE _ from fun h => h hf), if_pos (by simp)]
      simp only [show (1 : Int).toNat = 0 + 1 from rfl, kidsE, hsh, show ((4 : Int) == 5) = false from rfl, Bool.false_and, Bool.false_eq_true, if_false]
      cases encD 31 v 0 with
      | none => rfl
      | some b => obtain ⟨u, k⟩ := b; simp [shf]; rfl
    rw [hE]
    cases h2 : encD 31 v 0 with
    | none => rfl
    | some b =>
      obtain ⟨u, k⟩ := b
      have := encD_mono v 31 0 _ h2
      rw [h] at this
      cases this
      simp; omega

/-! the bytes that the law lays -/
def kindAt (ks : List UInt8) (i : Nat) : UInt8 := if h : ks = [] then 0 else (ks[i % ks.length]'(Nat.mod_lt _ (by cases ks with | nil => exact absurd rfl h | cons => simp))) % 3
def kindsTo (ks : List UInt8) : Nat → List UInt8
  | 0 => []
  | n + 1 => kindsTo ks n ++ [kindAt ks n]
theorem kindsTo_len (ks : List UInt8) (n : Nat) : (kindsTo ks n).length = n := by
  induction n with
  | zero => rfl
  | succ n ih => simp [kindsTo, ih]
theorem kindsTo_take (ks : List UInt8) (m : Nat) : ∀ n, m ≤ n → (kindsTo ks n).take m = kindsTo ks m
  | 0, h => by have : m = 0 := by omega
               subst this; rfl
  | n + 1, h => by
    rcases Nat.eq_or_lt_of_le h with rfl | h2
    · rw [List.take_of_length_le (by rw [kindsTo_len]; omega)]
    · rw [kindsTo, List.take_append_of_le_length (by rw [kindsTo_len]; omega), kindsTo_take ks m n (by omega)]
theorem nestB_app (a b : List UInt8) : nestB (a ++ b) = nestB a ++ nestB b := by simp [nestB]

theorem nests_loop (n : Nat) (hn : n ≤ 100) (ks rest : List UInt8) (hks : ks.length ≤ 9223372036854775807) : ∀ (k i : Nat), n - i = k → i ≤ n →
    loop (F.law30_CborNests_L1 (n : Int) rest ks) (nestB (kindsTo ks i), (if i ≤ 32 then 0 else ((nestB (kindsTo ks 32)).length : Int)), (i : Int)) =
    loop (F.law30_CborNests_L1 (n : Int) rest ks) (nestB (kindsTo ks n), (if n ≤ 32 then 0 else ((nestB (kindsTo ks 32)).length : Int)), (n : Int))
  | 0, i, h1, h2 => by
    have : i = n := by omega
    subst this; rfl
  | k + 1, i, h1, h2 => by
    have hd : decide ((i : Int) < (n : Int)) = true := by simp; omega
    have hi1 : wI ((i : Int) + 1) = ((i + 1 : Nat) : Int) := by rw [wI_in (by omega) (by omega)]; simp
    have hlen : (nestB (kindsTo ks i)).length ≤ 200 := by have := nestB_len (kindsTo ks i); rw [kindsTo_len] at this; omega
    have hK4 : ∀ (q : UInt8) (at_ : Int), F.law30_CborNests_K4 (nestB (kindsTo ks i)) at_ (i : Int) q = some (.inl (nestB (kindsTo ks i) ++ hb q, at_, ((i + 1 : Nat) : Int))) := by
      intro q at_
      simp only [F.law30_CborNests_K4, hb]
      by_cases q0 : q = 0
      · have e : (q == 0) = true := by simpa using q0
        rw [e, if_pos rfl, if_pos q0, apO_ok (by simp; omega), bind_some']
        simp only [F.law30_CborNests_K2, hi1]; rfl
      · have e : (q == 0) = false := by simpa using q0
        rw [e, if_neg (by simp), if_neg q0]
        by_cases q1 : q = 1
        · have e : (q == 1) = true := by simpa using q1
          rw [e, if_pos rfl, if_pos q1, apO_ok (by simp; omega), bind_some']
          simp only [F.law30_CborNests_K2, hi1]; rfl
        · have e : (q == 1) = false := by simpa using q1
          rw [e, if_neg (by simp), if_neg q1, apO_ok (by simp; omega), bind_some']
          simp only [F.law30_CborNests_K2, hi1]; rfl
    have hK3 : ∀ at_ : Int, F.law30_CborNests_K3 ks (i : Int) (nestB (kindsTo ks i)) at_ = some (.inl (nestB (kindsTo ks (i + 1)), at_, ((i + 1 : Nat) : Int))) := by
      intro at_
      rw [kindsTo, nestB_app, show nestB [kindAt ks i] = hb (kindAt ks i) by simp [nestB]]
      unfold F.law30_CborNests_K3 kindAt
      by_cases h0 : ks = []
      · subst h0
        simp only [dif_pos]
        exact hK4 0 at_
      · have hp : 0 < ks.length := by cases ks with | nil => exact absurd rfl h0 | cons => simp
        have e : decide ((0 : Int) < (ks.length : Int)) = true := decide_eq_true (by omega)
        have em : Int.tmod (i : Int) (ks.length : Int) = ((i % ks.length : Nat) : Int) := by rw [Int.tmod_eq_emod_of_nonneg (by omega)]; simp
        rw [e, if_pos rfl, grd_true _ (by omega), em, getO_lt (Nat.mod_lt _ hp), bind_some', dif_neg h0]
        exact hK4 _ at_
    have hs : F.law30_CborNests_L1 (n : Int) rest ks (nestB (kindsTo ks i), (if i ≤ 32 then 0 else ((nestB (kindsTo ks 32)).length : Int)), (i : Int)) =
        some (.inl (nestB (kindsTo ks (i + 1)), (if i + 1 ≤ 32 then 0 else ((nestB (kindsTo ks 32)).length : Int)), ((i + 1 : Nat) : Int))) := by
      simp only [F.law30_CborNests_L1, hd, if_true]
      by_cases h32 : i = 32
      · subst h32
        simp only [show (((32 : Nat) : Int) == 32) = true from rfl, if_true]
        rw [hK3]; simp
      · have e : ((i : Int) == 32) = false := by simp; omega
        simp only [e, Bool.false_eq_true, if_false]
        rw [hK3]
        by_cases h33 : i ≤ 32
        · rw [if_pos h33, if_pos (by omega)]
        · rw [if_neg h33, if_neg (by omega)]
    rw [loop_inl hs]
    exact nests_loop n hn ks rest hks k (i + 1) (by omega) (by omega)

theorem CborNests_true (n : Int) (ks rest : List UInt8) (hks : ks.length ≤ 200000000000000) (hr : rest.length ≤ 200000000000000) : F.law30_CborNests n ks rest = some true := by
  unfold F.law30_CborNests
  rw [awake_eq]
  simp only [bind_some', not_true_f, Bool.false_eq_true, if_false]
  have hT : F.law30_CborNests_K1 n rest ks true = some true := by simp only [F.law30_CborNests_K1, if_true, awake_eq, bind_some']
  by_cases h0 : n < 0
  · have : decide (n < 0) = true := by simpa using h0
    rw [this, if_pos rfl, hT]
  · have e0 : decide (n < 0) = false := by simpa using h0
    rw [e0, if_neg (by simp)]
    by_cases h1 : 100 < n
    · have : decide ((100 : Int) < n) = true := by simpa using h1
      rw [this, hT]
    · have e1 : decide ((100 : Int) < n) = false := by simpa using h1
      rw [e1]
      simp only [F.law30_CborNests_K1, Bool.false_eq_true, if_false]
      obtain ⟨m, rfl⟩ := Int.eq_ofNat_of_zero_le (Int.not_lt.1 h0)
      have hl := nests_loop m (by omega) ks rest (by omega) m 0 (by omega) (by omega)
      simp only [Nat.zero_le, if_true, show kindsTo ks 0 = [] from rfl, show nestB [] = [] from rfl, show ((0 : Nat) : Int) = 0 from rfl] at hl
      rw [hl]
      have hB : (nestB (kindsTo ks m)).length ≤ 200 := by have := nestB_len (kindsTo ks m); rw [kindsTo_len] at this; omega
      refine loop_inr ?_
      simp only [F.law30_CborNests_L1, Int.lt_irrefl, decide_false, Bool.false_eq_true, if_false]
      by_cases h32 : 32 < m
      · have e2 : decide ((32 : Int) < (m : Int)) = true := by simp; omega
        rw [e2, if_pos rfl, if_neg (by omega), apO_ok (by omega), bind_some', parse_eq, bind_some']
        by_cases hlen : 65536 < (nestB (kindsTo ks m) ++ rest).length
        · have e3 : decide ((65536 : Int) < ((nestB (kindsTo ks m) ++ rest).length : Int)) = true := by simp only [decide_eq_true_eq]; omega
          rw [e3, if_pos rfl]; rfl
        · have e3 : decide ((65536 : Int) < ((nestB (kindsTo ks m) ++ rest).length : Int)) = false := by simp only [decide_eq_false_iff_not]; omega
          have hd := nest_deep 32 (kindsTo ks m) [] rest (by rw [kindsTo_len]; omega)
          rw [List.nil_append, kindsTo_take ks 32 m (by omega)] at hd
          simp only [List.length_nil, Nat.zero_add] at hd
          have hp : parseD (nestB (kindsTo ks m) ++ rest) = ([], 11, ((nestB (kindsTo ks 32)).length : Int)) := by
            unfold parseD; rw [if_neg hlen, hd]
          rw [e3, hp]; simp; rfl
      · have e2 : decide ((32 : Int) < (m : Int)) = false := by simp; omega
        rw [e2, if_neg (by simp), apO_ok (by simp; omega), bind_some', parse_eq, bind_some']
        obtain ⟨is, hi⟩ := nest_ok 32 (kindsTo ks m) [] (by rw [kindsTo_len]; omega)
        simp only [List.nil_append, List.length_nil, Nat.zero_add] at hi
        have hbl : (nestB (kindsTo ks m) ++ [0x00]).length = (nestB (kindsTo ks m)).length + 1 := by simp
        rw [← hbl] at hi
        generalize hb9 : nestB (kindsTo ks m) ++ [0x00] = b at hi hbl
        have hp : parseD b = (is, 0, 0) := by
          unfold parseD; rw [if_neg (by omega), hi]; simp
        have hN := fine_of (by omega) hi
        have hps := print_parsed (by omega) hi
        have hisl : is.length ≤ b.length := by have := ((itemD_moves b 32).1 _ _ _ hi).2.2.2; omega
        have hK1 : Kd ((4, 0, [], 1) :: is) := by
          intro x hx
          rcases List.mem_cons.1 hx with rfl | hx
          · simp
          · exact hN.kd x hx
        have hw1 : wt ((4, 0, [], 1) :: is) ≤ 4000000000000 := by have := hN.1; simp only [wt, List.length_nil]; omega
        rw [hp]
        simp only [beq_self_eq_true, if_true]
        rw [shaped_eq hN.wt hN.kd, hps.2]
        simp only [bind_some', if_true]
        rw [joined_eq 4 [is] (by simp) (by simp; omega), bind_some']
        simp only [List.length_singleton, List.flatten_cons, List.flatten_nil, List.append_nil, show ((1 : Nat) : Int) = 1 from rfl]
        rw [shaped_eq hw1 hK1, shaped_around is hps.2, bind_some']
        have hfin : (encD 31 is 0).isSome = decide ((m : Int) < 32) := by
          by_cases hm : m < 32
          · obtain ⟨js, hj⟩ := nest_ok 31 (kindsTo ks m) [] (by rw [kindsTo_len]; omega)
            simp only [List.nil_append, List.length_nil, Nat.zero_add] at hj
            rw [hb9, ← hbl] at hj
            have h1 := enc_of_item hj
            have h2 := encD_mono js 31 0 _ h1
            have hNj := fine_of (by omega) hj
            have h3 := item_of_enc hNj.kd hNj.bt h2
            rw [hi] at h3
            cases h3
            rw [List.take_length] at *
            simp [h1]; omega
          · have hm32 : m = 32 := by omega
            subst hm32
            cases h4 : encD 31 is 0 with
            | none => simp
            | some a =>
              exfalso
              obtain ⟨t, j⟩ := a
              have h2 := encD_mono is 31 0 _ h4
              rw [enc_of_item hi] at h2
              cases h2
              have h3 := item_of_enc hN.kd hN.bt h4
              have hd := nest_deep 31 (kindsTo ks 32) [] [0x00] (by rw [kindsTo_len]; omega)
              simp only [List.nil_append, List.length_nil] at hd
              rw [hb9] at hd
              rw [hd] at h3
              cases h3
        rw [hfin]
        simp; rfl
end Go.Gk.Cb
end

section
/- CBOR: the statements over lists of items: prints, places, back. No program. -/
set_option linter.unusedSimpArgs false
set_option linter.unusedVariables false
namespace Go.Gk.Cb
open Go Go.Gk

/-! ### Beyond answers -/
theorem beyond_in (v : List It) (i : Nat) (hi : i < v.length) (hv : v.length ≤ 9000000) : ∀ (n : Nat) (op : List Int), op.length = n → n ≤ 65536 →
    ∃ r, loop (F.ref30_Beyond_L2 v (i : Int)) op = some r ∧ (∀ op' j, r = .inl (op', j) → op'.length ≤ 65536 ∧ j = ((i + 1 : Nat) : Int))
  | n, op, hn, h => by
    have hi1 : wI ((i : Int) + 1) = ((i + 1 : Nat) : Int) := by rw [wI_in (by omega) (by omega)]; simp
    have hK2 : ∀ op' : List Int, op'.length ≤ 65536 → ∃ r, F.ref30_Beyond_K2 v (i : Int) op' = some r ∧ (∀ o j, r = .inl (o, j) → o.length ≤ 65536 ∧ j = ((i + 1 : Nat) : Int)) := by
      intro op' h'
      simp only [F.ref30_Beyond_K2, getO_lt hi, bind_some']
      rw [apO_ok (by simp; omega), bind_some']
      by_cases hl : 65536 < (op' ++ [v[i].2.2.2]).length
      · have : decide ((65536 : Int) < ((op' ++ [v[i].2.2.2]).length : Int)) = true := by simp only [decide_eq_true_eq]; omega
        rw [this, if_pos rfl]
        exact ⟨.inr true, rfl, by intro o j h; cases h⟩
      · have : decide ((65536 : Int) < ((op' ++ [v[i].2.2.2]).length : Int)) = false := by simp only [decide_eq_false_iff_not]; omega
        rw [this, if_neg (by simp), hi1]
        refine ⟨.inl (op' ++ [v[i].2.2.2], ((i + 1 : Nat) : Int)), rfl, ?_⟩
        intro o j h; cases h
        exact ⟨by omega, rfl⟩
    cases n with
    | zero =>
      have : op = [] := List.eq_nil_of_length_eq_zero hn
      subst this
      obtain ⟨r, hr, hR⟩ := hK2 [] (by simp)
      refine ⟨r, ?_, hR⟩
      refine loop_inr ?_
      simp only [F.ref30_Beyond_L2, F.ref30_Beyond_K1, List.length_nil, show decide ((0 : Int) < ((0 : Nat) : Int)) = false from rfl, Bool.false_eq_true, if_false, hr]; rfl
    | succ n =>
      have hd : decide ((0 : Int) < (op.length : Int)) = true := decide_eq_true (by omega)
      have hw : wI ((op.length : Int) - 1) = (n : Int) := by rw [wI_in (by omega) (by omega)]; omega
      have hg : getO op (n : Int) = some (op[n]'(by omega)) := getO_lt (by omega)
      by_cases h0 : (op[n]'(by omega)) ≤ 0
      · have e : decide ((op[n]'(by omega)) ≤ 0) = true := by simpa using h0
        have hs : F.ref30_Beyond_L2 v (i : Int) op = some (.inl (op.take n)) := by
          simp only [F.ref30_Beyond_L2, hd, if_true, hw, hg, bind_some', e, F.ref30_Beyond_K1, Int.toNat_natCast]
          rw [grd_true _ (by omega)]; rfl
        obtain ⟨r, hr, hR⟩ := beyond_in v i hi hv n (op.take n) (by simp; omega) (by omega)
        exact ⟨r, by rw [loop_inl hs]; exact hr, hR⟩
      · have e : decide ((op[n]'(by omega)) ≤ 0) = false := by simpa using h0
        obtain ⟨r, hr, hR⟩ := hK2 (op.set n (wI ((op[n]'(by omega)) - 1))) (by simp; omega)
        refine ⟨r, ?_, hR⟩
        refine loop_inr ?_
        simp only [F.ref30_Beyond_L2, hd, if_true, hw, hg, bind_some', e, F.ref30_Beyond_K1, Bool.false_eq_true, if_false, olet_eq, Int.toNat_natCast, hr]; rfl
theorem beyond_ex (v : List It) (hv : v.length ≤ 9000000) : ∃ r, F.ref30_Beyond v = some r := by
  have key : ∀ k i (op : List Int), v.length - i = k → i ≤ v.length → op.length ≤ 65536 → ∃ r, loop (F.ref30_Beyond_L1 v) (op, (i : Int)) = some r := by
    intro k
    induction k with
    | zero =>
      intro i op h1 h2 h3
      have : i = v.length := by omega
      subst this
      exact ⟨false, loop_inr (by simp only [F.ref30_Beyond_L1, Int.lt_irrefl, decide_false, Bool.false_eq_true, if_false]; rfl)⟩
    | succ k ih =>
      intro i op h1 h2 h3
      have hi : i < v.length := by omega
      have hd : decide ((i : Int) < (v.length : Int)) = true := decide_eq_true (by omega)
      obtain ⟨r, hr, hR⟩ := beyond_in v i hi hv op.length op rfl h3
      have hs : F.ref30_Beyond_L1 v (op, (i : Int)) = some r := by
        simp only [F.ref30_Beyond_L1, hd, if_true, hr]
      cases r with
      | inr b => exact ⟨b, loop_inr hs⟩
      | inl s =>
        obtain ⟨o, j⟩ := s
        obtain ⟨a, rfl⟩ := hR o j rfl
        rw [loop_inl hs]
        exact ih (i + 1) o (by omega) (by omega) a
  exact key v.length 0 [] (by omega) (by omega) (by simp)

/-! ### the list with two marks behind it -/
def mark : It := (0, 0, [109, 97, 114, 107], 0)
theorem wide_eq2 (v : List It) (hv : v.length ≤ 9000000) : F.law30_wide v = some (v ++ [mark, mark], v.length) := by
  unfold F.law30_wide
  rw [apO_ok (by simp; omega), bind_some', List.nil_append, apO_ok (by simp; omega), bind_some', Int.toNat_natCast, grd_true _ (by simp)]
  rfl
theorem left_eq (v : List It) (hv : v.length ≤ 9000000) : F.law30_left (v ++ [mark, mark]) v.length v = some true := by
  unfold F.law30_left
  have h2 : wI ((v.length : Int) + 2) = ((v.length + 2 : Nat) : Int) := by rw [wI_in (by omega) (by omega)]; simp
  have h1 : wI ((v.length : Int) + 1) = ((v.length + 1 : Nat) : Int) := by rw [wI_in (by omega) (by omega)]; simp
  rw [h2, h1, Int.toNat_natCast, grd_true _ ⟨by omega, by simp⟩, List.take_left, sameI_eq _ _ (by omega)]
  have ht : (v ++ [mark, mark]).take (v.length + 2) = v ++ [mark, mark] := List.take_of_length_le (by simp)
  simp only [bind_some', beq_self_eq_true, if_true, ht]
  rw [getO_nat, getO_nat]
  simp [mark, bind_some']

/-- what counts of an item for its being written at all: its data's length, and how many are in it -/
def Gd (v : List It) : Prop := wt v ≤ 4000000 ∧ Kd v ∧ (∀ x ∈ v, x.2.2.1.length ≤ 2000000)
theorem Gd.len {v : List It} (h : Gd v) : v.length ≤ 4000000 := by have := wt_len v; have := h.1; omega
theorem Gd.print {v : List It} (h : Gd v) : F.cbor_Print v = some (printD v) ∧ F.ref30_Print v = some (printD v) ∧ F.cbor_Shaped v = some (shapedD v) ∧ F.ref30_Shaped v = some (shapedD v) :=
  have hw : wt v ≤ 4000000000000 := by have := h.1; omega
  ⟨print_eq hw h.2.1, refPrint_eq hw h.2.1 h.2.2, shaped_eq hw h.2.1, refShaped_eq hw h.2.1 h.2.2⟩
theorem Gd.places {v : List It} (h : Gd v) (p : Int) (key : List It) : (∃ q, F.cbor_Behind v p = some q ∧ F.ref30_Behind v p = some q) ∧ ∃ q, F.cbor_Member v p key = some q ∧ F.ref30_Member v p key = some q :=
  have hw : wt v ≤ 4000000000000 := by have := h.1; omega
  ⟨Behind_both hw h.2.1 h.2.2 p, Member_both hw h.2.1 h.2.2 p key⟩
theorem printD_len (v : List It) : (printD v).1.length ≤ 65536 := by
  unfold printD
  split
  · simp
  · split
    · split
      · simp
      · simp only; omega
    · simp

/-- the same data and numbers in it -/
def dk (v : List It) : List (List UInt8 × Int) := v.map fun x => (x.2.2.1, x.2.2.2)
theorem dk_wt : ∀ (u v : List It), dk u = dk v → wt u = wt v
  | [], [], _ => rfl
  | [], _ :: _, h => by simp [dk] at h
  | _ :: _, [], h => by simp [dk] at h
  | x :: r, y :: s, h => by
    simp only [dk, List.map_cons, List.cons.injEq, Prod.mk.injEq] at h
    have := dk_wt r s h.2
    simp only [wt, h.1.1, this]
theorem Gd.of_dk {u v : List It} (h : Gd v) (hd : dk u = dk v) : Gd u := by
  have hm : ∀ x ∈ u, ∃ y ∈ v, y.2.2.1 = x.2.2.1 ∧ y.2.2.2 = x.2.2.2 := by
    intro x hx
    have : (x.2.2.1, x.2.2.2) ∈ dk u := List.mem_map.2 ⟨x, hx, rfl⟩
    rw [hd] at this
    obtain ⟨y, hy, e⟩ := List.mem_map.1 this
    simp only [Prod.mk.injEq] at e
    exact ⟨y, hy, e.1, e.2⟩
  refine ⟨by rw [dk_wt u v hd]; exact h.1, fun x hx => ?_, fun x hx => ?_⟩
  · obtain ⟨y, hy, e1, e2⟩ := hm x hx; rw [← e2]; exact h.2.1 y hy
  · obtain ⟨y, hy, e1, e2⟩ := hm x hx; rw [← e1]; exact h.2.2 y hy
theorem dk_set {l : List It} {i : Nat} {x y : It} (h : l[i]? = some x) (e1 : y.2.2.1 = x.2.2.1) (e2 : y.2.2.2 = x.2.2.2) : dk (l.set i y) = dk l := by
  obtain ⟨hi, rfl⟩ := List.getElem?_eq_some_iff.1 h
  unfold dk
  rw [List.map_set, e1, e2]
  refine List.ext_getElem? fun j => ?_
  rw [List.getElem?_set]
  split
  · rename_i hj
    subst hj
    simp [hi]
  · rfl
theorem dk_len {u v : List It} (h : dk u = dk v) : u.length = v.length := by have := congrArg List.length h; simpa [dk] using this
theorem dk_take {u v : List It} (h : dk u = dk v) (n : Nat) : dk (u.take n) = dk (v.take n) := by
  have := congrArg (List.take n) h
  simpa [dk, List.map_take] using this

theorem print_same (u : List It) (h : Gd u) : F.law30_sameBytes (printD u).1 (printD u).1 = some true := by
  rw [sameB_eq _ _ (by have := printD_len u; omega)]; simp

theorem prints_K4 (v full u : List It) (hfull : full.take v.length = v) (h : Gd v) (hd : dk u = dk full) (x : List It × Nat) (hx : x.2 = v.length) : F.law30_CborPrints_K4 x u = some true := by
  have hu : dk (u.take v.length) = dk v := by have := dk_take hd v.length; rw [hfull] at this; exact this
  have hg := h.of_dk hu
  obtain ⟨e1, e2, e3, e4⟩ := hg.print
  simp only [F.law30_CborPrints_K4, hx, e1, e2, e3, e4, bind_some', beq_self_eq_true, if_true, print_same _ hg]

theorem CborPrints_true (v : List It) (h : Gd v) : F.law30_CborPrints v = some true := by
  have hl := h.len
  obtain ⟨r, hr⟩ := beyond_ex v (by omega)
  unfold F.law30_CborPrints
  rw [hr, bind_some']
  cases r
  · simp only [Bool.false_eq_true, if_false]
    rw [wide_eq2 v (by omega), bind_some']
    obtain ⟨e1, e2, e3, e4⟩ := h.print
    simp only [List.take_left, e1, e2, e3, e4, bind_some', bne_self_eq_false, Bool.false_eq_true, if_false, print_same v h, not_true_f, left_eq v (by omega : v.length ≤ 9000000), F.law30_CborPrints_K1]
    have hfull : (v ++ [mark, mark]).take v.length = v := List.take_left
    have key : ∀ k i (u : List It), v.length - i = k → i ≤ v.length → dk u = dk (v ++ [mark, mark]) → loop (F.law30_CborPrints_L1 (v ++ [mark, mark], v.length)) ((i : Int), u) = some true := by
      intro k
      induction k with
      | zero =>
        intro i u h1 h2 hd
        have hi : i = v.length := by omega
        have hu : dk (u.take v.length) = dk v := by have := dk_take hd v.length; rw [hfull] at this; exact this
        have hul : (u.take v.length).length = v.length := dk_len hu
        have hg := h.of_dk hu
        obtain ⟨f1, f2, f3, f4⟩ := hg.print
        refine loop_inr ?_
        have hlt : decide ((i : Int) < ((u.take v.length).length : Int)) = false := decide_eq_false (by omega)
        simp only [F.law30_CborPrints_L1, hlt, Bool.false_eq_true, if_false, f1, f2, f3, f4, bind_some', bne_self_eq_false, print_same _ hg, not_true_f, F.law30_CborPrints_K3]
        by_cases h0 : v.length = 0
        · have e : decide ((0 : Int) < ((u.take v.length).length : Int)) = false := decide_eq_false (by omega)
          simp only [e, Bool.false_eq_true, if_false]
          rw [prints_K4 v _ u hfull h hd _ rfl]; rfl
        · have e : decide ((0 : Int) < ((u.take v.length).length : Int)) = true := decide_eq_true (by omega)
          have ew : wI (((u.take v.length).length : Int) - 1) = ((v.length - 1 : Nat) : Int) := by rw [wI_in (by omega) (by omega)]; omega
          have hg1 : (u.take v.length)[v.length - 1]? = some ((u.take v.length)[v.length - 1]'(by omega)) := List.getElem?_eq_getElem _
          have hg2 : u[v.length - 1]? = some ((u.take v.length)[v.length - 1]'(by omega)) := by rw [← hg1, List.getElem?_take, if_pos (by omega)]
          simp only [e, if_true, ew]
          rw [getO_nat, hg1, bind_some', olet_eq, Int.toNat_natCast]
          have hq : ∀ u', dk u' = dk (v ++ [mark, mark]) → F.law30_CborPrints_K4 (v ++ [mark, mark], v.length) u' = some true := fun u' hd' => prints_K4 v _ u' hfull h hd' _ rfl
          rw [hq]
          · rfl
          · refine Eq.trans (dk_set hg2 ?_ ?_) hd <;> rfl
      | succ k ih =>
        intro i u h1 h2 hd
        have hu : dk (u.take v.length) = dk v := by have := dk_take hd v.length; rw [hfull] at this; exact this
        have hul : (u.take v.length).length = v.length := dk_len hu
        have hlt : decide ((i : Int) < ((u.take v.length).length : Int)) = true := decide_eq_true (by omega)
        have hi1 : wI ((i : Int) + 1) = ((i + 1 : Nat) : Int) := by rw [wI_in (by omega) (by omega)]; simp
        have hg1 : (u.take v.length)[i]? = some ((u.take v.length)[i]'(by omega)) := List.getElem?_eq_getElem _
        have hg2 : u[i]? = some ((u.take v.length)[i]'(by omega)) := by rw [← hg1, List.getElem?_take, if_pos (by omega)]
        have hgo : getO (u.take v.length) (i : Int) = some ((u.take v.length)[i]'(by omega)) := by rw [getO_nat, hg1]
        by_cases hm : ((u.take v.length)[i]'(by omega)).1 < 2
        · have e : decide (((u.take v.length)[i]'(by omega)).1 < 2) = true := by simpa using hm
          have hs : F.law30_CborPrints_L1 (v ++ [mark, mark], v.length) ((i : Int), u) = some (.inl (((i + 1 : Nat) : Int), u.set i (((u.take v.length)[i]'(by omega)).1, ((u.take v.length)[i]'(by omega)).2.1 ^^^ 1, ((u.take v.length)[i]'(by omega)).2.2.1, ((u.take v.length)[i]'(by omega)).2.2.2))) := by
            simp only [F.law30_CborPrints_L1, hlt, if_true, hgo, bind_some', e, olet_eq, F.law30_CborPrints_K2, hi1, Int.toNat_natCast]; rfl
          rw [loop_inl hs]
          exact ih (i + 1) _ (by omega) (by omega) (by refine Eq.trans (dk_set hg2 ?_ ?_) hd <;> rfl)
        · have e : decide (((u.take v.length)[i]'(by omega)).1 < 2) = false := by simpa using hm
          have hs : F.law30_CborPrints_L1 (v ++ [mark, mark], v.length) ((i : Int), u) = some (.inl (((i + 1 : Nat) : Int), u)) := by
            simp only [F.law30_CborPrints_L1, hlt, if_true, hgo, bind_some', e, Bool.false_eq_true, if_false, F.law30_CborPrints_K2, hi1]; rfl
          rw [loop_inl hs]
          exact ih (i + 1) _ (by omega) (by omega) hd
    exact key v.length 0 _ (by omega) (by omega) rfl
  · simp

/-! ### Places -/
theorem places_K5 (v full u key : List It) (p : Int) (hfull : full.take v.length = v) (h : Gd v) (hd : dk u = dk full) (x : List It × Nat) (hx : x.2 = v.length) : F.law30_CborPlaces_K5 p key x u = some true := by
  have hu : dk (u.take v.length) = dk v := by have := dk_take hd v.length; rw [hfull] at this; exact this
  have hg := h.of_dk hu
  obtain ⟨⟨q1, a1, a2⟩, q2, b1, b2⟩ := hg.places p key
  simp only [F.law30_CborPlaces_K5, hx, a1, a2, b1, b2, bind_some', beq_self_eq_true, if_true]

/-- data one byte longer, here and there -/
def near (v u : List It) (i : Nat) : Prop := u.length = v.length ∧ ∀ j (h1 : j < v.length) (h2 : j < u.length), u[j].2.2.2 = v[j].2.2.2 ∧ u[j].2.2.1.length ≤ v[j].2.2.1.length + 1 ∧ (i ≤ j → u[j].2.2.1 = v[j].2.2.1)
theorem near_wt : ∀ (v u : List It), u.length = v.length → (∀ j (h1 : j < v.length) (h2 : j < u.length), u[j].2.2.1.length ≤ v[j].2.2.1.length + 1) → wt u ≤ wt v + v.length
  | [], [], _, _ => by simp [wt]
  | [], _ :: _, h, _ => by simp at h
  | _ :: _, [], h, _ => by simp at h
  | y :: s, x :: r, h, h2 => by
    have h0 := h2 0 (by simp) (by simp)
    have := near_wt s r (by simpa using h) (fun j a b => by have := h2 (j + 1) (by simp; omega) (by simp; omega); simpa using this)
    simp only [List.getElem_cons_zero] at h0
    simp only [wt, List.length_cons]; omega
def Gd1 (v : List It) : Prop := wt v ≤ 3000000 ∧ Kd v ∧ (∀ x ∈ v, x.2.2.1.length ≤ 1900000)
theorem Gd1.gd {v : List It} (h : Gd1 v) : Gd v := ⟨by have := h.1; omega, h.2.1, fun x hx => by have := h.2.2 x hx; omega⟩
theorem near_gd {v u : List It} {i : Nat} (h : Gd1 v) (hn : near v u i) : Gd u := by
  have hl := wt_len v
  have h1 := h.1
  have hm : ∀ x ∈ u, ∃ y ∈ v, x.2.2.1.length ≤ y.2.2.1.length + 1 ∧ x.2.2.2 = y.2.2.2 := by
    intro x hx
    obtain ⟨j, hj, rfl⟩ := List.getElem_of_mem hx
    have hj' : j < v.length := by rw [← hn.1]; exact hj
    obtain ⟨a, b, _⟩ := hn.2 j hj' hj
    exact ⟨v[j], List.getElem_mem hj', b, a⟩
  refine ⟨?_, fun x hx => ?_, fun x hx => ?_⟩
  · have := near_wt v u hn.1 (fun j a b => (hn.2 j a b).2.1); omega
  · obtain ⟨y, hy, a, b⟩ := hm x hx; rw [b]; exact h.2.1 y hy
  · obtain ⟨y, hy, a, b⟩ := hm x hx; have := h.2.2 y hy; omega

theorem CborPlaces_true (v : List It) (p : Int) (key : List It) (h1v : Gd1 v) (hk : Gd1 key) : F.law30_CborPlaces v p key = some true := by
  have h := h1v.gd
  have hl := h.len
  have hkl := hk.gd.len
  obtain ⟨r, hr⟩ := beyond_ex v (by omega)
  obtain ⟨r2, hr2⟩ := beyond_ex key (by omega)
  have hK1 : F.law30_CborPlaces_K1 v p key false = some true := by
    simp only [F.law30_CborPlaces_K1, Bool.false_eq_true, if_false]
    rw [wide_eq2 v (by omega), bind_some', wide_eq2 key (by omega), bind_some']
    obtain ⟨⟨q1, a1, a2⟩, q2, b1, b2⟩ := h.places p key
    simp only [List.take_left, a1, a2, b1, b2, bind_some', bne_self_eq_false, Bool.false_eq_true, if_false, left_eq v (by omega : v.length ≤ 9000000), left_eq key (by omega : key.length ≤ 9000000), not_true_f, F.law30_CborPlaces_K2]
    have hfull : (v ++ [mark, mark]).take v.length = v := List.take_left
    have hfullk : (key ++ [mark, mark]).take key.length = key := List.take_left
    -- the second loop
    have loop2 : ∀ k i (u : List It), v.length - i = k → i ≤ v.length → near (v ++ [mark, mark]) u i → loop (F.law30_CborPlaces_L2 p key (v ++ [mark, mark], v.length)) ((i : Int), u) = some true := by
      intro k
      have hnt : ∀ {i u}, near (v ++ [mark, mark]) u i → near v (u.take v.length) i ∧ (u.take v.length).length = v.length := by
        intro i u hn
        have hul : (u.take v.length).length = v.length := by have := hn.1; simp at this ⊢; omega
        refine ⟨⟨hul, fun j j1 j2 => ?_⟩, hul⟩
        have := hn.2 j (by simp; omega) (by have := hn.1; simp at this; omega)
        rw [List.getElem_append_left j1] at this
        simpa using this
      induction k with
      | zero =>
        intro i u h1 h2 hn
        obtain ⟨hnv, hul⟩ := hnt hn
        have hg := near_gd h1v hnv
        obtain ⟨⟨q1, a1, a2⟩, q2, b1, b2⟩ := hg.places p key
        refine loop_inr ?_
        have hlt : decide ((i : Int) < ((u.take v.length).length : Int)) = false := decide_eq_false (by omega)
        simp only [F.law30_CborPlaces_L2, hlt, Bool.false_eq_true, if_false, a1, a2, b1, b2, bind_some', bne_self_eq_false, F.law30_CborPlaces_K4]
        have hK5 : ∀ u', dk u' = dk u → F.law30_CborPlaces_K5 p key (v ++ [mark, mark], v.length) u' = some true := by
          intro u' hd
          refine places_K5 (u.take v.length) u u' key p ?_ hg hd _ ?_
          · rw [hul]
          · exact hul.symm
        by_cases h0 : v.length = 0
        · have e : decide ((0 : Int) < ((u.take v.length).length : Int)) = false := decide_eq_false (by omega)
          simp only [e, Bool.false_eq_true, if_false]
          rw [hK5 u rfl]; rfl
        · have e : decide ((0 : Int) < ((u.take v.length).length : Int)) = true := decide_eq_true (by omega)
          have ew : wI (((u.take v.length).length : Int) - 1) = ((v.length - 1 : Nat) : Int) := by rw [wI_in (by omega) (by omega)]; omega
          have hg1 : (u.take v.length)[v.length - 1]? = some ((u.take v.length)[v.length - 1]'(by omega)) := List.getElem?_eq_getElem _
          have hg2 : u[v.length - 1]? = some ((u.take v.length)[v.length - 1]'(by omega)) := by rw [← hg1, List.getElem?_take, if_pos (by omega)]
          simp only [e, if_true, ew]
          rw [getO_nat, hg1, bind_some', olet_eq, Int.toNat_natCast]
          rw [hK5]
          · rfl
          · refine dk_set hg2 ?_ ?_ <;> rfl
      | succ k ih =>
        intro i u h1 h2 hn
        obtain ⟨hnv, hul⟩ := hnt hn
        have hlt : decide ((i : Int) < ((u.take v.length).length : Int)) = true := decide_eq_true (by omega)
        have hi1 : wI ((i : Int) + 1) = ((i + 1 : Nat) : Int) := by rw [wI_in (by omega) (by omega)]; simp
        have hiu : i < u.length := by have := hn.1; simp at this; omega
        have hg1 : (u.take v.length)[i]? = some u[i] := by rw [List.getElem?_take, if_pos (by omega), List.getElem?_eq_getElem hiu]
        have hgo : getO (u.take v.length) (i : Int) = some u[i] := by rw [getO_nat, hg1]
        by_cases hm : u[i].1 = 2
        · have e : (u[i].1 == 2) = true := by simpa using hm
          obtain ⟨n1, n2, n3⟩ := hn.2 i (by simp; omega) hiu
          have hvi : (v ++ [mark, mark])[i]'(by simp; omega) = v[i]'(by omega) := List.getElem_append_left (by omega)
          have hdl : u[i].2.2.1.length ≤ 1900001 := by
            have := h1v.2.2 (v[i]'(by omega)) (List.getElem_mem _)
            rw [hvi] at n2
            omega
          have hsad : sadO u[i].2.2.1 [120] = some (u[i].2.2.1 ++ [120]) := by unfold sadO; rw [if_pos (by simp; omega)]
          have hs : F.law30_CborPlaces_L2 p key (v ++ [mark, mark], v.length) ((i : Int), u) = some (.inl (((i + 1 : Nat) : Int), u.set i (u[i].1, u[i].2.1, u[i].2.2.1 ++ [120], u[i].2.2.2))) := by
            simp only [F.law30_CborPlaces_L2, hlt, if_true, hgo, bind_some', e, hsad, olet_eq, F.law30_CborPlaces_K3, hi1, Int.toNat_natCast]; rfl
          rw [loop_inl hs]
          refine ih (i + 1) _ (by omega) (by omega) ⟨by rw [List.length_set]; exact hn.1, fun j j1 j2 => ?_⟩
          rw [List.getElem_set]
          by_cases hij : i = j
          · subst hij
            rw [if_pos rfl]
            refine ⟨n1, ?_, fun h => by omega⟩
            have := n3 (by omega)
            simp only [List.length_append, List.length_singleton, this]
            omega
          · rw [if_neg hij]
            obtain ⟨m1, m2, m3⟩ := hn.2 j j1 (by rw [List.length_set] at j2; exact j2)
            exact ⟨m1, m2, fun h => m3 (by omega)⟩
        · have e : (u[i].1 == 2) = false := by simpa using hm
          have hs : F.law30_CborPlaces_L2 p key (v ++ [mark, mark], v.length) ((i : Int), u) = some (.inl (((i + 1 : Nat) : Int), u)) := by
            simp only [F.law30_CborPlaces_L2, hlt, if_true, hgo, bind_some', e, Bool.false_eq_true, if_false, F.law30_CborPlaces_K3, hi1]; rfl
          rw [loop_inl hs]
          refine ih (i + 1) _ (by omega) (by omega) ⟨hn.1, fun j j1 j2 => ?_⟩
          obtain ⟨m1, m2, m3⟩ := hn.2 j j1 j2
          exact ⟨m1, m2, fun h => m3 (by omega)⟩
    have l2 := loop2 v.length 0 (v ++ [mark, mark]) (by omega) (by omega) ⟨rfl, fun j _ _ => ⟨rfl, by omega, fun _ => rfl⟩⟩
    simp only [show ((0 : Nat) : Int) = 0 from rfl] at l2
    have loop1 : ∀ k i (u : List It), key.length - i = k → i ≤ key.length → u.length = key.length + 2 → loop (F.law30_CborPlaces_L1 v p (v ++ [mark, mark], v.length) (key ++ [mark, mark], key.length) key) ((i : Int), u) = some true := by
      intro k
      induction k with
      | zero =>
        intro i u h1 h2 hu
        refine loop_inr ?_
        have hul : (u.take key.length).length = key.length := by simp; omega
        have hlt : decide ((i : Int) < ((u.take key.length).length : Int)) = false := decide_eq_false (by omega)
        obtain ⟨_, q2, b1, b2⟩ := h.places p (u.take key.length)
        simp only [F.law30_CborPlaces_L1, hlt, Bool.false_eq_true, if_false, b1, b2, bind_some', bne_self_eq_false, List.take_left, l2]; rfl
      | succ k ih =>
        intro i u h1 h2 hu
        have hul : (u.take key.length).length = key.length := by simp; omega
        have hlt : decide ((i : Int) < ((u.take key.length).length : Int)) = true := decide_eq_true (by omega)
        have hi1 : wI ((i : Int) + 1) = ((i + 1 : Nat) : Int) := by rw [wI_in (by omega) (by omega)]; simp
        have hgo : getO (u.take key.length) (i : Int) = some (u[i]'(by omega)) := by rw [getO_nat, List.getElem?_take, if_pos (by omega), List.getElem?_eq_getElem]
        have hs : F.law30_CborPlaces_L1 v p (v ++ [mark, mark], v.length) (key ++ [mark, mark], key.length) key ((i : Int), u) = some (.inl (((i + 1 : Nat) : Int), u.set i ((u[i]'(by omega)).1, (u[i]'(by omega)).2.1 ^^^ 1, (u[i]'(by omega)).2.2.1, (u[i]'(by omega)).2.2.2))) := by
          simp only [F.law30_CborPlaces_L1, hlt, if_true, hgo, bind_some', olet_eq, hi1, Int.toNat_natCast]; rfl
        rw [loop_inl hs]
        exact ih (i + 1) _ (by omega) (by omega) (by rw [List.length_set]; exact hu)
    exact loop1 key.length 0 _ (by omega) (by omega) (by simp)
  unfold F.law30_CborPlaces
  rw [hr, bind_some']
  cases r
  · simp only [Bool.false_eq_true, if_false]
    rw [hr2, bind_some']
    cases r2
    · exact hK1
    · rfl
  · rfl
end Go.Gk.Cb
end

section
/- CBOR: back, order. No program. -/
set_option linter.unusedSimpArgs false
set_option linter.unusedVariables false
namespace Go.Gk.Cb
open Go Go.Gk

theorem back_K1 (v : List It) (h : Gd v) : F.law30_CborBack_K1 v () = some true := by
  obtain ⟨e1, e2, e3, e4⟩ := h.print
  have hB : ∀ x ∈ v, x.2.2.1.length < 18446744073709551616 := fun x hx => by have := h.2.2 x hx; omega
  obtain ⟨t, e, hp, hE⟩ := print_shaped v
  simp only [F.law30_CborBack_K1, e1, e3, bind_some', hp]
  by_cases h0 : e = 0
  · subst h0
    obtain ⟨hq, hl⟩ := parse_printed h.2.1 hB hp
    simp only [bne_self_eq_false, Bool.false_eq_true, if_false]
    rw [parse_eq, hq]
    simp only [bind_some', beq_self_eq_true, if_true]
    rw [sameI_eq _ _ (by have := h.len; omega)]
    have : decide ((t.length : Int) ≤ 65536) = true := decide_eq_true (by omega)
    simp [this]
  · obtain ⟨rfl, hs⟩ := hE h0
    have : (e != 0) = true := by simpa using h0
    simp only [this, if_true, hs]
    simp

theorem CborBack_true (b : List UInt8) (v : List It) (hb : b.length ≤ 200000000000000) (h : Gd v) : F.law30_CborBack b v = some true := by
  obtain ⟨r, hr⟩ := beyond_ex v (by have := h.len; omega)
  unfold F.law30_CborBack
  rw [hr, bind_some']
  cases r
  · simp only [Bool.false_eq_true, if_false]
    rw [awake_eq, parse_eq]
    simp only [bind_some', not_true_f, Bool.false_eq_true, if_false]
    rcases parse_cases b with ⟨is, hbl, hi, hpb⟩ | ⟨e, p, he, hp0, hp1, hpb⟩
    · have hN := fine_of hbl hi
      have hps := print_parsed hbl hi
      have hil := ((itemD_moves b 32).1 _ _ _ hi).2.2
      have hbeh : F.cbor_Behind is 0 = some (is.length : Int) := by
        unfold F.cbor_Behind
        have e1 : decide ((is.length : Int) ≤ 0) = false := decide_eq_false (by omega)
        rw [shaped_eq hN.wt hN.kd, hps.2]
        simp only [show decide ((0 : Int) < 0) = false from rfl, e1, Bool.false_eq_true, if_false, bind_some', Bool.not_true, F.cbor_Behind_K1]
        rw [show (0 : Int) = ((0 : Nat) : Int) from rfl, behind_cbor (by omega) (by omega) (enc_of_item hi)]; rfl
      rw [hpb]
      simp only [beq_self_eq_true, if_true]
      rw [print_eq hN.wt hN.kd, hps.1, shaped_eq hN.wt hN.kd, hps.2, hbeh]
      simp only [bind_some', bne_self_eq_false, Bool.false_eq_true, if_false]
      rw [sameB_eq _ _ (by omega)]
      simp only [bind_some', beq_self_eq_true, not_true_f, Bool.false_eq_true, if_false, F.law30_CborBack_K2]
      exact back_K1 v h
    · have e1 : (e == 0) = false := by simpa using he
      have e2 : decide (p < 0) = false := decide_eq_false (by omega)
      have e3 : decide ((b.length : Int) < p) = false := decide_eq_false (by omega)
      rw [hpb]
      simp only [e1, e2, e3, Bool.false_eq_true, if_false, List.length_nil, show (((0 : Nat) : Int) != 0) = false from rfl, F.law30_CborBack_K3]
      exact back_K1 v h
  · rfl

/-! ### a list in a list -/
theorem item_extE {w q : List It} {s1 s2 : Option Wr} (h : ∀ w1, s1 = some w1 → ∃ w2, s2 = some w2 ∧ Le_ w1 w2) : Le_ (itemE w s1) (itemE (w ++ q) s2) := by
  intro i x h1
  have h2 := item_mono h i x h1
  unfold itemE at h2 ⊢
  cases hx : w[i]? with
  | none => rw [hx] at h2; cases h2
  | some y =>
    have : (w ++ q)[i]? = some y := by rw [List.getElem?_append_left (List.getElem?_eq_some_iff.1 hx).1]; exact hx
    rw [this]
    rw [hx] at h2
    exact h2
theorem encD_extE (w q : List It) : ∀ d, Le_ (encD d w) (encD d (w ++ q))
  | 0 => item_extE (by simp)
  | d + 1 => item_extE (by intro w1 h; cases h; exact ⟨_, rfl, encD_extE w q d⟩)

def CutE (w : List It) (w1 w2 : Wr) : Prop := ∀ i t j, w2 i = some (t, j) → j ≤ w.length → w1 i = some (t, j)
theorem kids_cutE {w q : List It} {w1 w2 : Wr} (hp : Put (w ++ q) w2) (h : CutE w w1 w2) (pr : Bool) : ∀ (r : Nat) (key : Bool) (last : Option (List UInt8)) (i : Nat) (t : List UInt8) (j : Nat), i ≤ (w ++ q).length →
    kidsE w2 pr r key last i = some (t, j) → j ≤ w.length → kidsE w1 pr r key last i = some (t, j)
  | 0, key, last, i, t, j, hi, h1, h2 => by simpa [kidsE] using h1
  | r + 1, key, last, i, t, j, hi, h1, h2 => by
    simp only [kidsE] at h1 ⊢
    cases h3 : w2 i with
    | none => rw [h3] at h1; cases h1
    | some a =>
      obtain ⟨t1, j1⟩ := a
      rw [h3] at h1
      obtain ⟨m1, m2, _⟩ := hp _ _ _ h3
      simp only at h1
      split at h1
      · cases h1
      · rename_i hk
        cases h4 : kidsE w2 pr r (!key) (if (pr && key) = true then some t1 else last) j1 with
        | none => rw [h4] at h1; cases h1
        | some b =>
          obtain ⟨u, k⟩ := b
          rw [h4] at h1
          cases h1
          have m5 := kidsE_put hp _ _ _ _ _ _ _ m2 h4
          rw [h i t1 j1 h3 (by omega)]
          simp only
          rw [if_neg hk, kids_cutE hp h pr r _ _ j1 u j m2 h4 h2]
theorem item_cutE {w q : List It} {s1 s2 : Option Wr} (h : ∀ w2, s2 = some w2 → Put (w ++ q) w2 ∧ ∃ w1, s1 = some w1 ∧ CutE w w1 w2) : CutE w (itemE w s1) (itemE (w ++ q) s2) := by
  intro i t j h1 h2
  unfold itemE at h1 ⊢
  cases hx : (w ++ q)[i]? with
  | none => rw [hx] at h1; cases h1
  | some y =>
    rw [hx] at h1
    have hiq := (List.getElem?_eq_some_iff.1 hx).1
    simp only at h1
    split at h1
    · cases h1
    · rename_i hf
      split at h1
      · rename_i hk
        cases s2 with
        | none => cases h1
        | some w2 =>
          obtain ⟨hp, w1, rfl, hc⟩ := h w2 rfl
          simp only at h1
          cases h3 : kidsE w2 (y.1 == 5) y.2.2.2.toNat true none (i + 1) with
          | none => rw [h3] at h1; cases h1
          | some a =>
            obtain ⟨u, k⟩ := a
            rw [h3] at h1
            cases h1
            have m5 := kidsE_put hp _ _ _ _ _ _ _ (by omega) h3
            have hiw : i < w.length := by omega
            have : w[i]? = some y := by rw [List.getElem?_append_left hiw] at hx; exact hx
            rw [this]
            simp only
            rw [if_neg hf, if_pos hk, kids_cutE hp hc _ _ _ _ _ _ _ (by omega) h3 h2]
      · rename_i hk
        cases h1
        have : w[i]? = some y := by rw [List.getElem?_append_left (by omega)] at hx; exact hx
        rw [this]
        simp only
        rw [if_neg hf, if_neg hk]
theorem encD_cutE (w q : List It) : ∀ d, CutE w (encD d w) (encD d (w ++ q))
  | 0 => item_cutE (by simp)
  | d + 1 => item_cutE (by intro w2 h; cases h; exact ⟨encD_put _ d, _, rfl, encD_cutE w q d⟩)

/-- one item, whole -/
def One (d : Nat) (w : List It) (t : List UInt8) : Prop := encD d w 0 = some (t, w.length)
theorem One.at_ {d : Nat} {w : List It} {t : List UInt8} (h : One d w t) (p q : List It) : encD d (p ++ (w ++ q)) p.length = some (t, p.length + w.length) := by
  have := encD_shift p (w ++ q) d 0
  rw [Nat.add_zero, encD_extE w q d 0 _ h] at this
  exact this
theorem One.of_at {w p q : List It} {t : List UInt8} {x : List UInt8 × Nat} (h : One 32 w t) (h2 : encD 31 (p ++ (w ++ q)) p.length = some x) : One 31 w t ∧ x = (t, p.length + w.length) := by
  have h3 := encD_mono _ 31 _ _ h2
  rw [h.at_ p q] at h3
  cases h3
  refine ⟨?_, rfl⟩
  have h4 := encD_shift p (w ++ q) 31 0
  rw [Nat.add_zero, h2] at h4
  cases h5 : encD 31 (w ++ q) 0 with
  | none => rw [h5] at h4; cases h4
  | some y =>
    obtain ⟨t', j'⟩ := y
    rw [h5] at h4
    simp only [shf, Option.map_some, Option.some.injEq, Prod.mk.injEq] at h4
    obtain ⟨rfl, h6⟩ := h4
    have : j' = w.length := by omega
    subst this
    exact encD_cutE w q 31 0 _ _ h5 (by omega)
theorem shaped_one {v : List It} (h : shapedD v = true) : ∃ t, One 32 v t := by
  unfold shapedD at h
  cases h1 : encD 32 v 0 with
  | none => rw [h1] at h; cases h
  | some a =>
    obtain ⟨t, j⟩ := a
    rw [h1] at h
    have : j = v.length := by simpa using h
    subst this
    exact ⟨t, h1⟩

section
variable {w1 w2 w3 w4 : List It} {t1 t2 t3 t4 : List UInt8}
/-- the four, one behind the other -/
theorem four_at (h1 : One 31 w1 t1) (h2 : One 31 w2 t2) (h3 : One 31 w3 t3) (h4 : One 31 w4 t4) (x : It) :
    encD 31 (x :: (w1 ++ (w2 ++ (w3 ++ w4)))) 1 = some (t1, 1 + w1.length) ∧ encD 31 (x :: (w1 ++ (w2 ++ (w3 ++ w4)))) (1 + w1.length) = some (t2, 1 + w1.length + w2.length) ∧
    encD 31 (x :: (w1 ++ (w2 ++ (w3 ++ w4)))) (1 + w1.length + w2.length) = some (t3, 1 + w1.length + w2.length + w3.length) ∧
    encD 31 (x :: (w1 ++ (w2 ++ (w3 ++ w4)))) (1 + w1.length + w2.length + w3.length) = some (t4, 1 + w1.length + w2.length + w3.length + w4.length) := by
  have a1 := h1.at_ [x] (w2 ++ (w3 ++ w4))
  have a2 := h2.at_ (x :: w1) (w3 ++ w4)
  have a3 := h3.at_ (x :: (w1 ++ w2)) w4
  have a4 := h4.at_ (x :: (w1 ++ (w2 ++ w3))) []
  simp only [List.cons_append, List.nil_append, List.append_nil, List.append_assoc, List.length_cons, List.length_nil, List.length_append, Nat.zero_add] at a1 a2 a3 a4
  refine ⟨a1, ?_, ?_, ?_⟩
  · rw [Nat.add_comm 1]; exact a2
  · rw [show 1 + w1.length + w2.length = w1.length + w2.length + 1 by omega]; exact a3
  · rw [show 1 + w1.length + w2.length + w3.length = w1.length + (w2.length + w3.length) + 1 by omega]; exact a4

theorem list_four (k1 : One 32 w1 t1) (k2 : One 32 w2 t2) (k3 : One 32 w3 t3) (k4 : One 32 w4 t4) (hs : shapedD ((4, 0, [], 4) :: (w1 ++ (w2 ++ (w3 ++ w4)))) = true) :
    One 31 w1 t1 ∧ One 31 w2 t2 ∧ One 31 w3 t3 ∧ One 31 w4 t4 := by
  obtain ⟨t, ht⟩ := shaped_one hs
  have ht' : itemE ((4, 0, [], 4) :: (w1 ++ (w2 ++ (w3 ++ w4)))) (some (encD 31 ((4, 0, [], 4) :: (w1 ++ (w2 ++ (w3 ++ w4)))))) 0 = some (t, ((4, 0, [], 4) :: (w1 ++ (w2 ++ (w3 ++ w4)))).length) := ht
  unfold itemE at ht'
  have hf : fitE (4, 0, [], 4) := by simp [fitE]
  simp only [List.getElem?_cons_zero] at ht'
  rw [if_neg (show ¬ ¬ fitE _ from fun h => h hf), if_pos (by simp)] at ht'
  simp only [show (4 : Int).toNat = 3 + 1 from rfl, show ((4 : Int) == 5) = false from rfl] at ht'
  cases hk : kidsE (encD 31 ((4, 0, [], 4) :: (w1 ++ (w2 ++ (w3 ++ w4))))) false (3 + 1) true none (0 + 1) with
  | none => rw [hk] at ht'; cases ht'
  | some a =>
    simp only [kidsE, Nat.zero_add] at hk
    cases e1 : encD 31 ((4, 0, [], 4) :: (w1 ++ (w2 ++ (w3 ++ w4)))) 1 with
    | none => rw [e1] at hk; cases hk
    | some x1 =>
      have r1 := k1.of_at (p := [(4, 0, [], 4)]) (q := w2 ++ (w3 ++ w4)) (x := x1) (by simpa using e1)
      obtain ⟨o1, rfl⟩ := r1
      rw [e1] at hk
      simp only [Bool.false_and, Bool.false_eq_true, if_false] at hk
      cases e2 : encD 31 ((4, 0, [], 4) :: (w1 ++ (w2 ++ (w3 ++ w4)))) ([((4 : Int), (0 : UInt64), ([] : List UInt8), (4 : Int))].length + w1.length) with
      | none => rw [e2] at hk; cases hk
      | some x2 =>
        have r2 := k2.of_at (p := (4, 0, [], 4) :: w1) (q := w3 ++ w4) (x := x2) (by rw [← e2]; simp; rw [Nat.add_comm])
        obtain ⟨o2, rfl⟩ := r2
        rw [e2] at hk
        simp only at hk
        cases e3 : encD 31 ((4, 0, [], 4) :: (w1 ++ (w2 ++ (w3 ++ w4)))) (((4, 0, [], 4) :: w1).length + w2.length) with
        | none => rw [e3] at hk; cases hk
        | some x3 =>
          have r3 := k3.of_at (p := (4, 0, [], 4) :: (w1 ++ w2)) (q := w4) (x := x3) (by rw [← e3]; simp; congr 1; omega)
          obtain ⟨o3, rfl⟩ := r3
          rw [e3] at hk
          simp only at hk
          cases e4 : encD 31 ((4, 0, [], 4) :: (w1 ++ (w2 ++ (w3 ++ w4)))) (((4, 0, [], 4) :: (w1 ++ w2)).length + w3.length) with
          | none => rw [e4] at hk; cases hk
          | some x4 =>
            have r4 := k4.of_at (p := (4, 0, [], 4) :: (w1 ++ (w2 ++ w3))) (q := []) (x := x4) (by rw [← e4]; simp; congr 1; omega)
            exact ⟨o1, o2, o3, r4.1⟩

theorem map_four (h1 : One 31 w1 t1) (h2 : One 31 w2 t2) (h3 : One 31 w3 t3) (h4 : One 31 w4 t4) :
    shapedD ((5, 0, [], 4) :: (w1 ++ (w2 ++ (w3 ++ w4)))) = lexLt t1 t3 ∧ (lexLt t1 t3 = true → ∃ u j, kidsE (encD 31 ((5, 0, [], 4) :: (w1 ++ (w2 ++ (w3 ++ w4))))) true (2 * 2) true none 1 = some (u, j)) := by
  obtain ⟨a1, a2, a3, a4⟩ := four_at h1 h2 h3 h4 (5, 0, [], 4)
  have hkid : kidsE (encD 31 ((5, 0, [], 4) :: (w1 ++ (w2 ++ (w3 ++ w4))))) true (2 * 2) true none 1 = if lexLt t1 t3 = true then some (t1 ++ (t2 ++ (t3 ++ (t4 ++ []))), 1 + w1.length + w2.length + w3.length + w4.length) else none := by
    simp only [show 2 * 2 = 3 + 1 from rfl, kidsE, a1, a2, a3, a4, keyOk, Bool.true_and, Bool.not_true, Bool.and_false, Bool.false_and, Bool.not_false, if_true, Bool.false_eq_true, if_false, Bool.true_eq_false]
    cases lexLt t1 t3 <;> simp
  refine ⟨?_, fun h => ?_⟩
  · have hE : encD 32 ((5, 0, [], 4) :: (w1 ++ (w2 ++ (w3 ++ w4)))) 0 = if lexLt t1 t3 = true then some (hd 5 (UInt64.ofInt (4 / 2)) ++ (t1 ++ (t2 ++ (t3 ++ (t4 ++ [])))), 1 + w1.length + w2.length + w3.length + w4.length) else none := by
      show itemE _ _ 0 = _
      unfold itemE
      have hf : fitE (5, 0, [], 4) := by simp [fitE]
      simp only [List.getElem?_cons_zero]
      rw [if_neg (show ¬ ¬ fitE _ from fun h => h hf), if_pos (by simp)]
      simp only [show (4 : Int).toNat = 2 * 2 from rfl, show ((5 : Int) == 5) = true from rfl, Nat.zero_add, hkid]
      cases lexLt t1 t3 <;> rfl
    unfold shapedD
    rw [hE]
    cases lexLt t1 t3
    · rfl
    · simp; omega
  · rw [hkid, if_pos h]; exact ⟨_, _, rfl⟩

theorem seg_mid (p w q : List It) : seg (p ++ (w ++ q)) p.length (p.length + w.length) = w := by
  unfold seg
  rw [List.drop_left, show p.length + w.length - p.length = w.length by omega, List.take_left]

theorem order_K3 (key value other second : List It) (h1 : One 31 w1 t1) (h2 : One 31 w2 t2) (h3 : One 31 w3 t3) (h4 : One 31 w4 t4) (hne : w1 ≠ w3) (hlt : lexLt t1 t3 = true)
    (hsz : w1.length + w2.length + w3.length + w4.length ≤ 4000000) (hw : wt ((5, 0, [], 4) :: (w1 ++ (w2 ++ (w3 ++ w4)))) ≤ 4000000000000) (hK : Kd ((5, 0, [], 4) :: (w1 ++ (w2 ++ (w3 ++ w4))))) (x : Bool)
    (hcase : (w1 = key ∧ w2 = value ∧ w3 = other ∧ w4 = second) ∨ (w1 = other ∧ w2 = second ∧ w3 = key ∧ w4 = value)) :
    F.law30_CborOrder_K3 key value other second x ((5, 0, [], 4) :: (w1 ++ (w2 ++ (w3 ++ w4)))) = F.law30_CborOrder_K4 key other x false := by
  obtain ⟨a1, a2, a3, a4⟩ := four_at h1 h2 h3 h4 (5, 0, [], 4)
  obtain ⟨hs, hkid⟩ := map_four h1 h2 h3 h4
  obtain ⟨u, j, hk⟩ := hkid hlt
  rw [hlt] at hs
  generalize hM : (((5 : Int), (0 : UInt64), ([] : List UInt8), (4 : Int)) :: (w1 ++ (w2 ++ (w3 ++ w4)))) = M at *
  have hMl : M.length = 1 + (w1.length + w2.length + w3.length + w4.length) := by rw [← hM]; simp; omega
  have s1 : seg M 1 (1 + w1.length) = w1 := by rw [← hM]; exact seg_mid [(5, 0, [], 4)] w1 _
  have s2 : seg M (1 + w1.length) (1 + w1.length + w2.length) = w2 := by
    have := seg_mid ((5, 0, [], 4) :: w1) w2 (w3 ++ w4)
    rw [← hM]
    simpa [Nat.add_comm 1] using this
  have s3 : seg M (1 + w1.length + w2.length) (1 + w1.length + w2.length + w3.length) = w3 := by
    have := seg_mid ((5, 0, [], 4) :: (w1 ++ w2)) w3 w4
    rw [← hM]
    rw [show 1 + w1.length + w2.length = w1.length + w2.length + 1 by omega]
    simpa using this
  have s4 : seg M (1 + w1.length + w2.length + w3.length) (1 + w1.length + w2.length + w3.length + w4.length) = w4 := by
    have := seg_mid ((5, 0, [], 4) :: (w1 ++ (w2 ++ w3))) w4 []
    rw [← hM]
    rw [show 1 + w1.length + w2.length + w3.length = w1.length + (w2.length + w3.length) + 1 by omega]
    simpa using this
  have hg0 : getO M 0 = some (5, 0, [], 4) := by rw [← hM]; exact getO_lit0 _ _
  have hmem : ∀ key', F.cbor_Member M 0 key' = some (memE M (encD 31 M) key' 2 1) := by
    intro key'
    unfold F.cbor_Member
    rw [shaped_eq hw hK, hs, hg0]
    have e1 : decide ((M.length : Int) ≤ 0) = false := decide_eq_false (by omega)
    simp only [show decide ((0 : Int) < 0) = false from rfl, e1, Bool.false_eq_true, if_false, bind_some', bne_self_eq_false, Bool.not_true, F.cbor_Member_K1, hg0]
    exact member_cbor (by omega) (by omega) key' (5, 0, [], 4) 2 rfl (by omega) 2 0 1 none u j hk (by omega) (by omega)
  have m1 : F.cbor_Member M 0 w1 = some ((1 + w1.length : Nat) : Int) := by
    rw [hmem]; simp only [memE, a1, s1, if_true]
  have m3 : F.cbor_Member M 0 w3 = some ((1 + w1.length + w2.length + w3.length : Nat) : Int) := by
    rw [hmem]; simp only [memE, a1, s1, if_neg hne, a2, a3, s3, if_true]
  have hbeh : ∀ (i j : Nat) (t : List UInt8), encD 31 M i = some (t, j) → F.cbor_Behind M (i : Int) = some (j : Int) := by
    intro i j t he
    have hp := encD_put M 31 i t j he
    unfold F.cbor_Behind
    rw [shaped_eq hw hK, hs]
    have e0 : decide ((i : Int) < 0) = false := decide_eq_false (by omega)
    have e1 : decide ((M.length : Int) ≤ (i : Int)) = false := decide_eq_false (by omega)
    simp only [e0, e1, Bool.false_eq_true, if_false, bind_some', Bool.not_true, F.cbor_Behind_K1, behind_cbor (by omega : M.length ≤ 1000000000000000) (by omega : 31 ≤ 32) he]
  have b2 := hbeh _ _ _ a2
  have b4 := hbeh _ _ _ a4
  have l2 : slO M ((1 + w1.length : Nat) : Int) ((1 + w1.length + w2.length : Nat) : Int) = some w2 := by rw [slO_seg (by omega) (by omega), s2]
  have l4 : slO M ((1 + w1.length + w2.length + w3.length : Nat) : Int) ((1 + w1.length + w2.length + w3.length + w4.length : Nat) : Int) = some w4 := by rw [slO_seg (by omega) (by omega), s4]
  have n1 : decide (((1 + w1.length : Nat) : Int) < 0) = false := decide_eq_false (by omega)
  have n3 : decide (((1 + w1.length + w2.length + w3.length : Nat) : Int) < 0) = false := decide_eq_false (by omega)
  have q2 : F.law30_same w2 w2 = some true := by rw [sameI_eq _ _ (by omega)]; simp
  have q4 : F.law30_same w4 w4 = some true := by rw [sameI_eq _ _ (by omega)]; simp
  rcases hcase with ⟨rfl, rfl, rfl, rfl⟩ | ⟨rfl, rfl, rfl, rfl⟩
  · simp only [F.law30_CborOrder_K3, m1, m3, bind_some', n1, n3, Bool.false_eq_true, if_false, b2, b4, l2, l4, q2, q4, not_true_f]
  · simp only [F.law30_CborOrder_K3, m1, m3, bind_some', n1, n3, Bool.false_eq_true, if_false, b2, b4, l2, l4, q2, q4, not_true_f]
end

theorem lexLt_or : ∀ (a b : List UInt8), a ≠ b → lexLt a b = !lexLt b a
  | [], [], h => absurd rfl h
  | [], _ :: _, _ => rfl
  | _ :: _, [], _ => rfl
  | x :: r, y :: s, h => by
    rw [lexLt_cons, lexLt_cons]
    by_cases hxy : x = y
    · subst hxy
      rw [if_pos rfl, if_pos rfl]
      exact lexLt_or r s (fun e => h (by rw [e]))
    · rw [if_neg hxy, if_neg (fun e => hxy e.symm)]
      have hn : x.toNat ≠ y.toNat := fun e => hxy (UInt8.toNat_inj.1 e)
      simp only [UInt8.lt_iff_toNat_lt]
      rcases Nat.lt_or_ge x.toNat y.toNat with h1 | h1
      · simp [h1]; omega
      · have h2 : y.toNat < x.toNat := by omega
        simp [h2]; omega

theorem wt_app (a b : List It) : wt (a ++ b) = wt a + wt b := by
  induction a with
  | nil => simp [wt]
  | cons x r ih => simp only [List.cons_append, wt, ih]; omega
theorem Kd.app {a b : List It} (ha : Kd a) (hb : Kd b) : Kd (a ++ b) := fun x hx => (List.mem_append.1 hx).elim (ha x) (hb x)
theorem Kd.cons {x : It} {b : List It} (hx : x.2.2.2 ≤ 9223372036854775807) (hb : Kd b) : Kd (x :: b) := fun y hy => (List.mem_cons.1 hy).elim (fun e => e ▸ hx) (hb y)

theorem CborOrder_true (key value other second : List It) (hk : Kd key) (hv : Kd value) (ho : Kd other) (hs : Kd second) (hU : (∀ x ∈ key, x.2.2.1.length ≤ 2000000) ∧ (∀ x ∈ other, x.2.2.1.length ≤ 2000000))
    (hsz : wt key + wt value + wt other + wt second ≤ 3000000) : F.law30_CborOrder key value other second = some true := by
  have lk := wt_len key
  have lv := wt_len value
  have lo := wt_len other
  have ls := wt_len second
  have j1 : ∀ (m : Int) (w : List It), w.length ≤ 3000000 → F.law30_joined m [w] = some ((m, 0, [], 1) :: w) := by
    intro m w hw
    rw [joined_eq m [w] (by simp) (by simp; omega)]; simp
  have j4 : ∀ (m : Int) (w1 w2 w3 w4 : List It), w1.length + w2.length + w3.length + w4.length ≤ 3000000 → F.law30_joined m [w1, w2, w3, w4] = some ((m, 0, [], 4) :: (w1 ++ (w2 ++ (w3 ++ w4)))) := by
    intro m w1 w2 w3 w4 hw
    rw [joined_eq m [w1, w2, w3, w4] (by simp) (by simp; omega)]; simp
  have wtJ : ∀ (x : It) (w1 w2 w3 w4 : List It), x.2.2.1.length = 0 → wt w1 + wt w2 + wt w3 + wt w4 ≤ 3000000 → wt (x :: (w1 ++ (w2 ++ (w3 ++ w4)))) ≤ 4000000000000 := by
    intro x w1 w2 w3 w4 h0 h
    simp only [wt, wt_app]; omega
  have hkw : wt key ≤ 4000000000000 := by omega
  have hvw : wt value ≤ 4000000000000 := by omega
  have how : wt other ≤ 4000000000000 := by omega
  have hsw : wt second ≤ 4000000000000 := by omega
  have kJ4 : Kd ((4, 0, [], 4) :: (key ++ (value ++ (other ++ second)))) := Kd.cons (by simp) (hk.app (hv.app (ho.app hs)))
  have kA : Kd ((5, 0, [], 4) :: (key ++ (value ++ (other ++ second)))) := Kd.cons (by simp) (hk.app (hv.app (ho.app hs)))
  have kB : Kd ((5, 0, [], 4) :: (other ++ (second ++ (key ++ value)))) := Kd.cons (by simp) (ho.app (hs.app (hk.app hv)))
  have wJ4 := wtJ (4, 0, [], 4) key value other second rfl hsz
  have wA := wtJ (5, 0, [], 4) key value other second rfl hsz
  have wB := wtJ (5, 0, [], 4) other second key value rfl (by omega)
  have hK1 : F.law30_CborOrder_K1 key value other second false = some true := by
    simp only [F.law30_CborOrder_K1, Bool.false_eq_true, if_false]
    rw [awake_eq, bind_some', not_true_f, if_neg (by simp), j4 4 key value other second (by omega), bind_some', shaped_eq wJ4 kJ4, bind_some', shaped_eq hkw hk, shaped_eq hvw hv, shaped_eq how ho, shaped_eq hsw hs]
    simp only [bind_some']
    cases hs4 : shapedD ((4, 0, [], 4) :: (key ++ (value ++ (other ++ second)))) with
    | false => simp only [Bool.not_false, if_true, F.law30_CborOrder_K2]
    | true =>
      cases h1 : shapedD key with
      | false => simp only [Bool.not_true, Bool.not_false, if_true, Bool.false_eq_true, if_false, F.law30_CborOrder_K2]
      | true =>
        cases h2 : shapedD value with
        | false => simp only [Bool.not_true, Bool.not_false, if_true, Bool.false_eq_true, if_false, F.law30_CborOrder_K2]
        | true =>
          cases h3 : shapedD other with
          | false => simp only [Bool.not_true, Bool.not_false, if_true, Bool.false_eq_true, if_false, F.law30_CborOrder_K2]
          | true =>
            cases h4 : shapedD second with
            | false => simp only [Bool.not_true, Bool.not_false, if_true, Bool.false_eq_true, if_false, F.law30_CborOrder_K2]
            | true =>
              simp only [Bool.not_true, Bool.false_eq_true, if_false, F.law30_CborOrder_K2]
              obtain ⟨tk, ok⟩ := shaped_one h1
              obtain ⟨tv, ov⟩ := shaped_one h2
              obtain ⟨to, oo⟩ := shaped_one h3
              obtain ⟨ts, os⟩ := shaped_one h4
              obtain ⟨pk, pv, po, ps⟩ := list_four ok ov oo os hs4
              have sA := (map_four pk pv po ps).1
              have sB := (map_four po ps pk pv).1
              rw [j4 5 key value other second (by omega), bind_some', j4 5 other second key value (by omega), bind_some', shaped_eq wA kA, bind_some', shaped_eq wB kB, bind_some', sA, sB, sameI_eq _ _ (by omega), bind_some']
              have hBk : ∀ x ∈ key, x.2.2.1.length < 18446744073709551616 := fun x hx => by have := hU.1 x hx; omega
              have hBo : ∀ x ∈ other, x.2.2.1.length < 18446744073709551616 := fun x hx => by have := hU.2 x hx; omega
              by_cases hko : key = other
              · subst hko
                have : tk = to := by
                  have := ok.symm.trans oo
                  simpa using this
                subst this
                rw [lexLt_irrefl]
                simp
              · have hne : tk ≠ to := by
                  intro e
                  subst e
                  have a := item_of_enc hk hBk ok
                  have b := item_of_enc ho hBo oo
                  rw [a] at b
                  have := congrArg Prod.snd (Except.ok.inj b)
                  rw [List.take_length, List.take_length] at this
                  exact hko this
                have e0 : (key == other) = false := by simpa using hko
                have hlx := lexLt_or tk to hne
                have hK4 : F.law30_CborOrder_K4 key other (lexLt tk to) false = some true := by
                  simp only [F.law30_CborOrder_K4, Bool.false_eq_true, if_false]
                  rw [print_eq hkw hk, print_eq how ho]
                  simp only [bind_some']
                  have pk' : printD key = if 65536 < tk.length then ([], 10) else (tk, 0) := by
                    unfold printD; rw [show encD 32 key 0 = some (tk, key.length) from ok]; simp
                  have po' : printD other = if 65536 < to.length then ([], 10) else (to, 0) := by
                    unfold printD; rw [show encD 32 other 0 = some (to, other.length) from oo]; simp
                  rw [pk', po']
                  by_cases g1 : 65536 < tk.length
                  · rw [if_pos g1]; rfl
                  · rw [if_neg g1]
                    by_cases g2 : 65536 < to.length
                    · rw [if_pos g2]; rfl
                    · rw [if_neg g2]
                      have hle : F.law30_less tk to = some (lexLt tk to) := by
                        have : F.law30_less tk to = F.ref30_Less tk to := rfl
                        rw [this, less_eq tk to (by omega)]
                      simp only [bne_self_eq_false, Bool.false_eq_true, if_false, F.law30_CborOrder_K5, hle, bind_some', beq_self_eq_true]
                rw [e0, if_neg (by simp)]
                cases hx : lexLt tk to with
                | true =>
                  rw [hx] at hlx hK4
                  have hy : lexLt to tk = false := by revert hlx; cases lexLt to tk <;> simp
                  rw [hy]
                  simp only [show (true == false) = false from rfl, Bool.false_eq_true, if_false]
                  rw [order_K3 key value other second pk pv po ps hko hx (by omega) wA kA true (.inl ⟨rfl, rfl, rfl, rfl⟩)]
                  exact hK4
                | false =>
                  rw [hx] at hlx hK4
                  have hy : lexLt to tk = true := by revert hlx; cases lexLt to tk <;> simp
                  rw [hy]
                  simp only [show (false == true) = false from rfl, Bool.false_eq_true, if_false, if_true]
                  rw [order_K3 key value other second po ps pk pv (fun e => hko e.symm) hy (by omega) wB kB false (.inr ⟨rfl, rfl, rfl, rfl⟩)]
                  exact hK4
  have hT : F.law30_CborOrder_K1 key value other second true = some true := rfl
  obtain ⟨r1, e1⟩ := beyond_ex ((4, 0, [], 1) :: key) (by simp; omega)
  obtain ⟨r2, e2⟩ := beyond_ex ((4, 0, [], 1) :: value) (by simp; omega)
  obtain ⟨r3, e3⟩ := beyond_ex ((4, 0, [], 1) :: other) (by simp; omega)
  obtain ⟨r4, e4⟩ := beyond_ex ((4, 0, [], 1) :: second) (by simp; omega)
  obtain ⟨r5, e5⟩ := beyond_ex ((4, 0, [], 4) :: (key ++ (value ++ (other ++ second)))) (by simp; omega)
  unfold F.law30_CborOrder
  rw [j1 4 key (by omega), bind_some', e1, bind_some', j1 4 value (by omega), bind_some', e2, bind_some', j1 4 other (by omega), bind_some', e3, bind_some', j1 4 second (by omega), bind_some', e4, bind_some', j4 4 key value other second (by omega), bind_some', e5, bind_some']
  cases r1 <;> cases r2 <;> cases r3 <;> cases r4 <;> cases r5 <;> first | exact hK1 | exact hT
end Go.Gk.Cb
end

section
/- CBOR: the statements over lists of items, within the bulk. No program. -/
namespace Go.Gk.Cb
open Go Go.Gk
theorem bulk_wt (v : List It) : wt v ≤ 2 * itemsBulk v := by
  induction v with
  | nil => simp [wt, itemsBulk]
  | cons x r ih => simp only [wt, itemsBulk]; omega
theorem bulk_mem {v : List It} {x : It} (h : x ∈ v) : x.2.2.1.length ≤ itemsBulk v := by
  induction v with
  | nil => cases h
  | cons y r ih =>
    rcases List.mem_cons.1 h with rfl | h
    · simp only [itemsBulk]; omega
    · have := ih h; simp only [itemsBulk]; omega
theorem gd1_of {v : List It} (hK : ∀ x ∈ v, x.2.2.2 ≤ 9223372036854775807) (h : itemsBulk v ≤ 1048576) : Gd1 v :=
  ⟨by have := bulk_wt v; omega, hK, fun x hx => by have := bulk_mem hx; omega⟩
theorem CborPrints_up (v : List It) (hK : ∀ x ∈ v, x.2.2.2 ≤ 9223372036854775807) (h : itemsBulk v ≤ 1048576) : F.law30_CborPrints v = some true := CborPrints_true v (gd1_of hK h).gd
theorem CborPlaces_up (v : List It) (hK : ∀ x ∈ v, x.2.2.2 ≤ 9223372036854775807) (p : Int) (key : List It) (hK2 : ∀ x ∈ key, x.2.2.2 ≤ 9223372036854775807) (h : itemsBulk v ≤ 1048576) (h2 : itemsBulk key ≤ 1048576) : F.law30_CborPlaces v p key = some true :=
  CborPlaces_true v p key (gd1_of hK h) (gd1_of hK2 h2)
theorem CborBack_up (b : List UInt8) (v : List It) (hK : ∀ x ∈ v, x.2.2.2 ≤ 9223372036854775807) (hb : b.length ≤ 200000000000000) (h : itemsBulk v ≤ 1048576) : F.law30_CborBack b v = some true := CborBack_true b v hb (gd1_of hK h).gd
theorem CborOrder_up (a : List It) (hK1 : ∀ x ∈ a, x.2.2.2 ≤ 9223372036854775807) (b : List It) (hK2 : ∀ x ∈ b, x.2.2.2 ≤ 9223372036854775807) (c : List It) (hK3 : ∀ x ∈ c, x.2.2.2 ≤ 9223372036854775807)
    (d : List It) (hK4 : ∀ x ∈ d, x.2.2.2 ≤ 9223372036854775807) (h : itemsBulk a + itemsBulk b + itemsBulk c + itemsBulk d ≤ 1048576) : F.law30_CborOrder a b c d = some true :=
  CborOrder_true a b c d hK1 hK2 hK3 hK4 ⟨fun x hx => by have := bulk_mem hx; omega, fun x hx => by have := bulk_mem hx; omega⟩ (by have := bulk_wt a; have := bulk_wt b; have := bulk_wt c; have := bulk_wt d; omega)
end Go.Gk.Cb
end
