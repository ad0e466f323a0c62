import Derived.Test.YtcdneplfgppapaaDoorGkQD
import Derived.Test.YtcdneplfgppapaaDoorGkR3
set_option linter.unusedVariables false
set_option linter.unusedSimpArgs false

section
set_option linter.unusedSimpArgs false
set_option linter.unusedVariables false
namespace Go.Gk.Cb
open Go Go.Gk
def Le_ (w1 w2 : Wr) : Prop := ∀ i x, w1 i = some x → w2 i = some x
theorem kids_mono {w1 w2 : Wr} (h : Le_ w1 w2) (pr : Bool) : ∀ (r : Nat) (key : Bool) (last : Option (List UInt8)) (i : Nat) (x : List UInt8 × Nat), kidsE w1 pr r key last i = some x → kidsE w2 pr r key last i = some x
  | 0, key, last, i, x, h1 => by simpa [kidsE] using h1
  | r + 1, key, last, i, x, h1 => by
    simp only [kidsE] at h1 ⊢
    cases h2 : w1 i with
    | none => rw [h2] at h1; cases h1
    | some a =>
      obtain ⟨t, j⟩ := a
      rw [h2] at h1
      rw [h i _ h2]
      simp only at h1 ⊢
      split at h1
      · cases h1
      · rename_i hk
        rw [if_neg hk]
        cases h3 : kidsE w1 pr r (!key) (if (pr && key) = true then some t else last) j with
        | none => rw [h3] at h1; cases h1
        | some b =>
          rw [h3] at h1
          rw [kids_mono h pr r _ _ j b h3]
          exact h1
theorem item_mono {v : List It} {s1 s2 : Option Wr} (h : ∀ w1, s1 = some w1 → ∃ w2, s2 = some w2 ∧ Le_ w1 w2) : Le_ (itemE v s1) (itemE v s2) := by
  intro i x h1
  unfold itemE at h1 ⊢
  cases hx : v[i]? with
  | none => rw [hx] at h1; cases h1
  | some y =>
    rw [hx] at h1
    simp only at h1 ⊢
    split at h1
    · cases h1
    · rename_i hf
      rw [if_neg hf]
      split at h1
      · rename_i hk
        rw [if_pos hk]
        cases s1 with
        | none => cases h1
        | some w1 =>
          obtain ⟨w2, rfl, hle⟩ := h w1 rfl
          simp only at h1 ⊢
          cases h2 : kidsE w1 (y.1 == 5) y.2.2.2.toNat true none (i + 1) with
          | none => rw [h2] at h1; cases h1
          | some a =>
            rw [h2] at h1
            rw [kids_mono hle _ _ _ _ _ _ h2]
            exact h1
      · rename_i hk
        rw [if_neg hk]
        exact h1
theorem encD_mono (v : List It) : ∀ d, Le_ (encD d v) (encD (d + 1) v)
  | 0 => item_mono (by simp)
  | d + 1 => item_mono (by intro w1 h; cases h; exact ⟨_, rfl, encD_mono v d⟩)
def shf (n : Nat) (x : Option (List UInt8 × Nat)) : Option (List UInt8 × Nat) := x.map fun y => (y.1, n + y.2)
theorem kids_shift {n : Nat} {w1 w2 : Wr} (h : ∀ i, w2 (n + i) = shf n (w1 i)) (pr : Bool) : ∀ (r : Nat) (key : Bool) (last : Option (List UInt8)) (i : Nat), kidsE w2 pr r key last (n + i) = shf n (kidsE w1 pr r key last i)
  | 0, key, last, i => by simp [kidsE, shf]
  | r + 1, key, last, i => by
    simp only [kidsE, h i]
    cases w1 i with
    | none => rfl
    | some a =>
      obtain ⟨t, j⟩ := a
      simp only [shf, Option.map_some]
      split
      · rfl
      · rw [kids_shift h pr r _ _ j]
        cases kidsE w1 pr r (!key) (if (pr && key) = true then some t else last) j with
        | none => rfl
        | some b => rfl
theorem item_shift {p v : List It} {s1 s2 : Option Wr} (h : (s1 = none ∧ s2 = none) ∨ ∃ w1 w2, s1 = some w1 ∧ s2 = some w2 ∧ ∀ i, w2 (p.length + i) = shf p.length (w1 i)) (i : Nat) :
    itemE (p ++ v) s2 (p.length + i) = shf p.length (itemE v s1 i) := by
  unfold itemE
  rw [List.getElem?_append_right (by omega), show p.length + i - p.length = i by omega]
  cases v[i]? with
  | none => rfl
  | some x =>
    simp only
    split
    · rfl
    · split
      · rcases h with ⟨rfl, rfl⟩ | ⟨w1, w2, rfl, rfl, hw⟩
        · rfl
        · simp only
          rw [show p.length + i + 1 = p.length + (i + 1) by omega, kids_shift hw]
          cases kidsE w1 (x.1 == 5) x.2.2.2.toNat true none (i + 1) with
          | none => rfl
          | some b => rfl
      · simp [shf]; omega
theorem encD_shift (p v : List It) : ∀ (d i : Nat), encD d (p ++ v) (p.length + i) = shf p.length (encD d v i)
  | 0, i => item_shift (.inl ⟨rfl, rfl⟩) i
  | d + 1, i => item_shift (.inr ⟨_, _, rfl, rfl, encD_shift p v d⟩) i
def hb (k : UInt8) : List UInt8 := if k = 0 then [0x81] else if k = 1 then [0xa1, 0x00] else [0xc1]
def nestB (ks : List UInt8) : List UInt8 := ks.flatMap hb
theorem ha1 : hd 5 1 = [0xa1] := by decide
theorem hc1 : hd 6 1 = [0xc1] := by decide
theorem joined_loop (l : List (List It)) (hl : l.length ≤ 100) : ∀ (k i : Nat) (acc : List It), l.length - i = k → i ≤ l.length → acc.length + ((l.drop i).map List.length).sum ≤ 5000000000000 →
    loop (F.law30_joined_L1 l) (acc, (i : Int)) = some (acc ++ (l.drop i).flatten)
  | 0, i, acc, h1, h2, h3 => by
    have : i = l.length := by omega
    subst this
    refine loop_inr ?_
    have hd : decide (((l.length : Nat) : Int) < (l.length : Int)) = false := by simp
    simp only [F.law30_joined_L1, hd, Bool.false_eq_true, if_false]
    simp; rfl
  | k + 1, i, acc, h1, h2, h3 => by
    have hi : i < l.length := by omega
    have hd : decide ((i : Int) < (l.length : Int)) = true := by simp; omega
    have hfl : (l.drop i).flatten = l[i] ++ (l.drop (i + 1)).flatten := by rw [List.drop_eq_getElem_cons hi, List.flatten_cons]
    rw [List.drop_eq_getElem_cons hi, List.map_cons, List.sum_cons] at h3
    have hs : F.law30_joined_L1 l (acc, (i : Int)) = some (.inl (acc ++ l[i], ((i + 1 : Nat) : Int))) := by
      simp only [F.law30_joined_L1, hd, if_true, getO_lt hi, bind_some']
      rw [apO_ok (by omega), bind_some', wI_in (by omega) (by omega)]; rfl
    rw [loop_inl hs, joined_loop l hl k (i + 1) _ (by omega) (by omega) (by simp only [List.length_append]; omega), hfl]
    simp
theorem joined_eq (m : Int) (l : List (List It)) (hl : l.length ≤ 100) (hs : (l.map List.length).sum ≤ 4000000000000) : F.law30_joined m l = some ((m, 0, [], (l.length : Int)) :: l.flatten) := by
  unfold F.law30_joined
  have := joined_loop l hl l.length 0 [(m, 0, [], (l.length : Int))] (by omega) (by omega) (by simp; omega)
  rw [show (0 : Int) = ((0 : Nat) : Int) from rfl, this]
  simp
def kindAt (ks : List UInt8) (i : Nat) : UInt8 := if h : ks = [] then 0 else (ks[i % ks.length]'(Nat.mod_lt _ (by cases ks with | nil => exact absurd rfl h | cons => simp))) % 3
def kindsTo (ks : List UInt8) : Nat → List UInt8
  | 0 => []
  | n + 1 => kindsTo ks n ++ [kindAt ks n]
end Go.Gk.Cb
end

section
set_option linter.unusedSimpArgs false
set_option linter.unusedVariables false
namespace Go.Gk.Cb
open Go Go.Gk
theorem beyond_in (v : List It) (i : Nat) (hi : i < v.length) (hv : v.length ≤ 9000000) : ∀ (n : Nat) (op : List Int), op.length = n → n ≤ 65536 →
    ∃ r, loop (F.ref30_Beyond_L2 v (i : Int)) op = some r ∧ (∀ op' j, r = .inl (op', j) → op'.length ≤ 65536 ∧ j = ((i + 1 : Nat) : Int))
  | n, op, hn, h => by
    have hi1 : wI ((i : Int) + 1) = ((i + 1 : Nat) : Int) := by rw [wI_in (by omega) (by omega)]; simp
    have hK2 : ∀ op' : List Int, op'.length ≤ 65536 → ∃ r, F.ref30_Beyond_K2 v (i : Int) op' = some r ∧ (∀ o j, r = .inl (o, j) → o.length ≤ 65536 ∧ j = ((i + 1 : Nat) : Int)) := by
      intro op' h'
      simp only [F.ref30_Beyond_K2, getO_lt hi, bind_some']
      rw [apO_ok (by simp; omega), bind_some']
      by_cases hl : 65536 < (op' ++ [v[i].2.2.2]).length
      · have : decide ((65536 : Int) < ((op' ++ [v[i].2.2.2]).length : Int)) = true := by simp only [decide_eq_true_eq]; omega
        rw [this, if_pos rfl]
        exact ⟨.inr true, rfl, by intro o j h; cases h⟩
      · have : decide ((65536 : Int) < ((op' ++ [v[i].2.2.2]).length : Int)) = false := by simp only [decide_eq_false_iff_not]; omega
        rw [this, if_neg (by simp), hi1]
        refine ⟨.inl (op' ++ [v[i].2.2.2], ((i + 1 : Nat) : Int)), rfl, ?_⟩
        intro o j h; cases h
        exact ⟨by omega, rfl⟩
    cases n with
    | zero =>
      have : op = [] := List.eq_nil_of_length_eq_zero hn
      subst this
      obtain ⟨r, hr, hR⟩ := hK2 [] (by simp)
      refine ⟨r, ?_, hR⟩
      refine loop_inr ?_
      simp only [F.ref30_Beyond_L2, F.ref30_Beyond_K1, List.length_nil, show decide ((0 : Int) < ((0 : Nat) : Int)) = false from rfl, Bool.false_eq_true, if_false, hr]; rfl
    | succ n =>
      have hd : decide ((0 : Int) < (op.length : Int)) = true := decide_eq_true (by omega)
      have hw : wI ((op.length : Int) - 1) = (n : Int) := by rw [wI_in (by omega) (by omega)]; omega
      have hg : getO op (n : Int) = some (op[n]'(by omega)) := getO_lt (by omega)
      by_cases h0 : (op[n]'(by omega)) ≤ 0
      · have e : decide ((op[n]'(by omega)) ≤ 0) = true := by simpa using h0
        have hs : F.ref30_Beyond_L2 v (i : Int) op = some (.inl (op.take n)) := by
          simp only [F.ref30_Beyond_L2, hd, if_true, hw, hg, bind_some', e, F.ref30_Beyond_K1, Int.toNat_natCast]
          rw [grd_true _ (by omega)]; rfl
        obtain ⟨r, hr, hR⟩ := beyond_in v i hi hv n (op.take n) (by simp; omega) (by omega)
        exact ⟨r, by rw [loop_inl hs]; exact hr, hR⟩
      · have e : decide ((op[n]'(by omega)) ≤ 0) = false := by simpa using h0
        obtain ⟨r, hr, hR⟩ := hK2 (op.set n (wI ((op[n]'(by omega)) - 1))) (by simp; omega)
        refine ⟨r, ?_, hR⟩
        refine loop_inr ?_
        simp only [F.ref30_Beyond_L2, hd, if_true, hw, hg, bind_some', e, F.ref30_Beyond_K1, Bool.false_eq_true, if_false, olet_eq, Int.toNat_natCast, hr]; rfl
theorem beyond_ex (v : List It) (hv : v.length ≤ 9000000) : ∃ r, F.ref30_Beyond v = some r := by
  have key : ∀ k i (op : List Int), v.length - i = k → i ≤ v.length → op.length ≤ 65536 → ∃ r, loop (F.ref30_Beyond_L1 v) (op, (i : Int)) = some r := by
    intro k
    induction k with
    | zero =>
      intro i op h1 h2 h3
      have : i = v.length := by omega
      subst this
      exact ⟨false, loop_inr (by simp only [F.ref30_Beyond_L1, Int.lt_irrefl, decide_false, Bool.false_eq_true, if_false]; rfl)⟩
    | succ k ih =>
      intro i op h1 h2 h3
      have hi : i < v.length := by omega
      have hd : decide ((i : Int) < (v.length : Int)) = true := decide_eq_true (by omega)
      obtain ⟨r, hr, hR⟩ := beyond_in v i hi hv op.length op rfl h3
      have hs : F.ref30_Beyond_L1 v (op, (i : Int)) = some r := by
        simp only [F.ref30_Beyond_L1, hd, if_true, hr]
      cases r with
      | inr b => exact ⟨b, loop_inr hs⟩
      | inl s =>
        obtain ⟨o, j⟩ := s
        obtain ⟨a, rfl⟩ := hR o j rfl
        rw [loop_inl hs]
        exact ih (i + 1) o (by omega) (by omega) a
  exact key v.length 0 [] (by omega) (by omega) (by simp)
def mark : It := (0, 0, [109, 97, 114, 107], 0)
def Gd (v : List It) : Prop := wt v ≤ 4000000 ∧ Kd v ∧ (∀ x ∈ v, x.2.2.1.length ≤ 2000000)
theorem Gd.len {v : List It} (h : Gd v) : v.length ≤ 4000000 := by have := wt_len v; have := h.1; omega
theorem Gd.places {v : List It} (h : Gd v) (p : Int) (key : List It) : (∃ q, F.cbor_Behind v p = some q ∧ F.ref30_Behind v p = some q) ∧ ∃ q, F.cbor_Member v p key = some q ∧ F.ref30_Member v p key = some q :=
  have hw : wt v ≤ 4000000000000 := by have := h.1; omega
  ⟨Behind_both hw h.2.1 h.2.2 p, Member_both hw h.2.1 h.2.2 p key⟩
def dk (v : List It) : List (List UInt8 × Int) := v.map fun x => (x.2.2.1, x.2.2.2)
def near (v u : List It) (i : Nat) : Prop := u.length = v.length ∧ ∀ j (h1 : j < v.length) (h2 : j < u.length), u[j].2.2.2 = v[j].2.2.2 ∧ u[j].2.2.1.length ≤ v[j].2.2.1.length + 1 ∧ (i ≤ j → u[j].2.2.1 = v[j].2.2.1)
def Gd1 (v : List It) : Prop := wt v ≤ 3000000 ∧ Kd v ∧ (∀ x ∈ v, x.2.2.1.length ≤ 1900000)
end Go.Gk.Cb
end

section
set_option linter.unusedSimpArgs false
set_option linter.unusedVariables false
namespace Go.Gk.Cb
open Go Go.Gk
theorem item_extE {w q : List It} {s1 s2 : Option Wr} (h : ∀ w1, s1 = some w1 → ∃ w2, s2 = some w2 ∧ Le_ w1 w2) : Le_ (itemE w s1) (itemE (w ++ q) s2) := by
  intro i x h1
  have h2 := item_mono h i x h1
  unfold itemE at h2 ⊢
  cases hx : w[i]? with
  | none => rw [hx] at h2; cases h2
  | some y =>
    have : (w ++ q)[i]? = some y := by rw [List.getElem?_append_left (List.getElem?_eq_some_iff.1 hx).1]; exact hx
    rw [this]
    rw [hx] at h2
    exact h2
theorem encD_extE (w q : List It) : ∀ d, Le_ (encD d w) (encD d (w ++ q))
  | 0 => item_extE (by simp)
  | d + 1 => item_extE (by intro w1 h; cases h; exact ⟨_, rfl, encD_extE w q d⟩)
def CutE (w : List It) (w1 w2 : Wr) : Prop := ∀ i t j, w2 i = some (t, j) → j ≤ w.length → w1 i = some (t, j)
theorem kids_cutE {w q : List It} {w1 w2 : Wr} (hp : Put (w ++ q) w2) (h : CutE w w1 w2) (pr : Bool) : ∀ (r : Nat) (key : Bool) (last : Option (List UInt8)) (i : Nat) (t : List UInt8) (j : Nat), i ≤ (w ++ q).length →
    kidsE w2 pr r key last i = some (t, j) → j ≤ w.length → kidsE w1 pr r key last i = some (t, j)
  | 0, key, last, i, t, j, hi, h1, h2 => by simpa [kidsE] using h1
  | r + 1, key, last, i, t, j, hi, h1, h2 => by
    simp only [kidsE] at h1 ⊢
    cases h3 : w2 i with
    | none => rw [h3] at h1; cases h1
    | some a =>
      obtain ⟨t1, j1⟩ := a
      rw [h3] at h1
      obtain ⟨m1, m2, _⟩ := hp _ _ _ h3
      simp only at h1
      split at h1
      · cases h1
      · rename_i hk
        cases h4 : kidsE w2 pr r (!key) (if (pr && key) = true then some t1 else last) j1 with
        | none => rw [h4] at h1; cases h1
        | some b =>
          obtain ⟨u, k⟩ := b
          rw [h4] at h1
          cases h1
          have m5 := kidsE_put hp _ _ _ _ _ _ _ m2 h4
          rw [h i t1 j1 h3 (by omega)]
          simp only
          rw [if_neg hk, kids_cutE hp h pr r _ _ j1 u j m2 h4 h2]
theorem item_cutE {w q : List It} {s1 s2 : Option Wr} (h : ∀ w2, s2 = some w2 → Put (w ++ q) w2 ∧ ∃ w1, s1 = some w1 ∧ CutE w w1 w2) : CutE w (itemE w s1) (itemE (w ++ q) s2) := by
  intro i t j h1 h2
  unfold itemE at h1 ⊢
  cases hx : (w ++ q)[i]? with
  | none => rw [hx] at h1; cases h1
  | some y =>
    rw [hx] at h1
    have hiq := (List.getElem?_eq_some_iff.1 hx).1
    simp only at h1
    split at h1
    · cases h1
    · rename_i hf
      split at h1
      · rename_i hk
        cases s2 with
        | none => cases h1
        | some w2 =>
          obtain ⟨hp, w1, rfl, hc⟩ := h w2 rfl
          simp only at h1
          cases h3 : kidsE w2 (y.1 == 5) y.2.2.2.toNat true none (i + 1) with
          | none => rw [h3] at h1; cases h1
          | some a =>
            obtain ⟨u, k⟩ := a
            rw [h3] at h1
            cases h1
            have m5 := kidsE_put hp _ _ _ _ _ _ _ (by omega) h3
            have hiw : i < w.length := by omega
            have : w[i]? = some y := by rw [List.getElem?_append_left hiw] at hx; exact hx
            rw [this]
            simp only
            rw [if_neg hf, if_pos hk, kids_cutE hp hc _ _ _ _ _ _ _ (by omega) h3 h2]
      · rename_i hk
        cases h1
        have : w[i]? = some y := by rw [List.getElem?_append_left (by omega)] at hx; exact hx
        rw [this]
        simp only
        rw [if_neg hf, if_neg hk]
theorem encD_cutE (w q : List It) : ∀ d, CutE w (encD d w) (encD d (w ++ q))
  | 0 => item_cutE (by simp)
  | d + 1 => item_cutE (by intro w2 h; cases h; exact ⟨encD_put _ d, _, rfl, encD_cutE w q d⟩)
def One (d : Nat) (w : List It) (t : List UInt8) : Prop := encD d w 0 = some (t, w.length)
theorem One.at_ {d : Nat} {w : List It} {t : List UInt8} (h : One d w t) (p q : List It) : encD d (p ++ (w ++ q)) p.length = some (t, p.length + w.length) := by
  have := encD_shift p (w ++ q) d 0
  rw [Nat.add_zero, encD_extE w q d 0 _ h] at this
  exact this
theorem One.of_at {w p q : List It} {t : List UInt8} {x : List UInt8 × Nat} (h : One 32 w t) (h2 : encD 31 (p ++ (w ++ q)) p.length = some x) : One 31 w t ∧ x = (t, p.length + w.length) := by
  have h3 := encD_mono _ 31 _ _ h2
  rw [h.at_ p q] at h3
  cases h3
  refine ⟨?_, rfl⟩
  have h4 := encD_shift p (w ++ q) 31 0
  rw [Nat.add_zero, h2] at h4
  cases h5 : encD 31 (w ++ q) 0 with
  | none => rw [h5] at h4; cases h4
  | some y =>
    obtain ⟨t', j'⟩ := y
    rw [h5] at h4
    simp only [shf, Option.map_some, Option.some.injEq, Prod.mk.injEq] at h4
    obtain ⟨rfl, h6⟩ := h4
    have : j' = w.length := by omega
    subst this
    exact encD_cutE w q 31 0 _ _ h5 (by omega)
theorem shaped_one {v : List It} (h : shapedD v = true) : ∃ t, One 32 v t := by
  unfold shapedD at h
  cases h1 : encD 32 v 0 with
  | none => rw [h1] at h; cases h
  | some a =>
    obtain ⟨t, j⟩ := a
    rw [h1] at h
    have : j = v.length := by simpa using h
    subst this
    exact ⟨t, h1⟩
section
variable {w1 w2 w3 w4 : List It} {t1 t2 t3 t4 : List UInt8}
theorem four_at (h1 : One 31 w1 t1) (h2 : One 31 w2 t2) (h3 : One 31 w3 t3) (h4 : One 31 w4 t4) (x : It) :
    encD 31 (x :: (w1 ++ (w2 ++ (w3 ++ w4)))) 1 = some (t1, 1 + w1.length) ∧ encD 31 (x :: (w1 ++ (w2 ++ (w3 ++ w4)))) (1 + w1.length) = some (t2, 1 + w1.length + w2.length) ∧
    encD 31 (x :: (w1 ++ (w2 ++ (w3 ++ w4)))) (1 + w1.length + w2.length) = some (t3, 1 + w1.length + w2.length + w3.length) ∧
    encD 31 (x :: (w1 ++ (w2 ++ (w3 ++ w4)))) (1 + w1.length + w2.length + w3.length) = some (t4, 1 + w1.length + w2.length + w3.length + w4.length) := by
  have a1 := h1.at_ [x] (w2 ++ (w3 ++ w4))
  have a2 := h2.at_ (x :: w1) (w3 ++ w4)
  have a3 := h3.at_ (x :: (w1 ++ w2)) w4
  have a4 := h4.at_ (x :: (w1 ++ (w2 ++ w3))) []
  simp only [List.cons_append, List.nil_append, List.append_nil, List.append_assoc, List.length_cons, List.length_nil, List.length_append, Nat.zero_add] at a1 a2 a3 a4
  refine ⟨a1, ?_, ?_, ?_⟩
  · rw [Nat.add_comm 1]; exact a2
  · rw [show 1 + w1.length + w2.length = w1.length + w2.length + 1 by omega]; exact a3
  · rw [show 1 + w1.length + w2.length + w3.length = w1.length + (w2.length + w3.length) + 1 by omega]; exact a4
theorem list_four (k1 : One 32 w1 t1) (k2 : One 32 w2 t2) (k3 : One 32 w3 t3) (k4 : One 32 w4 t4) (hs : shapedD ((4, 0, [], 4) :: (w1 ++ (w2 ++ (w3 ++ w4)))) = true) :
    One 31 w1 t1 ∧ One 31 w2 t2 ∧ One 31 w3 t3 ∧ One 31 w4 t4 := by
  obtain ⟨t, ht⟩ := shaped_one hs
  have ht' : itemE ((4, 0, [], 4) :: (w1 ++ (w2 ++ (w3 ++ w4)))) (some (encD 31 ((4, 0, [], 4) :: (w1 ++ (w2 ++ (w3 ++ w4)))))) 0 = some (t, ((4, 0, [], 4) :: (w1 ++ (w2 ++ (w3 ++ w4)))).length) := ht
  unfold itemE at ht'
  have hf : fitE (4, 0, [], 4) := by simp [fitE]
  simp only [List.getElem?_cons_zero] at ht'
  rw [if_neg (show ¬ ¬ fitE _ from fun h => h hf), if_pos (by simp)] at ht'
  simp only [show (4 : Int).toNat = 3 + 1 from rfl, show ((4 : Int) == 5) = false from rfl] at ht'
  cases hk : kidsE (encD 31 ((4, 0, [], 4) :: (w1 ++ (w2 ++ (w3 ++ w4))))) false (3 + 1) true none (0 + 1) with
  | none => rw [hk] at ht'; cases ht'
  | some a =>
    simp only [kidsE, Nat.zero_add] at hk
    cases e1 : encD 31 ((4, 0, [], 4) :: (w1 ++ (w2 ++ (w3 ++ w4)))) 1 with
    | none => rw [e1] at hk; cases hk
    | some x1 =>
      have r1 := k1.of_at (p := [(4, 0, [], 4)]) (q := w2 ++ (w3 ++ w4)) (x := x1) (by simpa using e1)
      obtain ⟨o1, rfl⟩ := r1
      rw [e1] at hk
      simp only [Bool.false_and, Bool.false_eq_true, if_false] at hk
      cases e2 : encD 31 ((4, 0, [], 4) :: (w1 ++ (w2 ++ (w3 ++ w4)))) ([((4 : Int), (0 : UInt64), ([] : List UInt8), (4 : Int))].length + w1.length) with
      | none => rw [e2] at hk; cases hk
      | some x2 =>
        have r2 := k2.of_at (p := (4, 0, [], 4) :: w1) (q := w3 ++ w4) (x := x2) (by rw [← e2]; simp; rw [Nat.add_comm])
        obtain ⟨o2, rfl⟩ := r2
        rw [e2] at hk
        simp only at hk
        cases e3 : encD 31 ((4, 0, [], 4) :: (w1 ++ (w2 ++ (w3 ++ w4)))) (((4, 0, [], 4) :: w1).length + w2.length) with
        | none => rw [e3] at hk; cases hk
        | some x3 =>
          have r3 := k3.of_at (p := (4, 0, [], 4) :: (w1 ++ w2)) (q := w4) (x := x3) (by rw [← e3]; simp; congr 1; omega)
          obtain ⟨o3, rfl⟩ := r3
          rw [e3] at hk
          simp only at hk
          cases e4 : encD 31 ((4, 0, [], 4) :: (w1 ++ (w2 ++ (w3 ++ w4)))) (((4, 0, [], 4) :: (w1 ++ w2)).length + w3.length) with
          | none => rw [e4] at hk; cases hk
          | some x4 =>
            have r4 := k4.of_at (p := (4, 0, [], 4) :: (w1 ++ (w2 ++ w3))) (q := []) (x := x4) (by rw [← e4]; simp; congr 1; omega)
            exact ⟨o1, o2, o3, r4.1⟩
theorem map_four (h1 : One 31 w1 t1) (h2 : One 31 w2 t2) (h3 : One 31 w3 t3) (h4 : One 31 w4 t4) :
    shapedD ((5, 0, [], 4) :: (w1 ++ (w2 ++ (w3 ++ w4)))) = lexLt t1 t3 ∧ (lexLt t1 t3 = true → ∃ u j, kidsE (encD 31 ((5, 0, [], 4) :: (w1 ++ (w2 ++ (w3 ++ w4))))) true (2 * 2) true none 1 = some (u, j)) := by
  obtain ⟨a1, a2, a3, a4⟩ := four_at h1 h2 h3 h4 (5, 0, [], 4)
  have hkid : kidsE (encD 31 ((5, 0, [], 4) :: (w1 ++ (w2 ++ (w3 ++ w4))))) true (2 * 2) true none 1 = if lexLt t1 t3 = true then some (t1 ++ (t2 ++ (t3 ++ (t4 ++ []))), 1 + w1.length + w2.length + w3.length + w4.length) else none := by
    simp only [show 2 * 2 = 3 + 1 from rfl, kidsE, a1, a2, a3, a4, keyOk, Bool.true_and, Bool.not_true, Bool.and_false, Bool.false_and, Bool.not_false, if_true, Bool.false_eq_true, if_false, Bool.true_eq_false]
    cases lexLt t1 t3 <;> simp
  refine ⟨?_, fun h => ?_⟩
  · have hE : encD 32 ((5, 0, [], 4) :: (w1 ++ (w2 ++ (w3 ++ w4)))) 0 = if lexLt t1 t3 = true then some (hd 5 (UInt64.ofInt (4 / 2)) ++ (t1 ++ (t2 ++ (t3 ++ (t4 ++ [])))), 1 + w1.length + w2.length + w3.length + w4.length) else none := by
      show itemE _ _ 0 = _
      unfold itemE
      have hf : fitE (5, 0, [], 4) := by simp [fitE]
      simp only [List.getElem?_cons_zero]
      rw [if_neg (show ¬ ¬ fitE _ from fun h => h hf), if_pos (by simp)]
      simp only [show (4 : Int).toNat = 2 * 2 from rfl, show ((5 : Int) == 5) = true from rfl, Nat.zero_add, hkid]
      cases lexLt t1 t3 <;> rfl
    unfold shapedD
    rw [hE]
    cases lexLt t1 t3
    · rfl
    · simp; omega
  · rw [hkid, if_pos h]; exact ⟨_, _, rfl⟩
theorem seg_mid (p w q : List It) : seg (p ++ (w ++ q)) p.length (p.length + w.length) = w := by
  unfold seg
  rw [List.drop_left, show p.length + w.length - p.length = w.length by omega, List.take_left]
theorem order_K3 (key value other second : List It) (h1 : One 31 w1 t1) (h2 : One 31 w2 t2) (h3 : One 31 w3 t3) (h4 : One 31 w4 t4) (hne : w1 ≠ w3) (hlt : lexLt t1 t3 = true)
    (hsz : w1.length + w2.length + w3.length + w4.length ≤ 4000000) (hw : wt ((5, 0, [], 4) :: (w1 ++ (w2 ++ (w3 ++ w4)))) ≤ 4000000000000) (hK : Kd ((5, 0, [], 4) :: (w1 ++ (w2 ++ (w3 ++ w4))))) (x : Bool)
    (hcase : (w1 = key ∧ w2 = value ∧ w3 = other ∧ w4 = second) ∨ (w1 = other ∧ w2 = second ∧ w3 = key ∧ w4 = value)) :
    F.law30_CborOrder_K3 key value other second x ((5, 0, [], 4) :: (w1 ++ (w2 ++ (w3 ++ w4)))) = F.law30_CborOrder_K4 key other x false := by
  obtain ⟨a1, a2, a3, a4⟩ := four_at h1 h2 h3 h4 (5, 0, [], 4)
  obtain ⟨hs, hkid⟩ := map_four h1 h2 h3 h4
  obtain ⟨u, j, hk⟩ := hkid hlt
  rw [hlt] at hs
  generalize hM : (((5 : Int), (0 : UInt64), ([] : List UInt8), (4 : Int)) :: (w1 ++ (w2 ++ (w3 ++ w4)))) = M at *
  have hMl : M.length = 1 + (w1.length + w2.length + w3.length + w4.length) := by rw [← hM]; simp; omega
  have s1 : seg M 1 (1 + w1.length) = w1 := by rw [← hM]; exact seg_mid [(5, 0, [], 4)] w1 _
  have s2 : seg M (1 + w1.length) (1 + w1.length + w2.length) = w2 := by
    have := seg_mid ((5, 0, [], 4) :: w1) w2 (w3 ++ w4)
    rw [← hM]
    simpa [Nat.add_comm 1] using this
  have s3 : seg M (1 + w1.length + w2.length) (1 + w1.length + w2.length + w3.length) = w3 := by
    have := seg_mid ((5, 0, [], 4) :: (w1 ++ w2)) w3 w4
    rw [← hM]
    rw [show 1 + w1.length + w2.length = w1.length + w2.length + 1 by omega]
    simpa using this
  have s4 : seg M (1 + w1.length + w2.length + w3.length) (1 + w1.length + w2.length + w3.length + w4.length) = w4 := by
    have := seg_mid ((5, 0, [], 4) :: (w1 ++ (w2 ++ w3))) w4 []
    rw [← hM]
    rw [show 1 + w1.length + w2.length + w3.length = w1.length + (w2.length + w3.length) + 1 by omega]
    simpa using this
  have hg0 : getO M 0 = some (5, 0, [], 4) := by rw [← hM]; exact getO_lit0 _ _
  have hmem : ∀ key', F.cbor_Member M 0 key' = some (memE M (encD 31 M) key' 2 1) := by
    intro key'
    unfold F.cbor_Member
    rw [shaped_eq hw hK, hs, hg0]
    have e1 : decide ((M.length : Int) ≤ 0) = false := decide_eq_false (by omega)
    simp only [show decide ((0 : Int) < 0) = false from rfl, e1, Bool.false_eq_true, if_false, bind_some', bne_self_eq_false, Bool.not_true, F.cbor_Member_K1, hg0]
    exact member_cbor (by omega) (by omega) key' (5, 0, [], 4) 2 rfl (by omega) 2 0 1 none u j hk (by omega) (by omega)
  have m1 : F.cbor_Member M 0 w1 = some ((1 + w1.length : Nat) : Int) := by
    rw [hmem]; simp only [memE, a1, s1, if_true]
  have m3 : F.cbor_Member M 0 w3 = some ((1 + w1.length + w2.length + w3.length : Nat) : Int) := by
    rw [hmem]; simp only [memE, a1, s1, if_neg hne, a2, a3, s3, if_true]
  have hbeh : ∀ (i j : Nat) (t : List UInt8), encD 31 M i = some (t, j) → F.cbor_Behind M (i : Int) = some (j : Int) := by
    intro i j t he
    have hp := encD_put M 31 i t j he
    unfold F.cbor_Behind
    rw [shaped_eq hw hK, hs]
    have e0 : decide ((i : Int) < 0) = false := decide_eq_false (by omega)
    have e1 : decide ((M.length : Int) ≤ (i : Int)) = false := decide_eq_false (by omega)
    simp only [e0, e1, Bool.false_eq_true, if_false, bind_some', Bool.not_true, F.cbor_Behind_K1, behind_cbor (by omega : M.length ≤ 1000000000000000) (by omega : 31 ≤ 32) he]
  have b2 := hbeh _ _ _ a2
  have b4 := hbeh _ _ _ a4
  have l2 : slO M ((1 + w1.length : Nat) : Int) ((1 + w1.length + w2.length : Nat) : Int) = some w2 := by rw [slO_seg (by omega) (by omega), s2]
  have l4 : slO M ((1 + w1.length + w2.length + w3.length : Nat) : Int) ((1 + w1.length + w2.length + w3.length + w4.length : Nat) : Int) = some w4 := by rw [slO_seg (by omega) (by omega), s4]
  have n1 : decide (((1 + w1.length : Nat) : Int) < 0) = false := decide_eq_false (by omega)
  have n3 : decide (((1 + w1.length + w2.length + w3.length : Nat) : Int) < 0) = false := decide_eq_false (by omega)
  have q2 : F.law30_same w2 w2 = some true := by rw [sameI_eq _ _ (by omega)]; simp
  have q4 : F.law30_same w4 w4 = some true := by rw [sameI_eq _ _ (by omega)]; simp
  rcases hcase with ⟨rfl, rfl, rfl, rfl⟩ | ⟨rfl, rfl, rfl, rfl⟩
  · simp only [F.law30_CborOrder_K3, m1, m3, bind_some', n1, n3, Bool.false_eq_true, if_false, b2, b4, l2, l4, q2, q4, not_true_f]
  · simp only [F.law30_CborOrder_K3, m1, m3, bind_some', n1, n3, Bool.false_eq_true, if_false, b2, b4, l2, l4, q2, q4, not_true_f]
end
theorem lexLt_or : ∀ (a b : List UInt8), a ≠ b → lexLt a b = !lexLt b a
  | [], [], h => absurd rfl h
  | [], _ :: _, _ => rfl
  | _ :: _, [], _ => rfl
  | x :: r, y :: s, h => by
    rw [lexLt_cons, lexLt_cons]
    by_cases hxy : x = y
    · subst hxy
      rw [if_pos rfl, if_pos rfl]
      exact lexLt_or r s (fun e => h (by rw [e]))
    · rw [if_neg hxy, if_neg (fun e => hxy e.symm)]
      have hn : x.toNat ≠ y.toNat := fun e => hxy (UInt8.toNat_inj.1 e)
      simp only [UInt8.lt_iff_toNat_lt]
      rcases Nat.lt_or_ge x.toNat y.toNat with h1 | h1
      · simp [h1]; omega
      · have h2 : y.toNat < x.toNat := by omega
        simp [h2]; omega
theorem wt_app (a b : List It) : wt (a ++ b) = wt a + wt b := by
  induction a with
  | nil => simp [wt]
  | cons x r ih => simp only [List.cons_append, wt, ih]; omega
theorem Kd.app {a b : List It} (ha : Kd a) (hb : Kd b) : Kd (a ++ b) := fun x hx => (List.mem_append.1 hx).elim (ha x) (hb x)
theorem Kd.cons {x : It} {b : List It} (hx : x.2.2.2 ≤ 9223372036854775807) (hb : Kd b) : Kd (x :: b) := fun y hy => (List.mem_cons.1 hy).elim (fun e => e ▸ hx) (hb y)
theorem CborOrder_true (key value other second : List It) (hk : Kd key) (hv : Kd value) (ho : Kd other) (hs : Kd second) (hU : (∀ x ∈ key, x.2.2.1.length ≤ 2000000) ∧ (∀ x ∈ other, x.2.2.1.length ≤ 2000000))
    (hsz : wt key + wt value + wt other + wt second ≤ 3000000) : F.law30_CborOrder key value other second = some true := by
  have lk := wt_len key
  have lv := wt_len value
  have lo := wt_len other
  have ls := wt_len second
  have j1 : ∀ (m : Int) (w : List It), w.length ≤ 3000000 → F.law30_joined m [w] = some ((m, 0, [], 1) :: w) := by
    intro m w hw
    rw [joined_eq m [w] (by simp) (by simp; omega)]; simp
  have j4 : ∀ (m : Int) (w1 w2 w3 w4 : List It), w1.length + w2.length + w3.length + w4.length ≤ 3000000 → F.law30_joined m [w1, w2, w3, w4] = some ((m, 0, [], 4) :: (w1 ++ (w2 ++ (w3 ++ w4)))) := by
    intro m w1 w2 w3 w4 hw
    rw [joined_eq m [w1, w2, w3, w4] (by simp) (by simp; omega)]; simp
  have wtJ : ∀ (x : It) (w1 w2 w3 w4 : List It), x.2.2.1.length = 0 → wt w1 + wt w2 + wt w3 + wt w4 ≤ 3000000 → wt (x :: (w1 ++ (w2 ++ (w3 ++ w4)))) ≤ 4000000000000 := by
    intro x w1 w2 w3 w4 h0 h
    simp only [wt, wt_app]; omega
  have hkw : wt key ≤ 4000000000000 := by omega
  have hvw : wt value ≤ 4000000000000 := by omega
  have how : wt other ≤ 4000000000000 := by omega
  have hsw : wt second ≤ 4000000000000 := by omega
  have kJ4 : Kd ((4, 0, [], 4) :: (key ++ (value ++ (other ++ second)))) := Kd.cons (by simp) (hk.app (hv.app (ho.app hs)))
  have kA : Kd ((5, 0, [], 4) :: (key ++ (value ++ (other ++ second)))) := Kd.cons (by simp) (hk.app (hv.app (ho.app hs)))
  have kB : Kd ((5, 0, [], 4) :: (other ++ (second ++ (key ++ value)))) := Kd.cons (by simp) (ho.app (hs.app (hk.app hv)))
  have wJ4 := wtJ (4, 0, [], 4) key value other second rfl hsz
  have wA := wtJ (5, 0, [], 4) key value other second rfl hsz
  have wB := wtJ (5, 0, [], 4) other second key value rfl (by omega)
  have hK1 : F.law30_CborOrder_K1 key value other second false = some true := by
    simp only [F.law30_CborOrder_K1, Bool.false_eq_true, if_false]
    rw [awake_eq, bind_some', not_true_f, if_neg (by simp), j4 4 key value other second (by omega), bind_some', shaped_eq wJ4 kJ4, bind_some', shaped_eq hkw hk, shaped_eq hvw hv, shaped_eq how ho, shaped_eq hsw hs]
    simp only [bind_some']
    cases hs4 : shapedD ((4, 0, [], 4) :: (key ++ (value ++ (other ++ second)))) with
    | false => simp only [Bool.not_false, if_true, F.law30_CborOrder_K2]
    | true =>
      cases h1 : shapedD key with
      | false => simp only [Bool.not_true, Bool.not_false, if_true, Bool.false_eq_true, if_false, F.law30_CborOrder_K2]
      | true =>
        cases h2 : shapedD value with
        | false => simp only [Bool.not_true, Bool.not_false, if_true, Bool.false_eq_true, if_false, F.law30_CborOrder_K2]
        | true =>
          cases h3 : shapedD other with
          | false => simp only [Bool.not_true, Bool.not_false, if_true, Bool.false_eq_true, if_false, F.law30_CborOrder_K2]
          | true =>
            cases h4 : shapedD second with
            | false => simp only [Bool.not_true, Bool.not_false, if_true, Bool.false_eq_true, if_false, F.law30_CborOrder_K2]
            | true =>
              simp only [Bool.not_true, Bool.false_eq_true, if_false, F.law30_CborOrder_K2]
              obtain ⟨tk, ok⟩ := shaped_one h1
              obtain ⟨tv, ov⟩ := shaped_one h2
              obtain ⟨to, oo⟩ := shaped_one h3
              obtain ⟨ts, os⟩ := shaped_one h4
              obtain ⟨pk, pv, po, ps⟩ := list_four ok ov oo os hs4
              have sA := (map_four pk pv po ps).1
              have sB := (map_four po ps pk pv).1
              rw [j4 5 key value other second (by omega), bind_some', j4 5 other second key value (by omega), bind_some', shaped_eq wA kA, bind_some', shaped_eq wB kB, bind_some', sA, sB, sameI_eq _ _ (by omega), bind_some']
              have hBk : ∀ x ∈ key, x.2.2.1.length < 18446744073709551616 := fun x hx => by have := hU.1 x hx; omega
              have hBo : ∀ x ∈ other, x.2.2.1.length < 18446744073709551616 := fun x hx => by have := hU.2 x hx; omega
              by_cases hko : key = other
              · subst hko
                have : tk = to := by
                  have := ok.symm.trans oo
                  simpa using this
                subst this
                rw [lexLt_irrefl]
                simp
              · have hne : tk ≠ to := by
                  intro e
                  subst e
                  have a := item_of_enc hk hBk ok
                  have b := item_of_enc ho hBo oo
                  rw [a] at b
                  have := congrArg Prod.snd (Except.ok.inj b)
                  rw [List.take_length, List.take_length] at this
                  exact hko this
                have e0 : (key == other) = false := by simpa using hko
                have hlx := lexLt_or tk to hne
                have hK4 : F.law30_CborOrder_K4 key other (lexLt tk to) false = some true := by
                  simp only [F.law30_CborOrder_K4, Bool.false_eq_true, if_false]
                  rw [print_eq hkw hk, print_eq how ho]
                  simp only [bind_some']
                  have pk' : printD key = if 65536 < tk.length then ([], 10) else (tk, 0) := by
                    unfold printD; rw [show encD 32 key 0 = some (tk, key.length) from ok]; simp
                  have po' : printD other = if 65536 < to.length then ([], 10) else (to, 0) := by
                    unfold printD; rw [show encD 32 other 0 = some (to, other.length) from oo]; simp
                  rw [pk', po']
                  by_cases g1 : 65536 < tk.length
                  · rw [if_pos g1]; rfl
                  · rw [if_neg g1]
                    by_cases g2 : 65536 < to.length
                    · rw [if_pos g2]; rfl
                    · rw [if_neg g2]
                      have hle : F.law30_less tk to = some (lexLt tk to) := by
                        have : F.law30_less tk to = F.ref30_Less tk to := rfl
                        rw [this, less_eq tk to (by omega)]
                      simp only [bne_self_eq_false, Bool.false_eq_true, if_false, F.law30_CborOrder_K5, hle, bind_some', beq_self_eq_true]
                rw [e0, if_neg (by simp)]
                cases hx : lexLt tk to with
                | true =>
                  rw [hx] at hlx hK4
                  have hy : lexLt to tk = false := by revert hlx; cases lexLt to tk <;> simp
                  rw [hy]
                  simp only [show (true == false) = false from rfl, Bool.false_eq_true, if_false]
                  rw [order_K3 key value other second pk pv po ps hko hx (by omega) wA kA true (.inl ⟨rfl, rfl, rfl, rfl⟩)]
                  exact hK4
                | false =>
                  rw [hx] at hlx hK4
                  have hy : lexLt to tk = true := by revert hlx; cases lexLt to tk <;> simp
                  rw [hy]
                  simp only [show (false == true) = false from rfl, Bool.false_eq_true, if_false, if_true]
                  rw [order_K3 key value other second po ps pk pv (fun e => hko e.symm) hy (by omega) wB kB false (.inr ⟨rfl, rfl, rfl, rfl⟩)]
                  exact hK4
  have hT : F.law30_CborOrder_K1 key value other second true = some true := rfl
  obtain ⟨r1, e1⟩ := beyond_ex ((4, 0, [], 1) :: key) (by simp; omega)
  obtain ⟨r2, e2⟩ := beyond_ex ((4, 0, [], 1) :: value) (by simp; omega)
  obtain ⟨r3, e3⟩ := beyond_ex ((4, 0, [], 1) :: other) (by simp; omega)
  obtain ⟨r4, e4⟩ := beyond_ex ((4, 0, [], 1) :: second) (by simp; omega)
  obtain ⟨r5, e5⟩ := beyond_ex ((4, 0, [], 4) :: (key ++ (value ++ (other ++ second)))) (by simp; omega)
  unfold F.law30_CborOrder
  rw [j1 4 key (by omega), bind_some', e1, bind_some', j1 4 value (by omega), bind_some', e2, bind_some', j1 4 other (by omega), bind_some', e3, bind_some', j1 4 second (by omega), bind_some', e4, bind_some', j4 4 key value other second (by omega), bind_some', e5, bind_some']
  cases r1 <;> cases r2 <;> cases r3 <;> cases r4 <;> cases r5 <;> first | exact hK1 | exact hT
end Go.Gk.Cb
end

section
namespace Go.Gk.Cb
open Go Go.Gk
theorem bulk_wt (v : List It) : wt v ≤ 2 * itemsBulk v := by
  induction v with
  | nil => simp [wt, itemsBulk]
  | cons x r ih => simp only [wt, itemsBulk]; omega
theorem bulk_mem {v : List It} {x : It} (h : x ∈ v) : x.2.2.1.length ≤ itemsBulk v := by
  induction v with
  | nil => cases h
  | cons y r ih =>
    rcases List.mem_cons.1 h with rfl | h
    · simp only [itemsBulk]; omega
    · have := ih h; simp only [itemsBulk]; omega
theorem CborOrder_up (a : List It) (hK1 : ∀ x ∈ a, x.2.2.2 ≤ 9223372036854775807) (b : List It) (hK2 : ∀ x ∈ b, x.2.2.2 ≤ 9223372036854775807) (c : List It) (hK3 : ∀ x ∈ c, x.2.2.2 ≤ 9223372036854775807)
    (d : List It) (hK4 : ∀ x ∈ d, x.2.2.2 ≤ 9223372036854775807) (h : itemsBulk a + itemsBulk b + itemsBulk c + itemsBulk d ≤ 1048576) : F.law30_CborOrder a b c d = some true :=
  CborOrder_true a b c d hK1 hK2 hK3 hK4 ⟨fun x hx => by have := bulk_mem hx; omega, fun x hx => by have := bulk_mem hx; omega⟩ (by have := bulk_wt a; have := bulk_wt b; have := bulk_wt c; have := bulk_wt d; omega)
end Go.Gk.Cb
end
