import Derived.Test.YtcdneplfgppapaaDoorGkQD
import Derived.Test.YtcdneplfgppapaaDoorGkR3
set_option linter.unusedVariables false
set_option linter.unusedSimpArgs false

section
set_option linter.unusedSimpArgs false
set_option linter.unusedVariables false
namespace Go.Gk.Cb
open Go Go.Gk
def Le_ (w1 w2 : Wr) : Prop := ∀ i x, w1 i = some x → w2 i = some x
theorem kids_mono {w1 w2 : Wr} (h : Le_ w1 w2) (pr : Bool) : ∀ (r : Nat) (key : Bool) (last : Option (List UInt8)) (i : Nat) (x : List UInt8 × Nat), kidsE w1 pr r key last i = some x → kidsE w2 pr r key last i = some x
  | 0, key, last, i, x, h1 => by simpa [kidsE] using h1
  | r + 1, key, last, i, x, h1 => by
    simp only [kidsE] at h1 ⊢
    cases h2 : w1 i with
    | none => rw [h2] at h1; cases h1
    | some a =>
      obtain ⟨t, j⟩ := a
      rw [h2] at h1
      rw [h i _ h2]
      simp only at h1 ⊢
      split at h1
      · cases h1
      · rename_i hk
        rw [if_neg hk]
        cases h3 : kidsE w1 pr r (!key) (if (pr && key) = true then some t else last) j with
        | none => rw [h3] at h1; cases h1
        | some b =>
          rw [h3] at h1
          rw [kids_mono h pr r _ _ j b h3]
          exact h1
theorem item_mono {v : List It} {s1 s2 : Option Wr} (h : ∀ w1, s1 = some w1 → ∃ w2, s2 = some w2 ∧ Le_ w1 w2) : Le_ (itemE v s1) (itemE v s2) := by
  intro i x h1
  unfold itemE at h1 ⊢
  cases hx : v[i]? with
  | none => rw [hx] at h1; cases h1
  | some y =>
    rw [hx] at h1
    simp only at h1 ⊢
    split at h1
    · cases h1
    · rename_i hf
      rw [if_neg hf]
      split at h1
      · rename_i hk
        rw [if_pos hk]
        cases s1 with
        | none => cases h1
        | some w1 =>
          obtain ⟨w2, rfl, hle⟩ := h w1 rfl
          simp only at h1 ⊢
          cases h2 : kidsE w1 (y.1 == 5) y.2.2.2.toNat true none (i + 1) with
          | none => rw [h2] at h1; cases h1
          | some a =>
            rw [h2] at h1
            rw [kids_mono hle _ _ _ _ _ _ h2]
            exact h1
      · rename_i hk
        rw [if_neg hk]
        exact h1
def shf (n : Nat) (x : Option (List UInt8 × Nat)) : Option (List UInt8 × Nat) := x.map fun y => (y.1, n + y.2)
theorem kids_shift {n : Nat} {w1 w2 : Wr} (h : ∀ i, w2 (n + i) = shf n (w1 i)) (pr : Bool) : ∀ (r : Nat) (key : Bool) (last : Option (List UInt8)) (i : Nat), kidsE w2 pr r key last (n + i) = shf n (kidsE w1 pr r key last i)
  | 0, key, last, i => by simp [kidsE, shf]
  | r + 1, key, last, i => by
    simp only [kidsE, h i]
    cases w1 i with
    | none => rfl
    | some a =>
      obtain ⟨t, j⟩ := a
      simp only [shf, Option.map_some]
      split
      · rfl
      · rw [kids_shift h pr r _ _ j]
        cases kidsE w1 pr r (!key) (if (pr && key) = true then some t else last) j with
        | none => rfl
        | some b => rfl
theorem item_shift {p v : List It} {s1 s2 : Option Wr} (h : (s1 = none ∧ s2 = none) ∨ ∃ w1 w2, s1 = some w1 ∧ s2 = some w2 ∧ ∀ i, w2 (p.length + i) = shf p.length (w1 i)) (i : Nat) :
    itemE (p ++ v) s2 (p.length + i) = shf p.length (itemE v s1 i) := by
  unfold itemE
  rw [List.getElem?_append_right (by omega), show p.length + i - p.length = i by omega]
  cases v[i]? with
  | none => rfl
  | some x =>
    simp only
    split
    · rfl
    · split
      · rcases h with ⟨rfl, rfl⟩ | ⟨w1, w2, rfl, rfl, hw⟩
        · rfl
        · simp only
          rw [show p.length + i + 1 = p.length + (i + 1) by omega, kids_shift hw]
          cases kidsE w1 (x.1 == 5) x.2.2.2.toNat true none (i + 1) with
          | none => rfl
          | some b => rfl
      · simp [shf]; omega
theorem encD_shift (p v : List It) : ∀ (d i : Nat), encD d (p ++ v) (p.length + i) = shf p.length (encD d v i)
  | 0, i => item_shift (.inl ⟨rfl, rfl⟩) i
  | d + 1, i => item_shift (.inr ⟨_, _, rfl, rfl, encD_shift p v d⟩) i
def hb (k : UInt8) : List UInt8 := if k = 0 then [0x81] else if k = 1 then [0xa1, 0x00] else [0xc1]
def nestB (ks : List UInt8) : List UInt8 := ks.flatMap hb
theorem ha1 : hd 5 1 = [0xa1] := by decide
theorem hc1 : hd 6 1 = [0xc1] := by decide
def kindAt (ks : List UInt8) (i : Nat) : UInt8 := if h : ks = [] then 0 else (ks[i % ks.length]'(Nat.mod_lt _ (by cases ks with | nil => exact absurd rfl h | cons => simp))) % 3
def kindsTo (ks : List UInt8) : Nat → List UInt8
  | 0 => []
  | n + 1 => kindsTo ks n ++ [kindAt ks n]
end Go.Gk.Cb
end

section
set_option linter.unusedSimpArgs false
set_option linter.unusedVariables false
namespace Go.Gk.Cb
open Go Go.Gk
theorem beyond_in (v : List It) (i : Nat) (hi : i < v.length) (hv : v.length ≤ 9000000) : ∀ (n : Nat) (op : List Int), op.length = n → n ≤ 65536 →
    ∃ r, loop (F.ref30_Beyond_L2 v (i : Int)) op = some r ∧ (∀ op' j, r = .inl (op', j) → op'.length ≤ 65536 ∧ j = ((i + 1 : Nat) : Int))
  | n, op, hn, h => by
    have hi1 : wI ((i : Int) + 1) = ((i + 1 : Nat) : Int) := by rw [wI_in (by omega) (by omega)]; simp
    have hK2 : ∀ op' : List Int, op'.length ≤ 65536 → ∃ r, F.ref30_Beyond_K2 v (i : Int) op' = some r ∧ (∀ o j, r = .inl (o, j) → o.length ≤ 65536 ∧ j = ((i + 1 : Nat) : Int)) := by
      intro op' h'
      simp only [F.ref30_Beyond_K2, getO_lt hi, bind_some']
      rw [apO_ok (by simp; omega), bind_some']
      by_cases hl : 65536 < (op' ++ [v[i].2.2.2]).length
      · have : decide ((65536 : Int) < ((op' ++ [v[i].2.2.2]).length : Int)) = true := by simp only [decide_eq_true_eq]; omega
        rw [this, if_pos rfl]
        exact ⟨.inr true, rfl, by intro o j h; cases h⟩
      · have : decide ((65536 : Int) < ((op' ++ [v[i].2.2.2]).length : Int)) = false := by simp only [decide_eq_false_iff_not]; omega
        rw [this, if_neg (by simp), hi1]
        refine ⟨.inl (op' ++ [v[i].2.2.2], ((i + 1 : Nat) : Int)), rfl, ?_⟩
        intro o j h; cases h
        exact ⟨by omega, rfl⟩
    cases n with
    | zero =>
      have : op = [] := List.eq_nil_of_length_eq_zero hn
      subst this
      obtain ⟨r, hr, hR⟩ := hK2 [] (by simp)
      refine ⟨r, ?_, hR⟩
      refine loop_inr ?_
      simp only [F.ref30_Beyond_L2, F.ref30_Beyond_K1, List.length_nil, show decide ((0 : Int) < ((0 : Nat) : Int)) = false from rfl, Bool.false_eq_true, if_false, hr]; rfl
    | succ n =>
      have hd : decide ((0 : Int) < (op.length : Int)) = true := decide_eq_true (by omega)
      have hw : wI ((op.length : Int) - 1) = (n : Int) := by rw [wI_in (by omega) (by omega)]; omega
      have hg : getO op (n : Int) = some (op[n]'(by omega)) := getO_lt (by omega)
      by_cases h0 : (op[n]'(by omega)) ≤ 0
      · have e : decide ((op[n]'(by omega)) ≤ 0) = true := by simpa using h0
        have hs : F.ref30_Beyond_L2 v (i : Int) op = some (.inl (op.take n)) := by
          simp only [F.ref30_Beyond_L2, hd, if_true, hw, hg, bind_some', e, F.ref30_Beyond_K1, Int.toNat_natCast]
          rw [grd_true _ (by omega)]; rfl
        obtain ⟨r, hr, hR⟩ := beyond_in v i hi hv n (op.take n) (by simp; omega) (by omega)
        exact ⟨r, by rw [loop_inl hs]; exact hr, hR⟩
      · have e : decide ((op[n]'(by omega)) ≤ 0) = false := by simpa using h0
        obtain ⟨r, hr, hR⟩ := hK2 (op.set n (wI ((op[n]'(by omega)) - 1))) (by simp; omega)
        refine ⟨r, ?_, hR⟩
        refine loop_inr ?_
        simp only [F.ref30_Beyond_L2, hd, if_true, hw, hg, bind_some', e, F.ref30_Beyond_K1, Bool.false_eq_true, if_false, olet_eq, Int.toNat_natCast, hr]; rfl
theorem beyond_ex (v : List It) (hv : v.length ≤ 9000000) : ∃ r, F.ref30_Beyond v = some r := by
  have key : ∀ k i (op : List Int), v.length - i = k → i ≤ v.length → op.length ≤ 65536 → ∃ r, loop (F.ref30_Beyond_L1 v) (op, (i : Int)) = some r := by
    intro k
    induction k with
    | zero =>
      intro i op h1 h2 h3
      have : i = v.length := by omega
      subst this
      exact ⟨false, loop_inr (by simp only [F.ref30_Beyond_L1, Int.lt_irrefl, decide_false, Bool.false_eq_true, if_false]; rfl)⟩
    | succ k ih =>
      intro i op h1 h2 h3
      have hi : i < v.length := by omega
      have hd : decide ((i : Int) < (v.length : Int)) = true := decide_eq_true (by omega)
      obtain ⟨r, hr, hR⟩ := beyond_in v i hi hv op.length op rfl h3
      have hs : F.ref30_Beyond_L1 v (op, (i : Int)) = some r := by
        simp only [F.ref30_Beyond_L1, hd, if_true, hr]
      cases r with
      | inr b => exact ⟨b, loop_inr hs⟩
      | inl s =>
        obtain ⟨o, j⟩ := s
        obtain ⟨a, rfl⟩ := hR o j rfl
        rw [loop_inl hs]
        exact ih (i + 1) o (by omega) (by omega) a
  exact key v.length 0 [] (by omega) (by omega) (by simp)
def mark : It := (0, 0, [109, 97, 114, 107], 0)
def Gd (v : List It) : Prop := wt v ≤ 4000000 ∧ Kd v ∧ (∀ x ∈ v, x.2.2.1.length ≤ 2000000)
theorem Gd.len {v : List It} (h : Gd v) : v.length ≤ 4000000 := by have := wt_len v; have := h.1; omega
theorem Gd.print {v : List It} (h : Gd v) : F.cbor_Print v = some (printD v) ∧ F.ref30_Print v = some (printD v) ∧ F.cbor_Shaped v = some (shapedD v) ∧ F.ref30_Shaped v = some (shapedD v) :=
  have hw : wt v ≤ 4000000000000 := by have := h.1; omega
  ⟨print_eq hw h.2.1, refPrint_eq hw h.2.1 h.2.2, shaped_eq hw h.2.1, refShaped_eq hw h.2.1 h.2.2⟩
theorem Gd.places {v : List It} (h : Gd v) (p : Int) (key : List It) : (∃ q, F.cbor_Behind v p = some q ∧ F.ref30_Behind v p = some q) ∧ ∃ q, F.cbor_Member v p key = some q ∧ F.ref30_Member v p key = some q :=
  have hw : wt v ≤ 4000000000000 := by have := h.1; omega
  ⟨Behind_both hw h.2.1 h.2.2 p, Member_both hw h.2.1 h.2.2 p key⟩
def dk (v : List It) : List (List UInt8 × Int) := v.map fun x => (x.2.2.1, x.2.2.2)
def near (v u : List It) (i : Nat) : Prop := u.length = v.length ∧ ∀ j (h1 : j < v.length) (h2 : j < u.length), u[j].2.2.2 = v[j].2.2.2 ∧ u[j].2.2.1.length ≤ v[j].2.2.1.length + 1 ∧ (i ≤ j → u[j].2.2.1 = v[j].2.2.1)
def Gd1 (v : List It) : Prop := wt v ≤ 3000000 ∧ Kd v ∧ (∀ x ∈ v, x.2.2.1.length ≤ 1900000)
theorem Gd1.gd {v : List It} (h : Gd1 v) : Gd v := ⟨by have := h.1; omega, h.2.1, fun x hx => by have := h.2.2 x hx; omega⟩
end Go.Gk.Cb
end

section
set_option linter.unusedSimpArgs false
set_option linter.unusedVariables false
namespace Go.Gk.Cb
open Go Go.Gk
theorem back_K1 (v : List It) (h : Gd v) : F.law30_CborBack_K1 v () = some true := by
  obtain ⟨e1, e2, e3, e4⟩ := h.print
  have hB : ∀ x ∈ v, x.2.2.1.length < 18446744073709551616 := fun x hx => by have := h.2.2 x hx; omega
  obtain ⟨t, e, hp, hE⟩ := print_shaped v
  simp only [F.law30_CborBack_K1, e1, e3, bind_some', hp]
  by_cases h0 : e = 0
  · subst h0
    obtain ⟨hq, hl⟩ := parse_printed h.2.1 hB hp
    simp only [bne_self_eq_false, Bool.false_eq_true, if_false]
    rw [parse_eq, hq]
    simp only [bind_some', beq_self_eq_true, if_true]
    rw [sameI_eq _ _ (by have := h.len; omega)]
    have : decide ((t.length : Int) ≤ 65536) = true := decide_eq_true (by omega)
    simp [this]
  · obtain ⟨rfl, hs⟩ := hE h0
    have : (e != 0) = true := by simpa using h0
    simp only [this, if_true, hs]
    simp
theorem CborBack_true (b : List UInt8) (v : List It) (hb : b.length ≤ 200000000000000) (h : Gd v) : F.law30_CborBack b v = some true := by
  obtain ⟨r, hr⟩ := beyond_ex v (by have := h.len; omega)
  unfold F.law30_CborBack
  rw [hr, bind_some']
  cases r
  · simp only [Bool.false_eq_true, if_false]
    rw [awake_eq, parse_eq]
    simp only [bind_some', not_true_f, Bool.false_eq_true, if_false]
    rcases parse_cases b with ⟨is, hbl, hi, hpb⟩ | ⟨e, p, he, hp0, hp1, hpb⟩
    · have hN := fine_of hbl hi
      have hps := print_parsed hbl hi
      have hil := ((itemD_moves b 32).1 _ _ _ hi).2.2
      have hbeh : F.cbor_Behind is 0 = some (is.length : Int) := by
        unfold F.cbor_Behind
        have e1 : decide ((is.length : Int) ≤ 0) = false := decide_eq_false (by omega)
        rw [shaped_eq hN.wt hN.kd, hps.2]
        simp only [show decide ((0 : Int) < 0) = false from rfl, e1, Bool.false_eq_true, if_false, bind_some', Bool.not_true, F.cbor_Behind_K1]
        rw [show (0 : Int) = ((0 : Nat) : Int) from rfl, behind_cbor (by omega) (by omega) (enc_of_item hi)]; rfl
      rw [hpb]
      simp only [beq_self_eq_true, if_true]
      rw [print_eq hN.wt hN.kd, hps.1, shaped_eq hN.wt hN.kd, hps.2, hbeh]
      simp only [bind_some', bne_self_eq_false, Bool.false_eq_true, if_false]
      rw [sameB_eq _ _ (by omega)]
      simp only [bind_some', beq_self_eq_true, not_true_f, Bool.false_eq_true, if_false, F.law30_CborBack_K2]
      exact back_K1 v h
    · have e1 : (e == 0) = false := by simpa using he
      have e2 : decide (p < 0) = false := decide_eq_false (by omega)
      have e3 : decide ((b.length : Int) < p) = false := decide_eq_false (by omega)
      rw [hpb]
      simp only [e1, e2, e3, Bool.false_eq_true, if_false, List.length_nil, show (((0 : Nat) : Int) != 0) = false from rfl, F.law30_CborBack_K3]
      exact back_K1 v h
  · rfl
theorem item_extE {w q : List It} {s1 s2 : Option Wr} (h : ∀ w1, s1 = some w1 → ∃ w2, s2 = some w2 ∧ Le_ w1 w2) : Le_ (itemE w s1) (itemE (w ++ q) s2) := by
  intro i x h1
  have h2 := item_mono h i x h1
  unfold itemE at h2 ⊢
  cases hx : w[i]? with
  | none => rw [hx] at h2; cases h2
  | some y =>
    have : (w ++ q)[i]? = some y := by rw [List.getElem?_append_left (List.getElem?_eq_some_iff.1 hx).1]; exact hx
    rw [this]
    rw [hx] at h2
    exact h2
theorem encD_extE (w q : List It) : ∀ d, Le_ (encD d w) (encD d (w ++ q))
  | 0 => item_extE (by simp)
  | d + 1 => item_extE (by intro w1 h; cases h; exact ⟨_, rfl, encD_extE w q d⟩)
def CutE (w : List It) (w1 w2 : Wr) : Prop := ∀ i t j, w2 i = some (t, j) → j ≤ w.length → w1 i = some (t, j)
def One (d : Nat) (w : List It) (t : List UInt8) : Prop := encD d w 0 = some (t, w.length)
theorem One.at_ {d : Nat} {w : List It} {t : List UInt8} (h : One d w t) (p q : List It) : encD d (p ++ (w ++ q)) p.length = some (t, p.length + w.length) := by
  have := encD_shift p (w ++ q) d 0
  rw [Nat.add_zero, encD_extE w q d 0 _ h] at this
  exact this
section
variable {w1 w2 w3 w4 : List It} {t1 t2 t3 t4 : List UInt8}
end
theorem Kd.cons {x : It} {b : List It} (hx : x.2.2.2 ≤ 9223372036854775807) (hb : Kd b) : Kd (x :: b) := fun y hy => (List.mem_cons.1 hy).elim (fun e => e ▸ hx) (hb y)
end Go.Gk.Cb
end

section
namespace Go.Gk.Cb
open Go Go.Gk
theorem bulk_wt (v : List It) : wt v ≤ 2 * itemsBulk v := by
  induction v with
  | nil => simp [wt, itemsBulk]
  | cons x r ih => simp only [wt, itemsBulk]; omega
theorem bulk_mem {v : List It} {x : It} (h : x ∈ v) : x.2.2.1.length ≤ itemsBulk v := by
  induction v with
  | nil => cases h
  | cons y r ih =>
    rcases List.mem_cons.1 h with rfl | h
    · simp only [itemsBulk]; omega
    · have := ih h; simp only [itemsBulk]; omega
theorem gd1_of {v : List It} (hK : ∀ x ∈ v, x.2.2.2 ≤ 9223372036854775807) (h : itemsBulk v ≤ 1048576) : Gd1 v :=
  ⟨by have := bulk_wt v; omega, hK, fun x hx => by have := bulk_mem hx; omega⟩
theorem CborBack_up (b : List UInt8) (v : List It) (hK : ∀ x ∈ v, x.2.2.2 ≤ 9223372036854775807) (hb : b.length ≤ 200000000000000) (h : itemsBulk v ≤ 1048576) : F.law30_CborBack b v = some true := CborBack_true b v hb (gd1_of hK h).gd
end Go.Gk.Cb
end
