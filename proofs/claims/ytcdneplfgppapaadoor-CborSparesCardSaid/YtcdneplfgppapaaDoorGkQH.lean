import Derived.Test.YtcdneplfgppapaaDoorGkQD
import Derived.Test.YtcdneplfgppapaaDoorGkR3
import Derived.Test.YtcdneplfgppapaaDoorGkP0
set_option linter.unusedVariables false
set_option linter.unusedSimpArgs false

section
set_option linter.unusedSimpArgs false
set_option linter.unusedVariables false
namespace Go.Gk.Cb
open Go Go.Gk
def Le_ (w1 w2 : Wr) : Prop := ∀ i x, w1 i = some x → w2 i = some x
theorem kids_mono {w1 w2 : Wr} (h : Le_ w1 w2) (pr : Bool) : ∀ (r : Nat) (key : Bool) (last : Option (List UInt8)) (i : Nat) (x : List UInt8 × Nat), kidsE w1 pr r key last i = some x → kidsE w2 pr r key last i = some x
  | 0, key, last, i, x, h1 => by simpa [kidsE] using h1
  | r + 1, key, last, i, x, h1 => by
    simp only [kidsE] at h1 ⊢
    cases h2 : w1 i with
    | none => rw [h2] at h1; cases h1
    | some a =>
      obtain ⟨t, j⟩ := a
      rw [h2] at h1
      rw [h i _ h2]
      simp only at h1 ⊢
      split at h1
      · cases h1
      · rename_i hk
        rw [if_neg hk]
        cases h3 : kidsE w1 pr r (!key) (if (pr && key) = true then some t else last) j with
        | none => rw [h3] at h1; cases h1
        | some b =>
          rw [h3] at h1
          rw [kids_mono h pr r _ _ j b h3]
          exact h1
theorem item_mono {v : List It} {s1 s2 : Option Wr} (h : ∀ w1, s1 = some w1 → ∃ w2, s2 = some w2 ∧ Le_ w1 w2) : Le_ (itemE v s1) (itemE v s2) := by
  intro i x h1
  unfold itemE at h1 ⊢
  cases hx : v[i]? with
  | none => rw [hx] at h1; cases h1
  | some y =>
    rw [hx] at h1
    simp only at h1 ⊢
    split at h1
    · cases h1
    · rename_i hf
      rw [if_neg hf]
      split at h1
      · rename_i hk
        rw [if_pos hk]
        cases s1 with
        | none => cases h1
        | some w1 =>
          obtain ⟨w2, rfl, hle⟩ := h w1 rfl
          simp only at h1 ⊢
          cases h2 : kidsE w1 (y.1 == 5) y.2.2.2.toNat true none (i + 1) with
          | none => rw [h2] at h1; cases h1
          | some a =>
            rw [h2] at h1
            rw [kids_mono hle _ _ _ _ _ _ h2]
            exact h1
      · rename_i hk
        rw [if_neg hk]
        exact h1
def shf (n : Nat) (x : Option (List UInt8 × Nat)) : Option (List UInt8 × Nat) := x.map fun y => (y.1, n + y.2)
theorem kids_shift {n : Nat} {w1 w2 : Wr} (h : ∀ i, w2 (n + i) = shf n (w1 i)) (pr : Bool) : ∀ (r : Nat) (key : Bool) (last : Option (List UInt8)) (i : Nat), kidsE w2 pr r key last (n + i) = shf n (kidsE w1 pr r key last i)
  | 0, key, last, i => by simp [kidsE, shf]
  | r + 1, key, last, i => by
    simp only [kidsE, h i]
    cases w1 i with
    | none => rfl
    | some a =>
      obtain ⟨t, j⟩ := a
      simp only [shf, Option.map_some]
      split
      · rfl
      · rw [kids_shift h pr r _ _ j]
        cases kidsE w1 pr r (!key) (if (pr && key) = true then some t else last) j with
        | none => rfl
        | some b => rfl
theorem item_shift {p v : List It} {s1 s2 : Option Wr} (h : (s1 = none ∧ s2 = none) ∨ ∃ w1 w2, s1 = some w1 ∧ s2 = some w2 ∧ ∀ i, w2 (p.length + i) = shf p.length (w1 i)) (i : Nat) :
    itemE (p ++ v) s2 (p.length + i) = shf p.length (itemE v s1 i) := by
  unfold itemE
  rw [List.getElem?_append_right (by omega), show p.length + i - p.length = i by omega]
  cases v[i]? with
  | none => rfl
  | some x =>
    simp only
    split
    · rfl
    · split
      · rcases h with ⟨rfl, rfl⟩ | ⟨w1, w2, rfl, rfl, hw⟩
        · rfl
        · simp only
          rw [show p.length + i + 1 = p.length + (i + 1) by omega, kids_shift hw]
          cases kidsE w1 (x.1 == 5) x.2.2.2.toNat true none (i + 1) with
          | none => rfl
          | some b => rfl
      · simp [shf]; omega
theorem encD_shift (p v : List It) : ∀ (d i : Nat), encD d (p ++ v) (p.length + i) = shf p.length (encD d v i)
  | 0, i => item_shift (.inl ⟨rfl, rfl⟩) i
  | d + 1, i => item_shift (.inr ⟨_, _, rfl, rfl, encD_shift p v d⟩) i
def hb (k : UInt8) : List UInt8 := if k = 0 then [0x81] else if k = 1 then [0xa1, 0x00] else [0xc1]
def nestB (ks : List UInt8) : List UInt8 := ks.flatMap hb
theorem ha1 : hd 5 1 = [0xa1] := by decide
theorem hc1 : hd 6 1 = [0xc1] := by decide
def kindAt (ks : List UInt8) (i : Nat) : UInt8 := if h : ks = [] then 0 else (ks[i % ks.length]'(Nat.mod_lt _ (by cases ks with | nil => exact absurd rfl h | cons => simp))) % 3
def kindsTo (ks : List UInt8) : Nat → List UInt8
  | 0 => []
  | n + 1 => kindsTo ks n ++ [kindAt ks n]
end Go.Gk.Cb
end

section
set_option linter.unusedSimpArgs false
set_option linter.unusedVariables false
namespace Go.Gk.Cb
open Go Go.Gk
def mark : It := (0, 0, [109, 97, 114, 107], 0)
theorem wide_eq2 (v : List It) (hv : v.length ≤ 9000000) : F.law30_wide v = some (v ++ [mark, mark], v.length) := by
  unfold F.law30_wide
  rw [apO_ok (by simp; omega), bind_some', List.nil_append, apO_ok (by simp; omega), bind_some', Int.toNat_natCast, grd_true _ (by simp)]
  rfl
def Gd (v : List It) : Prop := wt v ≤ 4000000 ∧ Kd v ∧ (∀ x ∈ v, x.2.2.1.length ≤ 2000000)
theorem Gd.len {v : List It} (h : Gd v) : v.length ≤ 4000000 := by have := wt_len v; have := h.1; omega
theorem Gd.places {v : List It} (h : Gd v) (p : Int) (key : List It) : (∃ q, F.cbor_Behind v p = some q ∧ F.ref30_Behind v p = some q) ∧ ∃ q, F.cbor_Member v p key = some q ∧ F.ref30_Member v p key = some q :=
  have hw : wt v ≤ 4000000000000 := by have := h.1; omega
  ⟨Behind_both hw h.2.1 h.2.2 p, Member_both hw h.2.1 h.2.2 p key⟩
theorem printD_len (v : List It) : (printD v).1.length ≤ 65536 := by
  unfold printD
  split
  · simp
  · split
    · split
      · simp
      · simp only; omega
    · simp
def dk (v : List It) : List (List UInt8 × Int) := v.map fun x => (x.2.2.1, x.2.2.2)
def near (v u : List It) (i : Nat) : Prop := u.length = v.length ∧ ∀ j (h1 : j < v.length) (h2 : j < u.length), u[j].2.2.2 = v[j].2.2.2 ∧ u[j].2.2.1.length ≤ v[j].2.2.1.length + 1 ∧ (i ≤ j → u[j].2.2.1 = v[j].2.2.1)
def Gd1 (v : List It) : Prop := wt v ≤ 3000000 ∧ Kd v ∧ (∀ x ∈ v, x.2.2.1.length ≤ 1900000)
end Go.Gk.Cb
end

section
set_option linter.unusedSimpArgs false
set_option linter.unusedVariables false
namespace Go.Gk.Cb
open Go Go.Gk
theorem item_extE {w q : List It} {s1 s2 : Option Wr} (h : ∀ w1, s1 = some w1 → ∃ w2, s2 = some w2 ∧ Le_ w1 w2) : Le_ (itemE w s1) (itemE (w ++ q) s2) := by
  intro i x h1
  have h2 := item_mono h i x h1
  unfold itemE at h2 ⊢
  cases hx : w[i]? with
  | none => rw [hx] at h2; cases h2
  | some y =>
    have : (w ++ q)[i]? = some y := by rw [List.getElem?_append_left (List.getElem?_eq_some_iff.1 hx).1]; exact hx
    rw [this]
    rw [hx] at h2
    exact h2
theorem encD_extE (w q : List It) : ∀ d, Le_ (encD d w) (encD d (w ++ q))
  | 0 => item_extE (by simp)
  | d + 1 => item_extE (by intro w1 h; cases h; exact ⟨_, rfl, encD_extE w q d⟩)
def CutE (w : List It) (w1 w2 : Wr) : Prop := ∀ i t j, w2 i = some (t, j) → j ≤ w.length → w1 i = some (t, j)
def One (d : Nat) (w : List It) (t : List UInt8) : Prop := encD d w 0 = some (t, w.length)
theorem One.at_ {d : Nat} {w : List It} {t : List UInt8} (h : One d w t) (p q : List It) : encD d (p ++ (w ++ q)) p.length = some (t, p.length + w.length) := by
  have := encD_shift p (w ++ q) d 0
  rw [Nat.add_zero, encD_extE w q d 0 _ h] at this
  exact this
section
variable {w1 w2 w3 w4 : List It} {t1 t2 t3 t4 : List UInt8}
end
theorem Kd.cons {x : It} {b : List It} (hx : x.2.2.2 ≤ 9223372036854775807) (hb : Kd b) : Kd (x :: b) := fun y hy => (List.mem_cons.1 hy).elim (fun e => e ▸ hx) (hb y)
end Go.Gk.Cb
end

section
namespace Go.Gk.Cb
open Go Go.Gk
end Go.Gk.Cb
end

section
set_option linter.unusedSimpArgs false
set_option linter.unusedVariables false
namespace Go.Gk
open Go
theorem loop_oinr' {σ ρ : Type} {f : σ → Option (σ ⊕ ρ)} {s : σ} {X : Option ρ} (h : f s = oinr X) : loop f s = X := by
  rw [loop_eq, h]
  cases X <;> rfl
theorem fill_loop {τ ρ : Type} {f : Int × List τ → Option ((Int × List τ) ⊕ ρ)} {c : τ} {X : List τ → Option ρ}
    (hf : ∀ i l, f (i, l) = if decide (i < (l.length : Int)) = true then (obind (getO l i) fun _ => olet (l.set i.toNat c) fun y => oinl (wI (i + 1), y)) else oinr (X l))
    (l : List τ) (hl : l.length ≤ 4611686018427387904) : loop f (0, l) = X (List.replicate l.length c) := by
  have key : ∀ (r i : Nat) (m : List τ), i + r = m.length → m.length = l.length → m.take i = List.replicate i c → loop f ((i : Int), m) = X (List.replicate l.length c) := by
    intro r
    induction r with
    | zero =>
      intro i m h1 h2 h3
      have : m = List.replicate l.length c := by
        rw [← h2, show m.length = i by omega, ← h3, List.take_of_length_le (by omega)]
      have hd : decide ((i : Int) < (m.length : Int)) = false := decide_eq_false (by omega)
      refine loop_oinr' ?_
      rw [hf, hd, ← this]
      rfl
    | succ r ih =>
      intro i m h1 h2 h3
      have hi : i < m.length := by omega
      have hd : decide ((i : Int) < (m.length : Int)) = true := decide_eq_true (by omega)
      have hs : f ((i : Int), m) = some (.inl (((i + 1 : Nat) : Int), m.set i c)) := by
        rw [hf, hd, getO_lt hi]
        simp only [if_true, bind_some', olet_eq, Int.toNat_natCast]
        rw [wI_in (by omega) (by omega)]
        rfl
      rw [loop_inl hs]
      refine ih (i + 1) _ (by simp; omega) (by simp; omega) ?_
      rw [List.take_set, List.take_succ_eq_append_getElem hi, h3, List.set_append_right _ _ (by simp)]
      simp [List.replicate_succ']
  exact key l.length 0 l (by simp) rfl (by simp)
theorem look_loop {f : Int → Option (Int ⊕ Bool)} {τ : Type} {X : Option Bool} (n : Nat) (c d : τ) (pc pd : τ → Bool) (hc : pc c = false) (hdd : pd d = false) (hn : n ≤ 4611686018427387904)
    (hf : ∀ i, f i = if decide (i < ((List.replicate n c ++ List.replicate 70 d).length : Int)) = true then
      (if decide (i < ((List.replicate n c).length : Int)) = true then
        (obind (getO (List.replicate n c) i) fun x =>
          if pc x = true then (if true = true then oinr (some false) else oinl (wI (i + 1)))
          else (obind (getO (List.replicate n c ++ List.replicate 70 d) i) fun y =>
            if pc y = true then (if true = true then oinr (some false) else oinl (wI (i + 1)))
            else (if decide (((List.replicate n c).length : Int) ≤ i) = true then (obind (getO (List.replicate n c ++ List.replicate 70 d) i) fun z => if pd z = true then oinr (some false) else oinl (wI (i + 1)))
              else (if false = true then oinr (some false) else oinl (wI (i + 1))))))
      else (if decide (((List.replicate n c).length : Int) ≤ i) = true then (obind (getO (List.replicate n c ++ List.replicate 70 d) i) fun z => if pd z = true then oinr (some false) else oinl (wI (i + 1)))
        else (if false = true then oinr (some false) else oinl (wI (i + 1)))))
      else oinr X) : loop f 0 = X := by
  have key : ∀ (r i : Nat), i + r = n + 70 → loop f (i : Int) = X := by
    intro r
    induction r with
    | zero =>
      intro i h1
      have hd : decide ((i : Int) < ((List.replicate n c ++ List.replicate 70 d).length : Int)) = false := decide_eq_false (by simp; omega)
      refine loop_oinr' ?_
      rw [hf, hd]
      rfl
    | succ r ih =>
      intro i h1
      have hd : decide ((i : Int) < ((List.replicate n c ++ List.replicate 70 d).length : Int)) = true := decide_eq_true (by simp; omega)
      have hw : wI ((i : Int) + 1) = ((i + 1 : Nat) : Int) := by rw [wI_in (by omega) (by omega)]; rfl
      have hs : f (i : Int) = some (.inl (((i + 1 : Nat) : Int))) := by
        rw [hf, hd, hw]
        have hi2 : i < (List.replicate n c ++ List.replicate 70 d).length := by simp; omega
        by_cases h : i < n
        · have h2 : decide ((i : Int) < ((List.replicate n c).length : Int)) = true := decide_eq_true (by simp; omega)
          have h3 : decide (((List.replicate n c).length : Int) ≤ (i : Int)) = false := decide_eq_false (by simp; omega)
          have g1 : getO (List.replicate n c) (i : Int) = some c := by rw [getO_lt (by simpa using h)]; simp
          have g2 : getO (List.replicate n c ++ List.replicate 70 d) (i : Int) = some c := by rw [getO_lt hi2, List.getElem_append_left (by simpa using h), List.getElem_replicate]
          rw [h2, h3, g1, g2]
          simp only [bind_some', if_true, hc, Bool.false_eq_true, if_false]
          rfl
        · have h2 : decide ((i : Int) < ((List.replicate n c).length : Int)) = false := decide_eq_false (by simp; omega)
          have h3 : decide (((List.replicate n c).length : Int) ≤ (i : Int)) = true := decide_eq_true (by simp; omega)
          have g2 : getO (List.replicate n c ++ List.replicate 70 d) (i : Int) = some d := by rw [getO_lt hi2, List.getElem_append_right (by simp; omega), List.getElem_replicate]
          rw [h2, h3, g2]
          simp only [bind_some', if_true, hdd, Bool.false_eq_true, if_false]
          rfl
      rw [loop_inl hs]
      exact ih (i + 1) (by omega)
  exact key (n + 70) 0 (by omega)
theorem look_to {f : Int → Option (Int ⊕ Bool)} {τ : Type} {X r : Option Bool} (n : Nat) (c d : τ) (pc pd : τ → Bool) (hc : pc c = false) (hdd : pd d = false) (hn : n ≤ 4611686018427387904)
    (hf : ∀ i, f i = if decide (i < ((List.replicate n c ++ List.replicate 70 d).length : Int)) = true then
      (if decide (i < ((List.replicate n c).length : Int)) = true then
        (obind (getO (List.replicate n c) i) fun x =>
          if pc x = true then (if true = true then oinr (some false) else oinl (wI (i + 1)))
          else (obind (getO (List.replicate n c ++ List.replicate 70 d) i) fun y =>
            if pc y = true then (if true = true then oinr (some false) else oinl (wI (i + 1)))
            else (if decide (((List.replicate n c).length : Int) ≤ i) = true then (obind (getO (List.replicate n c ++ List.replicate 70 d) i) fun z => if pd z = true then oinr (some false) else oinl (wI (i + 1)))
              else (if false = true then oinr (some false) else oinl (wI (i + 1))))))
      else (if decide (((List.replicate n c).length : Int) ≤ i) = true then (obind (getO (List.replicate n c ++ List.replicate 70 d) i) fun z => if pd z = true then oinr (some false) else oinl (wI (i + 1)))
        else (if false = true then oinr (some false) else oinl (wI (i + 1)))))
      else oinr X) (hX : X = r) : loop f 0 = r := (look_loop n c d pc pd hc hdd hn hf).trans hX
theorem more_loop2 {τ σ ρ : Type} {f : List τ × List σ × Int → Option ((List τ × List σ × Int) ⊕ ρ)} {c : τ} {d : σ} {X : List τ → List σ → Option ρ} {b1 b2 : Nat}
    (hf : ∀ l m k, f (l, m, k) = if decide (k < 70) = true then (obind (apO b1 l [c]) fun y => obind (apO b2 m [d]) fun z => oinl (y, z, wI (k + 1))) else oinr (X l m))
    (l : List τ) (m : List σ) (hl : (l.length + 70) * b1 ≤ 225000000000000) (hm : (m.length + 70) * b2 ≤ 225000000000000) : loop f (l, m, 0) = X (l ++ List.replicate 70 c) (m ++ List.replicate 70 d) := by
  have key : ∀ (r i : Nat), i + r = 70 → loop f (l ++ List.replicate i c, m ++ List.replicate i d, (i : Int)) = X (l ++ List.replicate 70 c) (m ++ List.replicate 70 d) := by
    intro r
    induction r with
    | zero =>
      intro i h1
      have hd : decide ((i : Int) < 70) = false := decide_eq_false (by omega)
      have : i = 70 := by omega
      subst this
      refine loop_oinr' ?_
      rw [hf, hd]
      rfl
    | succ r ih =>
      intro i h1
      have hd : decide ((i : Int) < 70) = true := decide_eq_true (by omega)
      have hs : f (l ++ List.replicate i c, m ++ List.replicate i d, (i : Int)) = some (.inl (l ++ List.replicate (i + 1) c, m ++ List.replicate (i + 1) d, ((i + 1 : Nat) : Int))) := by
        rw [hf, hd, apO_ok (Nat.le_trans (Nat.mul_le_mul_right _ (by simp; omega)) hl), bind_some', apO_ok (Nat.le_trans (Nat.mul_le_mul_right _ (by simp; omega)) hm)]
        simp only [if_true, bind_some']
        rw [wI_in (by omega) (by omega), List.append_assoc, ← List.replicate_succ', List.append_assoc, ← List.replicate_succ']
        rfl
      rw [loop_inl hs]
      exact ih (i + 1) (by omega)
  simpa using key 70 0 (by omega)
end Go.Gk
end

section
set_option linter.unusedSimpArgs false
set_option linter.unusedVariables false
namespace Go.Gk.Cb
open Go Go.Gk
theorem CborSpares_true (b : List UInt8) (hb : b.length ≤ 140737488351232) : F.law30_CborSpares b = some true := by
  have P : ∃ R : List It × Int × Int, parseD b = R ∧ F.cbor_Print R.1 = some (printD R.1) ∧ R.1.length ≤ 9000000 := by
    rcases parse_cases b with ⟨v, hbl, hbv, hpb⟩ | ⟨e, p, he, hp0, hp1, hpb⟩
    · have hN := fine_of hbl hbv
      have hm := (itemD_moves b 32).1 _ _ _ hbv
      exact ⟨_, rfl, by rw [hpb]; exact print_eq hN.wt hN.kd, by rw [hpb]; simp only; omega⟩
    · exact ⟨_, rfl, by rw [hpb]; exact print_eq (by simp [wt]) (fun x hx => by cases hx), by rw [hpb]; simp⟩
  obtain ⟨R, hR, hP, hl⟩ := P
  have hpl := printD_len R.1
  generalize hC : printD R.1 = C at *
  unfold F.law30_CborSpares
  rw [awake_eq, bind_some', roomy_eq b (by omega), bind_some']
  simp only [List.take_left, not_true_f, Bool.false_eq_true, if_false, parse_eq, hR, hP, bind_some', bne_self_eq_false, sameI_eq _ _ (show R.1.length < 9223372036854775807 by omega), sameB_eq _ _ (show C.1.length < 9223372036854775807 by omega), beq_self_eq_true, F.law30_CborSpares_K1]
  rw [wide_eq2 _ hl, bind_some', roomy_eq _ (by omega), bind_some']
  rw [fill_loop (c := ((1000, 0, [], 0) : It)) (fun i l => rfl) _ (by omega), fill_loop (c := UInt8.ofInt 70) (fun i l => rfl) _ (by omega), fill_loop (c := ((1001, 0, [], 0) : It)) (fun i l => rfl) _ (by omega), fill_loop (c := UInt8.ofInt 71) (fun i l => rfl) _ (by omega)]
  rw [more_loop2 (c := ((5000, 0, [], 0) : It)) (d := UInt8.ofInt 80) (b1 := 40) (b2 := 1) (fun l m k => rfl) _ _ (by simp; omega) (by simp; omega), more_loop2 (c := ((5001, 0, [], 0) : It)) (d := UInt8.ofInt 81) (b1 := 40) (b2 := 1) (fun l m k => rfl) _ _ (by simp; omega) (by simp; omega)]
  refine look_to R.1.length ((1000, 0, [], 0) : It) (5000, 0, [], 0) (fun x => x.1 != 1000) (fun x => x.1 != 5000) rfl rfl (by omega) (fun i => rfl) ?_
  refine look_to C.1.length (UInt8.ofInt 70) (UInt8.ofInt 80) (fun x => x != UInt8.ofInt 70) (fun x => x != UInt8.ofInt 80) rfl rfl (by omega) (fun i => rfl) ?_
  refine look_to R.1.length ((1001, 0, [], 0) : It) (5001, 0, [], 0) (fun x => x.1 != 1001) (fun x => x.1 != 5001) rfl rfl (by omega) (fun i => rfl) ?_
  refine look_to C.1.length (UInt8.ofInt 71) (UInt8.ofInt 81) (fun x => x != UInt8.ofInt 71) (fun x => x != UInt8.ofInt 81) rfl rfl (by omega) (fun i => rfl) ?_
  simp only [List.take_left, parse_eq, hR, hP, bind_some', bne_self_eq_false, Bool.false_eq_true, if_false, sameI_eq _ _ (show R.1.length < 9223372036854775807 by omega), beq_self_eq_true, not_true_f, spared_eq b (by omega), F.law30_CborSpares_K6, if_true, sameB_eq _ _ (show C.1.length < 9223372036854775807 by omega)]
end Go.Gk.Cb
end
