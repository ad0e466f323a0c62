import Derived.Test.YtgjpaedgcpjigaaDoorGkQ6
import Derived.Test.YtgjpaedgcpjigaaDoorGkQ5
import Derived.KernelRfl
set_option linter.unusedVariables false
set_option linter.unusedSimpArgs false

section
set_option linter.unusedSimpArgs false
set_option linter.unusedVariables false
namespace Go.Gk.Cb
open Go Go.Gk
def Small (b : List UInt8) (rd : Rd) : Prop := ∀ i j is, i ≤ b.length → rd i = .ok (j, is) → ∀ x ∈ is, x.2.2.1.length ≤ b.length ∧ x.2.2.2 ≤ 2 * (b.length : Int)
theorem list_small {b : List UInt8} {rd : Rd} (hm : Moves b rd) (h : Small b rd) : ∀ (f n i j : Nat) (is : List It), i ≤ b.length → listD rd f n i = .ok (j, is) → ∀ x ∈ is, x.2.2.1.length ≤ b.length ∧ x.2.2.2 ≤ 2 * (b.length : Int)
  | f, 0, i, j, is, hi, h1 => by
    have : (i, ([] : List It)) = (j, is) := by cases f <;> (simp only [listD] at h1; cases h1; rfl)
    cases this; simp
  | 0, n + 1, i, j, is, hi, h1 => by simp only [listD] at h1; cases h1
  | f + 1, n + 1, i, j, is, hi, h1 => by
    simp only [listD] at h1
    cases h2 : rd i with
    | error e => rw [h2] at h1; cases h1
    | ok p =>
      obtain ⟨j1, is1⟩ := p
      rw [h2] at h1
      simp only at h1
      obtain ⟨m1, m2, _⟩ := hm.1 _ _ _ h2
      cases h3 : listD rd f n j1 with
      | error e => rw [h3] at h1; cases h1
      | ok q =>
        obtain ⟨k, js⟩ := q
        rw [h3] at h1
        cases h1
        intro x hx
        rcases List.mem_append.1 hx with hx | hx
        · exact h _ _ _ hi h2 x hx
        · exact list_small hm h f n j1 _ js m2 h3 x hx
theorem pairs_small {b : List UInt8} {rd : Rd} (hm : Moves b rd) (h : Small b rd) : ∀ (f n : Nat) (last : Option (List UInt8)) (i j : Nat) (is : List It), i ≤ b.length → pairsD rd b f n last i = .ok (j, is) → ∀ x ∈ is, x.2.2.1.length ≤ b.length ∧ x.2.2.2 ≤ 2 * (b.length : Int)
  | f, 0, last, i, j, is, hi, h1 => by
    have : (i, ([] : List It)) = (j, is) := by cases f <;> (simp only [pairsD] at h1; cases h1; rfl)
    cases this; simp
  | 0, n + 1, last, i, j, is, hi, h1 => by simp only [pairsD] at h1; cases h1
  | f + 1, n + 1, last, i, j, is, hi, h1 => by
    simp only [pairsD] at h1
    cases h2 : rd i with
    | error e => rw [h2] at h1; cases h1
    | ok p =>
      obtain ⟨j1, is1⟩ := p
      rw [h2] at h1
      simp only at h1
      obtain ⟨m1, m2, _⟩ := hm.1 _ _ _ h2
      split at h1
      · cases h1
      · cases h3 : rd j1 with
        | error e => rw [h3] at h1; cases h1
        | ok r =>
          obtain ⟨k, js⟩ := r
          rw [h3] at h1
          simp only at h1
          obtain ⟨m3, m4, _⟩ := hm.1 _ _ _ h3
          cases h4 : pairsD rd b f n (some (part b i j1)) k with
          | error e => rw [h4] at h1; cases h1
          | ok s =>
            obtain ⟨l, ks⟩ := s
            rw [h4] at h1
            cases h1
            intro x hx
            rcases List.mem_append.1 hx with hx | hx
            · rcases List.mem_append.1 hx with hx | hx
              · exact h _ _ _ hi h2 x hx
              · exact h _ _ _ m2 h3 x hx
            · exact pairs_small hm h f n _ k _ ks m4 h4 x hx
theorem item_small {b : List UInt8} {sub : Option Rd} (h : ∀ rd, sub = some rd → Moves b rd ∧ Small b rd) : Small b (itemS b sub) := by
  intro i j is hi h1
  unfold itemS at h1
  cases h2 : headD b i with
  | error e => rw [h2] at h1; cases h1
  | ok p =>
    obtain ⟨m, n, j1⟩ := p
    rw [h2] at h1
    obtain ⟨q1, q2, q3⟩ := headD_ok h2
    simp only at h1
    split at h1
    · cases sub with
      | none => cases h1
      | some rd =>
        obtain ⟨hm, hs⟩ := h rd rfl
        simp only [insD] at h1
        split at h1
        · cases h5 : listD rd (b.length + 1) n.toNat j1 with
          | error e => rw [h5] at h1; cases h1
          | ok r =>
            obtain ⟨k, js⟩ := r
            rw [h5] at h1; cases h1
            have m5 := (listD_moves hm _ _ _ q2).1 _ _ h5
            intro x hx
            rcases List.mem_cons.1 hx with rfl | hx
            · simp; omega
            · exact list_small hm hs _ _ _ _ _ q2 h5 x hx
        · split at h1
          · cases h5 : pairsD rd b (b.length + 1) n.toNat none j1 with
            | error e => rw [h5] at h1; cases h1
            | ok r =>
              obtain ⟨k, js⟩ := r
              rw [h5] at h1; cases h1
              have m5 := (pairsD_moves hm _ _ _ _ q2).1 _ _ h5
              intro x hx
              rcases List.mem_cons.1 hx with rfl | hx
              · simp; omega
              · exact pairs_small hm hs _ _ _ _ _ _ q2 h5 x hx
          · cases h5 : rd j1 with
            | error e => rw [h5] at h1; cases h1
            | ok r =>
              obtain ⟨k, js⟩ := r
              rw [h5] at h1; cases h1
              intro x hx
              rcases List.mem_cons.1 hx with rfl | hx
              · simp; omega
              · exact hs _ _ _ q2 h5 x hx
    · split at h1
      · split at h1
        · cases h1
        · split at h1
          · cases h1
          · cases h1
            intro x hx
            obtain rfl := List.mem_singleton.1 hx
            simp [part]; omega
      · cases h1
        intro x hx
        obtain rfl := List.mem_singleton.1 hx
        exact ⟨by simp, by simp only; omega⟩
theorem itemD_small (b : List UInt8) : ∀ d, Small b (itemD d b)
  | 0 => item_small (by simp)
  | d + 1 => item_small (by intro rd h; cases h; exact ⟨itemD_moves b d, itemD_small b d⟩)
theorem wt_le {v : List It} {D : Nat} (h : ∀ x ∈ v, x.2.2.1.length ≤ D) : wt v ≤ v.length * (9 + D) := by
  induction v with
  | nil => simp [wt]
  | cons x r ih =>
    have h1 := ih (fun y hy => h y (List.mem_cons_of_mem _ hy))
    have h2 := h x (by simp)
    simp only [wt, List.length_cons, Nat.add_mul]
    omega
def Neat (v : List It) : Prop := wt v ≤ 5000000000 ∧ (∀ x ∈ v, x.2.2.2 ≤ 131072) ∧ (∀ x ∈ v, x.2.2.1.length ≤ 65536)
theorem Neat.kd {v : List It} (h : Neat v) : Kd v := fun x hx => by have := h.2.1 x hx; omega
theorem Neat.wt {v : List It} (h : Neat v) : wt v ≤ 4000000000000 := by have := h.1; omega
theorem fine_of {b : List UInt8} {d j : Nat} {is : List It} (hb : b.length ≤ 65536) (h : itemD d b 0 = .ok (j, is)) : Neat is := by
  have hs := itemD_small b d 0 j is (by omega) h
  have hm := (itemD_moves b d).1 _ _ _ h
  have hw := wt_le (v := is) (D := 65536) (fun x hx => by have := (hs x hx).1; omega)
  have h2 : is.length * (9 + 65536) ≤ 65536 * (9 + 65536) := Nat.mul_le_mul_right _ (by omega)
  exact ⟨by omega, fun x hx => by have := (hs x hx).2; omega, fun x hx => by have := (hs x hx).1; omega⟩
theorem parse_cases (b : List UInt8) : (∃ is, b.length ≤ 65536 ∧ itemD 32 b 0 = .ok (b.length, is) ∧ parseD b = (is, 0, 0)) ∨ (∃ e p, e ≠ 0 ∧ 0 ≤ p ∧ p ≤ (b.length : Int) ∧ parseD b = ([], e, p)) := by
  unfold parseD
  split
  · exact .inr ⟨10, 0, by simp, by omega, by omega, rfl⟩
  · rename_i hb
    cases h : itemD 32 b 0 with
    | error e =>
      have := (itemD_moves b 32).2 0 e h (by omega)
      exact .inr ⟨e.1, e.2, this.1, this.2.1, this.2.2, rfl⟩
    | ok p =>
      obtain ⟨j, is⟩ := p
      have := (itemD_moves b 32).1 _ _ _ h
      simp only
      by_cases hj : j < b.length
      · rw [if_pos hj]; exact .inr ⟨220, j, by simp, by omega, by omega, rfl⟩
      · rw [if_neg hj]
        have : j = b.length := by omega
        subst this
        exact .inl ⟨is, by omega, rfl, rfl⟩
theorem enc_of_item {b : List UInt8} {d : Nat} {is : List It} (h : itemD d b 0 = .ok (b.length, is)) : encD d is 0 = some (b, is.length) := by
  have := itemD_rt b is d 0 b.length is 0 [] (by omega) h (by simp)
  simpa [part] using this
theorem print_parsed {b : List UInt8} {is : List It} (hb : b.length ≤ 65536) (h : itemD 32 b 0 = .ok (b.length, is)) : printD is = (b, 0) ∧ shapedD is = true := by
  have := enc_of_item h
  unfold printD shapedD
  rw [this]
  simp; omega
end Go.Gk.Cb
end

section
set_option linter.unusedSimpArgs false
set_option linter.unusedVariables false
namespace Go.Gk.Cb
open Go Go.Gk
def Beh (v : List It) (f : Int × Int → Option ((Int × Int) ⊕ Int)) (wr : Wr) (N : Nat) : Prop :=
  ∀ i t j (n : Nat), wr i = some (t, j) → n ≤ N → loop f ((i : Int), ((n + 1 : Nat) : Int)) = loop f ((j : Int), (n : Int))
def StepB (v : List It) (f : Int × Int → Option ((Int × Int) ⊕ Int)) : Prop :=
  ∀ (i n k : Nat) (hi : i < v.length), v[i].2.2.2 = (k : Int) → n + k ≤ 1000000000000000000 → i ≤ 1000000000000000000 → f ((i : Int), ((n + 1 : Nat) : Int)) = some (.inl (((i + 1 : Nat) : Int), ((n + k : Nat) : Int)))
theorem step_cbor (v : List It) : StepB v (F.cbor_behind_L1 v) := by
  intro i n k hi hk h1 h2
  have hd : decide ((0 : Int) < ((n + 1 : Nat) : Int)) = true := by simp only [decide_eq_true_eq]; omega
  simp only [F.cbor_behind_L1, hd, if_true, getO_lt hi, bind_some', olet_eq, hk]
  have e1 : wI ((k : Int) - 1) = (k : Int) - 1 := wI_in (by omega) (by omega)
  have e2 : wI (((n + 1 : Nat) : Int) + ((k : Int) - 1)) = ((n + k : Nat) : Int) := by rw [wI_in (by omega) (by omega)]; omega
  have e3 : wI ((i : Int) + 1) = ((i + 1 : Nat) : Int) := by rw [wI_in (by omega) (by omega)]; simp
  rw [e1, e2, e3]; rfl
theorem step_ref (v : List It) : StepB v (F.ref30_behind_L1 v) := by
  intro i n k hi hk h1 h2
  have hd : decide ((0 : Int) < ((n + 1 : Nat) : Int)) = true := by simp only [decide_eq_true_eq]; omega
  simp only [F.ref30_behind_L1, hd, if_true, getO_lt hi, bind_some', olet_eq, hk]
  have e1 : wI (((n + 1 : Nat) : Int) - 1) = (n : Int) := by rw [wI_in (by omega) (by omega)]; omega
  have e2 : wI ((n : Int) + (k : Int)) = ((n + k : Nat) : Int) := by rw [wI_in (by omega) (by omega)]; omega
  have e3 : wI ((i : Int) + 1) = ((i + 1 : Nat) : Int) := by rw [wI_in (by omega) (by omega)]; simp
  rw [e1, e2, e3]; rfl
theorem kids_beh {v : List It} {f : Int × Int → Option ((Int × Int) ⊕ Int)} {wr : Wr} {N : Nat} (hp : Put v wr) (h : Beh v f wr N) (pr : Bool) : ∀ (r : Nat) (key : Bool) (last : Option (List UInt8)) (i : Nat) (t : List UInt8) (j n : Nat),
    kidsE wr pr r key last i = some (t, j) → n + r ≤ N → loop f ((i : Int), ((n + r : Nat) : Int)) = loop f ((j : Int), (n : Int))
  | 0, key, last, i, t, j, n, h1, h2 => by
    simp only [kidsE] at h1; cases h1; rfl
  | r + 1, key, last, i, t, j, n, h1, h2 => by
    simp only [kidsE] at h1
    cases h3 : wr i with
    | none => rw [h3] at h1; cases h1
    | some a =>
      obtain ⟨t1, j1⟩ := a
      rw [h3] at h1
      simp only at h1
      split at h1
      · cases h1
      · cases h4 : kidsE wr pr r (!key) (if (pr && key) = true then some t1 else last) j1 with
        | none => rw [h4] at h1; cases h1
        | some b =>
          obtain ⟨u, k⟩ := b
          rw [h4] at h1
          cases h1
          rw [show n + (r + 1) = (n + r) + 1 by omega, h i t1 j1 (n + r) h3 (by omega)]
          exact kids_beh hp h pr r _ _ j1 u j n h4 (by omega)
theorem fit_kids {x : It} (h : fitE x) : 0 ≤ x.2.2.2 ∧ (¬ (x.1 = 4 ∨ x.1 = 5 ∨ x.1 = 6) → x.2.2.2 = 0) := by
  obtain ⟨m, n, d, k⟩ := x
  simp only
  rcases major_cases m with hm | hm | rfl | rfl | rfl | rfl | rfl | rfl | rfl | rfl <;> first
    | (exfalso; revert h; unfold fitE; simp only; rw [if_neg (by omega), if_neg (by omega), if_neg (by omega), if_neg (by omega), if_neg (by omega), if_neg (by omega), if_neg (by omega)]; simp; done)
    | (simp [fitE] at h; omega)
theorem item_beh {v : List It} {f : Int × Int → Option ((Int × Int) ⊕ Int)} {sub : Option Wr} {N : Nat} (hs : StepB v f) (hv : v.length ≤ 1000000000000000) (hN : N + v.length ≤ 1000000000000000000)
    (h : ∀ wr, sub = some wr → Put v wr ∧ Beh v f wr (N + v.length)) : Beh v f (itemE v sub) N := by
  intro i t j n h1 hn
  unfold itemE at h1
  cases hx : v[i]? with
  | none => rw [hx] at h1; cases h1
  | some x =>
    rw [hx] at h1
    obtain ⟨hi, hvx⟩ := List.getElem?_eq_some_iff.1 hx
    simp only at h1
    split at h1
    · cases h1
    · rename_i hf
      obtain ⟨k0, kz⟩ := fit_kids (Classical.not_not.1 hf)
      obtain ⟨k, hk⟩ := Int.eq_ofNat_of_zero_le k0
      split at h1
      · cases sub with
        | none => cases h1
        | some wr =>
          obtain ⟨hp, hb⟩ := h wr rfl
          simp only at h1
          cases h2 : kidsE wr (x.1 == 5) x.2.2.2.toNat true none (i + 1) with
          | none => rw [h2] at h1; cases h1
          | some a =>
            obtain ⟨u, j1⟩ := a
            rw [h2] at h1
            cases h1
            rw [hk, Int.toNat_natCast] at h2
            have m5 := kidsE_put hp _ _ _ _ _ _ _ (by omega) h2
            rw [loop_inl (hs i n k hi (by rw [hvx]; exact hk) (by omega) (by omega))]
            exact kids_beh hp hb _ k true none (i + 1) u j n h2 (by omega)
      · rename_i hkind
        cases h1
        have : k = 0 := by have := kz hkind; omega
        subst this
        rw [loop_inl (hs i n 0 hi (by rw [hvx]; exact hk) (by omega) (by omega))]
        rfl
theorem encD_beh {v : List It} {f : Int × Int → Option ((Int × Int) ⊕ Int)} (hs : StepB v f) (hv : v.length ≤ 1000000000000000) : ∀ (d N : Nat), N + (d + 1) * v.length ≤ 1000000000000000000 → Beh v f (encD d v) N
  | 0, N, h => item_beh hs hv (by omega) (by simp)
  | d + 1, N, h => by
    rw [Nat.add_mul] at h
    refine item_beh hs hv (by omega) (fun wr hw => ?_)
    cases hw
    exact ⟨encD_put v d, encD_beh hs hv d (N + v.length) (by omega)⟩
theorem behind_cbor {v : List It} {d i j : Nat} {t : List UInt8} (hv : v.length ≤ 1000000000000000) (hd : d ≤ 32) (h : encD d v i = some (t, j)) : F.cbor_behind v (i : Int) = some (j : Int) := by
  have hm : (d + 1) * v.length ≤ 33 * v.length := Nat.mul_le_mul_right _ (by omega)
  have := encD_beh (step_cbor v) hv d 0 (by omega) i t j 0 h (by omega)
  unfold F.cbor_behind
  rw [show ((1 : Int)) = ((0 + 1 : Nat) : Int) from rfl, this]
  exact loop_inr rfl
theorem behind_ref {v : List It} {d i j : Nat} {t : List UInt8} (hv : v.length ≤ 1000000000000000) (hd : d ≤ 32) (h : encD d v i = some (t, j)) : F.ref30_behind v (i : Int) = some (j : Int) := by
  have hm : (d + 1) * v.length ≤ 33 * v.length := Nat.mul_le_mul_right _ (by omega)
  have := encD_beh (step_ref v) hv d 0 (by omega) i t j 0 h (by omega)
  unfold F.ref30_behind
  rw [show ((1 : Int)) = ((0 + 1 : Nat) : Int) from rfl, this]
  exact loop_inr rfl
def Inn (v : List It) (D : Nat) (wr : Wr) : Prop := ∀ i t j a, wr i = some (t, j) → i ≤ a → a < j → ∃ d t' k, d ≤ D ∧ encD d v a = some (t', k) ∧ k ≤ j
theorem kids_inn {v : List It} {D : Nat} {wr : Wr} (hp : Put v wr) (h : Inn v D wr) (pr : Bool) : ∀ (r : Nat) (key : Bool) (last : Option (List UInt8)) (i : Nat) (t : List UInt8) (j a : Nat), i ≤ v.length →
    kidsE wr pr r key last i = some (t, j) → i ≤ a → a < j → ∃ d t' k, d ≤ D ∧ encD d v a = some (t', k) ∧ k ≤ j
  | 0, key, last, i, t, j, a, hi, h1, h2, h3 => by simp only [kidsE] at h1; cases h1; omega
  | r + 1, key, last, i, t, j, a, hi, h1, h2, h3 => by
    simp only [kidsE] at h1
    cases h4 : wr i with
    | none => rw [h4] at h1; cases h1
    | some b =>
      obtain ⟨t1, j1⟩ := b
      rw [h4] at h1
      simp only at h1
      obtain ⟨m1, m2, _⟩ := hp _ _ _ h4
      split at h1
      · cases h1
      · cases h5 : kidsE wr pr r (!key) (if (pr && key) = true then some t1 else last) j1 with
        | none => rw [h5] at h1; cases h1
        | some c =>
          obtain ⟨u, k⟩ := c
          rw [h5] at h1
          cases h1
          have m5 := kidsE_put hp _ _ _ _ _ _ _ m2 h5
          rcases Nat.lt_or_ge a j1 with ha | ha
          · obtain ⟨d, t', k', hd, e1, e2⟩ := h i t1 j1 a h4 h2 ha
            exact ⟨d, t', k', hd, e1, by omega⟩
          · exact kids_inn hp h pr r _ _ j1 u j a m2 h5 ha h3
theorem encD_inn (v : List It) : ∀ d, Inn v d (encD d v) := by
  have key : ∀ (d : Nat) (sub : Option Wr) (hs : ∀ wr, sub = some wr → Put v wr ∧ Inn v d wr) (he : encD d v = itemE v sub), Inn v d (itemE v sub) := by
    intro d sub hs he i t j a h1 h2 h3
    rcases Nat.eq_or_lt_of_le h2 with rfl | h2'
    · exact ⟨d, t, j, by omega, by rw [he]; exact h1, by omega⟩
    · unfold itemE at h1
      cases hx : v[i]? with
      | none => rw [hx] at h1; cases h1
      | some x =>
        rw [hx] at h1
        obtain ⟨hi, hvx⟩ := List.getElem?_eq_some_iff.1 hx
        simp only at h1
        split at h1
        · cases h1
        · split at h1
          · cases sub with
            | none => cases h1
            | some wr =>
              obtain ⟨hp, hn⟩ := hs wr rfl
              simp only at h1
              cases h4 : kidsE wr (x.1 == 5) x.2.2.2.toNat true none (i + 1) with
              | none => rw [h4] at h1; cases h1
              | some b =>
                obtain ⟨u, j1⟩ := b
                rw [h4] at h1
                cases h1
                exact kids_inn hp hn _ _ _ _ _ _ _ a (by omega) h4 (by omega) h3
          · cases h1; omega
  intro d
  induction d with
  | zero => exact key 0 none (by simp) rfl
  | succ d ih =>
    refine key (d + 1) (some (encD d v)) (fun wr hw => ?_) rfl
    cases hw
    refine ⟨encD_put v d, fun i t j a h1 h2 h3 => ?_⟩
    obtain ⟨d', t', k, hd, e⟩ := ih i t j a h1 h2 h3
    exact ⟨d', t', k, by omega, e⟩
def memE (v : List It) (wr : Wr) (key : List It) : Nat → Nat → Int
  | 0, _ => -1
  | r + 1, i => match wr i with
    | none => -1
    | some (_, j) => if seg v i j = key then (j : Int) else match wr j with
      | none => -1
      | some (_, k) => memE v wr key r k
theorem same_gen {τ : Type} [DecidableEq τ] {f : Int → Option (Int ⊕ Bool)} {a b : List τ} {m : Nat} (hm : m ≤ a.length) (hm2 : m ≤ b.length) (hb : m < 9223372036854775807) (R : Bool)
    (hend : f (m : Int) = some (.inr R)) (hstep : ∀ i : Nat, (h : i < m) → f (i : Int) = some (if a[i] = b[i] then .inl (((i + 1 : Nat)) : Int) else .inr false)) :
    loop f 0 = some (if a.take m = b.take m then R else false) := by
  have key : ∀ k i, m - i = k → i ≤ m → a.take i = b.take i → loop f (i : Int) = some (if a.take m = b.take m then R else false) := by
    intro k
    induction k with
    | zero =>
      intro i h1 h2 h3
      have : i = m := by omega
      subst this
      rw [loop_inr hend, if_pos h3]
    | succ k ih =>
      intro i h1 h2 h3
      have hi : i < m := by omega
      have hs := hstep i hi
      by_cases he : a[i] = b[i]
      · rw [if_pos he] at hs
        rw [loop_inl hs]
        refine ih (i + 1) (by omega) (by omega) ?_
        rw [List.take_succ_eq_append_getElem (by omega), List.take_succ_eq_append_getElem (by omega), h3, he]
      · rw [if_neg he] at hs
        rw [loop_inr hs, if_neg]
        intro h4
        apply he
        have := congrArg (fun l => l[i]?) h4
        simp only [List.getElem?_take, if_pos hi] at this
        rw [List.getElem?_eq_getElem (by omega), List.getElem?_eq_getElem (by omega)] at this
        exact Option.some.inj this
  exact key m 0 (by omega) (by omega) (by simp)
theorem same_cbor (a b : List It) (ha : a.length < 9223372036854775807) : F.cbor_same a b = some (a == b) := by
  unfold F.cbor_same
  have hmin : (min (a.length : Int) (b.length : Int)) = ((min a.length b.length : Nat) : Int) := by omega
  rw [same_gen (a := a) (b := b) (m := min a.length b.length) (by omega) (by omega) (by omega) ((a.length : Int) == (b.length : Int))]
  · congr 1
    by_cases hl : a.length = b.length
    · rw [hl]
      simp only [Nat.min_self, beq_self_eq_true]
      rw [List.take_of_length_le (by omega), List.take_of_length_le (by omega)]
      by_cases h : a = b <;> simp [h]
    · have h1 : ((a.length : Int) == (b.length : Int)) = false := by simp; omega
      have h2 : a ≠ b := fun h => hl (by rw [h])
      simp [h1, h2]
  · simp only [F.cbor_same_L1, hmin]
    simp only [Int.lt_irrefl, decide_false, Bool.false_eq_true, if_false]; rfl
  · intro i hi
    have hd : decide ((i : Int) < ((min a.length b.length : Nat) : Int)) = true := by simp; omega
    have e3 : wI ((i : Int) + 1) = ((i + 1 : Nat) : Int) := by rw [wI_in (by omega) (by omega)]; simp
    have hia : i < a.length := by omega
    have hib : i < b.length := by omega
    simp only [F.cbor_same_L1, hmin, hd, if_true, getO_lt hia, getO_lt hib, bind_some', e3]
    by_cases he : a[i] = b[i]
    · rw [if_pos he, he]; simp only [bne_self_eq_false, Bool.false_eq_true, if_false]; rfl
    · have : (a[i] != b[i]) = true := by simpa using he
      simp only [this, if_true, if_neg he]; rfl
theorem same_ref (a b : List It) (ha : a.length < 9223372036854775807) : F.ref30_same a b = some (a == b) := by
  have : F.ref30_same a b = F.law30_same a b := rfl
  rw [this, sameI_eq a b ha]
section
variable {v : List It} {d : Nat}
theorem slO_seg {i j : Nat} (h : i ≤ j) (h2 : j ≤ v.length) : slO v (i : Int) (j : Int) = some (seg v i j) := slO_ok h h2
theorem member_cbor (hv : v.length ≤ 1000000000000000) (hd : d ≤ 32) (key : List It) (x : It) (K : Nat) (hx : wI (Int.tdiv x.2.2.2 2) = (K : Int)) (hK9 : K ≤ 4611686018427387904) : ∀ (r c i : Nat) (last : Option (List UInt8)) (t : List UInt8) (j : Nat),
    kidsE (encD d v) true (2 * r) true last i = some (t, j) → c + r = K → i ≤ v.length → loop (F.cbor_Member_L1 v key x) ((i : Int), (c : Int)) = some (memE v (encD d v) key r i)
  | 0, c, i, last, t, j, h1, h2, h3 => by
    refine loop_inr ?_
    have : decide ((c : Int) < (K : Int)) = false := by simp; omega
    simp only [F.cbor_Member_L1, hx, this, Bool.false_eq_true, if_false, memE]; rfl
  | r + 1, c, i, last, t, j, h1, h2, h3 => by
    rw [show 2 * (r + 1) = 2 * r + 1 + 1 by omega] at h1
    simp only [kidsE] at h1
    cases h4 : encD d v i with
    | none => rw [h4] at h1; cases h1
    | some a =>
      obtain ⟨t1, j1⟩ := a
      rw [h4] at h1
      obtain ⟨m1, m2, m3⟩ := encD_put v d i t1 j1 h4
      simp only [Bool.true_and, Bool.not_true, Bool.false_and, Bool.and_false, Bool.false_eq_true, if_false, if_true] at h1
      split at h1
      · cases h1
      · cases h5 : encD d v j1 with
        | none => rw [h5] at h1; cases h1
        | some b =>
          obtain ⟨t2, j2⟩ := b
          rw [h5] at h1
          obtain ⟨m4, m5, m6⟩ := encD_put v d j1 t2 j2 h5
          simp only [Bool.not_false] at h1
          cases h6 : kidsE (encD d v) true (2 * r) true (some t1) j2 with
          | none => rw [h6] at h1; cases h1
          | some e =>
            obtain ⟨u, k⟩ := e
            have hlt : decide ((c : Int) < (K : Int)) = true := by simp; omega
            have e1 := behind_cbor hv hd h4
            have e2 := behind_cbor hv hd h5
            have hsl := slO_seg (v := v) (i := i) (j := j1) (by omega) (by omega)
            have hlen : (seg v i j1).length < 9223372036854775807 := by simp [seg]; omega
            have hc1 : wI ((c : Int) + 1) = ((c + 1 : Nat) : Int) := by rw [wI_in (by omega) (by omega)]; simp
            simp only [memE, h4, h5]
            by_cases hk : seg v i j1 = key
            · refine loop_inr ?_
              have hb : (seg v i j1 == key) = true := by simpa using hk
              simp only [F.cbor_Member_L1, hx, hlt, if_true, e1, bind_some', hsl, same_cbor _ _ hlen, hb, if_pos hk]; rfl
            · have hb : (seg v i j1 == key) = false := by simpa using hk
              have hs : F.cbor_Member_L1 v key x ((i : Int), (c : Int)) = some (.inl ((j2 : Int), ((c + 1 : Nat) : Int))) := by
                simp only [F.cbor_Member_L1, hx, hlt, if_true, e1, bind_some', hsl, same_cbor _ _ hlen, hb, Bool.false_eq_true, if_false, e2, hc1]; rfl
              rw [loop_inl hs, if_neg hk]
              exact member_cbor hv hd key x K hx hK9 r (c + 1) j2 _ u k h6 (by omega) m5
theorem member_ref (hv : v.length ≤ 1000000000000000) (hd : d ≤ 32) (key : List It) (p : Nat) (hp : p < v.length) (K : Nat) (hx : wI (Int.tdiv v[p].2.2.2 2) = (K : Int)) (hK9 : K ≤ 4611686018427387904) : ∀ (r c i : Nat) (last : Option (List UInt8)) (t : List UInt8) (j : Nat),
    kidsE (encD d v) true (2 * r) true last i = some (t, j) → c + r = K → i ≤ v.length → loop (F.ref30_Member_L1 v (p : Int) key) ((i : Int), (c : Int)) = some (memE v (encD d v) key r i)
  | 0, c, i, last, t, j, h1, h2, h3 => by
    refine loop_inr ?_
    have : decide ((c : Int) < (K : Int)) = false := by simp; omega
    simp only [F.ref30_Member_L1, getO_lt hp, bind_some', hx, this, Bool.false_eq_true, if_false, memE]; rfl
  | r + 1, c, i, last, t, j, h1, h2, h3 => by
    rw [show 2 * (r + 1) = 2 * r + 1 + 1 by omega] at h1
    simp only [kidsE] at h1
    cases h4 : encD d v i with
    | none => rw [h4] at h1; cases h1
    | some a =>
      obtain ⟨t1, j1⟩ := a
      rw [h4] at h1
      obtain ⟨m1, m2, m3⟩ := encD_put v d i t1 j1 h4
      simp only [Bool.true_and, Bool.not_true, Bool.false_and, Bool.and_false, Bool.false_eq_true, if_false, if_true] at h1
      split at h1
      · cases h1
      · cases h5 : encD d v j1 with
        | none => rw [h5] at h1; cases h1
        | some b =>
          obtain ⟨t2, j2⟩ := b
          rw [h5] at h1
          obtain ⟨m4, m5, m6⟩ := encD_put v d j1 t2 j2 h5
          simp only [Bool.not_false] at h1
          cases h6 : kidsE (encD d v) true (2 * r) true (some t1) j2 with
          | none => rw [h6] at h1; cases h1
          | some e =>
            obtain ⟨u, k⟩ := e
            have hlt : decide ((c : Int) < (K : Int)) = true := by simp; omega
            have e1 := behind_ref hv hd h4
            have e2 := behind_ref hv hd h5
            have hsl := slO_seg (v := v) (i := i) (j := j1) (by omega) (by omega)
            have hlen : (seg v i j1).length < 9223372036854775807 := by simp [seg]; omega
            have hc1 : wI ((c : Int) + 1) = ((c + 1 : Nat) : Int) := by rw [wI_in (by omega) (by omega)]; simp
            simp only [memE, h4, h5]
            by_cases hk : seg v i j1 = key
            · refine loop_inr ?_
              have hb : (seg v i j1 == key) = true := by simpa using hk
              simp only [F.ref30_Member_L1, getO_lt hp, hx, hlt, if_true, e1, bind_some', hsl, same_ref _ _ hlen, hb, if_pos hk]; rfl
            · have hb : (seg v i j1 == key) = false := by simpa using hk
              have hs : F.ref30_Member_L1 v (p : Int) key ((i : Int), (c : Int)) = some (.inl ((j2 : Int), ((c + 1 : Nat) : Int))) := by
                simp only [F.ref30_Member_L1, getO_lt hp, hx, hlt, if_true, e1, bind_some', hsl, same_ref _ _ hlen, hb, Bool.false_eq_true, if_false, e2, hc1]; rfl
              rw [loop_inl hs, if_neg hk]
              exact member_ref hv hd key p hp K hx hK9 r (c + 1) j2 _ u k h6 (by omega) m5
end
theorem at_shaped {v : List It} (hs : shapedD v = true) {a : Nat} (ha : a < v.length) : ∃ d t k, d ≤ 32 ∧ encD d v a = some (t, k) := by
  unfold shapedD at hs
  cases h : encD 32 v 0 with
  | none => rw [h] at hs; cases hs
  | some b =>
    obtain ⟨t, j⟩ := b
    rw [h] at hs
    have : j = v.length := by simpa using hs
    subst this
    obtain ⟨d, t', k, h1, h2, _⟩ := encD_inn v 32 0 t v.length a h (by omega) ha
    exact ⟨d, t', k, h1, h2⟩
theorem map_kids {v : List It} {d a k : Nat} {t : List UInt8} (h : encD d v a = some (t, k)) (ha : a < v.length) (h5 : v[a].1 = 5) :
    ∃ d' u, d = d' + 1 ∧ kidsE (encD d' v) true v[a].2.2.2.toNat true none (a + 1) = some (u, k) ∧ 0 ≤ v[a].2.2.2 ∧ v[a].2.2.2 % 2 = 0 := by
  have key : ∀ sub, itemE v sub a = some (t, k) → ∃ wr u, sub = some wr ∧ kidsE wr true v[a].2.2.2.toNat true none (a + 1) = some (u, k) ∧ 0 ≤ v[a].2.2.2 ∧ v[a].2.2.2 % 2 = 0 := by
    intro sub h1
    unfold itemE at h1
    rw [List.getElem?_eq_getElem ha] at h1
    simp only at h1
    split at h1
    · cases h1
    · rename_i hf
      have hf' := Classical.not_not.1 hf
      rw [if_pos (by omega)] at h1
      cases sub with
      | none => cases h1
      | some wr =>
        simp only at h1
        have e5 : (v[a].1 == 5) = true := by simpa using h5
        rw [e5] at h1
        split at h1
        · cases h1
        · rename_i t1 j1 hk
          cases h1
          have : 0 ≤ v[a].2.2.2 ∧ v[a].2.2.2 % 2 = 0 := by
            revert hf'
            unfold fitE
            rw [h5]
            simp
          exact ⟨wr, t1, rfl, hk, this.1, this.2⟩
  cases d with
  | zero => obtain ⟨wr, u, h1, _⟩ := key none h; cases h1
  | succ d =>
    obtain ⟨wr, u, h1, h2, h3⟩ := key _ h
    cases h1
    exact ⟨d, u, rfl, h2, h3⟩
end Go.Gk.Cb
end

section
set_option linter.unusedSimpArgs false
set_option linter.unusedVariables false
namespace Go.Gk.Cb
open Go Go.Gk
theorem p1 : parseD [161, 97, 97, 130, 1, 245] = ([(5, 0, [], 2), (3, 0, [97], 0), (4, 0, [], 2), (0, 1, [], 0), (7, 21, [], 0)], 0, 0) := by kernel_rfl
theorem p2 : printD [(4, 0, [], 2), (1, 99, [], 0), (2, 0, [120, 121], 0)] = ([130, 56, 99, 66, 120, 121], 0) := by kernel_rfl
theorem p3 : parseD [130, 24, 23, 0] = ([], 220, 1) := by kernel_rfl
theorem p4 : shapedD [(5, 0, [], 2), (3, 0, [97], 0), (4, 0, [], 2), (0, 1, [], 0), (7, 21, [], 0)] = true := by kernel_rfl
theorem p5 : encD 31 [(5, 0, [], 2), (3, 0, [97], 0), (4, 0, [], 2), (0, 1, [], 0), (7, 21, [], 0)] 1 = some ([97, 97], 2) := by kernel_rfl
theorem p6 : encD 31 [(5, 0, [], 2), (3, 0, [97], 0), (4, 0, [], 2), (0, 1, [], 0), (7, 21, [], 0)] 2 = some ([130, 1, 245], 5) := by kernel_rfl
theorem not_true_f : (!true) = false := rfl
end Go.Gk.Cb
end
