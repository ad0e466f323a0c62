/- CBOR: the document's reader computes what 'itemD' says. No program. -/
import Derived.Test.YtcdneplfgppapaaDoorGkQ1
set_option linter.unusedSimpArgs false
set_option linter.unusedVariables false
namespace Go.Gk.Cb
open Go Go.Gk

theorem fail0 (b : List UInt8) (i : Int) (out : List It) (e p : Int) (x y : Int) (hx : x = 0) : F.ref30_Reader_fail b i out x y e p = some (b, i, out, e, p) := by
  subst hx; rfl

theorem tdiv32 (c : Nat) (h : c < 256) : wI (Int.tdiv (c : Int) 32) = ((c / 32 : Nat) : Int) := by
  have : Int.tdiv (c : Int) 32 = ((c / 32 : Nat) : Int) := by rw [Int.tdiv_eq_ediv_of_nonneg (by omega)]; simp
  rw [this, wI_in (by omega) (by omega)]
theorem tmod32 (c : Nat) : Int.tmod (c : Int) 32 = ((c % 32 : Nat) : Int) := by
  rw [Int.tmod_eq_emod_of_nonneg (by omega)]; simp

theorem head_eq (b : List UInt8) (i : Nat) (out : List It) (hb : b.length ≤ 65536) (hi : i ≤ b.length) :
    ∃ j : Int, F.ref30_Reader_head b i out 0 0 = some (match headD b i with
      | .ok (m, n, k) => ((m : Int), n, b, (k : Int), out, (0 : Int), (0 : Int))
      | .error e => (0, 0, b, j, out, e.1, e.2)) := by
  unfold F.ref30_Reader_head headD
  by_cases hl : i = b.length
  · subst hl
    refine ⟨(b.length : Int), ?_⟩
    simp [F.ref30_Reader_fail]
  · have hlt : i < b.length := by omega
    have h0 : decide ((b.length : Int) ≤ (i : Int)) = false := by simp; omega
    have hc := (b[i]).toNat_lt
    have hc : (b[i]).toNat < 256 := hc
    simp only [h0, Bool.false_eq_true, if_false, getO_lt hlt, bind_some', olet_eq, tdiv32 _ hc, tmod32, List.getElem?_eq_getElem hlt]
    generalize b[i] = c at hc ⊢
    have hw : wI ((i : Int) + 1) = ((i + 1 : Nat) : Int) := by rw [wI_in (by omega) (by omega)]; simp
    have kT : ∃ j : Int, F.ref30_Reader_head_K1 b i out 0 0 ((c.toNat / 32 : Nat) : Int) ((c.toNat % 32 : Nat) : Int) true = some ((0 : Int), (0 : UInt64), b, j, out, (220 : Int), (i : Int)) := ⟨_, rfl⟩
    have kF : c.toNat % 32 ≤ 27 → ∃ j : Int, F.ref30_Reader_head_K1 b i out 0 0 ((c.toNat / 32 : Nat) : Int) ((c.toNat % 32 : Nat) : Int) false = some (match (if c.toNat % 32 < 24 then .ok (c.toNat / 32, UInt64.ofNat (c.toNat % 32), i + 1)
        else if b.length - (i + 1) < 2 ^ (c.toNat % 32 - 24) then .error (220, (b.length : Int))
        else if wd (nbe ((b.drop (i + 1)).take (2 ^ (c.toNat % 32 - 24)))) ≠ 2 ^ (c.toNat % 32 - 24) then .error (220, (i : Int))
        else .ok (c.toNat / 32, nbe ((b.drop (i + 1)).take (2 ^ (c.toNat % 32 - 24))), i + 1 + 2 ^ (c.toNat % 32 - 24)) : Except Er (Nat × UInt64 × Nat)) with
      | .ok (m, n, k) => ((m : Int), n, b, (k : Int), out, (0 : Int), (0 : Int))
      | .error e => (0, 0, b, j, out, e.1, e.2)) := by
      intro hk
      unfold F.ref30_Reader_head_K1
      simp only [Bool.false_eq_true, if_false]
      by_cases h24 : c.toNat % 32 < 24
      · have d1 : decide (((c.toNat % 32 : Nat) : Int) < 24) = true := by simp; omega
        refine ⟨0, ?_⟩
        simp only [d1, h24, if_true, hw, ofInt64]
      · have d1 : decide (((c.toNat % 32 : Nat) : Int) < 24) = false := by simp; omega
        have e1 : wI (((c.toNat % 32 : Nat) : Int) - 24) = ((c.toNat % 32 - 24 : Nat) : Int) := by rw [wI_in (by omega) (by omega)]; omega
        have e5 : (UInt64.ofNat (c.toNat % 32 - 24)).toNat = c.toNat % 32 - 24 := by simp; omega
        simp only [d1, h24, if_false, Bool.false_eq_true, e1, ofInt64, e5, hw]
        rw [olet_eq, size_eq _ (by omega) hk]
        have hp := pow_le8 _ hk
        generalize 2 ^ (c.toNat % 32 - 24) = s at hp ⊢
        have e2 : wI ((b.length : Int) - ((i + 1 : Nat) : Int)) = ((b.length - (i + 1) : Nat) : Int) := by rw [wI_in (by omega) (by omega)]; omega
        rw [e2]
        by_cases hs : b.length - (i + 1) < s
        · have d2 : decide (((b.length - (i + 1) : Nat) : Int) < (s : Int)) = true := by simp; omega
          refine ⟨((i + 1 : Nat) : Int), ?_⟩
          simp only [d2, hs, if_true, fail0, bind_some']
        · have d2 : decide (((b.length - (i + 1) : Nat) : Int) < (s : Int)) = false := by simp; omega
          have e3 : wI (((i + 1 : Nat) : Int) + (s : Int)) = ((i + 1 + s : Nat) : Int) := by rw [wI_in (by omega) (by omega)]; simp
          simp only [d2, hs, if_false, Bool.false_eq_true]
          have hL : ((b.drop (i + 1)).take s).length = s := by simp; omega
          have hg : ∀ k, k < s → b[i + 1 + k]? = ((b.drop (i + 1)).take s)[k]? := fun k hk => by
            rw [List.getElem?_take, if_pos hk, List.getElem?_drop]
          generalize (b.drop (i + 1)).take s = L at hL hg ⊢
          have key : ∀ q k, s - k = q → k ≤ s → loop (F.ref30_Reader_head_L1 b i out 0 0 ((c.toNat / 32 : Nat) : Int) s) (nbe (L.take k), (k : Int)) =
              some (if wd (nbe L) ≠ s then ((0 : Int), (0 : UInt64), b, ((i + 1 + s : Nat) : Int), out, (220 : Int), (i : Int)) else (((c.toNat / 32 : Nat) : Int), nbe L, b, ((i + 1 + s : Nat) : Int), out, 0, 0)) := by
            intro q
            induction q with
            | zero =>
              intro k h1 h2
              have : k = s := by omega
              subst this
              refine loop_inr ?_
              have d3 : decide (((k : Nat) : Int) < (k : Int)) = false := by simp
              simp only [F.ref30_Reader_head_L1, d3, Bool.false_eq_true, if_false, wide_eq, bind_some', hw, e3]
              rw [List.take_of_length_le (by omega)]
              by_cases hwd : wd (nbe L) = k
              · simp only [hwd, bne_self_eq_false, Bool.false_eq_true, if_false, oinr, ne_eq, not_true, Option.map_some]
              · have : ((wd (nbe L) : Int) != (k : Int)) = true := by simp; omega
                simp only [this, if_true, oinr, hwd, ne_eq, not_false_eq_true, Option.map_some, fail0, bind_some']
            | succ q ih =>
              intro k h1 h2
              have hk2 : k < L.length := by omega
              have d3 : decide (((k : Nat) : Int) < (s : Int)) = true := by simp; omega
              have e4 : wI ((k : Int) + 1) = ((k + 1 : Nat) : Int) := by rw [wI_in (by omega) (by omega)]; simp
              have e6 : wI (((i + 1 : Nat) : Int) + (k : Int)) = ((i + 1 + k : Nat) : Int) := by rw [wI_in (by omega) (by omega)]; simp
              have g6 : getO b ((i + 1 + k : Nat) : Int) = some L[k] := by rw [getO_nat, hg k (by omega)]; simp [hk2]
              have hs2 : F.ref30_Reader_head_L1 b i out 0 0 ((c.toNat / 32 : Nat) : Int) s (nbe (L.take k), (k : Int)) = some (.inl (nbe (L.take (k + 1)), ((k + 1 : Nat) : Int))) := by
                simp only [F.ref30_Reader_head_L1, d3, if_true, hw, e6, g6, bind_some', olet_eq, e4, nbe_take_succ L k hk2]
                rfl
              rw [loop_inl hs2]
              exact ih (k + 1) (by omega) (by omega)
          have := key s 0 (by omega) (by omega)
          simp only [List.take_zero] at this
          have this : loop (F.ref30_Reader_head_L1 b i out 0 0 ((c.toNat / 32 : Nat) : Int) s) (0, 0) = _ := this
          refine ⟨((i + 1 + s : Nat) : Int), ?_⟩
          rw [this]
          by_cases hwd : wd (nbe L) = s <;> simp [hwd]
    by_cases h27 : 27 < c.toNat % 32
    · have d : decide ((27 : Int) < ((c.toNat % 32 : Nat) : Int)) = true := by simp; omega
      simp only [d, if_true, h27, true_or]
      exact kT
    · have d : decide ((27 : Int) < ((c.toNat % 32 : Nat) : Int)) = false := by simp; omega
      simp only [d, if_false, h27, false_or, Bool.false_eq_true]
      by_cases h7 : c.toNat / 32 = 7
      · have d7 : (((c.toNat / 32 : Nat) : Int) == 7) = true := by simp; omega
        simp only [d7, if_true, h7, true_and]
        by_cases h20 : c.toNat % 32 < 20
        · have d20 : decide (((c.toNat % 32 : Nat) : Int) < 20) = true := by simp; omega
          simp only [d20, if_true, h20, true_or]
          rw [h7] at kT
          exact kT
        · have d20 : decide (((c.toNat % 32 : Nat) : Int) < 20) = false := by simp; omega
          simp only [d20, if_false, h20, false_or, Bool.false_eq_true]
          by_cases h22 : 22 < c.toNat % 32
          · have d22 : decide ((22 : Int) < ((c.toNat % 32 : Nat) : Int)) = true := by simp; omega
            simp only [d22, if_true, h22]
            rw [h7] at kT
            exact kT
          · have d22 : decide ((22 : Int) < ((c.toNat % 32 : Nat) : Int)) = false := by simp; omega
            simp only [d22, if_false, h22]
            have := kF (by omega)
            rw [h7] at this
            exact this
      · have d7 : (((c.toNat / 32 : Nat) : Int) == 7) = false := by simp; omega
        simp only [d7, if_false, h7, false_and, Bool.false_eq_true]
        exact kF (by omega)

abbrev RR := List UInt8 × Int × List It × Int × Int
/-- what the reader is left as -/
def Res (b : List UInt8) (out : List It) (x : Except Er (Nat × List It)) (r : RR) : Prop := match x with
  | .ok (j, is) => r = (b, (j : Int), out ++ is, 0, 0)
  | .error e => ∃ (p : Int) (q : List It), out.length ≤ q.length ∧ r = (b, p, q, e.1, e.2)

/-- A reader of items that does what 'rec' says. -/
def Does (b : List UInt8) (rc : List UInt8 → Int → List It → Int → Int → Option RR) (rec : Rd) : Prop :=
  ∀ (i : Nat) (out : List It), i ≤ b.length → out.length ≤ i → ∃ r, rc b i out 0 0 = some r ∧ Res b out (rec i) r

theorem wI_nn (n : Nat) (h : n < 9223372036854775808) : wI (n : Int) = n := wI_nat n h

section
variable {b : List UInt8} {rec : Rd} {rc : List UInt8 → Int → List It → Int → Int → Int → Option RR} {w : Int}

theorem pairs_eq (hb : b.length ≤ 65536) (hm : Moves b rec) (hrc : Does b (fun b i out e p => rc b i out e p (wI (w + 1))) rec) (n : UInt64) :
    ∀ (f k : Nat) (last : Option (List UInt8)) (lst : List UInt8) (i : Nat) (out : List It), i ≤ b.length → out.length ≤ i → b.length + 1 ≤ f + i → k ≤ n.toNat →
      (k = 0 ↔ last = none) → (∀ l, last = some l → l = lst) → lst.length ≤ 65536 →
      ∃ r, loop (F.ref30_Reader_pairs_L1 n w rc) (lst, UInt64.ofNat k, b, (i : Int), out, 0, 0) = some r ∧ Res b out (pairsD rec b f (n.toNat - k) last i) r := by
  intro f
  induction f with
  | zero => intro k last lst i out h1 h2 h3; omega
  | succ f ih =>
    intro k last lst i out h1 h2 h3 h4 h5 h6 h7
    have hn := n.toNat_lt
    have hkN : (UInt64.ofNat k).toNat = k := by simp; omega
    by_cases hk : k = n.toNat
    · refine ⟨(b, (i : Int), out, 0, 0), ?_, ?_⟩
      · refine loop_inr ?_
        have : decide (UInt64.ofNat k < n) = false := by
          simp only [decide_eq_false_iff_not, UInt64.lt_iff_toNat_lt, hkN]; omega
        simp only [F.ref30_Reader_pairs_L1, F.ref30_Reader_pairs_K1, this, Bool.false_eq_true, if_false]
        rfl
      · subst hk
        simp [pairsD, Res]
    · have hlt : decide (UInt64.ofNat k < n) = true := by
        simp only [decide_eq_true_eq, UInt64.lt_iff_toNat_lt, hkN]; omega
      obtain ⟨m, hm2⟩ : ∃ m, n.toNat - k = m + 1 := ⟨n.toNat - k - 1, by omega⟩
      have hm3 : m = n.toNat - (k + 1) := by omega
      rw [hm2, pairsD]
      obtain ⟨r1, hr1, hR1⟩ := hrc i out h1 h2
      simp only at hr1
      cases hx : rec i with
      | error e =>
        rw [hx] at hR1
        obtain ⟨p, q, hq, rfl⟩ := hR1
        have he := (hm.2 i e hx h1).1
        refine ⟨(b, p, q, e.1, e.2), ?_, ?_⟩
        · refine loop_inr ?_
          have h0 : (e.1 != 0) = true := by simp [he]
          simp only [F.ref30_Reader_pairs_L1, F.ref30_Reader_pairs_K1, hlt, if_true, beq_self_eq_true, hr1, bind_some', h0]
          rfl
        · exact ⟨p, q, hq, rfl⟩
      | ok a =>
        obtain ⟨j, is⟩ := a
        rw [hx] at hR1
        simp only [Res] at hR1
        subst hR1
        obtain ⟨h8, h9, h10, h11⟩ := hm.1 i j is hx
        have hsl : slO b (i : Int) (j : Int) = some (part b i j) := slO_ok (by omega) (by omega)
        have hpl : (part b i j).length ≤ 65536 := by simp [part]; omega
        -- the order of the keys
        have hord : (if decide ((0 : UInt64) < UInt64.ofNat k) = true then obind (F.ref30_Less lst (part b i j)) fun x => F.ref30_Reader_pairs_K2 w rc (UInt64.ofNat k) i (b, (j : Int), out ++ is, 0, 0) (part b i j) (!x)
            else F.ref30_Reader_pairs_K2 w rc (UInt64.ofNat k) i (b, (j : Int), out ++ is, 0, 0) (part b i j) false)
            = F.ref30_Reader_pairs_K2 w rc (UInt64.ofNat k) i (b, (j : Int), out ++ is, 0, 0) (part b i j) (!keyOk last (part b i j)) := by
          cases hla : last with
          | none =>
            have : k = 0 := h5.2 hla
            subst this
            rfl
          | some l =>
            have hk0 : k ≠ 0 := fun h => by rw [h5.1 h] at hla; cases hla
            have := h6 l hla
            subst this
            have : decide ((0 : UInt64) < UInt64.ofNat k) = true := by
              simp only [decide_eq_true_eq, UInt64.lt_iff_toNat_lt, hkN]
              show 0 < k
              omega
            rw [if_pos this, less_eq _ _ (by omega)]
            rfl
        have hst : F.ref30_Reader_pairs_L1 n w rc (lst, UInt64.ofNat k, b, (i : Int), out, 0, 0) = F.ref30_Reader_pairs_K2 w rc (UInt64.ofNat k) i (b, (j : Int), out ++ is, 0, 0) (part b i j) (!keyOk last (part b i j)) := by
          simp only [F.ref30_Reader_pairs_L1, F.ref30_Reader_pairs_K1, hlt, if_true, beq_self_eq_true, hr1, bind_some', bne_self_eq_false, Bool.false_eq_true, if_false, hsl]
          exact hord
        simp only
        by_cases hko : keyOk last (part b i j) = false
        · rw [if_pos hko]
          refine ⟨(b, (j : Int), out ++ is, 220, (i : Int)), ?_, ⟨_, _, by simp, rfl⟩⟩
          refine loop_inr ?_
          rw [hst, hko]
          rfl
        · rw [if_neg hko]
          have hko' : keyOk last (part b i j) = true := by simpa using hko
          obtain ⟨r2, hr2, hR2⟩ := hrc j (out ++ is) h9 (by simp; omega)
          simp only at hr2
          cases hy : rec j with
          | error e =>
            rw [hy] at hR2
            obtain ⟨p, q, hq, rfl⟩ := hR2
            have he := (hm.2 j e hy h9).1
            simp only [List.length_append] at hq
            refine ⟨(b, p, q, e.1, e.2), ?_, ⟨p, q, by omega, rfl⟩⟩
            have s1 : F.ref30_Reader_pairs_L1 n w rc (lst, UInt64.ofNat k, b, (i : Int), out, 0, 0) = some (.inl (part b i j, UInt64.ofNat k + 1, b, p, q, e.1, e.2)) := by
              rw [hst, hko']
              simp only [F.ref30_Reader_pairs_K2, Bool.not_true, Bool.false_eq_true, if_false, hr2, bind_some']
              rfl
            rw [loop_inl s1]
            refine loop_inr ?_
            have h0 : (e.1 == 0) = false := by simp [he]
            by_cases h12 : decide (UInt64.ofNat k + 1 < n) = true
            · simp only [F.ref30_Reader_pairs_L1, F.ref30_Reader_pairs_K1, h12, if_true, h0, Bool.false_eq_true, if_false]; rfl
            · simp only [F.ref30_Reader_pairs_L1, F.ref30_Reader_pairs_K1, h12, Bool.false_eq_true, if_false]; rfl
          | ok c =>
            obtain ⟨l, js⟩ := c
            rw [hy] at hR2
            simp only [Res] at hR2
            subst hR2
            obtain ⟨h12, h13, h14, h15⟩ := hm.1 j l js hy
            have hk1 : UInt64.ofNat k + 1 = UInt64.ofNat (k + 1) := by
              apply UInt64.toNat_inj.1
              rw [UInt64.toNat_add, hkN]; simp
            have s1 : F.ref30_Reader_pairs_L1 n w rc (lst, UInt64.ofNat k, b, (i : Int), out, 0, 0) = some (.inl (part b i j, UInt64.ofNat (k + 1), b, (l : Int), out ++ is ++ js, 0, 0)) := by
              rw [hst, hko', ← hk1]
              simp only [F.ref30_Reader_pairs_K2, Bool.not_true, Bool.false_eq_true, if_false, hr2, bind_some']
              rfl
            obtain ⟨r, hr, hR⟩ := ih (k + 1) (some (part b i j)) (part b i j) l (out ++ is ++ js) h13 (by simp; omega) (by omega) (by omega) (by simp) (by simp) hpl
            refine ⟨r, by rw [loop_inl s1]; exact hr, ?_⟩
            rw [hm3]
            simp only
            cases hz : pairsD rec b f (n.toNat - (k + 1)) (some (part b i j)) l with
            | error e =>
              rw [hz] at hR
              obtain ⟨p, q, hq, rfl⟩ := hR
              simp only [List.length_append] at hq
              exact ⟨p, q, by omega, rfl⟩
            | ok y =>
              obtain ⟨z, ks⟩ := y
              rw [hz] at hR
              simp only [Res] at hR ⊢
              rw [hR]; simp

theorem list_eq (hb : b.length ≤ 65536) (hm : Moves b rec) (hrc : Does b (fun b i out e p => rc b i out e p (wI (w + 1))) rec) (m0 : Int) (n : UInt64) (j0 : Int) (o0 : List It) (out : List It) :
    ∀ (f k : Nat) (i : Nat) (cur : List It), i ≤ b.length → cur.length ≤ i → b.length + 1 ≤ f + i → k ≤ n.toNat → out.length < cur.length → 
      ∃ r, loop (F.ref30_Reader_item_s_L1 (m0, n, b, j0, o0, 0, 0) out w rc) (UInt64.ofNat k, b, (i : Int), cur, 0, 0) = some r ∧
        (match listD rec f (n.toNat - k) i with
          | .ok (j, is) => ∃ x, (cur ++ is)[out.length]? = some x ∧ r = (b, (j : Int), (cur ++ is).set out.length (x.1, x.2.1, x.2.2.1, wI ((n &&& 4294967295).toNat : Int)), 0, 0)
          | .error e => ∃ (p : Int) (q : List It), out.length ≤ q.length ∧ r = (b, p, q, e.1, e.2)) := by
  intro f
  induction f with
  | zero => intro k i cur h1 h2 h3; omega
  | succ f ih =>
    intro k i cur h1 h2 h3 h4 h5
    have hn := n.toNat_lt
    have hkN : (UInt64.ofNat k).toNat = k := by simp; omega
    by_cases hk : k = n.toNat
    · subst hk
      have hg : getO cur ((out.length : Int) : Int) = some cur[out.length] := getO_lt h5
      have : decide (UInt64.ofNat n.toNat < n) = false := by
        simp only [decide_eq_false_iff_not, UInt64.lt_iff_toNat_lt, hkN]; omega
      refine ⟨(b, (i : Int), cur.set out.length (cur[out.length].1, cur[out.length].2.1, cur[out.length].2.2.1, wI ((n &&& 4294967295).toNat : Int)), 0, 0), ?_, ?_⟩
      · refine loop_inr ?_
        simp only [F.ref30_Reader_item_s_L1, F.ref30_Reader_item_s_K5, this, Bool.false_eq_true, if_false, hg, bind_some', olet_eq]
        rfl
      · simp only [Nat.sub_self, listD, List.append_nil]
        exact ⟨cur[out.length], by simp [h5], by simp⟩
    · have hlt : decide (UInt64.ofNat k < n) = true := by
        simp only [decide_eq_true_eq, UInt64.lt_iff_toNat_lt, hkN]; omega
      obtain ⟨m, hm2⟩ : ∃ m, n.toNat - k = m + 1 := ⟨n.toNat - k - 1, by omega⟩
      have hm3 : m = n.toNat - (k + 1) := by omega
      rw [hm2, listD]
      obtain ⟨r1, hr1, hR1⟩ := hrc i cur h1 h2
      simp only at hr1
      have hk1 : UInt64.ofNat k + 1 = UInt64.ofNat (k + 1) := by
        apply UInt64.toNat_inj.1
        rw [UInt64.toNat_add, hkN]; simp
      cases hx : rec i with
      | error e =>
        rw [hx] at hR1
        obtain ⟨p, q, hq, rfl⟩ := hR1
        have he := (hm.2 i e hx h1).1
        have s1 : F.ref30_Reader_item_s_L1 (m0, n, b, j0, o0, 0, 0) out w rc (UInt64.ofNat k, b, (i : Int), cur, 0, 0) = some (.inl (UInt64.ofNat k + 1, b, p, q, e.1, e.2)) := by
          simp only [F.ref30_Reader_item_s_L1, F.ref30_Reader_item_s_K5, hlt, if_true, beq_self_eq_true, hr1, bind_some']
          rfl
        have h0 : (e.1 == 0) = false := by simp [he]
        have hg : getO q ((out.length : Int) : Int) = some (q[out.length]'(by omega)) := getO_lt (by omega)
        have hq9 : out.length < q.length := by omega
        refine ⟨(b, p, q.set out.length (q[out.length].1, q[out.length].2.1, q[out.length].2.2.1, wI ((n &&& 4294967295).toNat : Int)), e.1, e.2), ?_, ?_⟩
        · rw [loop_inl s1]
          refine loop_inr ?_
          by_cases h12 : decide (UInt64.ofNat k + 1 < n) = true
          · simp only [F.ref30_Reader_item_s_L1, F.ref30_Reader_item_s_K5, h12, if_true, h0, Bool.false_eq_true, if_false, hg, bind_some', olet_eq]; rfl
          · simp only [F.ref30_Reader_item_s_L1, F.ref30_Reader_item_s_K5, h12, Bool.false_eq_true, if_false, hg, bind_some', olet_eq]; rfl
        · exact ⟨_, _, by simp; omega, rfl⟩
      | ok a =>
        obtain ⟨j, is⟩ := a
        rw [hx] at hR1
        simp only [Res] at hR1
        subst hR1
        obtain ⟨h8, h9, h10, h11⟩ := hm.1 i j is hx
        have s1 : F.ref30_Reader_item_s_L1 (m0, n, b, j0, o0, 0, 0) out w rc (UInt64.ofNat k, b, (i : Int), cur, 0, 0) = some (.inl (UInt64.ofNat (k + 1), b, (j : Int), cur ++ is, 0, 0)) := by
          rw [← hk1]
          simp only [F.ref30_Reader_item_s_L1, F.ref30_Reader_item_s_K5, hlt, if_true, beq_self_eq_true, hr1, bind_some']
          rfl
        obtain ⟨r, hr, hR⟩ := ih (k + 1) j (cur ++ is) h9 (by simp; omega) (by omega) (by omega) (by simp; omega)
        refine ⟨r, by rw [loop_inl s1]; exact hr, ?_⟩
        rw [hm3]
        simp only
        cases hz : listD rec f (n.toNat - (k + 1)) j with
        | error e => rw [hz] at hR; exact hR
        | ok y =>
          obtain ⟨z, ks⟩ := y
          rw [hz] at hR
          simpa using hR
end

/-- what the tests of the document's texts say -/
def Utf (b : List UInt8) : Prop := ∀ s : List UInt8, s.length ≤ b.length → F.ref30_utf8 s = some (Lib.validD s)

theorem and32 (n : UInt64) (h : n.toNat ≤ 65536) : wI ((n &&& 4294967295).toNat : Int) = (n.toNat : Int) := by
  rw [UInt64.toNat_and]
  have h1 := and_mask n.toNat 32
  have h2 : (4294967295 : UInt64).toNat = 2 ^ 32 - 1 := by decide
  rw [h2, h1, Nat.mod_eq_of_lt (by omega), wI_in (by omega) (by omega)]

theorem apO40 (l m : List It) (h : l.length + m.length ≤ 1000000) : apO 40 l m = some (l ++ m) := apO_ok (by omega)

theorem set_at (out is : List It) (x y : It) : (out ++ x :: is).set out.length y = out ++ y :: is := by simp
theorem nth_at (out is : List It) (x : It) : (out ++ x :: is)[out.length]? = some x := by simp

section
variable {b : List UInt8} {rc : List UInt8 → Int → List It → Int → Int → Int → Option RR}

theorem item_eq (hb : b.length ≤ 65536) (hu : Utf b) (d : Nat) (hd : d ≤ 32) (sub : Option Rd) (hsub : ∀ rec, sub = some rec → Moves b rec) (hd0 : sub = none ↔ d = 0)
    (hrc : ∀ rec, sub = some rec → Does b (fun b i out e p => rc b i out e p (wI (((32 - d : Nat) : Int) + 1))) rec) :
    Does b (fun b i out e p => F.ref30_Reader_item_s rc b i out e p ((32 - d : Nat) : Int)) (itemS b sub) := by
  intro i out h1 h2
  obtain ⟨jj, hh⟩ := head_eq b i out hb h1
  unfold itemS
  simp only [F.ref30_Reader_item_s, bne_self_eq_false, Bool.false_eq_true, if_false, hh, bind_some']
  cases hx : headD b i with
  | error e =>
    have he : e.1 = 220 := by rcases headD_err hx with rfl | ⟨rfl, _⟩ <;> rfl
    have h0 : (e.1 != 0) = true := by rw [he]; decide
    simp only [h0, if_true]
    exact ⟨_, rfl, ⟨jj, out, Nat.le_refl _, rfl⟩⟩
  | ok a =>
    obtain ⟨m, n, j⟩ := a
    obtain ⟨h3, h4, h5⟩ := headD_ok hx
    simp only [bne_self_eq_false, Bool.false_eq_true, if_false]
    -- the ways by the major type
    have hK1 : (if decide ((4 : Int) ≤ (m : Int)) = true then (if decide ((m : Int) ≤ 6) = true then F.ref30_Reader_item_s_K1 (i : Int) ((m : Int), n, b, (j : Int), out, 0, 0) out ((32 - d : Nat) : Int) rc (((32 - d : Nat) : Int) == 32)
        else F.ref30_Reader_item_s_K1 (i : Int) ((m : Int), n, b, (j : Int), out, 0, 0) out ((32 - d : Nat) : Int) rc false) else F.ref30_Reader_item_s_K1 (i : Int) ((m : Int), n, b, (j : Int), out, 0, 0) out ((32 - d : Nat) : Int) rc false) =
        F.ref30_Reader_item_s_K1 (i : Int) ((m : Int), n, b, (j : Int), out, 0, 0) out ((32 - d : Nat) : Int) rc (decide ((m = 4 ∨ m = 5 ∨ m = 6) ∧ d = 0)) := by
      by_cases hm : 4 ≤ m
      · have e1 : decide ((4 : Int) ≤ (m : Int)) = true := by simp; omega
        rw [if_pos e1]
        by_cases hm2 : m ≤ 6
        · have e2 : decide ((m : Int) ≤ 6) = true := by simp; omega
          rw [if_pos e2]
          congr 1
          by_cases hdd : d = 0
          · subst hdd; simp; omega
          · simp [hdd]; omega
        · have e2 : decide ((m : Int) ≤ 6) = false := by simp; omega
          rw [if_neg (by rw [e2]; simp)]
          congr 1
          simp; omega
      · have e1 : decide ((4 : Int) ≤ (m : Int)) = false := by simp; omega
        rw [if_neg (by rw [e1]; simp)]
        congr 1
        simp; omega
    rw [hK1]
    by_cases hcon : m = 4 ∨ m = 5 ∨ m = 6
    · rw [if_pos hcon]
      cases hs : sub with
      | none =>
        have hd00 : d = 0 := hd0.1 hs
        have : decide ((m = 4 ∨ m = 5 ∨ m = 6) ∧ d = 0) = true := by simp [hcon, hd00]
        rw [this]
        simp only [F.ref30_Reader_item_s_K1, if_true, fail0, bind_some']
        exact ⟨_, rfl, ⟨_, _, Nat.le_refl _, rfl⟩⟩
      | some rec =>
        have hd1 : d ≠ 0 := fun h => by rw [hd0.2 h] at hs; cases hs
        have hmv := hsub rec hs
        have hdo := hrc rec hs
        have : decide ((m = 4 ∨ m = 5 ∨ m = 6) ∧ d = 0) = false := by simp [hd1]
        rw [this]
        have n0 : ((m : Int) == 0) = false := by simp; omega
        have n1 : ((m : Int) == 1) = false := by simp; omega
        have n2 : ((m : Int) == 2) = false := by simp; omega
        have n3 : ((m : Int) == 3) = false := by simp; omega
        have n7 : ((m : Int) == 7) = false := by simp; omega
        simp only [F.ref30_Reader_item_s_K1, F.ref30_Reader_item_s_K2, F.ref30_Reader_item_s_K3, Bool.false_eq_true, if_false, n0, n1, n2, n3, n7]
        unfold insD
        by_cases hm4 : m = 4
        · subst hm4
          have e4 : (((4 : Nat) : Int) == 4) = true := by decide
          simp only [e4, if_true]
          rw [apO40 _ _ (by simp; omega), bind_some']
          obtain ⟨r, hr, hR⟩ := list_eq (w := ((32 - d : Nat) : Int)) hb hmv hdo ((4 : Nat) : Int) n (j : Int) out out (b.length + 1) 0 j (out ++ [(((4 : Nat) : Int), 0, [], 0)]) h4 (by simp; omega) (by omega) (by omega) (by simp)
          refine ⟨r, hr, ?_⟩
          simp only [Nat.sub_zero] at hR
          cases hl : listD rec (b.length + 1) n.toNat j with
          | error e => rw [hl] at hR; exact hR
          | ok y =>
            obtain ⟨k, is⟩ := y
            rw [hl] at hR
            have hmm := (listD_moves hmv (b.length + 1) n.toNat j h4).1 k is hl
            obtain ⟨x, hx1, hx2⟩ := hR
            rw [List.append_assoc, List.singleton_append] at hx1 hx2
            rw [nth_at] at hx1
            cases hx1
            rw [set_at, and32 n (by omega)] at hx2
            exact hx2
        · have e4 : ((m : Int) == 4) = false := by simp; omega
          simp only [e4, Bool.false_eq_true, if_false, hm4]
          by_cases hm5 : m = 5
          · subst hm5
            have e5 : (((5 : Nat) : Int) == 5) = true := by decide
            simp only [e5, if_true]
            rw [apO40 _ _ (by simp; omega), bind_some']
            obtain ⟨r, hr, hR⟩ := pairs_eq (w := ((32 - d : Nat) : Int)) hb hmv hdo n (b.length + 1) 0 none [] j (out ++ [(((5 : Nat) : Int), 0, [], 0)]) h4 (by simp; omega) (by omega) (by omega) (by simp) (by simp) (by simp)
            have hr : F.ref30_Reader_pairs rc b (j : Int) (out ++ [(((5 : Nat) : Int), 0, [], 0)]) 0 0 n ((32 - d : Nat) : Int) = some r := hr
            rw [hr, bind_some']
            simp only [Nat.sub_zero] at hR
            cases hl : pairsD rec b (b.length + 1) n.toNat none j with
            | error e =>
              rw [hl] at hR
              obtain ⟨p, q, hq, rfl⟩ := hR
              simp only [List.length_append, List.length_singleton] at hq
              have hg : getO q ((out.length : Int) : Int) = some (q[out.length]'(by omega)) := getO_lt (by omega)
              simp only [hg, bind_some', olet_eq]
              exact ⟨_, rfl, ⟨_, _, by simp; omega, rfl⟩⟩
            | ok y =>
              obtain ⟨k, is⟩ := y
              rw [hl] at hR
              simp only [Res] at hR
              subst hR
              have hmm := (pairsD_moves hmv (b.length + 1) n.toNat none j h4).1 k is hl
              have hg : getO (out ++ [(((5 : Nat) : Int), (0 : UInt64), ([] : List UInt8), (0 : Int))] ++ is) ((out.length : Int) : Int) = some (((5 : Nat) : Int), (0 : UInt64), ([] : List UInt8), (0 : Int)) := by
                rw [getO_nat, List.append_assoc, List.singleton_append, nth_at]
              have hk2 : wI (2 * (n.toNat : Int)) = 2 * (n.toNat : Int) := wI_in (by omega) (by omega)
              simp only [hg, bind_some', olet_eq, Int.toNat_natCast]
              rw [List.append_assoc, List.singleton_append, set_at, and32 n (by omega), hk2]
              exact ⟨_, rfl, rfl⟩
          · have hm6 : m = 6 := by omega
            subst hm6
            have e5 : (((6 : Nat) : Int) == 5) = false := by decide
            have e6 : (((6 : Nat) : Int) == 6) = true := by decide
            simp only [e5, e6, Bool.false_eq_true, if_false, if_true, hm5]
            rw [apO40 _ _ (by simp; omega), bind_some']
            obtain ⟨r, hr, hR⟩ := hdo j (out ++ [(((6 : Nat) : Int), n, [], 1)]) h4 (by simp; omega)
            simp only at hr
            rw [hr, bind_some']
            cases hl : rec j with
            | error e =>
              rw [hl] at hR
              obtain ⟨p, q, hq, rfl⟩ := hR
              simp only [List.length_append, List.length_singleton] at hq
              exact ⟨(b, p, q, e.1, e.2), rfl, ⟨p, q, by omega, rfl⟩⟩
            | ok y =>
              obtain ⟨k, is⟩ := y
              rw [hl] at hR
              simp only [Res] at hR
              subst hR
              refine ⟨_, rfl, ?_⟩
              simp only [Res]
              rw [List.append_assoc, List.singleton_append]; rfl
    · rw [if_neg hcon]
      have : decide ((m = 4 ∨ m = 5 ∨ m = 6) ∧ d = 0) = false := by simp [hcon]
      rw [this]
      simp only [F.ref30_Reader_item_s_K1, Bool.false_eq_true, if_false]
      by_cases hstr : m = 2 ∨ m = 3
      · rw [if_pos hstr]
        have n0 : ((m : Int) == 0) = false := by simp; omega
        have n1 : ((m : Int) == 1) = false := by simp; omega
        have n7 : ((m : Int) == 7) = false := by simp; omega
        have hK3 : (if ((m : Int) == 2) = true then F.ref30_Reader_item_s_K3 out ((32 - d : Nat) : Int) rc ((m : Int), n, b, (j : Int), out, 0, 0) (i : Int) ((m : Int) == 2) else F.ref30_Reader_item_s_K3 out ((32 - d : Nat) : Int) rc ((m : Int), n, b, (j : Int), out, 0, 0) (i : Int) ((m : Int) == 3)) =
            F.ref30_Reader_item_s_K3 out ((32 - d : Nat) : Int) rc ((m : Int), n, b, (j : Int), out, 0, 0) (i : Int) true := by
          rcases hstr with h | h <;> subst h <;> rfl
        simp only [n0, n1, n7, Bool.false_eq_true, if_false, F.ref30_Reader_item_s_K2, hK3]
        simp only [F.ref30_Reader_item_s_K3, if_true, F.ref30_Reader_text]
        have e1 : wI ((b.length : Int) - (j : Int)) = ((b.length - j : Nat) : Int) := by rw [wI_in (by omega) (by omega)]; omega
        have e2 : (UInt64.ofNat (b.length - j)).toNat = b.length - j := by simp; omega
        rw [e1, ofInt64]
        by_cases hlen : b.length - j < n.toNat
        · have d1 : decide (UInt64.ofNat (b.length - j) < n) = true := by simp only [decide_eq_true_eq, UInt64.lt_iff_toNat_lt, e2]; exact hlen
          simp only [d1, if_true, fail0, bind_some', hlen]
          rw [apO40 _ _ (by simp; omega), bind_some']
          have q0 : (((220 : Int)) == 0) = false := by decide
          simp only [q0, Bool.false_eq_true, if_false, F.ref30_Reader_item_s_K4]
          exact ⟨_, rfl, ⟨_, _, by simp, rfl⟩⟩
        · have d1 : decide (UInt64.ofNat (b.length - j) < n) = false := by simp only [decide_eq_false_iff_not, UInt64.lt_iff_toNat_lt, e2]; omega
          have e3 : wI (n.toNat : Int) = (n.toNat : Int) := wI_in (by omega) (by omega)
          have e4 : wI ((j : Int) + (n.toNat : Int)) = ((j + n.toNat : Nat) : Int) := by rw [wI_in (by omega) (by omega)]; simp
          simp only [d1, Bool.false_eq_true, if_false, hlen, e3, e4]
          rw [slO_ok (by omega) (by omega), bind_some', bind_some']
          have hpt : (b.drop j).take (j + n.toNat - j) = part b j (j + n.toNat) := rfl
          rw [hpt]
          simp only
          rw [apO40 _ _ (by simp; omega), bind_some']
          simp only [beq_self_eq_true, if_true]
          have hpl : (part b j (j + n.toNat)).length ≤ b.length := by simp [part]; omega
          by_cases hm3 : m = 3
          · subst hm3
            have e5 : (((3 : Nat) : Int) == 3) = true := by decide
            simp only [e5, if_true, hu _ hpl, bind_some', true_and]
            cases hv : Lib.validD (part b j (j + n.toNat)) with
            | false =>
              simp only [Bool.not_false, F.ref30_Reader_item_s_K4, if_true, fail0, bind_some']
              exact ⟨_, rfl, ⟨_, _, by simp, rfl⟩⟩
            | true =>
              simp only [Bool.not_true, F.ref30_Reader_item_s_K4, Bool.false_eq_true, if_false]
              exact ⟨_, rfl, rfl⟩
          · have e5 : ((m : Int) == 3) = false := by simp; omega
            simp only [e5, Bool.false_eq_true, if_false, F.ref30_Reader_item_s_K4, hm3, false_and]
            exact ⟨_, rfl, rfl⟩
      · rw [if_neg hstr]
        have hm017 : m = 0 ∨ m = 1 ∨ m = 7 := by omega
        have hK2 : (if ((m : Int) == 0) = true then F.ref30_Reader_item_s_K2 ((m : Int), n, b, (j : Int), out, 0, 0) out ((32 - d : Nat) : Int) rc (i : Int) ((m : Int) == 0) else if ((m : Int) == 1) = true then F.ref30_Reader_item_s_K2 ((m : Int), n, b, (j : Int), out, 0, 0) out ((32 - d : Nat) : Int) rc (i : Int) ((m : Int) == 1) else F.ref30_Reader_item_s_K2 ((m : Int), n, b, (j : Int), out, 0, 0) out ((32 - d : Nat) : Int) rc (i : Int) ((m : Int) == 7)) =
            F.ref30_Reader_item_s_K2 ((m : Int), n, b, (j : Int), out, 0, 0) out ((32 - d : Nat) : Int) rc (i : Int) true := by
          rcases hm017 with h | h | h <;> subst h <;> rfl
        rw [hK2]
        simp only [F.ref30_Reader_item_s_K2, if_true]
        rw [apO40 _ _ (by simp; omega), bind_some']
        exact ⟨_, rfl, rfl⟩
end

theorem item_n_eq {b : List UInt8} (hb : b.length ≤ 65536) (hu : Utf b) : ∀ (d k : Nat), d ≤ 32 → d < k → Does b (fun b i out e p => F.ref30_Reader_item_n k b i out e p ((32 - d : Nat) : Int)) (itemD d b)
  | 0, k, hd, hk => by
    obtain ⟨k, rfl⟩ : ∃ q, k = q + 1 := ⟨k - 1, by omega⟩
    exact item_eq hb hu 0 hd none (by simp) (by simp) (by simp)
  | d + 1, k, hd, hk => by
    obtain ⟨k, rfl⟩ : ∃ q, k = q + 1 := ⟨k - 1, by omega⟩
    refine item_eq hb hu (d + 1) hd (some (itemD d b)) (by intro rec h; cases h; exact itemD_moves b d) (by simp) ?_
    intro rec h
    cases h
    have ih := item_n_eq hb hu d k (by omega) (by omega)
    have e : wI (((32 - (d + 1) : Nat) : Int) + 1) = ((32 - d : Nat) : Int) := by rw [wI_in (by omega) (by omega)]; omega
    rw [e]
    exact ih

/-- The document's Parse. -/
theorem refParse_eq {b : List UInt8} (hu : Utf b) (_hl : b.length ≤ 9223372036854775807) : F.ref30_Parse b = some (parseD b) := by
  unfold F.ref30_Parse parseD
  by_cases hb : 65536 < b.length
  · have : decide ((65536 : Int) < (b.length : Int)) = true := by simp; omega
    simp only [this, if_true, hb]
  · have d1 : decide ((65536 : Int) < (b.length : Int)) = false := by simp; omega
    simp only [d1, Bool.false_eq_true, if_false, hb]
    obtain ⟨r, hr, hR⟩ := item_n_eq (by omega) hu 32 64 (by omega) (by omega) 0 [] (by omega) (by simp)
    have hr : F.ref30_Reader_item b 0 [] 0 0 0 = some r := hr
    rw [hr, bind_some']
    cases hx : itemD 32 b 0 with
    | error e =>
      rw [hx] at hR
      obtain ⟨p, q, _, rfl⟩ := hR
      have he := ((itemD_moves b 32).2 0 e hx (by omega)).1
      have h0 : (e.1 == 0) = false := by simp [he]
      have h1 : (e.1 != 0) = true := by simp [he]
      simp only [h0, Bool.false_eq_true, if_false, F.ref30_Parse_K2, F.ref30_Parse_K1, h1, if_true]
    | ok y =>
      obtain ⟨j, is⟩ := y
      rw [hx] at hR
      simp only [Res, List.nil_append] at hR
      subst hR
      simp only [beq_self_eq_true, if_true, F.ref30_Parse_K2]
      by_cases hj : j < b.length
      · have d2 : decide ((j : Int) < (b.length : Int)) = true := by simp; omega
        have q0 : ((220 : Int) != 0) = true := by decide
        simp only [d2, if_true, hj, fail0, bind_some', F.ref30_Parse_K1, q0]
      · have d2 : decide ((j : Int) < (b.length : Int)) = false := by simp; omega
        simp only [d2, Bool.false_eq_true, if_false, hj, F.ref30_Parse_K1, bne_self_eq_false]
end Go.Gk.Cb
