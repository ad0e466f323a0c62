/- CBOR's two texts, read as plain functions: the order of bytes, widths, heads. No program. -/
import Derived.Test.YtcdneplfgppapaaDoorGkQ0
import Derived.Test.YtcdneplfgppapaaDoorGkFcbor
import Derived.Test.YtcdneplfgppapaaDoorGkFref30
import Derived.Test.YtcdneplfgppapaaDoorGkFlib
set_option linter.unusedSimpArgs false
namespace Go.Gk.Cb
open Go Go.Gk

theorem lexLt_cons (a b : UInt8) (r s : List UInt8) : lexLt (a :: r) (b :: s) = if a = b then lexLt r s else decide (a < b) := rfl
theorem lexLt_nil (l : List UInt8) : lexLt l [] = false := by cases l <;> rfl
theorem lexLt_nil_cons (b : UInt8) (s : List UInt8) : lexLt [] (b :: s) = true := rfl

theorem less_eq (a b : List UInt8) (ha : a.length < 9223372036854775807) : F.ref30_Less a b = some (lexLt a b) := by
  have key : ∀ k i, a.length - i = k → i ≤ a.length → i ≤ b.length → loop (F.ref30_Less_L1 a b) (i : Int) = some (lexLt (a.drop i) (b.drop i)) := by
    intro k
    induction k with
    | zero =>
      intro i h1 h2 h3
      have hi : i = a.length := by omega
      subst hi
      refine loop_inr ?_
      simp only [F.ref30_Less_L1, F.ref30_Less_K1, Int.lt_irrefl, decide_false, Bool.false_eq_true, if_false, oinr, Option.map_some]
      congr 2
      rw [List.drop_length]
      rcases Nat.lt_or_ge a.length b.length with h4 | h4
      · rw [List.drop_eq_getElem_cons h4]
        simp [lexLt, h4]
      · rw [List.drop_eq_nil_of_le h4]
        simp [lexLt]; omega
    | succ k ih =>
      intro i h1 h2 h3
      have h4 : i < a.length := by omega
      have d1 : decide ((i : Int) < (a.length : Int)) = true := by simp; omega
      rcases Nat.lt_or_ge i b.length with h5 | h5
      · have d2 : decide ((i : Int) < (b.length : Int)) = true := by simp; omega
        have g1 : getO a (i : Int) = some a[i] := getO_lt h4
        have g2 : getO b (i : Int) = some b[i] := getO_lt h5
        rw [List.drop_eq_getElem_cons h4, List.drop_eq_getElem_cons h5, lexLt_cons]
        by_cases he : a[i] = b[i]
        · have hs : F.ref30_Less_L1 a b (i : Int) = some (.inl ((i : Int) + 1)) := by
            simp only [F.ref30_Less_L1, F.ref30_Less_K1, d1, d2, g1, g2, he, if_true, bind_some', bne_self_eq_false, Bool.false_eq_true, if_false]
            rw [wI_in (by omega) (by omega)]; rfl
          rw [loop_inl hs, if_pos he]
          have := ih (i + 1) (by omega) (by omega) (by omega)
          simpa using this
        · rw [if_neg he]
          refine loop_inr ?_
          have hb : (a[i] != b[i]) = true := by simpa using he
          simp only [F.ref30_Less_L1, F.ref30_Less_K1, d1, d2, g1, g2, hb, if_true, bind_some']
          rfl
      · have hi : i = b.length := by omega
        subst hi
        refine loop_inr ?_
        simp only [F.ref30_Less_L1, F.ref30_Less_K1, d1, if_true, Int.lt_irrefl, decide_false, Bool.false_eq_true, if_false, oinr, Option.map_some]
        congr 2
        rw [List.drop_length, lexLt_nil]
        simp; omega
  exact key a.length 0 (by omega) (by omega) (by omega)

theorem isNaN8 (a : UInt8) : F.cmp_isNaN_byte a = some false := by simp [F.cmp_isNaN_byte]
/-- three ways -/
def cmp3 (a b : List UInt8) : Int := if lexLt a b then -1 else if a = b then 0 else 1
theorem cmp3_cons (x y : UInt8) (r s : List UInt8) : cmp3 (x :: r) (y :: s) = if x = y then cmp3 r s else if x < y then -1 else 1 := by
  unfold cmp3
  rw [lexLt_cons]
  by_cases h : x = y
  · subst h; simp
  · by_cases h2 : x < y <;> simp [h, h2]
theorem cmp8 (a b : UInt8) : F.cmp_Compare_byte a b = some (if a < b then -1 else if b < a then 1 else 0) := by
  simp only [F.cmp_Compare_byte, isNaN8, bind_some', Bool.false_eq_true, if_false]
  by_cases h1 : a < b
  · simp [h1]
  · by_cases h2 : b < a <;> simp [h1, h2]

theorem compare_eq (a b : List UInt8) (ha : a.length < 9223372036854775807) : F.slices_Compare_byte_byte a b = some (cmp3 a b) := by
  have key : ∀ k i, a.length - i = k → i ≤ a.length → i ≤ b.length → loop (F.slices_Compare_byte_byte_L1 a b) (i : Int) = some (cmp3 (a.drop i) (b.drop i)) := by
    intro k
    induction k with
    | zero =>
      intro i h1 h2 h3
      have hi : i = a.length := by omega
      subst hi
      refine loop_inr ?_
      simp only [F.slices_Compare_byte_byte_L1, Int.lt_irrefl, decide_false, Bool.false_eq_true, if_false]
      rw [List.drop_length]
      rcases Nat.lt_or_ge a.length b.length with h4 | h4
      · rw [List.drop_eq_getElem_cons h4]
        have : decide ((a.length : Int) < (b.length : Int)) = true := by simp; omega
        simp only [this, cmp3, lexLt, oinr, if_true, Option.map_some]
      · rw [List.drop_eq_nil_of_le h4]
        have : ¬ ((a.length : Int) < (b.length : Int)) := by omega
        simp [this, cmp3, lexLt, oinr]
    | succ k ih =>
      intro i h1 h2 h3
      have h4 : i < a.length := by omega
      have d1 : decide ((i : Int) < (a.length : Int)) = true := by simp; omega
      have g1 : getO a (i : Int) = some a[i] := getO_lt h4
      rcases Nat.lt_or_ge i b.length with h5 | h5
      · have d2 : ¬ ((b.length : Int) ≤ (i : Int)) := by omega
        have g2 : getO b (i : Int) = some b[i] := getO_lt h5
        rw [List.drop_eq_getElem_cons h4, List.drop_eq_getElem_cons h5]
        by_cases he : a[i] = b[i]
        · have hs : F.slices_Compare_byte_byte_L1 a b (i : Int) = some (.inl ((i : Int) + 1)) := by
            have hlt : ¬ (b[i] < b[i]) := UInt8.lt_irrefl _
            simp only [F.slices_Compare_byte_byte_L1, d1, d2, g1, g2, he, cmp8, hlt, if_true, bind_some', bne_self_eq_false, Bool.false_eq_true, if_false, decide_false]
            rw [wI_in (by omega) (by omega)]; rfl
          rw [loop_inl hs]
          have := ih (i + 1) (by omega) (by omega) (by omega)
          rw [show ((i : Int) + 1) = ((i + 1 : Nat) : Int) by simp, this, cmp3_cons, if_pos he]
        · refine loop_inr ?_
          simp only [F.slices_Compare_byte_byte_L1, d1, d2, g1, g2, cmp8, if_true, bind_some', Bool.false_eq_true, if_false, decide_false]
          rw [cmp3_cons, if_neg he]
          by_cases hlt : a[i] < b[i]
          · simp only [hlt, if_true, oinr, Option.map_some]; rfl
          · have hgt : b[i] < a[i] := by
              rcases UInt8.lt_or_lt_of_ne he with h | h
              · exact absurd h hlt
              · exact h
            simp only [hlt, hgt, if_true, if_false, oinr, Option.map_some]; rfl
      · have hi : i = b.length := by omega
        subst hi
        refine loop_inr ?_
        rw [List.drop_eq_getElem_cons h4, List.drop_length]
        simp only [F.slices_Compare_byte_byte_L1, d1, g1, bind_some', if_true, Int.le_refl, decide_true, cmp3, lexLt, oinr, Option.map_some]
        rfl
  exact key a.length 0 (by omega) (by omega) (by omega)

theorem lexLt_irrefl (a : List UInt8) : lexLt a a = false := by
  induction a with
  | nil => rfl
  | cons x r ih => simp [lexLt_cons, ih]
theorem cmp3_nonneg (a b : List UInt8) : decide ((0 : Int) ≤ cmp3 a b) = !lexLt a b := by
  unfold cmp3
  cases h : lexLt a b
  · by_cases he : a = b <;> simp [he]
  · simp

theorem wide_eq (n : UInt64) : F.ref30_wide n = some (wd n : Int) := by
  unfold F.ref30_wide wd
  split
  · rename_i h; simp at h; simp [h]
  · rename_i h; simp only [decide_eq_true_eq] at h; simp only [h, if_false]
    split
    · rename_i h; simp at h; simp [h]
    · rename_i h; simp only [decide_eq_true_eq] at h; simp only [h, if_false]
      split
      · rename_i h; simp at h; simp [h]
      · rename_i h; simp only [decide_eq_true_eq] at h; simp only [h, if_false]
        split
        · rename_i h; simp at h; simp [h]
        · rename_i h; simp only [decide_eq_true_eq] at h; simp [h]
theorem width_eq (n : UInt64) : F.cbor_width n = some (wd n : Int) := by
  rw [← wide_eq]; rfl
theorem wd_le (n : UInt64) : wd n ≤ 8 := by unfold wd; repeat' split
                                            all_goals omega

/-! the head that is read -/
theorem nbe_snoc (l : List UInt8) (c : UInt8) : nbe (l ++ [c]) = 256 * nbe l + c.toUInt64 := by simp [nbe]

theorem shr5 (c : UInt8) : ((shr8 c 5).toNat : Int) = ((c.toNat / 32 : Nat) : Int) := by rw [shr8_toNat]; rfl
theorem and31 (c : UInt8) : ((c &&& 31).toNat : Int) = ((c.toNat % 32 : Nat) : Int) := by
  rw [UInt8.toNat_and]
  have := and_mask c.toNat 5
  simp at this
  simp [this]
theorem shl8or (x : UInt64) (c : UInt8) : (shl64 x 8) ||| c.toUInt64 = 256 * x + c.toUInt64 := by
  apply UInt64.toNat_inj.1
  have hc : c.toNat < 256 := c.toNat_lt
  rw [UInt64.toNat_or, shl64_toNat, UInt64.toNat_add, UInt64.toNat_mul]
  have h1 : c.toUInt64.toNat = c.toNat := by simp
  have h2 : (2 : Nat) ^ (min 8 64) = 256 := by decide
  rw [h1, h2, or_add 8 (by omega) (by omega)]
  simp
  omega
theorem size_eq (k : Nat) (h : 24 ≤ k) (h2 : k ≤ 27) : iShl 1 (k - 24) = ((2 ^ (k - 24) : Nat) : Int) := by
  have : k = 24 ∨ k = 25 ∨ k = 26 ∨ k = 27 := by omega
  rcases this with rfl | rfl | rfl | rfl <;> decide
theorem pow_le8 (k : Nat) (h2 : k ≤ 27) : 2 ^ (k - 24) ≤ 8 := by
  have : k - 24 = 0 ∨ k - 24 = 1 ∨ k - 24 = 2 ∨ k - 24 = 3 := by omega
  rcases this with h | h | h | h <;> rw [h] <;> decide

abbrev Fr_ := Int × Int × UInt64 × Bool × Int × Option (Nat × Nat)

theorem getO_none {τ : Type} {l : List τ} {i : Nat} (h : l.length ≤ i) : getO l (i : Int) = none := by rw [getO_nat]; simp [h]
/-- the bytes of an argument, one by one -/
theorem nbe_take_succ (l : List UInt8) (k : Nat) (h : k < l.length) : nbe (l.take (k + 1)) = 256 * nbe (l.take k) + l[k].toUInt64 := by
  rw [List.take_succ_eq_append_getElem h, nbe_snoc]

theorem ofInt64 (n : Nat) : UInt64.ofInt (n : Int) = UInt64.ofNat n := by
  apply UInt64.toNat_inj.1
  simp [UInt64.ofInt]
  omega
/-- The program's reader of heads. -/
theorem argument_eq (b : List UInt8) (i : Nat) (out : List It) (op : List Fr_) (hb : b.length ≤ 65536) (hi : i ≤ b.length) :
    ∃ j : Int, F.cbor_reader_argument b i out op = some (match headD b i with
      | .ok (m, n, k) => ((m : Int), n, none, (k : Int), out, op)
      | .error e => (0, 0, some e, j, out, op)) := by
  unfold F.cbor_reader_argument headD
  by_cases hl : i = b.length
  · subst hl
    refine ⟨(b.length : Int), ?_⟩
    simp
  · have hlt : i < b.length := by omega
    have h0 : ((i : Int) == (b.length : Int)) = false := by simp; omega
    simp only [h0, Bool.false_eq_true, if_false, getO_lt hlt, bind_some', olet_eq, shr5, and31, List.getElem?_eq_getElem hlt]
    have hc := (b[i]).toNat_lt
    generalize b[i] = c at hc ⊢
    have hw : wI ((i : Int) + 1) = ((i + 1 : Nat) : Int) := by rw [wI_in (by omega) (by omega)]; simp
    -- what comes behind the first test
    have kT : ∃ j : Int, F.cbor_reader_argument_K1 b i out op ((c.toNat / 32 : Nat) : Int) ((c.toNat % 32 : Nat) : Int) true = some ((0 : Int), (0 : UInt64), some ((220 : Int), (i : Int)), j, out, op) := ⟨_, rfl⟩
    have kF : c.toNat % 32 ≤ 27 → ∃ j : Int, F.cbor_reader_argument_K1 b i out op ((c.toNat / 32 : Nat) : Int) ((c.toNat % 32 : Nat) : Int) false = some (match (if c.toNat % 32 < 24 then .ok (c.toNat / 32, UInt64.ofNat (c.toNat % 32), i + 1)
        else if b.length - (i + 1) < 2 ^ (c.toNat % 32 - 24) then .error (220, (b.length : Int))
        else if wd (nbe ((b.drop (i + 1)).take (2 ^ (c.toNat % 32 - 24)))) ≠ 2 ^ (c.toNat % 32 - 24) then .error (220, (i : Int))
        else .ok (c.toNat / 32, nbe ((b.drop (i + 1)).take (2 ^ (c.toNat % 32 - 24))), i + 1 + 2 ^ (c.toNat % 32 - 24)) : Except Er (Nat × UInt64 × Nat)) with
      | .ok (m, n, k) => ((m : Int), n, none, (k : Int), out, op)
      | .error e => (0, 0, some e, j, out, op)) := by
      intro hk
      unfold F.cbor_reader_argument_K1
      simp only [Bool.false_eq_true, if_false]
      by_cases h24 : c.toNat % 32 < 24
      · have d1 : decide (((c.toNat % 32 : Nat) : Int) < 24) = true := by simp; omega
        refine ⟨0, ?_⟩
        simp only [d1, h24, if_true, hw, ofInt64]
      · have d1 : decide (((c.toNat % 32 : Nat) : Int) < 24) = false := by simp; omega
        have e1 : wI (((c.toNat % 32 : Nat) : Int) - 24) = ((c.toNat % 32 - 24 : Nat) : Int) := by rw [wI_in (by omega) (by omega)]; omega
        simp only [d1, h24, if_false, Bool.false_eq_true, e1, Int.toNat_natCast, hw]
        rw [grd_true _ (by omega), olet_eq, size_eq _ (by omega) hk]
        have hp := pow_le8 _ hk
        generalize 2 ^ (c.toNat % 32 - 24) = s at hp ⊢
        have e2 : wI ((b.length : Int) - ((i + 1 : Nat) : Int)) = ((b.length - (i + 1) : Nat) : Int) := by rw [wI_in (by omega) (by omega)]; omega
        rw [e2]
        by_cases hs : b.length - (i + 1) < s
        · have d2 : decide (((b.length - (i + 1) : Nat) : Int) < (s : Int)) = true := by simp; omega
          refine ⟨((i + 1 : Nat) : Int), ?_⟩
          simp only [d2, hs, if_true]
        · have d2 : decide (((b.length - (i + 1) : Nat) : Int) < (s : Int)) = false := by simp; omega
          have e3 : wI (((i + 1 : Nat) : Int) + (s : Int)) = ((i + 1 + s : Nat) : Int) := by rw [wI_in (by omega) (by omega)]; simp
          simp only [d2, hs, if_false, Bool.false_eq_true, e3]
          rw [slO_ok (by omega) (by omega), bind_some', show i + 1 + s - (i + 1) = s by omega]
          have hL : ((b.drop (i + 1)).take s).length = s := by simp; omega
          generalize (b.drop (i + 1)).take s = L at hL ⊢
          have key : ∀ q k, s - k = q → k ≤ s → loop (F.cbor_reader_argument_L1 i out op ((c.toNat / 32 : Nat) : Int) s L) (nbe (L.take k), (k : Int)) =
              some (if wd (nbe L) ≠ s then ((0 : Int), (0 : UInt64), some ((220 : Int), (i : Int)), ((i + 1 + s : Nat) : Int), out, op) else (((c.toNat / 32 : Nat) : Int), nbe L, none, ((i + 1 + s : Nat) : Int), out, op)) := by
            intro q
            induction q with
            | zero =>
              intro k h1 h2
              have : k = s := by omega
              subst this
              refine loop_inr ?_
              have d3 : decide (((k : Nat) : Int) < (L.length : Int)) = false := by simp; omega
              simp only [F.cbor_reader_argument_L1, d3, Bool.false_eq_true, if_false, width_eq, bind_some', hw, e3]
              rw [List.take_of_length_le (by omega)]
              by_cases hwd : wd (nbe L) = k
              · simp only [hwd, bne_self_eq_false, Bool.false_eq_true, if_false, oinr, ne_eq, not_true, Option.map_some]
              · have : ((wd (nbe L) : Int) != (k : Int)) = true := by simp; omega
                simp only [this, if_true, oinr, hwd, ne_eq, not_false_eq_true, Option.map_some]
            | succ q ih =>
              intro k h1 h2
              have hk2 : k < L.length := by omega
              have d3 : decide (((k : Nat) : Int) < (L.length : Int)) = true := by simp; omega
              have e4 : wI ((k : Int) + 1) = ((k + 1 : Nat) : Int) := by rw [wI_in (by omega) (by omega)]; simp
              have hs2 : F.cbor_reader_argument_L1 i out op ((c.toNat / 32 : Nat) : Int) s L (nbe (L.take k), (k : Int)) = some (.inl (nbe (L.take (k + 1)), ((k + 1 : Nat) : Int))) := by
                simp only [F.cbor_reader_argument_L1, d3, if_true, getO_lt hk2, bind_some', olet_eq, e4, shl8or, nbe_take_succ L k hk2]
                rfl
              rw [loop_inl hs2]
              exact ih (k + 1) (by omega) (by omega)
          have := key s 0 (by omega) (by omega)
          simp only [List.take_zero] at this
          have this : loop (F.cbor_reader_argument_L1 i out op ((c.toNat / 32 : Nat) : Int) s L) (0, 0) = _ := this
          refine ⟨((i + 1 + s : Nat) : Int), ?_⟩
          rw [this]
          by_cases hwd : wd (nbe L) = s <;> simp [hwd]
    by_cases h27 : 27 < c.toNat % 32
    · have d : decide ((27 : Int) < ((c.toNat % 32 : Nat) : Int)) = true := by simp; omega
      simp only [d, if_true, h27, true_or]
      exact kT
    · have d : decide ((27 : Int) < ((c.toNat % 32 : Nat) : Int)) = false := by simp; omega
      simp only [d, if_false, h27, false_or, Bool.false_eq_true]
      by_cases h7 : c.toNat / 32 = 7
      · have d7 : (((c.toNat / 32 : Nat) : Int) == 7) = true := by simp; omega
        simp only [d7, if_true, h7, true_and]
        by_cases h20 : c.toNat % 32 < 20
        · have d20 : decide (((c.toNat % 32 : Nat) : Int) < 20) = true := by simp; omega
          simp only [d20, if_true, h20, true_or]
          rw [h7] at kT
          exact kT
        · have d20 : decide (((c.toNat % 32 : Nat) : Int) < 20) = false := by simp; omega
          simp only [d20, if_false, h20, false_or, Bool.false_eq_true]
          by_cases h22 : 22 < c.toNat % 32
          · have d22 : decide ((22 : Int) < ((c.toNat % 32 : Nat) : Int)) = true := by simp; omega
            simp only [d22, if_true, h22]
            rw [h7] at kT
            exact kT
          · have d22 : decide ((22 : Int) < ((c.toNat % 32 : Nat) : Int)) = false := by simp; omega
            simp only [d22, if_false, h22]
            have := kF (by omega)
            rw [h7] at this
            exact this
      · have d7 : (((c.toNat / 32 : Nat) : Int) == 7) = false := by simp; omega
        simp only [d7, if_false, h7, false_and, Bool.false_eq_true]
        exact kF (by omega)
end Go.Gk.Cb
