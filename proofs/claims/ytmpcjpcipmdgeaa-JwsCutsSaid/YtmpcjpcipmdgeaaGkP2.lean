/- The document's spelling of layer 1 comes to the same. No program. -/
import Derived.Test.YtmpcjpcipmdgeaaGkP1
import Derived.Test.YtmpcjpcipmdgeaaGkFref1
set_option linter.unusedSimpArgs false
namespace Go.Gk

theorem iAnd_nat (a b : Nat) (ha : a < 9223372036854775808) (hb : b < 9223372036854775808) : iAnd (a : Int) (b : Int) = ((a &&& b : Nat) : Int) := by
  unfold iAnd
  rw [BitVec.ofInt_natCast, BitVec.ofInt_natCast, BitVec.toNat_and, BitVec.toNat_ofNat, BitVec.toNat_ofNat, Nat.mod_eq_of_lt (by omega), Nat.mod_eq_of_lt (by omega)]
  exact wI_nat _ (Nat.lt_of_le_of_lt Nat.and_le_left ha)
theorem iAnd_one (a : Nat) (ha : a < 9223372036854775808) : iAnd (a : Int) 1 = ((a % 2 : Nat) : Int) := by
  have := iAnd_nat a 1 ha (by omega)
  rw [show ((1 : Nat) : Int) = 1 from rfl] at this
  rw [this]
  congr 1
  exact and_mask a 1
theorem ofInt64_nat (m : Nat) (h : m < 18446744073709551616) : (UInt64.ofInt (m : Int)).toNat = m := by
  simp [UInt64.ofInt, UInt64.toNat_ofNat']
  omega

def bitN (l : List UInt8) (i : Nat) : Nat := (l.getD (i / 8) 0).toNat / 2 ^ (7 - i % 8) % 2
theorem bitN_lt (l : List UInt8) (i : Nat) : bitN l i < 2 := Nat.mod_lt _ (by omega)

theorem ref1_bit_eq (l : List UInt8) (i : Nat) (hi : i < 9223372036854775808) : F.ref1_bit l (i : Int) = some (bitN l i : Int) := by
  unfold F.ref1_bit
  have e1 : wI (Int.tdiv (i : Int) 8) = ((i / 8 : Nat) : Int) := by rw [show Int.tdiv (i : Int) 8 = ((i / 8 : Nat) : Int) from rfl, wI_nat _ (by omega)]
  rw [e1]
  by_cases hl : l.length ≤ i / 8
  · rw [if_pos (by simp; omega)]
    unfold bitN
    rw [List.getD_eq_getElem?_getD, List.getElem?_eq_none hl]
    simp
  · rw [if_neg (by simp; omega), getO_lt (by omega), bind_some']
    have e2 : wI (7 - Int.tmod (i : Int) 8) = ((7 - i % 8 : Nat) : Int) := by
      rw [show Int.tmod (i : Int) 8 = ((i % 8 : Nat) : Int) from rfl, wI_in] <;> omega
    rw [e2, ofInt64_nat _ (by omega), shr8_toNat]
    have hm : min (7 - i % 8) 8 = 7 - i % 8 := by omega
    rw [hm]
    have hlt := (l[i / 8]'(by omega)).toNat_lt
    rw [iAnd_one _ (Nat.lt_of_le_of_lt (Nat.div_le_self _ _) (by omega))]
    unfold bitN
    rw [List.getD_eq_getElem?_getD, List.getElem?_eq_getElem (by omega)]
    rfl

def accB (l : List UInt8) (i : Nat) : Nat → Nat
  | 0 => 0
  | k + 1 => 2 * accB l i k + bitN l (i + k)
theorem accB_lt (l : List UInt8) (i : Nat) : ∀ k, accB l i k < 2 ^ k
  | 0 => by simp [accB]
  | k + 1 => by have := accB_lt l i k; have := bitN_lt l (i + k); simp only [accB, Nat.pow_succ]; omega

/-- the sextet at a place -/
def sext (l : List UInt8) (q : Nat) : Nat :=
  let g := q / 4
  let b0 := (l.getD (3 * g) 0).toNat
  let b1 := (l.getD (3 * g + 1) 0).toNat
  let b2 := (l.getD (3 * g + 2) 0).toNat
  if q % 4 = 0 then b0 / 4
  else if q % 4 = 1 then b0 % 4 * 16 + b1 / 16
  else if q % 4 = 2 then b1 % 16 * 4 + b2 / 64
  else b2 % 64
theorem accB_six (l : List UInt8) (q : Nat) : accB l (6 * q) 6 = sext l q := by
  have h4 : q % 4 = 0 ∨ q % 4 = 1 ∨ q % 4 = 2 ∨ q % 4 = 3 := by omega
  obtain ⟨g, r, rfl, hr⟩ : ∃ g r, q = 4 * g + r ∧ r < 4 := ⟨q / 4, q % 4, by omega, by omega⟩
  have hg : (4 * g + r) / 4 = g := by omega
  have hm : (4 * g + r) % 4 = r := by omega
  unfold sext
  simp only [hg, hm]
  have h0 := (l.getD (3 * g) 0).toNat_lt; have h1 := (l.getD (3 * g + 1) 0).toNat_lt; have h2 := (l.getD (3 * g + 2) 0).toNat_lt
  have key : ∀ k c s, (6 * (4 * g + r) + k) / 8 = 3 * g + c → (6 * (4 * g + r) + k) % 8 = 7 - s → s ≤ 7 → bitN l (6 * (4 * g + r) + k) = (l.getD (3 * g + c) 0).toNat / 2 ^ s % 2 := by
    intro k c s e1 e2 hs
    unfold bitN
    rw [e1, e2, show 7 - (7 - s) = s by omega]
  have hr' : r = 0 ∨ r = 1 ∨ r = 2 ∨ r = 3 := by omega
  simp only [accB]
  rcases hr' with rfl | rfl | rfl | rfl
  · rw [key 0 0 7 (by omega) (by omega) (by omega), key 1 0 6 (by omega) (by omega) (by omega), key 2 0 5 (by omega) (by omega) (by omega), key 3 0 4 (by omega) (by omega) (by omega), key 4 0 3 (by omega) (by omega) (by omega), key 5 0 2 (by omega) (by omega) (by omega)]
    simp [-List.getD_eq_getElem?_getD]
    generalize (l.getD (3 * g) 0).toNat = x at *
    omega
  · rw [key 0 0 1 (by omega) (by omega) (by omega), key 1 0 0 (by omega) (by omega) (by omega), key 2 1 7 (by omega) (by omega) (by omega), key 3 1 6 (by omega) (by omega) (by omega), key 4 1 5 (by omega) (by omega) (by omega), key 5 1 4 (by omega) (by omega) (by omega)]
    simp [-List.getD_eq_getElem?_getD]
    generalize (l.getD (3 * g) 0).toNat = x at *
    generalize (l.getD (3 * g + 1) 0).toNat = y at *
    omega
  · rw [key 0 1 3 (by omega) (by omega) (by omega), key 1 1 2 (by omega) (by omega) (by omega), key 2 1 1 (by omega) (by omega) (by omega), key 3 1 0 (by omega) (by omega) (by omega), key 4 2 7 (by omega) (by omega) (by omega), key 5 2 6 (by omega) (by omega) (by omega)]
    simp [-List.getD_eq_getElem?_getD]
    generalize (l.getD (3 * g + 1) 0).toNat = x at *
    generalize (l.getD (3 * g + 2) 0).toNat = y at *
    omega
  · rw [key 0 2 5 (by omega) (by omega) (by omega), key 1 2 4 (by omega) (by omega) (by omega), key 2 2 3 (by omega) (by omega) (by omega), key 3 2 2 (by omega) (by omega) (by omega), key 4 2 1 (by omega) (by omega) (by omega), key 5 2 0 (by omega) (by omega) (by omega)]
    simp [-List.getD_eq_getElem?_getD]
    generalize (l.getD (3 * g + 1) 0).toNat = x at *
    generalize (l.getD (3 * g + 2) 0).toNat = y at *
    omega

theorem sext_lt (l : List UInt8) (q : Nat) : sext l q < 64 := by
  rw [← accB_six]; exact accB_lt l (6 * q) 6

theorem sext_cons (a b c : UInt8) (l : List UInt8) (q : Nat) : sext (a :: b :: c :: l) (q + 4) = sext l q := by
  unfold sext
  have e1 : (q + 4) / 4 = q / 4 + 1 := by omega
  have e2 : (q + 4) % 4 = q % 4 := by omega
  simp only [e1, e2]
  have g : ∀ k, (a :: b :: c :: l).getD (k + 3) 0 = l.getD k 0 := fun k => by simp [List.getD]
  have h0 : 3 * (q / 4 + 1) = 3 * (q / 4) + 3 := by omega
  have h1 : 3 * (q / 4 + 1) + 1 = (3 * (q / 4) + 1) + 3 := by omega
  have h2 : 3 * (q / 4 + 1) + 2 = (3 * (q / 4) + 2) + 3 := by omega
  rw [h1, h2, h0, g, g, g]

theorem range_map4 {α : Type} (n : Nat) (f : Nat → α) : (List.range (n + 4)).map f = f 0 :: f 1 :: f 2 :: f 3 :: (List.range n).map (fun q => f (q + 4)) := by
  simp [List.range_succ_eq_map, Function.comp_def]
theorem spellL_range (sg : List UInt8) : ∀ l, spellL sg l = (List.range ((8 * l.length + 5) / 6)).map (fun q => sg6 sg (sext l q))
  | a :: b :: c :: r => by
    have ih := spellL_range sg r
    have ha := a.toNat_lt; have hb := b.toNat_lt; have hc := c.toNat_lt
    have e : (8 * (a :: b :: c :: r).length + 5) / 6 = (8 * r.length + 5) / 6 + 4 := by simp; omega
    rw [e, range_map4]
    simp only [spellL, ih]
    have s0 : sext (a :: b :: c :: r) 0 = tri a b c / 262144 := by simp [sext, tri]; omega
    have s1 : sext (a :: b :: c :: r) 1 = tri a b c / 4096 % 64 := by simp [sext, tri]; omega
    have s2 : sext (a :: b :: c :: r) 2 = tri a b c / 64 % 64 := by simp [sext, tri]; omega
    have s3 : sext (a :: b :: c :: r) 3 = tri a b c % 64 := by simp [sext, tri]; omega
    simp only [s0, s1, s2, s3, sext_cons]
  | [a, b] => by
    have e : (8 * [a, b].length + 5) / 6 = 3 := by simp
    rw [e]
    simp [spellL, List.range_succ, sext]
  | [a] => by
    have e : (8 * [a].length + 5) / 6 = 2 := by simp
    rw [e]
    simp [spellL, List.range_succ, sext]
  | [] => by simp [spellL]

theorem ref1_signs_eq (std : Bool) : F.ref1_signs std = some (if std then stdS else urlS) := by
  cases std <;> rfl

theorem ref1_spell_inner (l sg out : List UInt8) (hsg : sg.length = 64) (q : Nat) (hq : 6 * q + 6 < 9223372036854775807) (hb : out.length + 1 ≤ 225000000000000) :
    loop (F.ref1_spell_L2 l sg out (6 * q : Nat)) (0, 0) = some (.inl (out ++ [sg6 sg (sext l q)], ((6 * (q + 1) : Nat) : Int))) := by
  have key : ∀ m k, k + m = 6 → loop (F.ref1_spell_L2 l sg out (6 * q : Nat)) ((accB l (6 * q) k : Int), (k : Int)) = some (.inl (out ++ [sg6 sg (sext l q)], ((6 * (q + 1) : Nat) : Int))) := by
    intro m
    induction m with
    | zero =>
      intro k hk
      have : k = 6 := by omega
      subst this
      refine loop_inr ?_
      unfold F.ref1_spell_L2
      dsimp only
      rw [if_neg (by simp), accB_six, getO_sg hsg (sext_lt l q), bind_some', apO1_ok (by simp; omega), bind_some']
      have : wI (((6 * q : Nat) : Int) + 6) = ((6 * (q + 1) : Nat) : Int) := by rw [wI_in] <;> omega
      rw [this]; rfl
    | succ m ih =>
      intro k hk
      rw [loop_inl (s' := ((accB l (6 * q) (k + 1) : Int), ((k + 1 : Nat) : Int)))]
      · exact ih (k + 1) (by omega)
      · unfold F.ref1_spell_L2
        dsimp only
        rw [if_pos (by simp; omega)]
        have e1 : wI (((6 * q : Nat) : Int) + (k : Int)) = ((6 * q + k : Nat) : Int) := by rw [wI_in] <;> omega
        rw [e1, ref1_bit_eq l _ (by omega), bind_some', olet_eq]
        have ha := accB_lt l (6 * q) k
        have hp : 2 ^ k ≤ 64 := by
          have : k ≤ 6 := by omega
          calc 2 ^ k ≤ 2 ^ 6 := Nat.pow_le_pow_right (by omega) this
            _ = 64 := rfl
        have hbit := bitN_lt l (6 * q + k)
        have e2 : wI (2 * (accB l (6 * q) k : Int)) = ((2 * accB l (6 * q) k : Nat) : Int) := by rw [wI_in] <;> omega
        have e3 : wI (((2 * accB l (6 * q) k : Nat) : Int) + (bitN l (6 * q + k) : Int)) = ((accB l (6 * q) (k + 1) : Nat) : Int) := by
          have hacc : accB l (6 * q) (k + 1) = 2 * accB l (6 * q) k + bitN l (6 * q + k) := rfl
          rw [wI_in] <;> omega
        have e4 : wI ((k : Int) + 1) = ((k + 1 : Nat) : Int) := by rw [wI_in] <;> omega
        rw [e2, e3, e4]; rfl
  have := key 6 0 rfl
  simpa [accB] using this

theorem ref1_spell_eq (l : List UInt8) (std : Bool) (hl : l.length ≤ 140737488355328) : F.ref1_spell l std = some (spellL (if std then stdS else urlS) l) := by
  unfold F.ref1_spell
  rw [ref1_signs_eq, bind_some']
  have hsg : (if std then stdS else urlS).length = 64 := by cases std <;> rfl
  generalize (if std then stdS else urlS) = sg at *
  have key : ∀ m q, q + m = (8 * l.length + 5) / 6 → loop (F.ref1_spell_L1 l sg) ((List.range q).map (fun q => sg6 sg (sext l q)), ((6 * q : Nat) : Int)) = some (spellL sg l) := by
    intro m
    induction m with
    | zero =>
      intro q hq
      have : q = (8 * l.length + 5) / 6 := by omega
      refine loop_inr ?_
      unfold F.ref1_spell_L1
      dsimp only
      have e1 : wI (8 * (l.length : Int)) = ((8 * l.length : Nat) : Int) := by rw [wI_in] <;> omega
      rw [e1, if_neg (by simp; omega), this, ← spellL_range]; rfl
    | succ m ih =>
      intro q hq
      have e1 : wI (8 * (l.length : Int)) = ((8 * l.length : Nat) : Int) := by rw [wI_in] <;> omega
      rw [loop_inl (s' := ((List.range (q + 1)).map (fun q => sg6 sg (sext l q)), ((6 * (q + 1) : Nat) : Int)))]
      · exact ih (q + 1) (by omega)
      · unfold F.ref1_spell_L1
        dsimp only
        rw [e1, if_pos (by simp; omega), ref1_spell_inner l sg _ hsg q (by omega) (by simp; omega)]
        simp [List.range_succ]
  have := key ((8 * l.length + 5) / 6) 0 (by omega)
  simpa using this

theorem ref1_Encode_eq (l : List UInt8) (h : l.length ≤ 140737488355328) : F.ref1_Encode l = some (spellL urlS l) := by
  unfold F.ref1_Encode
  rw [ref1_spell_eq l false h]; rfl

theorem ref1_EncodeStd_eq (l : List UInt8) (h : l.length ≤ 140737488355328) : F.ref1_EncodeStd l = some (fillL (spellL stdS l)) := by
  unfold F.ref1_EncodeStd
  rw [ref1_spell_eq l true h, bind_some']
  have hl := spellL_length stdS l
  simp only [if_true]
  generalize spellL stdS l = s at *
  have ht : ∀ t : List UInt8, Int.tmod (t.length : Int) 4 = ((t.length % 4 : Nat) : Int) := fun _ => rfl
  have more : ∀ t : List UInt8, t.length % 4 ≠ 0 → t.length + 1 ≤ 9223372036854775807 → loop F.ref1_EncodeStd_L1 t = loop F.ref1_EncodeStd_L1 (t ++ [61]) := fun t h1 h2 => by
    refine loop_inl ?_
    unfold F.ref1_EncodeStd_L1
    dsimp only
    rw [ht, if_pos (by simp; omega), sadO_ok (by simpa using h2)]; rfl
  have done : ∀ t : List UInt8, t.length % 4 = 0 → loop F.ref1_EncodeStd_L1 t = some t := fun t h1 => by
    refine loop_inr ?_
    unfold F.ref1_EncodeStd_L1
    dsimp only
    rw [ht, if_neg (by simp; omega)]; rfl
  have h4 : s.length % 4 = 0 ∨ s.length % 4 = 2 ∨ s.length % 4 = 3 := by omega
  rcases h4 with h4 | h4 | h4
  · rw [done s h4]; simp [fillL, h4]
  · rw [more s (by omega) (by omega), more _ (by simp; omega) (by simp; omega), done _ (by simp; omega)]
    simp [fillL, h4, List.replicate]
  · rw [more s (by omega) (by omega), done _ (by simp; omega)]
    simp [fillL, h4, List.replicate]
end Go.Gk
