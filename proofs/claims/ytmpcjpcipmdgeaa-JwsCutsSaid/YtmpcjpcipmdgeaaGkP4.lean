/- Layer 1: the document's reading comes to the same. No program. -/
import Derived.Test.YtmpcjpcipmdgeaaGkP3
set_option linter.unusedSimpArgs false
set_option linter.unusedVariables false
namespace Go.Gk

def bitS (sg l : List UInt8) (i : Nat) : Nat := num sg (l.getD (i / 6) 0) / 2 ^ (5 - i % 6) % 2
theorem bitS_lt (sg l : List UInt8) (i : Nat) : bitS sg l i < 2 := Nat.mod_lt _ (by omega)
def partB (sg l : List UInt8) (k : Nat) : Nat → Nat
  | 0 => 0
  | t + 1 => partB sg l k t + bitS sg l (8 * k + t) * 2 ^ (7 - t)
theorem partB_spec (sg l : List UInt8) (k : Nat) : ∀ t, t ≤ 8 → partB sg l k t < 256 ∧ partB sg l k t % 2 ^ (8 - t) = 0 := by
  have h0 := bitS_lt sg l (8 * k); have h1 := bitS_lt sg l (8 * k + 1); have h2 := bitS_lt sg l (8 * k + 2); have h3 := bitS_lt sg l (8 * k + 3)
  have h4 := bitS_lt sg l (8 * k + 4); have h5 := bitS_lt sg l (8 * k + 5); have h6 := bitS_lt sg l (8 * k + 6); have h7 := bitS_lt sg l (8 * k + 7)
  intro t ht
  have : t = 0 ∨ t = 1 ∨ t = 2 ∨ t = 3 ∨ t = 4 ∨ t = 5 ∨ t = 6 ∨ t = 7 ∨ t = 8 := by omega
  rcases this with rfl | rfl | rfl | rfl | rfl | rfl | rfl | rfl | rfl <;> simp [partB] <;> omega
theorem iShl_nat (a n : Nat) (h : a * 2 ^ n < 9223372036854775808) (hn : n ≤ 64) : iShl (a : Int) n = ((a * 2 ^ n : Nat) : Int) := by
  unfold iShl
  rw [Nat.min_eq_left hn]
  have : ((a : Int) * 2 ^ n) = ((a * 2 ^ n : Nat) : Int) := by simp
  rw [this, wI_nat _ h]
theorem iShr_nat (a n : Nat) (hn : n ≤ 64) : iShr (a : Int) n = ((a / 2 ^ n : Nat) : Int) := by
  unfold iShr
  rw [Nat.min_eq_left hn]
  have : ((2 : Int) ^ n) = ((2 ^ n : Nat) : Int) := by simp
  rw [this]
  rw [Int.fdiv_eq_ediv_of_nonneg _ (Int.natCast_nonneg _)]; rfl
theorem or_step (sg l : List UInt8) (k t : Nat) (ht : t < 8) :
    UInt8.ofNat (partB sg l k t) ||| UInt8.ofInt (iShl (bitS sg l (8 * k + t) : Int) (7 - t)) = UInt8.ofNat (partB sg l k (t + 1)) := by
  have hb := bitS_lt sg l (8 * k + t)
  have hp := partB_spec sg l k t (by omega)
  have hp2 : 2 ^ (7 - t) ≤ 128 := Nat.le_trans (Nat.pow_le_pow_right (by omega) (show 7 - t ≤ 7 by omega)) (by omega)
  have hm : bitS sg l (8 * k + t) * 2 ^ (7 - t) ≤ 128 := by
    have := Nat.mul_le_mul (show bitS sg l (8 * k + t) ≤ 1 by omega) hp2
    omega
  rw [iShl_nat _ _ (by omega) (by omega)]
  apply UInt8.toNat_inj.1
  have hlt : bitS sg l (8 * k + t) * 2 ^ (7 - t) < 2 ^ (8 - t) := by
    have : 2 ^ (8 - t) = 2 * 2 ^ (7 - t) := by rw [show 8 - t = (7 - t) + 1 by omega, Nat.pow_succ]; omega
    have hpos : 0 < 2 ^ (7 - t) := Nat.pow_pos (by omega)
    have := Nat.mul_le_mul (show bitS sg l (8 * k + t) ≤ 1 by omega) (Nat.le_refl (2 ^ (7 - t)))
    omega
  have hor := or_add (x := partB sg l k t) (y := bitS sg l (8 * k + t) * 2 ^ (7 - t)) (8 - t) hp.2 hlt
  have e1 : (UInt8.ofNat (partB sg l k t)).toNat = partB sg l k t := by rw [UInt8.toNat_ofNat']; omega
  have e2 : (UInt8.ofInt ((bitS sg l (8 * k + t) * 2 ^ (7 - t) : Nat) : Int)).toNat = bitS sg l (8 * k + t) * 2 ^ (7 - t) := by
    simp only [UInt8.ofInt, UInt8.toNat_ofNat']; omega
  have e3 : (UInt8.ofNat (partB sg l k (t + 1))).toNat = partB sg l k (t + 1) := by
    have := (partB_spec sg l k (t + 1) (by omega)).1
    rw [UInt8.toNat_ofNat']; omega
  rw [UInt8.toNat_or, e1, e2, e3, hor]; rfl

/-- what the room holds when all bits below i are read -/
def roomB (sg l : List UInt8) (m i : Nat) : List UInt8 := (List.range m).map (fun k => UInt8.ofNat (partB sg l k (min 8 (i - 8 * k))))
theorem roomB_length (sg l : List UInt8) (m i : Nat) : (roomB sg l m i).length = m := by simp [roomB]
theorem roomB_get (sg l : List UInt8) (m i k : Nat) (h : k < (roomB sg l m i).length) : (roomB sg l m i)[k] = UInt8.ofNat (partB sg l k (min 8 (i - 8 * k))) := by simp [roomB]
theorem roomB_past (sg l : List UInt8) (m i : Nat) (h : m ≤ i / 8) : roomB sg l m (i + 1) = roomB sg l m i := by
  unfold roomB
  apply List.map_congr_left
  intro k hk
  rw [List.mem_range] at hk
  have e1 : min 8 (i + 1 - 8 * k) = 8 := by omega
  have e2 : min 8 (i - 8 * k) = 8 := by omega
  rw [e1, e2]
theorem roomB_set (sg l : List UInt8) (m i : Nat) (h : i / 8 < m) :
    (roomB sg l m i).set (i / 8) (UInt8.ofNat (partB sg l (i / 8) (i % 8)) ||| UInt8.ofInt (iShl (bitS sg l i : Int) (7 - i % 8))) = roomB sg l m (i + 1) := by
  apply List.ext_getElem
  · simp [roomB_length]
  · intro k h1 h2
    rw [roomB_get, List.getElem_set]
    split
    · rename_i hk
      subst hk
      have e0 : 8 * (i / 8) + i % 8 = i := by omega
      have := or_step sg l (i / 8) (i % 8) (by omega)
      rw [e0] at this
      rw [this]
      congr 2; omega
    · rename_i hk
      rw [roomB_get]
      congr 2
      omega

section
variable {sg : List UInt8} {std : Bool} (hs : SgOk sg) (hsg : (if std then stdS else urlS) = sg) (l : List UInt8) (hg : ∀ c ∈ l, c ∈ sg) (hl : l.length ≤ 225000000000000)
include hs hsg hg hl

theorem ref1_bitS (i : Nat) (hi : i < 6 * l.length) {ρ : Type} (k : Int → Option ρ) :
    (obind (getO l (wI (Int.tdiv (i : Int) 6) : Int)) fun x_11 => obind (F.ref1_number x_11 std) fun x_12 =>
      olet (iAnd (iShr x_12 ((UInt64.ofInt (wI (5 - (Int.tmod (i : Int) 6)))).toNat)) 1) k) = k (bitS sg l i : Int) := by
  have e1 : wI (Int.tdiv (i : Int) 6) = ((i / 6 : Nat) : Int) := by
    rw [show Int.tdiv (i : Int) 6 = ((i / 6 : Nat) : Int) from rfl, wI_nat _ (by omega)]
  have hq : i / 6 < l.length := by omega
  have hm : l[i / 6] ∈ sg := hg _ (List.getElem_mem _)
  have e2 : wI (5 - Int.tmod (i : Int) 6) = ((5 - i % 6 : Nat) : Int) := by
    rw [show Int.tmod (i : Int) 6 = ((i % 6 : Nat) : Int) from rfl, wI_in] <;> omega
  have hn := num_lt64 hs hm
  rw [e1, getO_lt hq, bind_some', ref1_number_eq, hsg, bind_some', olet_eq, ixByte_num hm, e2, ofInt64_nat _ (by omega), iShr_nat _ _ (by omega), iAnd_one _ (Nat.lt_of_le_of_lt (Nat.div_le_self _ _) (by omega))]
  have eb : bitS sg l i = num sg l[i / 6] / 2 ^ (5 - i % 6) % 2 := by
    unfold bitS
    rw [List.getD_eq_getElem?_getD, List.getElem?_eq_getElem hq]; rfl
  rw [eb]

theorem ref1_read_step (i : Nat) (hi : i < 6 * l.length) (hz : l.length * 6 / 8 ≤ i / 8 → bitS sg l i = 0) :
    F.ref1_read_L1 l std ((i : Int), roomB sg l (l.length * 6 / 8) i) = some (.inl (((i + 1 : Nat) : Int), roomB sg l (l.length * 6 / 8) (i + 1))) := by
  unfold F.ref1_read_L1
  dsimp only
  have e0 : wI (6 * (l.length : Int)) = ((6 * l.length : Nat) : Int) := by rw [wI_in] <;> omega
  have e1 : wI (Int.tdiv (i : Int) 8) = ((i / 8 : Nat) : Int) := by
    rw [show Int.tdiv (i : Int) 8 = ((i / 8 : Nat) : Int) from rfl, wI_nat _ (by omega)]
  have e2 : wI (7 - Int.tmod (i : Int) 8) = ((7 - i % 8 : Nat) : Int) := by
    rw [show Int.tmod (i : Int) 8 = ((i % 8 : Nat) : Int) from rfl, wI_in] <;> omega
  have e3 : wI ((i : Int) + 1) = ((i + 1 : Nat) : Int) := by rw [wI_in] <;> omega
  rw [e0, if_pos (by simp; omega), ref1_bitS hs hsg l hg hl i hi, e1]
  by_cases hb : i / 8 < l.length * 6 / 8
  · rw [if_pos (by rw [roomB_length]; simp; omega), getO_lt (by rw [roomB_length]; exact hb), bind_some', bind_some', olet_eq, roomB_get, e2, ofInt64_nat _ (by omega)]
    have em : min 8 (i - 8 * (i / 8)) = i % 8 := by omega
    unfold F.ref1_read_K1
    dsimp only
    rw [em, Int.toNat_natCast, roomB_set sg l _ i hb, e3]; rfl
  · rw [if_neg (by rw [roomB_length]; simp; omega), hz (by omega), if_neg (by simp), roomB_past sg l _ i (by omega)]
    unfold F.ref1_read_K1
    dsimp only
    rw [e3]; rfl

theorem ref1_read_good (hz : ∀ i, 8 * (l.length * 6 / 8) ≤ i → i < 6 * l.length → bitS sg l i = 0) : ∀ m i, i + m = 6 * l.length →
    loop (F.ref1_read_L1 l std) ((i : Int), roomB sg l (l.length * 6 / 8) i) = some (roomB sg l (l.length * 6 / 8) (6 * l.length), true) := by
  intro m
  induction m with
  | zero =>
    intro i hi
    refine loop_inr ?_
    unfold F.ref1_read_L1
    dsimp only
    have e0 : wI (6 * (l.length : Int)) = ((6 * l.length : Nat) : Int) := by rw [wI_in] <;> omega
    rw [e0, if_neg (by simp; omega), show i = 6 * l.length by omega]; rfl
  | succ m ih =>
    intro i hi
    rw [loop_inl (ref1_read_step hs hsg l hg hl i (by omega) (fun h => hz i (by omega) (by omega)))]
    exact ih (i + 1) (by omega)

theorem ref1_read_bad (j : Nat) (hj1 : 8 * (l.length * 6 / 8) ≤ j) (hj2 : j < 6 * l.length) (hj3 : bitS sg l j ≠ 0) : ∀ m i, i + m = j →
    loop (F.ref1_read_L1 l std) ((i : Int), roomB sg l (l.length * 6 / 8) i) = some ([], false) := by
  intro m
  induction m with
  | zero =>
    intro i hi
    have : i = j := by omega
    subst this
    refine loop_inr ?_
    unfold F.ref1_read_L1
    dsimp only
    have e0 : wI (6 * (l.length : Int)) = ((6 * l.length : Nat) : Int) := by rw [wI_in] <;> omega
    have e1 : wI (Int.tdiv (i : Int) 8) = ((i / 8 : Nat) : Int) := by
      rw [show Int.tdiv (i : Int) 8 = ((i / 8 : Nat) : Int) from rfl, wI_nat _ (by omega)]
    have hb1 : bitS sg l i = 1 := by have := bitS_lt sg l i; omega
    rw [e0, if_pos (by simp; omega), ref1_bitS hs hsg l hg hl i hj2, e1, if_neg (by rw [roomB_length]; simp; omega), hb1, if_pos (by simp)]
    rfl
  | succ m ih =>
    intro i hi
    by_cases hz : l.length * 6 / 8 ≤ i / 8 ∧ bitS sg l i ≠ 0
    · refine loop_inr ?_
      unfold F.ref1_read_L1
      dsimp only
      have e0 : wI (6 * (l.length : Int)) = ((6 * l.length : Nat) : Int) := by rw [wI_in] <;> omega
      have e1 : wI (Int.tdiv (i : Int) 8) = ((i / 8 : Nat) : Int) := by
        rw [show Int.tdiv (i : Int) 8 = ((i / 8 : Nat) : Int) from rfl, wI_nat _ (by omega)]
      have hb1 : bitS sg l i = 1 := by have := bitS_lt sg l i; omega
      rw [e0, if_pos (by simp; omega), ref1_bitS hs hsg l hg hl i (by omega), e1, if_neg (by rw [roomB_length]; simp; omega), hb1, if_pos (by simp)]
      rfl
    · rw [loop_inl (ref1_read_step hs hsg l hg hl i (by omega) (fun h => by
        by_cases h0 : bitS sg l i = 0
        · exact h0
        · exact absurd ⟨h, h0⟩ hz))]
      exact ih (i + 1) (by omega)
end

def byteN (sg l : List UInt8) (k : Nat) : Nat :=
  let g := k / 3
  let n0 := num sg (l.getD (4 * g) 0)
  let n1 := num sg (l.getD (4 * g + 1) 0)
  let n2 := num sg (l.getD (4 * g + 2) 0)
  let n3 := num sg (l.getD (4 * g + 3) 0)
  if k % 3 = 0 then n0 * 4 + n1 / 16
  else if k % 3 = 1 then n1 % 16 * 16 + n2 / 4
  else n2 % 4 * 64 + n3

theorem partB_eight (sg l : List UInt8) (k : Nat) (hn : ∀ q, q < (8 * k + 13) / 6 → num sg (l.getD q 0) < 64) : partB sg l k 8 = byteN sg l k := by
  obtain ⟨g, r, rfl, hr⟩ : ∃ g r, k = 3 * g + r ∧ r < 3 := ⟨k / 3, k % 3, by omega, by omega⟩
  have hg : (3 * g + r) / 3 = g := by omega
  have hm : (3 * g + r) % 3 = r := by omega
  unfold byteN
  simp only [hg, hm]
  have key : ∀ t c s, (8 * (3 * g + r) + t) / 6 = 4 * g + c → (8 * (3 * g + r) + t) % 6 = 5 - s → s ≤ 5 → bitS sg l (8 * (3 * g + r) + t) = num sg (l.getD (4 * g + c) 0) / 2 ^ s % 2 := by
    intro k c s e1 e2 hs
    unfold bitS
    rw [e1, e2, show 5 - (5 - s) = s by omega]
  have hr' : r = 0 ∨ r = 1 ∨ r = 2 := by omega
  simp only [partB]
  rcases hr' with rfl | rfl | rfl
  · rw [key 0 0 5 (by omega) (by omega) (by omega), key 1 0 4 (by omega) (by omega) (by omega), key 2 0 3 (by omega) (by omega) (by omega), key 3 0 2 (by omega) (by omega) (by omega), key 4 0 1 (by omega) (by omega) (by omega), key 5 0 0 (by omega) (by omega) (by omega), key 6 1 5 (by omega) (by omega) (by omega), key 7 1 4 (by omega) (by omega) (by omega)]
    have h0 := hn (4 * g) (by omega); have h1 := hn (4 * g + 1) (by omega)
    simp [-List.getD_eq_getElem?_getD]
    generalize num sg (l.getD (4 * g) 0) = x at *
    generalize num sg (l.getD (4 * g + 1) 0) = y at *
    omega
  · rw [key 0 1 3 (by omega) (by omega) (by omega), key 1 1 2 (by omega) (by omega) (by omega), key 2 1 1 (by omega) (by omega) (by omega), key 3 1 0 (by omega) (by omega) (by omega), key 4 2 5 (by omega) (by omega) (by omega), key 5 2 4 (by omega) (by omega) (by omega), key 6 2 3 (by omega) (by omega) (by omega), key 7 2 2 (by omega) (by omega) (by omega)]
    have h0 := hn (4 * g + 1) (by omega); have h1 := hn (4 * g + 2) (by omega)
    simp [-List.getD_eq_getElem?_getD]
    generalize num sg (l.getD (4 * g + 1) 0) = x at *
    generalize num sg (l.getD (4 * g + 2) 0) = y at *
    omega
  · rw [key 0 2 1 (by omega) (by omega) (by omega), key 1 2 0 (by omega) (by omega) (by omega), key 2 3 5 (by omega) (by omega) (by omega), key 3 3 4 (by omega) (by omega) (by omega), key 4 3 3 (by omega) (by omega) (by omega), key 5 3 2 (by omega) (by omega) (by omega), key 6 3 1 (by omega) (by omega) (by omega), key 7 3 0 (by omega) (by omega) (by omega)]
    have h0 := hn (4 * g + 2) (by omega); have h1 := hn (4 * g + 3) (by omega)
    simp [-List.getD_eq_getElem?_getD]
    generalize num sg (l.getD (4 * g + 2) 0) = x at *
    generalize num sg (l.getD (4 * g + 3) 0) = y at *
    omega

theorem byteN_cons (sg : List UInt8) (a b c d : UInt8) (l : List UInt8) (k : Nat) : byteN sg (a :: b :: c :: d :: l) (k + 3) = byteN sg l k := by
  unfold byteN
  have e1 : (k + 3) / 3 = k / 3 + 1 := by omega
  have e2 : (k + 3) % 3 = k % 3 := by omega
  simp only [e1, e2]
  have g : ∀ k, (a :: b :: c :: d :: l).getD (k + 4) 0 = l.getD k 0 := fun k => by simp [List.getD]
  have h0 : 4 * (k / 3 + 1) = 4 * (k / 3) + 4 := by omega
  have h1 : 4 * (k / 3 + 1) + 1 = (4 * (k / 3) + 1) + 4 := by omega
  have h2 : 4 * (k / 3 + 1) + 2 = (4 * (k / 3) + 2) + 4 := by omega
  have h3 : 4 * (k / 3 + 1) + 3 = (4 * (k / 3) + 3) + 4 := by omega
  rw [h1, h2, h3, h0, g, g, g, g]
theorem range_map3 {α : Type} (n : Nat) (f : Nat → α) : (List.range (n + 3)).map f = f 0 :: f 1 :: f 2 :: (List.range n).map (fun q => f (q + 3)) := by
  simp [List.range_succ_eq_map, Function.comp_def]
theorem u8m (a b : Nat) (h : a % 256 = b % 256) : UInt8.ofNat a = UInt8.ofNat b := by
  apply UInt8.toNat_inj.1
  rw [UInt8.toNat_ofNat', UInt8.toNat_ofNat']; exact h
theorem readL_range {sg : List UInt8} (hs : SgOk sg) : ∀ l, (∀ c ∈ l, c ∈ sg) → readL sg l = (List.range (l.length * 6 / 8)).map (fun k => UInt8.ofNat (byteN sg l k))
  | a :: b :: c :: d :: r, hg => by
    have ih := readL_range hs r (fun x hx => hg x (by simp [hx]))
    have h1 := num_lt64 hs (hg a (by simp)); have h2 := num_lt64 hs (hg b (by simp)); have h3 := num_lt64 hs (hg c (by simp)); have h4 := num_lt64 hs (hg d (by simp))
    have e : (a :: b :: c :: d :: r).length * 6 / 8 = r.length * 6 / 8 + 3 := by simp; omega
    rw [e, range_map3]
    simp only [readL, ih]
    have s0 : UInt8.ofNat (byteN sg (a :: b :: c :: d :: r) 0) = UInt8.ofNat (quad sg a b c d / 65536) := u8m _ _ (by simp [byteN, quad]; omega)
    have s1 : UInt8.ofNat (byteN sg (a :: b :: c :: d :: r) 1) = UInt8.ofNat (quad sg a b c d / 256) := u8m _ _ (by simp [byteN, quad]; omega)
    have s2 : UInt8.ofNat (byteN sg (a :: b :: c :: d :: r) 2) = UInt8.ofNat (quad sg a b c d) := u8m _ _ (by simp [byteN, quad]; omega)
    simp only [s0, s1, s2, byteN_cons]
  | [a, b, c], hg => by
    have h1 := num_lt64 hs (hg a (by simp)); have h2 := num_lt64 hs (hg b (by simp)); have h3 := num_lt64 hs (hg c (by simp))
    have e : [a, b, c].length * 6 / 8 = 2 := by simp
    rw [e]
    have s0 : UInt8.ofNat (byteN sg [a, b, c] 0) = UInt8.ofNat (tri3 sg a b c / 65536) := u8m _ _ (by simp [byteN, tri3]; omega)
    have s1 : UInt8.ofNat (byteN sg [a, b, c] 1) = UInt8.ofNat (tri3 sg a b c / 256) := u8m _ _ (by simp [byteN, tri3]; omega)
    simp [readL, List.range_succ, s0, s1]
  | [a, b], hg => by
    have h1 := num_lt64 hs (hg a (by simp)); have h2 := num_lt64 hs (hg b (by simp))
    have e : [a, b].length * 6 / 8 = 1 := by simp
    rw [e]
    have s0 : UInt8.ofNat (byteN sg [a, b] 0) = UInt8.ofNat (duo2 sg a b / 65536) := u8m _ _ (by simp [byteN, duo2]; omega)
    simp [readL, List.range_succ, s0]
  | [a], _ => by simp [readL]
  | [], _ => by simp [readL]

theorem getD_mem {l : List UInt8} {q : Nat} (h : q < l.length) : l.getD q 0 ∈ l := by
  rw [List.getD_eq_getElem?_getD, List.getElem?_eq_getElem h]; exact List.getElem_mem h

theorem roomB_end {sg : List UInt8} (hs : SgOk sg) (l : List UInt8) (hg : ∀ c ∈ l, c ∈ sg) : roomB sg l (l.length * 6 / 8) (6 * l.length) = readL sg l := by
  rw [readL_range hs l hg]
  unfold roomB
  apply List.map_congr_left
  intro k hk
  rw [List.mem_range] at hk
  have e1 : min 8 (6 * l.length - 8 * k) = 8 := by omega
  rw [e1, partB_eight sg l k (fun q hq => num_lt64 hs (hg _ (getD_mem (by omega))))]

/-- the left over bits -/
theorem restL_iff {sg : List UInt8} (hs : SgOk sg) : ∀ l, (∀ c ∈ l, c ∈ sg) → l.length % 4 ≠ 1 → (restL sg l = true ↔ ∀ i, 8 * (l.length * 6 / 8) ≤ i → i < 6 * l.length → bitS sg l i = 0)
  | a :: b :: c :: d :: r, hg, h1 => by
    have ih := restL_iff hs r (fun x hx => hg x (by simp [hx])) (by simp at h1; omega)
    have hb : ∀ i, bitS sg (a :: b :: c :: d :: r) (i + 24) = bitS sg r i := by
      intro i
      unfold bitS
      have e1 : (i + 24) / 6 = i / 6 + 4 := by omega
      have e2 : (i + 24) % 6 = i % 6 := by omega
      rw [e1, e2]
      simp [List.getD]
    simp only [restL]
    rw [ih]
    constructor
    · intro h i h2 h3
      simp at h2 h3
      have := h (i - 24) (by omega) (by omega)
      rw [← hb (i - 24), show i - 24 + 24 = i by omega] at this
      exact this
    · intro h i h2 h3
      have := h (i + 24) (by simp; omega) (by simp; omega)
      rw [hb] at this; exact this
  | [a, b, c], hg, _ => by
    have h3 := num_lt64 hs (hg c (by simp))
    have key : ∀ s, s ≤ 5 → bitS sg [a, b, c] (12 + (5 - s)) = num sg c / 2 ^ s % 2 := by
      intro s hs
      unfold bitS
      rw [show (12 + (5 - s)) / 6 = 2 by omega, show (12 + (5 - s)) % 6 = 5 - s by omega, show 5 - (5 - s) = s by omega]
      rfl
    simp only [restL, tri3, beq_iff_eq]
    have k0 := key 0 (by omega); have k1 := key 1 (by omega)
    simp at k0 k1
    constructor
    · intro h i h4 h5
      simp at h4 h5
      have : i = 16 ∨ i = 17 := by omega
      rcases this with rfl | rfl
      · rw [k1]; omega
      · rw [k0]; omega
    · intro h
      have e0 := h 16 (by simp) (by simp); have e1 := h 17 (by simp) (by simp)
      omega
  | [a, b], hg, _ => by
    have h3 := num_lt64 hs (hg b (by simp))
    have key : ∀ s, s ≤ 5 → bitS sg [a, b] (6 + (5 - s)) = num sg b / 2 ^ s % 2 := by
      intro s hs
      unfold bitS
      rw [show (6 + (5 - s)) / 6 = 1 by omega, show (6 + (5 - s)) % 6 = 5 - s by omega, show 5 - (5 - s) = s by omega]
      rfl
    simp only [restL, duo2, beq_iff_eq]
    have k0 := key 0 (by omega); have k1 := key 1 (by omega); have k2 := key 2 (by omega); have k3 := key 3 (by omega)
    simp at k0 k1 k2 k3
    constructor
    · intro h i h4 h5
      simp at h4 h5
      have : i = 8 ∨ i = 9 ∨ i = 10 ∨ i = 11 := by omega
      rcases this with rfl | rfl | rfl | rfl
      · rw [k3]; omega
      · rw [k2]; omega
      · rw [k1]; omega
      · rw [k0]; omega
    · intro h
      have e0 := h 8 (by simp) (by simp); have e1 := h 9 (by simp) (by simp); have e2 := h 10 (by simp) (by simp); have e3 := h 11 (by simp) (by simp)
      omega
  | [a], _, h => absurd rfl h
  | [], _, _ => by
    simp only [restL, true_iff]
    intro i h1 h2
    simp at h2

theorem ref1_read_eq {sg : List UInt8} {std : Bool} (hs : SgOk sg) (hsg : (if std then stdS else urlS) = sg) (l : List UInt8) (hg : ∀ c ∈ l, c ∈ sg) (hl : l.length ≤ 225000000000000) (h1 : l.length % 4 ≠ 1) :
    F.ref1_read l std = some (if restL sg l = true then (readL sg l, true) else ([], false)) := by
  unfold F.ref1_read
  have e0 : wI ((l.length : Int) * 6) = ((l.length * 6 : Nat) : Int) := by rw [wI_in] <;> omega
  have e1 : wI (Int.tdiv ((l.length * 6 : Nat) : Int) 8) = ((l.length * 6 / 8 : Nat) : Int) := by
    rw [show Int.tdiv ((l.length * 6 : Nat) : Int) 8 = ((l.length * 6 / 8 : Nat) : Int) from rfl, wI_nat _ (by omega)]
  rw [e0, e1, mkO_ok (by omega), bind_some', Int.toNat_natCast]
  have er : List.replicate (l.length * 6 / 8) (0 : UInt8) = roomB sg l (l.length * 6 / 8) 0 := by
    apply List.ext_getElem
    · simp [roomB_length]
    · intro k _ _
      rw [roomB_get]; simp [partB]
  rw [er]
  have hiff := restL_iff hs l hg h1
  by_cases hr : restL sg l = true
  · rw [if_pos hr]
    have := ref1_read_good hs hsg l hg hl (hiff.1 hr) (6 * l.length) 0 (by omega)
    rw [roomB_end hs l hg] at this
    exact this
  · rw [if_neg hr]
    have : ∃ j, 8 * (l.length * 6 / 8) ≤ j ∧ j < 6 * l.length ∧ bitS sg l j ≠ 0 := by
      apply Classical.byContradiction
      intro hne
      apply hr
      rw [hiff]
      intro i h2 h3
      apply Classical.byContradiction
      intro h4
      exact hne ⟨i, h2, h3, h4⟩
    obtain ⟨j, h2, h3, h4⟩ := this
    exact ref1_read_bad hs hsg l hg hl j h2 h3 h4 j 0 (by omega)
end Go.Gk
