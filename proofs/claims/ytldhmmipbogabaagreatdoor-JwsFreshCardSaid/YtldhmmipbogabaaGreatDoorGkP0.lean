import Derived.Test.YtldhmmipbogabaaGreatDoorGkS
import Derived.Test.YtldhmmipbogabaaGreatDoorGkFb64
import Derived.Test.YtldhmmipbogabaaGreatDoorGkFref1
import Derived.Test.YtldhmmipbogabaaGreatDoorGkFlaw1
import Derived.Test.YtldhmmipbogabaaGreatDoorGkFlaw18
set_option linter.unusedVariables false
set_option linter.unusedSimpArgs false

section
set_option linter.unusedSimpArgs false
namespace Go.Gk
theorem or_add {x y : Nat} (k : Nat) (hx : x % 2 ^ k = 0) (hy : y < 2 ^ k) : x ||| y = x + y := by
  have h1 : x = (x / 2 ^ k) <<< k := by
    rw [Nat.shiftLeft_eq]
    have := Nat.div_add_mod x (2 ^ k)
    rw [hx] at this
    rw [Nat.mul_comm]; omega
  rw [h1, ← Nat.shiftLeft_add_eq_or_of_lt hy]
theorem and_mask (x k : Nat) : x &&& (2 ^ k - 1) = x % 2 ^ k := Nat.and_two_pow_sub_one_eq_mod x k
section
theorem shl64_toNat (x : UInt64) (n : Nat) : (shl64 x n).toNat = x.toNat * 2 ^ (min n 64) % 18446744073709551616 := by simp [shl64, UInt64.toNat_ofNat']
theorem shr64_toNat (x : UInt64) (n : Nat) : (shr64 x n).toNat = x.toNat / 2 ^ (min n 64) := by
  simp only [shr64, UInt64.toNat_ofNat']
  exact Nat.mod_eq_of_lt (Nat.lt_of_le_of_lt (Nat.div_le_self _ _) x.toNat_lt)
theorem shl8_toNat (x : UInt8) (n : Nat) : (shl8 x n).toNat = x.toNat * 2 ^ (min n 8) % 256 := by simp [shl8, UInt8.toNat_ofNat']
theorem shr8_toNat (x : UInt8) (n : Nat) : (shr8 x n).toNat = x.toNat / 2 ^ (min n 8) := by
  simp only [shr8, UInt8.toNat_ofNat']
  exact Nat.mod_eq_of_lt (Nat.lt_of_le_of_lt (Nat.div_le_self _ _) x.toNat_lt)
end
theorem wI_nat (n : Nat) (h : n < 9223372036854775808) : wI (n : Int) = n := wI_in (by omega) (by omega)
theorem getO_lit0 {τ : Type} (a : τ) (l : List τ) : getO (a :: l) (0 : Int) = some a := by simp [getO]
theorem getO_lit1 {τ : Type} (a b : τ) (l : List τ) : getO (a :: b :: l) (1 : Int) = some b := by simp [getO]
theorem getO_lit2 {τ : Type} (a b c : τ) (l : List τ) : getO (a :: b :: c :: l) (2 : Int) = some c := by simp [getO]
theorem getO_lit3 {τ : Type} (a b c d : τ) (l : List τ) : getO (a :: b :: c :: d :: l) (3 : Int) = some d := by simp [getO]
theorem getO_lt {τ : Type} {l : List τ} {i : Nat} (h : i < l.length) : getO l (i : Int) = some l[i] := by rw [getO_nat]; simp [h]
theorem apO_ok {τ : Type} {l m : List τ} {bytes : Nat} (h : (l.length + m.length) * bytes ≤ 225000000000000) : apO bytes l m = some (l ++ m) := if_pos h
theorem apO1_ok {τ : Type} {l m : List τ} (h : l.length + m.length ≤ 225000000000000) : apO 1 l m = some (l ++ m) := if_pos (by omega)
theorem sadO_ok {l m : List UInt8} (h : l.length + m.length ≤ 9223372036854775807) : sadO l m = some (l ++ m) := if_pos h
theorem mkO_ok {τ : Type} {bytes : Nat} {l c : Int} {t0 : τ} (h : 0 ≤ l ∧ l ≤ c ∧ (bytes : Int) * c ≤ 281474976710656 ∧ c ≤ 9223372036854775807) : mkO bytes l c t0 = some (List.replicate l.toNat t0) := if_pos h
theorem drO_ok {τ : Type} {l : List τ} {k : Nat} (h : k ≤ l.length) : drO l (k : Int) = some (l.drop k) := by
  unfold drO; rw [if_pos (by simp; omega)]; simp
theorem tkO_ok {τ : Type} {l : List τ} {k : Nat} (h : k ≤ l.length) : tkO l (k : Int) = some (l.take k) := by
  unfold tkO; rw [if_pos (by simp; omega)]; simp
theorem slO_ok {τ : Type} {l : List τ} {lo hi : Nat} (h : lo ≤ hi) (h2 : hi ≤ l.length) : slO l (lo : Int) (hi : Int) = some ((l.drop lo).take (hi - lo)) := by
  unfold slO; rw [if_pos (by simp; omega)]; simp
theorem bind_some' {α ρ : Type} (a : α) (k : α → Option ρ) : obind (some a) k = k a := rfl
theorem olet_eq {α ρ : Type} (a : α) (k : α → Option ρ) : olet a k = k a := rfl
end Go.Gk
end

section
set_option linter.unusedSimpArgs false
set_option linter.unusedVariables false
namespace Go.Gk
open Go
theorem loop_oinr' {σ ρ : Type} {f : σ → Option (σ ⊕ ρ)} {s : σ} {X : Option ρ} (h : f s = oinr X) : loop f s = X := by
  rw [loop_eq, h]
  cases X <;> rfl
theorem fill_loop {τ ρ : Type} {f : Int × List τ → Option ((Int × List τ) ⊕ ρ)} {c : τ} {X : List τ → Option ρ}
    (hf : ∀ i l, f (i, l) = if decide (i < (l.length : Int)) = true then (obind (getO l i) fun _ => olet (l.set i.toNat c) fun y => oinl (wI (i + 1), y)) else oinr (X l))
    (l : List τ) (hl : l.length ≤ 4611686018427387904) : loop f (0, l) = X (List.replicate l.length c) := by
  have key : ∀ (r i : Nat) (m : List τ), i + r = m.length → m.length = l.length → m.take i = List.replicate i c → loop f ((i : Int), m) = X (List.replicate l.length c) := by
    intro r
    induction r with
    | zero =>
      intro i m h1 h2 h3
      have : m = List.replicate l.length c := by
        rw [← h2, show m.length = i by omega, ← h3, List.take_of_length_le (by omega)]
      have hd : decide ((i : Int) < (m.length : Int)) = false := decide_eq_false (by omega)
      refine loop_oinr' ?_
      rw [hf, hd, ← this]
      rfl
    | succ r ih =>
      intro i m h1 h2 h3
      have hi : i < m.length := by omega
      have hd : decide ((i : Int) < (m.length : Int)) = true := decide_eq_true (by omega)
      have hs : f ((i : Int), m) = some (.inl (((i + 1 : Nat) : Int), m.set i c)) := by
        rw [hf, hd, getO_lt hi]
        simp only [if_true, bind_some', olet_eq, Int.toNat_natCast]
        rw [wI_in (by omega) (by omega)]
        rfl
      rw [loop_inl hs]
      refine ih (i + 1) _ (by simp; omega) (by simp; omega) ?_
      rw [List.take_set, List.take_succ_eq_append_getElem hi, h3, List.set_append_right _ _ (by simp)]
      simp [List.replicate_succ']
  exact key l.length 0 l (by simp) rfl (by simp)
theorem more_loop {τ ρ : Type} {f : List τ × Int → Option ((List τ × Int) ⊕ ρ)} {c : τ} {X : List τ → Option ρ} {bytes : Nat}
    (hf : ∀ l k, f (l, k) = if decide (k < 70) = true then (obind (apO bytes l [c]) fun y => oinl (y, wI (k + 1))) else oinr (X l))
    (l : List τ) (hl : (l.length + 70) * bytes ≤ 225000000000000) : loop f (l, 0) = X (l ++ List.replicate 70 c) := by
  have key : ∀ (r i : Nat), i + r = 70 → loop f (l ++ List.replicate i c, (i : Int)) = X (l ++ List.replicate 70 c) := by
    intro r
    induction r with
    | zero =>
      intro i h1
      have hd : decide ((i : Int) < 70) = false := decide_eq_false (by omega)
      have : i = 70 := by omega
      subst this
      refine loop_oinr' ?_
      rw [hf, hd]
      rfl
    | succ r ih =>
      intro i h1
      have hd : decide ((i : Int) < 70) = true := decide_eq_true (by omega)
      have hs : f (l ++ List.replicate i c, (i : Int)) = some (.inl (l ++ List.replicate (i + 1) c, ((i + 1 : Nat) : Int))) := by
        rw [hf, hd, apO_ok (Nat.le_trans (Nat.mul_le_mul_right _ (by simp; omega)) hl)]
        simp only [if_true, bind_some']
        rw [wI_in (by omega) (by omega), List.append_assoc, ← List.replicate_succ']
        rfl
      rw [loop_inl hs]
      exact ih (i + 1) (by omega)
  simpa using key 70 0 (by omega)
theorem look_to4 {f : Int → Option (Int ⊕ Bool)} {τ : Type} {X r : Option Bool} (n : Nat) (c d : τ) (pc pd : τ → Bool) (hc : pc c = false) (hdd : pd d = false) (hn : n ≤ 4611686018427387904)
    (hf : ∀ i, f i = if decide (i < ((List.replicate n c ++ List.replicate 70 d).length : Int)) = true then
      (if decide (i < ((List.replicate n c).length : Int)) = true then
        (obind (getO (List.replicate n c) i) fun x =>
          if pc x = true then (if true = true then oinr (some false) else oinl (wI (i + 1)))
          else (obind (getO (List.replicate n c ++ List.replicate 70 d) i) fun y =>
            if pc y = true then (if true = true then oinr (some false) else oinl (wI (i + 1)))
            else (if false = true then oinr (some false) else oinl (wI (i + 1)))))
      else (obind (getO (List.replicate n c ++ List.replicate 70 d) i) fun z => if pd z = true then oinr (some false) else oinl (wI (i + 1))))
      else oinr X) (hX : X = r) : loop f 0 = r := by
  subst hX
  have key : ∀ (r i : Nat), i + r = n + 70 → loop f (i : Int) = X := by
    intro r
    induction r with
    | zero =>
      intro i h1
      have hd : decide ((i : Int) < ((List.replicate n c ++ List.replicate 70 d).length : Int)) = false := decide_eq_false (by simp; omega)
      refine loop_oinr' ?_
      rw [hf, hd]
      rfl
    | succ r ih =>
      intro i h1
      have hd : decide ((i : Int) < ((List.replicate n c ++ List.replicate 70 d).length : Int)) = true := decide_eq_true (by simp; omega)
      have hw : wI ((i : Int) + 1) = ((i + 1 : Nat) : Int) := by rw [wI_in (by omega) (by omega)]; rfl
      have hs : f (i : Int) = some (.inl (((i + 1 : Nat) : Int))) := by
        rw [hf, hd, hw]
        have hi2 : i < (List.replicate n c ++ List.replicate 70 d).length := by simp; omega
        by_cases h : i < n
        · have h2 : decide ((i : Int) < ((List.replicate n c).length : Int)) = true := decide_eq_true (by simp; omega)
          have g1 : getO (List.replicate n c) (i : Int) = some c := by rw [getO_lt (by simpa using h)]; simp
          have g2 : getO (List.replicate n c ++ List.replicate 70 d) (i : Int) = some c := by rw [getO_lt hi2, List.getElem_append_left (by simpa using h), List.getElem_replicate]
          rw [h2, g1, g2]
          simp only [bind_some', if_true, hc, Bool.false_eq_true, if_false]
          rfl
        · have h2 : decide ((i : Int) < ((List.replicate n c).length : Int)) = false := decide_eq_false (by simp; omega)
          have g2 : getO (List.replicate n c ++ List.replicate 70 d) (i : Int) = some d := by rw [getO_lt hi2, List.getElem_append_right (by simp; omega), List.getElem_replicate]
          rw [h2, g2]
          simp only [bind_some', if_true, hdd, Bool.false_eq_true, if_false]
          rfl
      rw [loop_inl hs]
      exact ih (i + 1) (by omega)
  exact key (n + 70) 0 (by omega)
end Go.Gk
end

section
set_option linter.unusedSimpArgs false
namespace Go.Gk
def urlS : List UInt8 := [65, 66, 67, 68, 69, 70, 71, 72, 73, 74, 75, 76, 77, 78, 79, 80, 81, 82, 83, 84, 85, 86, 87, 88, 89, 90, 97, 98, 99, 100, 101, 102, 103, 104, 105, 106, 107, 108, 109, 110, 111, 112, 113, 114, 115, 116, 117, 118, 119, 120, 121, 122, 48, 49, 50, 51, 52, 53, 54, 55, 56, 57, 45, 95]
def stdS : List UInt8 := [65, 66, 67, 68, 69, 70, 71, 72, 73, 74, 75, 76, 77, 78, 79, 80, 81, 82, 83, 84, 85, 86, 87, 88, 89, 90, 97, 98, 99, 100, 101, 102, 103, 104, 105, 106, 107, 108, 109, 110, 111, 112, 113, 114, 115, 116, 117, 118, 119, 120, 121, 122, 48, 49, 50, 51, 52, 53, 54, 55, 56, 57, 43, 47]
def sg6 (sg : List UInt8) (n : Nat) : UInt8 := sg.getD n 0
def tri (a b c : UInt8) : Nat := a.toNat * 65536 + b.toNat * 256 + c.toNat
def spellL (sg : List UInt8) : List UInt8 → List UInt8
  | a :: b :: c :: r => sg6 sg (tri a b c / 262144) :: sg6 sg (tri a b c / 4096 % 64) :: sg6 sg (tri a b c / 64 % 64) :: sg6 sg (tri a b c % 64) :: spellL sg r
  | [a, b] => [sg6 sg (a.toNat / 4), sg6 sg (a.toNat % 4 * 16 + b.toNat / 16), sg6 sg (b.toNat % 16 * 4)]
  | [a] => [sg6 sg (a.toNat / 4), sg6 sg (a.toNat % 4 * 16)]
  | [] => []
theorem spellL_length (sg : List UInt8) : ∀ l, (spellL sg l).length = (8 * l.length + 5) / 6
  | a :: b :: c :: r => by have := spellL_length sg r; simp only [spellL, List.length_cons, this]; omega
  | [a, b] => by simp [spellL]
  | [a] => by simp [spellL]
  | [] => by simp [spellL]
theorem getO_sg {sg : List UInt8} (hsg : sg.length = 64) {n : Nat} (hn : n < 64) : getO sg (n : Int) = some (sg6 sg n) := by
  rw [getO_nat, sg6, List.getD_eq_getElem?_getD]
  rw [List.getElem?_eq_getElem (by omega)]; rfl
theorem v3_toNat (a b c : UInt8) : (((shl64 a.toUInt64 16) ||| (shl64 b.toUInt64 8)) ||| c.toUInt64).toNat = tri a b c := by
  have ha := a.toNat_lt; have hb := b.toNat_lt; have hc := c.toNat_lt
  simp only [UInt64.toNat_or, shl64_toNat, UInt8.toNat_toUInt64]
  have e1 : a.toNat * 2 ^ (min 16 64) % 18446744073709551616 = a.toNat * 65536 := by simp; omega
  have e2 : b.toNat * 2 ^ (min 8 64) % 18446744073709551616 = b.toNat * 256 := by simp; omega
  rw [e1, e2, or_add (x := a.toNat * 65536) (y := b.toNat * 256) 16 (by omega) (by omega), or_add 8 (by omega) (by omega)]
  rfl
theorem tri_lt (a b c : UInt8) : tri a b c < 16777216 := by
  have ha := a.toNat_lt; have hb := b.toNat_lt; have hc := c.toNat_lt
  unfold tri; omega
theorem mask63 (x : UInt64) : (x &&& 63).toNat = x.toNat % 64 := by
  rw [UInt64.toNat_and]; exact and_mask x.toNat 6
theorem spell_loop {sg : List UInt8} (hsg : sg.length = 64) : ∀ (l out : List UInt8), 3 * out.length + 4 * l.length + 24 ≤ 675000000000000 → loop (F.b64_spell_L1 sg) (l, out) = some (out ++ spellL sg l)
  | a :: b :: c :: r, out, hb => by
    have ht := tri_lt a b c
    have hl : decide ((3 : Int) ≤ (((a :: b :: c :: r).length : Nat) : Int)) = true := by simp; omega
    have step : F.b64_spell_L1 sg (a :: b :: c :: r, out) = some (.inl (r, out ++ [sg6 sg (tri a b c / 262144), sg6 sg (tri a b c / 4096 % 64), sg6 sg (tri a b c / 64 % 64), sg6 sg (tri a b c % 64)])) := by
      unfold F.b64_spell_L1
      simp only [hl, if_true, getO_lit0, getO_lit1, getO_lit2, bind_some', mask63, shr64_toNat, v3_toNat]
      have g1 : tri a b c / 2 ^ (min 18 64) = tri a b c / 262144 := rfl
      have g2 : tri a b c / 2 ^ (min 12 64) = tri a b c / 4096 := rfl
      have g3 : tri a b c / 2 ^ (min 6 64) = tri a b c / 64 := rfl
      rw [g1, g2, g3, getO_sg hsg (by omega), bind_some', getO_sg hsg (by omega), bind_some', getO_sg hsg (by omega), bind_some', getO_sg hsg (by omega), bind_some']
      rw [apO1_ok (by simp at hb ⊢; omega), bind_some']
      have : drO (a :: b :: c :: r) (3 : Int) = some r := by
        have := drO_ok (l := a :: b :: c :: r) (k := 3) (by simp)
        simpa using this
      rw [this, bind_some']; rfl
    rw [loop_inl step, spell_loop hsg r _ (by simp at hb ⊢; omega)]
    simp [spellL]
  | [a, b], out, hb => by
    have ha := a.toNat_lt; have hbb := b.toNat_lt
    refine loop_inr ?_
    unfold F.b64_spell_L1
    simp only [getO_lit0, getO_lit1, bind_some', UInt8.toNat_or, shr8_toNat, shl8_toNat, UInt8.toNat_and]
    rw [if_neg (by simp), if_pos (by simp)]
    have m3 : a.toNat &&& (3 : UInt8).toNat = a.toNat % 4 := and_mask a.toNat 2
    have m15 : b.toNat &&& (15 : UInt8).toNat = b.toNat % 16 := and_mask b.toNat 4
    have g1 : a.toNat / 2 ^ (min 2 8) = a.toNat / 4 := rfl
    have g2 : a.toNat % 4 * 2 ^ (min 4 8) % 256 = a.toNat % 4 * 16 := by simp; omega
    have g3 : b.toNat / 2 ^ (min 4 8) = b.toNat / 16 := rfl
    have g4 : b.toNat % 16 * 2 ^ (min 2 8) % 256 = b.toNat % 16 * 4 := by simp; omega
    rw [m3, m15, g1, g2, g3, g4, or_add 4 (by omega) (by omega)]
    rw [getO_sg hsg (by omega), bind_some', getO_sg hsg (by omega), bind_some', getO_sg hsg (by omega), bind_some', apO1_ok (by simp at hb ⊢; omega), bind_some']
    rfl
  | [a], out, hb => by
    have ha := a.toNat_lt
    refine loop_inr ?_
    unfold F.b64_spell_L1
    simp only [getO_lit0, bind_some', shr8_toNat, shl8_toNat, UInt8.toNat_and]
    rw [if_neg (by simp), if_neg (by simp), if_pos (by simp)]
    have m3 : a.toNat &&& (3 : UInt8).toNat = a.toNat % 4 := and_mask a.toNat 2
    have g1 : a.toNat / 2 ^ (min 2 8) = a.toNat / 4 := rfl
    have g2 : a.toNat % 4 * 2 ^ (min 4 8) % 256 = a.toNat % 4 * 16 := by simp; omega
    rw [m3, g1, g2]
    rw [getO_sg hsg (by omega), bind_some', getO_sg hsg (by omega), bind_some', apO1_ok (by simp at hb ⊢; omega), bind_some']
    rfl
  | [], out, _ => by
    refine loop_inr ?_
    unfold F.b64_spell_L1
    simp [F.b64_spell_K1, oinr, spellL]
theorem b64_spell_eq {sg : List UInt8} (hsg : sg.length = 64) (l : List UInt8) (h : l.length ≤ 140737488355328) : F.b64_spell l sg = some (spellL sg l) := by
  unfold F.b64_spell
  have e1 : wI ((l.length : Int) + 2) = ((l.length + 2 : Nat) : Int) := by rw [wI_in] <;> omega
  have e2 : wI (Int.tdiv ((l.length + 2 : Nat) : Int) 3) = (((l.length + 2) / 3 : Nat) : Int) := by
    rw [show Int.tdiv ((l.length + 2 : Nat) : Int) 3 = (((l.length + 2) / 3 : Nat) : Int) from rfl, wI_nat _ (by omega)]
  have e3 : wI ((((l.length + 2) / 3 : Nat) : Int) * 4) = (((l.length + 2) / 3 * 4 : Nat) : Int) := by rw [wI_in] <;> omega
  rw [e1, e2, e3, mkO_ok (by omega), bind_some']
  simpa using spell_loop hsg l [] (by simp; omega)
theorem urlS_len : urlS.length = 64 := rfl
theorem b64_Encode_eq (l : List UInt8) (h : l.length ≤ 140737488355328) : F.b64_Encode l = some (spellL urlS l) := by
  unfold F.b64_Encode
  change obind (F.b64_spell l urlS) _ = _
  rw [b64_spell_eq urlS_len l h]; rfl
def fillL (s : List UInt8) : List UInt8 := s ++ List.replicate ((4 - s.length % 4) % 4) 61
end Go.Gk
end

section
set_option linter.unusedSimpArgs false
namespace Go.Gk
theorem ofInt64_nat (m : Nat) (h : m < 18446744073709551616) : (UInt64.ofInt (m : Int)).toNat = m := by
  simp [UInt64.ofInt, UInt64.toNat_ofNat']
  omega
def bitN (l : List UInt8) (i : Nat) : Nat := (l.getD (i / 8) 0).toNat / 2 ^ (7 - i % 8) % 2
def accB (l : List UInt8) (i : Nat) : Nat → Nat
  | 0 => 0
  | k + 1 => 2 * accB l i k + bitN l (i + k)
def sext (l : List UInt8) (q : Nat) : Nat :=
  let g := q / 4
  let b0 := (l.getD (3 * g) 0).toNat
  let b1 := (l.getD (3 * g + 1) 0).toNat
  let b2 := (l.getD (3 * g + 2) 0).toNat
  if q % 4 = 0 then b0 / 4
  else if q % 4 = 1 then b0 % 4 * 16 + b1 / 16
  else if q % 4 = 2 then b1 % 16 * 4 + b2 / 64
  else b2 % 64
end Go.Gk
end

section
set_option linter.unusedSimpArgs false
namespace Go.Gk
def num (sg : List UInt8) (c : UInt8) : Nat := sg.findIdx (· == c)
theorem num_lt {sg : List UInt8} {c : UInt8} (h : c ∈ sg) : num sg c < sg.length := by
  unfold num; exact List.findIdx_lt_length_of_exists ⟨c, h, by simp⟩
theorem ixByte_num {sg : List UInt8} {c : UInt8} (h : c ∈ sg) : ixByte sg c = (num sg c : Int) := by
  unfold ixByte num
  rw [List.findIdx?_eq_some_of_exists ⟨c, h, by simp⟩]
theorem ixByte_out {sg : List UInt8} {c : UInt8} (h : c ∉ sg) : ixByte sg c = -1 := by
  unfold ixByte
  rw [List.findIdx?_eq_none_iff.2 (fun x hx => by simp; rintro rfl; exact h hx)]
theorem ixByte_neg (sg : List UInt8) (c : UInt8) : decide (ixByte sg c < 0) = decide (c ∉ sg) := by
  by_cases h : c ∈ sg
  · rw [ixByte_num h]; simp [h]
  · rw [ixByte_out h]; simp [h]
theorem sg6_num {sg : List UInt8} {c : UInt8} (h : c ∈ sg) : sg6 sg (num sg c) = c := by
  have := num_lt h
  unfold sg6
  rw [List.getD_eq_getElem?_getD, List.getElem?_eq_getElem this]
  have h2 : (sg[num sg c] == c) = true := List.findIdx_getElem (p := (· == c)) (w := this)
  simpa using h2
structure SgOk (sg : List UInt8) : Prop where
  len : sg.length = 64
  inv : ∀ n, n < 64 → num sg (sg6 sg n) = n
theorem urlS_ok : SgOk urlS := ⟨rfl, by decide⟩
theorem sg6_mem {sg : List UInt8} (h : SgOk sg) {n : Nat} (hn : n < 64) : sg6 sg n ∈ sg := by
  unfold sg6
  rw [List.getD_eq_getElem?_getD, List.getElem?_eq_getElem (by rw [h.len]; exact hn)]
  simp
theorem num_lt64 {sg : List UInt8} (h : SgOk sg) {c : UInt8} (hc : c ∈ sg) : num sg c < 64 := by have := num_lt hc; rw [h.len] at this; exact this
theorem strings_IndexByte_eq (sg : List UInt8) (c : UInt8) : F.strings_IndexByte sg c = some (ixByte sg c) := rfl
def quad (sg : List UInt8) (a b c d : UInt8) : Nat := num sg a * 262144 + num sg b * 4096 + num sg c * 64 + num sg d
def tri3 (sg : List UInt8) (a b c : UInt8) : Nat := num sg a * 262144 + num sg b * 4096 + num sg c * 64
def duo2 (sg : List UInt8) (a b : UInt8) : Nat := num sg a * 262144 + num sg b * 4096
def readL (sg : List UInt8) : List UInt8 → List UInt8
  | a :: b :: c :: d :: r => UInt8.ofNat (quad sg a b c d / 65536) :: UInt8.ofNat (quad sg a b c d / 256) :: UInt8.ofNat (quad sg a b c d) :: readL sg r
  | [a, b, c] => [UInt8.ofNat (tri3 sg a b c / 65536), UInt8.ofNat (tri3 sg a b c / 256)]
  | [a, b] => [UInt8.ofNat (duo2 sg a b / 65536)]
  | _ => []
def restL (sg : List UInt8) : List UInt8 → Bool
  | _ :: _ :: _ :: _ :: r => restL sg r
  | [a, b, c] => tri3 sg a b c % 256 == 0
  | [a, b] => duo2 sg a b % 65536 == 0
  | _ => true
theorem b64_number_ok {sg : List UInt8} (hs : SgOk sg) {c : UInt8} (h : c ∈ sg) : F.b64_number c sg = some (UInt64.ofNat (num sg c)) := by
  unfold F.b64_number
  rw [strings_IndexByte_eq, bind_some', ixByte_num h]
  have h1 := num_lt64 hs h
  congr 1
  apply UInt64.toNat_inj.1
  rw [ofInt64_nat _ (by omega), UInt64.toNat_ofNat']; omega
theorem u64n (n : Nat) (h : n < 64) : (UInt64.ofNat n).toNat = n := by rw [UInt64.toNat_ofNat']; omega
theorem or3 {a b c : Nat} (_ha : a < 64) (hb : b < 64) (hc : c < 64) : a * 262144 ||| b * 4096 ||| c * 64 = a * 262144 + b * 4096 + c * 64 := by
  rw [or_add (x := a * 262144) (y := b * 4096) 18 (by omega) (by omega), or_add 12 (by omega) (by omega)]
theorem quad_u {sg : List UInt8} (hs : SgOk sg) {a b c d : UInt8} (ha : a ∈ sg) (hb : b ∈ sg) (hc : c ∈ sg) (hd : d ∈ sg) :
    ((((shl64 (UInt64.ofNat (num sg a)) 18) ||| (shl64 (UInt64.ofNat (num sg b)) 12)) ||| (shl64 (UInt64.ofNat (num sg c)) 6)) ||| (UInt64.ofNat (num sg d))).toNat = quad sg a b c d := by
  have h1 := num_lt64 hs ha; have h2 := num_lt64 hs hb; have h3 := num_lt64 hs hc; have h4 := num_lt64 hs hd
  simp only [UInt64.toNat_or, shl64_toNat, u64n _ h1, u64n _ h2, u64n _ h3, u64n _ h4]
  have e1 : num sg a * 2 ^ (min 18 64) % 18446744073709551616 = num sg a * 262144 := by simp; omega
  have e2 : num sg b * 2 ^ (min 12 64) % 18446744073709551616 = num sg b * 4096 := by simp; omega
  have e3 : num sg c * 2 ^ (min 6 64) % 18446744073709551616 = num sg c * 64 := by simp; omega
  rw [e1, e2, e3, or3 h1 h2 h3, or_add 6 (by omega) (by omega)]
  rfl
theorem tri3_u {sg : List UInt8} (hs : SgOk sg) {a b c : UInt8} (ha : a ∈ sg) (hb : b ∈ sg) (hc : c ∈ sg) :
    ((shl64 (UInt64.ofNat (num sg c)) 6) ||| ((shl64 (UInt64.ofNat (num sg a)) 18) ||| (shl64 (UInt64.ofNat (num sg b)) 12))).toNat = tri3 sg a b c := by
  have h1 := num_lt64 hs ha; have h2 := num_lt64 hs hb; have h3 := num_lt64 hs hc
  simp only [UInt64.toNat_or, shl64_toNat, u64n _ h1, u64n _ h2, u64n _ h3]
  have e1 : num sg a * 2 ^ (min 18 64) % 18446744073709551616 = num sg a * 262144 := by simp; omega
  have e2 : num sg b * 2 ^ (min 12 64) % 18446744073709551616 = num sg b * 4096 := by simp; omega
  have e3 : num sg c * 2 ^ (min 6 64) % 18446744073709551616 = num sg c * 64 := by simp; omega
  rw [e1, e2, e3, Nat.or_comm, or3 h1 h2 h3]
  rfl
theorem duo2_u {sg : List UInt8} (hs : SgOk sg) {a b : UInt8} (ha : a ∈ sg) (hb : b ∈ sg) :
    ((0 : UInt64) ||| ((shl64 (UInt64.ofNat (num sg a)) 18) ||| (shl64 (UInt64.ofNat (num sg b)) 12))).toNat = duo2 sg a b := by
  have h1 := num_lt64 hs ha; have h2 := num_lt64 hs hb
  simp only [UInt64.toNat_or, shl64_toNat, u64n _ h1, u64n _ h2]
  have e1 : num sg a * 2 ^ (min 18 64) % 18446744073709551616 = num sg a * 262144 := by simp; omega
  have e2 : num sg b * 2 ^ (min 12 64) % 18446744073709551616 = num sg b * 4096 := by simp; omega
  rw [e1, e2, or_add (x := num sg a * 262144) 18 (by omega) (by omega)]
  simp [duo2]
theorem u8_of {N : UInt64} {n : Nat} (h : N.toNat = n) : N.toUInt8 = UInt8.ofNat n := by
  apply UInt8.toNat_inj.1
  simp [UInt8.toNat_ofNat', h]
theorem u8_shr {N : UInt64} {n k : Nat} (h : N.toNat = n) (hk : k ≤ 64) : (shr64 N k).toUInt8 = UInt8.ofNat (n / 2 ^ k) := by
  refine u8_of ?_
  rw [shr64_toNat, h, Nat.min_eq_left hk]
theorem mask_zero {N : UInt64} {n : Nat} (h : N.toNat = n) (k : UInt64) (j : Nat) (hk : k.toNat = 2 ^ j - 1) : ((N &&& k) == 0) = (n % 2 ^ j == 0) := by
  have : (N &&& k).toNat = n % 2 ^ j := by rw [UInt64.toNat_and, h, hk]; exact and_mask n j
  rw [← this]
  by_cases h0 : N &&& k = 0
  · rw [h0]; rfl
  · have h1 : (N &&& k).toNat ≠ 0 := fun e => h0 (UInt64.toNat_inj.1 e)
    rw [beq_eq_false_iff_ne.2 h0, beq_eq_false_iff_ne.2 h1]
theorem read_loop {sg : List UInt8} (hs : SgOk sg) : ∀ (l out : List UInt8), (∀ c ∈ l, c ∈ sg) → out.length + l.length ≤ 225000000000000 →
    loop (F.b64_read_L1 sg) (l, out) = some (out ++ readL sg l, restL sg l)
  | a :: b :: c :: d :: r, out, hg, hb => by
    have ha := hg a (by simp); have hbb := hg b (by simp); have hc := hg c (by simp); have hd := hg d (by simp)
    have hN := quad_u hs ha hbb hc hd
    have step : F.b64_read_L1 sg (a :: b :: c :: d :: r, out) = some (.inl (r, out ++ [UInt8.ofNat (quad sg a b c d / 65536), UInt8.ofNat (quad sg a b c d / 256), UInt8.ofNat (quad sg a b c d)])) := by
      unfold F.b64_read_L1
      dsimp only
      rw [if_pos (by simp; omega)]
      rw [getO_lit0, bind_some', b64_number_ok hs ha, bind_some', getO_lit1, bind_some', b64_number_ok hs hbb, bind_some', getO_lit2, bind_some', b64_number_ok hs hc, bind_some', getO_lit3, bind_some', b64_number_ok hs hd, bind_some']
      rw [apO1_ok (by simp at hb ⊢; omega), bind_some', u8_of hN, u8_shr hN (k := 16) (by omega), u8_shr hN (k := 8) (by omega)]
      have : drO (a :: b :: c :: d :: r) (4 : Int) = some r := by
        have := drO_ok (l := a :: b :: c :: d :: r) (k := 4) (by simp)
        simpa using this
      rw [this, bind_some']; rfl
    rw [loop_inl step, read_loop hs r _ (fun x hx => hg x (by simp [hx])) (by simp at hb ⊢; omega)]
    simp [readL, restL]
  | [a, b, c], out, hg, hb => by
    have ha := hg a (by simp); have hbb := hg b (by simp); have hc := hg c (by simp)
    have hN := tri3_u hs ha hbb hc
    refine loop_inr ?_
    unfold F.b64_read_L1
    dsimp only
    rw [if_neg (by simp), if_pos (by simp), getO_lit2, bind_some', b64_number_ok hs hc, bind_some']
    unfold F.b64_read_K1
    dsimp only
    rw [getO_lit0, bind_some', b64_number_ok hs ha, bind_some', getO_lit1, bind_some', b64_number_ok hs hbb, bind_some', apO1_ok (by simp at hb ⊢; omega), bind_some', if_pos (by simp), apO1_ok (by simp at hb ⊢; omega), bind_some', u8_shr hN (k := 16) (by omega), u8_shr hN (k := 8) (by omega), mask_zero hN 255 8 rfl]
    simp [readL, restL, oinr]
  | [a, b], out, hg, hb => by
    have ha := hg a (by simp); have hbb := hg b (by simp)
    have hN := duo2_u hs ha hbb
    refine loop_inr ?_
    unfold F.b64_read_L1
    dsimp only
    rw [if_neg (by simp), if_neg (by simp), if_pos (by simp)]
    unfold F.b64_read_K1
    dsimp only
    rw [getO_lit0, bind_some', b64_number_ok hs ha, bind_some', getO_lit1, bind_some', b64_number_ok hs hbb, bind_some', apO1_ok (by simp at hb ⊢; omega), bind_some', if_neg (by simp), u8_shr hN (k := 16) (by omega), mask_zero hN 65535 16 rfl]
    simp [readL, restL, oinr]
  | [a], out, _, hb => by
    refine loop_inr ?_
    unfold F.b64_read_L1
    dsimp only
    rw [if_neg (by simp), if_neg (by simp), if_neg (by simp)]
    simp [readL, restL, oinr]
  | [], out, _, hb => by
    refine loop_inr ?_
    unfold F.b64_read_L1
    dsimp only
    rw [if_neg (by simp), if_neg (by simp), if_neg (by simp)]
    simp [readL, restL, oinr]
theorem b64_read_eq {sg : List UInt8} (hs : SgOk sg) (l : List UInt8) (hg : ∀ c ∈ l, c ∈ sg) (h : l.length ≤ 225000000000000) : F.b64_read l sg = some (readL sg l, restL sg l) := by
  unfold F.b64_read
  have e1 : wI (Int.tdiv (l.length : Int) 4) = ((l.length / 4 : Nat) : Int) := by
    rw [show Int.tdiv (l.length : Int) 4 = ((l.length / 4 : Nat) : Int) from rfl, wI_nat _ (by omega)]
  have e2 : wI (((l.length / 4 : Nat) : Int) * 3) = ((l.length / 4 * 3 : Nat) : Int) := by rw [wI_in] <;> omega
  have e3 : wI (((l.length / 4 * 3 : Nat) : Int) + 2) = ((l.length / 4 * 3 + 2 : Nat) : Int) := by rw [wI_in] <;> omega
  rw [e1, e2, e3, mkO_ok (by omega), bind_some']
  simpa using read_loop hs l [] hg (by simpa using h)
end Go.Gk
end

section
set_option linter.unusedSimpArgs false
set_option linter.unusedVariables false
namespace Go.Gk
def bitS (sg l : List UInt8) (i : Nat) : Nat := num sg (l.getD (i / 6) 0) / 2 ^ (5 - i % 6) % 2
def partB (sg l : List UInt8) (k : Nat) : Nat → Nat
  | 0 => 0
  | t + 1 => partB sg l k t + bitS sg l (8 * k + t) * 2 ^ (7 - t)
def roomB (sg l : List UInt8) (m i : Nat) : List UInt8 := (List.range m).map (fun k => UInt8.ofNat (partB sg l k (min 8 (i - 8 * k))))
section
variable {sg : List UInt8} {std : Bool} (hs : SgOk sg) (hsg : (if std then stdS else urlS) = sg) (l : List UInt8) (hg : ∀ c ∈ l, c ∈ sg) (hl : l.length ≤ 225000000000000)
include hs hsg hg hl
end
def byteN (sg l : List UInt8) (k : Nat) : Nat :=
  let g := k / 3
  let n0 := num sg (l.getD (4 * g) 0)
  let n1 := num sg (l.getD (4 * g + 1) 0)
  let n2 := num sg (l.getD (4 * g + 2) 0)
  let n3 := num sg (l.getD (4 * g + 3) 0)
  if k % 3 = 0 then n0 * 4 + n1 / 16
  else if k % 3 = 1 then n1 % 16 * 16 + n2 / 4
  else n2 % 4 * 64 + n3
end Go.Gk
end

section
set_option linter.unusedSimpArgs false
set_option linter.unusedVariables false
namespace Go.Gk
theorem loop_upS {σ ρ : Type} {f : σ → Option (σ ⊕ ρ)} {n : Nat} {r : ρ} (st : Nat → σ) (hstep : ∀ i, i < n → f (st i) = some (.inl (st (i + 1)))) (hend : f (st n) = some (.inr r)) :
    ∀ i, i ≤ n → loop f (st i) = some r := by
  intro i hi
  induction h : n - i generalizing i with
  | zero =>
    have : i = n := by omega
    subst this
    exact loop_inr hend
  | succ k ih =>
    rw [loop_inl (hstep i (by omega))]
    exact ih (i + 1) (by omega) (by omega)
def badAt (sg l : List UInt8) : Option Nat := l.findIdx? (fun c => decide (c ∉ sg))
theorem badAt_some {sg l : List UInt8} {i : Nat} (h : badAt sg l = some i) : ∃ hi : i < l.length, l[i] ∉ sg ∧ ∀ j (hj : j < i), l[j]'(by omega) ∈ sg := by
  unfold badAt at h
  rw [List.findIdx?_eq_some_iff_getElem] at h
  obtain ⟨hi, h1, h2⟩ := h
  refine ⟨hi, by simpa using h1, fun j hj => by have := h2 j hj; simpa using this⟩
theorem badAt_none {sg l : List UInt8} (h : badAt sg l = none) : ∀ c ∈ l, c ∈ sg := by
  unfold badAt at h
  rw [List.findIdx?_eq_none_iff] at h
  intro c hc
  simpa using h c hc
theorem badAt_good {sg l : List UInt8} (h : ∀ c ∈ l, c ∈ sg) : badAt sg l = none := by
  unfold badAt
  rw [List.findIdx?_eq_none_iff]
  intro c hc
  simpa using h c hc
theorem loop_scan {σ ρ : Type} {f : σ → Option (σ ⊕ ρ)} {sg l : List UInt8} {n : Nat} (hn : n ≤ l.length) (st : Nat → σ) (stop : Nat → ρ) (fin : ρ)
    (hgood : ∀ i (hi : i < n), l[i]'(by omega) ∈ sg → f (st i) = some (.inl (st (i + 1))))
    (hbad : ∀ i (hi : i < n), l[i]'(by omega) ∉ sg → f (st i) = some (.inr (stop i)))
    (hend : (∀ c ∈ l.take n, c ∈ sg) → loop f (st n) = some fin) :
    loop f (st 0) = some (match badAt sg (l.take n) with | some i => stop i | none => fin) := by
  cases h : badAt sg (l.take n) with
  | some i =>
    obtain ⟨hi, h1, h2⟩ := badAt_some h
    simp at hi
    refine loop_upS (n := i) st (fun j hj => hgood j (by omega) ?_) (hbad i (by omega) ?_) 0 (by omega)
    · have := h2 j hj; simpa using this
    · simpa using h1
  | none =>
    have hg := badAt_none h
    have : ∀ i, i ≤ n → loop f (st (n - i)) = some fin := by
      intro i
      induction i with
      | zero => intro _; exact hend hg
      | succ i ih =>
        intro hi
        rw [loop_inl (hgood (n - (i + 1)) (by omega) ?_)]
        · rw [show n - (i + 1) + 1 = n - i by omega]; exact ih (by omega)
        · apply hg
          rw [List.mem_take_iff_getElem]
          exact ⟨n - (i + 1), by omega, rfl⟩
    have := this n (Nat.le_refl _)
    rwa [Nat.sub_self] at this
def decU (l : List UInt8) : List UInt8 × Int × Int :=
  match badAt urlS l with
  | some i => ([], 20, (i : Int))
  | none => if l.length % 4 = 1 then ([], 21, (l.length : Int)) else if restL urlS l = true then (readL urlS l, 0, 0) else ([], 22, (l.length : Int) - 1)
theorem step_int (i : Nat) (h : i < 225000000000001) : wI ((i : Int) + 1) = ((i + 1 : Nat) : Int) := by rw [wI_in] <;> omega
theorem b64_number_neg (sg : List UInt8) (c : UInt8) : F.strings_IndexByte sg c = some (ixByte sg c) := rfl
theorem tmod4 (n : Nat) : Int.tmod (n : Int) 4 = ((n % 4 : Nat) : Int) := rfl
theorem b64_Decode_eq (l : List UInt8) (hl : l.length ≤ 225000000000000) : F.b64_Decode l = some (decU l) := by
  unfold F.b64_Decode decU
  have := loop_scan (f := F.b64_Decode_L1 l) (sg := urlS) (l := l) (n := l.length) (Nat.le_refl _) (fun i => (i : Int)) (fun i => ([], 20, (i : Int)))
    (if l.length % 4 = 1 then ([], 21, (l.length : Int)) else if restL urlS l = true then (readL urlS l, 0, 0) else ([], 22, (l.length : Int) - 1))
    (fun i hi hm => by
      unfold F.b64_Decode_L1
      dsimp only
      rw [if_pos (by simp; omega), getO_lt hi, bind_some', b64_number_neg, bind_some', show ∀ c, decide (ixByte [65, 66, 67, 68, 69, 70, 71, 72, 73, 74, 75, 76, 77, 78, 79, 80, 81, 82, 83, 84, 85, 86, 87, 88, 89, 90, 97, 98, 99, 100, 101, 102, 103, 104, 105, 106, 107, 108, 109, 110, 111, 112, 113, 114, 115, 116, 117, 118, 119, 120, 121, 122, 48, 49, 50, 51, 52, 53, 54, 55, 56, 57, 45, 95] c < 0) = decide (c ∉ urlS) from fun c => ixByte_neg urlS c, if_neg (by simpa using hm), step_int i (by omega)]
      rfl)
    (fun i hi hm => by
      unfold F.b64_Decode_L1
      dsimp only
      rw [if_pos (by simp; omega), getO_lt hi, bind_some', b64_number_neg, bind_some', show ∀ c, decide (ixByte [65, 66, 67, 68, 69, 70, 71, 72, 73, 74, 75, 76, 77, 78, 79, 80, 81, 82, 83, 84, 85, 86, 87, 88, 89, 90, 97, 98, 99, 100, 101, 102, 103, 104, 105, 106, 107, 108, 109, 110, 111, 112, 113, 114, 115, 116, 117, 118, 119, 120, 121, 122, 48, 49, 50, 51, 52, 53, 54, 55, 56, 57, 45, 95] c < 0) = decide (c ∉ urlS) from fun c => ixByte_neg urlS c, if_pos (by simpa using hm)]
      rfl)
    (fun hg => by
      refine loop_inr ?_
      rw [List.take_length] at hg
      unfold F.b64_Decode_L1
      dsimp only
      rw [if_neg (by simp), tmod4]
      by_cases h1 : l.length % 4 = 1
      · rw [if_pos (by simp [h1]), if_pos h1]; rfl
      · rw [if_neg (by simp; omega), if_neg h1]
        change oinr (obind (F.b64_read l urlS) _) = _
        rw [b64_read_eq urlS_ok l hg hl, bind_some']
        by_cases h2 : restL urlS l = true
        · rw [if_neg (by simp [h2]), if_pos h2]; rfl
        · have h3 : l.length ≠ 0 := by intro e; have : l = [] := List.eq_nil_of_length_eq_zero e; subst this; exact h2 rfl
          have e : wI ((l.length : Int) - 1) = (l.length : Int) - 1 := by rw [wI_in] <;> omega
          rw [if_pos (by simpa using h2), if_neg h2, e]; rfl)
  rw [List.take_length] at this
  exact this
def stdEnd (l : List UInt8) : Nat :=
  if l.length ≥ 1 ∧ l.getD (l.length - 1) 0 = 61 then (if l.length ≥ 2 ∧ l.getD (l.length - 2) 0 = 61 then l.length - 2 else l.length - 1) else l.length
def decS (l : List UInt8) : List UInt8 × Int × Int :=
  match badAt stdS (l.take (stdEnd l)) with
  | some i => ([], 20, (i : Int))
  | none => if l.length % 4 ≠ 0 then ([], 21, (l.length : Int)) else if restL stdS (l.take (stdEnd l)) = true then (readL stdS (l.take (stdEnd l)), 0, 0) else ([], 22, (stdEnd l : Int) - 1)
end Go.Gk
end

section
set_option linter.unusedSimpArgs false
set_option linter.unusedVariables false
namespace Go.Gk
theorem law1_same_eq (x y : List UInt8) (hx : x.length < 225000000000000) : F.law1_same x y = some (decide (x = y)) := by
  unfold F.law1_same
  by_cases hl : x.length = y.length
  · rw [if_neg (by simp [hl])]
    have key : ∀ m i, i + m = x.length → loop (F.law1_same_L1 x y) (i : Int) = some (decide (x.drop i = y.drop i)) := by
      intro m
      induction m with
      | zero =>
        intro i hi
        refine loop_inr ?_
        unfold F.law1_same_L1
        dsimp only
        rw [if_neg (by simp; omega), List.drop_eq_nil_of_le (by omega), List.drop_eq_nil_of_le (by omega)]
        simp [oinr]
      | succ m ih =>
        intro i hi
        have h1 : i < x.length := by omega
        have h2 : i < y.length := by omega
        rw [List.drop_eq_getElem_cons h1, List.drop_eq_getElem_cons h2]
        by_cases he : x[i] = y[i]
        · rw [loop_inl (s' := ((i + 1 : Nat) : Int))]
          · rw [ih (i + 1) (by omega), he]; simp only [List.cons.injEq, true_and]
          · unfold F.law1_same_L1
            dsimp only
            rw [if_pos (by simp; omega), getO_lt h1, bind_some', getO_lt h2, bind_some', if_neg (by simp [he]), step_int i (by omega)]; rfl
        · refine loop_inr ?_
          unfold F.law1_same_L1
          dsimp only
          rw [if_pos (by simp; omega), getO_lt h1, bind_some', getO_lt h2, bind_some', if_pos (by simp [he])]
          simp only [List.cons.injEq, he, false_and, decide_false]; rfl
    simpa using key x.length 0 (by omega)
  · rw [if_pos (by simp; omega)]
    have : x ≠ y := fun e => hl (by rw [e])
    simp [this]
theorem tri_quad {sg : List UInt8} (hs : SgOk sg) (a b c : UInt8) : quad sg (sg6 sg (tri a b c / 262144)) (sg6 sg (tri a b c / 4096 % 64)) (sg6 sg (tri a b c / 64 % 64)) (sg6 sg (tri a b c % 64)) = tri a b c := by
  have := tri_lt a b c
  unfold quad
  rw [hs.inv _ (by omega), hs.inv _ (by omega), hs.inv _ (by omega), hs.inv _ (by omega)]
  omega
theorem u8_eq (a : UInt8) (n : Nat) (h : n % 256 = a.toNat) : UInt8.ofNat n = a := by
  apply UInt8.toNat_inj.1
  rw [UInt8.toNat_ofNat']; exact h
theorem read_spell {sg : List UInt8} (hs : SgOk sg) : ∀ l, readL sg (spellL sg l) = l ∧ restL sg (spellL sg l) = true ∧ ∀ c ∈ spellL sg l, c ∈ sg
  | a :: b :: c :: r => by
    obtain ⟨h1, h2, h3⟩ := read_spell hs r
    have ha := a.toNat_lt; have hb := b.toNat_lt; have hc := c.toNat_lt
    have ht := tri_lt a b c
    refine ⟨?_, ?_, ?_⟩
    · simp only [spellL, readL, tri_quad hs, h1]
      rw [u8_eq a _ (by unfold tri; omega), u8_eq b _ (by unfold tri; omega), u8_eq c _ (by unfold tri; omega)]
    · simp only [spellL, restL, h2]
    · intro x hx
      simp only [spellL, List.mem_cons] at hx
      rcases hx with rfl | rfl | rfl | rfl | hx
      · exact sg6_mem hs (by omega)
      · exact sg6_mem hs (by omega)
      · exact sg6_mem hs (by omega)
      · exact sg6_mem hs (by omega)
      · exact h3 x hx
  | [a, b] => by
    have ha := a.toNat_lt; have hb := b.toNat_lt
    have i1 := hs.inv (a.toNat / 4) (by omega); have i2 := hs.inv (a.toNat % 4 * 16 + b.toNat / 16) (by omega); have i3 := hs.inv (b.toNat % 16 * 4) (by omega)
    refine ⟨?_, ?_, ?_⟩
    · simp only [spellL, readL, tri3, i1, i2, i3]
      rw [u8_eq a _ (by omega), u8_eq b _ (by omega)]
    · simp only [spellL, restL, tri3, i1, i2, i3, beq_iff_eq]; omega
    · intro x hx
      simp only [spellL, List.mem_cons, List.not_mem_nil, or_false] at hx
      rcases hx with rfl | rfl | rfl
      · exact sg6_mem hs (by omega)
      · exact sg6_mem hs (by omega)
      · exact sg6_mem hs (by omega)
  | [a] => by
    have ha := a.toNat_lt
    have i1 := hs.inv (a.toNat / 4) (by omega); have i2 := hs.inv (a.toNat % 4 * 16) (by omega)
    refine ⟨?_, ?_, ?_⟩
    · simp only [spellL, readL, duo2, i1, i2]
      rw [u8_eq a _ (by omega)]
    · simp only [spellL, restL, duo2, i1, i2, beq_iff_eq]; omega
    · intro x hx
      simp only [spellL, List.mem_cons, List.not_mem_nil, or_false] at hx
      rcases hx with rfl | rfl
      · exact sg6_mem hs (by omega)
      · exact sg6_mem hs (by omega)
  | [] => by simp [spellL, readL, restL]
theorem sign_eq {sg : List UInt8} {c d : UInt8} (hc : c ∈ sg) {n : Nat} (h : num sg c = n) (hd : d = sg6 sg n) : d = c := by
  rw [hd, ← h, sg6_num hc]
theorem spell_read {sg : List UInt8} (hs : SgOk sg) : ∀ l, (∀ c ∈ l, c ∈ sg) → l.length % 4 ≠ 1 → restL sg l = true → spellL sg (readL sg l) = l
  | a :: b :: c :: d :: r, hg, h1, h2 => by
    have ih := spell_read hs r (fun x hx => hg x (by simp [hx])) (by simp at h1; omega) (by simpa [restL] using h2)
    have ha := num_lt64 hs (hg a (by simp)); have hb := num_lt64 hs (hg b (by simp)); have hc := num_lt64 hs (hg c (by simp)); have hd := num_lt64 hs (hg d (by simp))
    have hq : tri (UInt8.ofNat (quad sg a b c d / 65536)) (UInt8.ofNat (quad sg a b c d / 256)) (UInt8.ofNat (quad sg a b c d)) = quad sg a b c d := by
      unfold tri
      rw [UInt8.toNat_ofNat', UInt8.toNat_ofNat', UInt8.toNat_ofNat']
      have : quad sg a b c d < 16777216 := by unfold quad; omega
      omega
    simp only [readL, spellL, hq, ih]
    rw [sign_eq (hg a (by simp)) rfl (d := sg6 sg (quad sg a b c d / 262144)) (by congr 1; unfold quad; omega),
      sign_eq (hg b (by simp)) rfl (d := sg6 sg (quad sg a b c d / 4096 % 64)) (by congr 1; unfold quad; omega),
      sign_eq (hg c (by simp)) rfl (d := sg6 sg (quad sg a b c d / 64 % 64)) (by congr 1; unfold quad; omega),
      sign_eq (hg d (by simp)) rfl (d := sg6 sg (quad sg a b c d % 64)) (by congr 1; unfold quad; omega)]
  | [a, b, c], hg, _, h2 => by
    have ha := num_lt64 hs (hg a (by simp)); have hb := num_lt64 hs (hg b (by simp)); have hc := num_lt64 hs (hg c (by simp))
    simp only [restL, tri3, beq_iff_eq] at h2
    simp only [readL, spellL, tri3]
    rw [UInt8.toNat_ofNat', UInt8.toNat_ofNat']
    rw [sign_eq (hg a (by simp)) rfl (d := sg6 sg _) (by congr 1; omega),
      sign_eq (hg b (by simp)) rfl (d := sg6 sg _) (by congr 1; omega),
      sign_eq (hg c (by simp)) rfl (d := sg6 sg _) (by congr 1; omega)]
  | [a, b], hg, _, h2 => by
    have ha := num_lt64 hs (hg a (by simp)); have hb := num_lt64 hs (hg b (by simp))
    simp only [restL, duo2, beq_iff_eq] at h2
    simp only [readL, spellL, duo2]
    rw [UInt8.toNat_ofNat']
    rw [sign_eq (hg a (by simp)) rfl (d := sg6 sg _) (by congr 1; omega),
      sign_eq (hg b (by simp)) rfl (d := sg6 sg _) (by congr 1; omega)]
  | [a], _, h, _ => absurd rfl h
  | [], _, _, _ => rfl
theorem decU_spell (l : List UInt8) : decU (spellL urlS l) = (l, 0, 0) := by
  obtain ⟨h1, h2, h3⟩ := read_spell urlS_ok l
  have hl := spellL_length urlS l
  unfold decU
  rw [badAt_good h3]
  dsimp only
  rw [if_neg (by omega), if_pos h2, h1]
theorem decU_back (t x : List UInt8) (p : Int) (h : decU t = (x, 0, p)) : spellL urlS x = t ∧ p = 0 := by
  unfold decU at h
  cases hb : badAt urlS t with
  | some i => rw [hb] at h; simp at h
  | none =>
    rw [hb] at h
    have hg := badAt_none hb
    dsimp only at h
    by_cases h1 : t.length % 4 = 1
    · rw [if_pos h1] at h; simp at h
    · rw [if_neg h1] at h
      by_cases h2 : restL urlS t = true
      · rw [if_pos h2] at h
        simp only [Prod.mk.injEq] at h
        obtain ⟨rfl, _, rfl⟩ := h
        exact ⟨spell_read urlS_ok _ hg h1 h2, rfl⟩
      · rw [if_neg h2] at h; simp at h
end Go.Gk
end

section
set_option linter.unusedSimpArgs false
set_option linter.unusedVariables false
set_option linter.unusedSectionVars false
namespace Go.Gk
section
variable (l : List UInt8) (hl : l.length ≤ 140737488355328) (q x : Nat)
include hl
end
def numSt (l : List UInt8) (q : Nat) : Int × Int × Int × Int :=
  let p := min l.length ((6 * q + 7) / 8)
  ((8 * p - 6 * q : Nat), ((l.getD (p - 1) 0).toNat % 2 ^ (8 * p - 6 * q) : Nat), (p : Nat), (q : Nat))
end Go.Gk
end

section
set_option linter.unusedSimpArgs false
set_option linter.unusedVariables false
namespace Go.Gk
theorem law18_same_eq (x y : List UInt8) (hx : x.length < 225000000000000) : F.law18_same x y = some (decide (x = y)) := by
  have h := law1_same_eq x y hx
  have e : F.law18_same_L1 = F.law1_same_L1 := by
    funext a b s
    unfold F.law18_same_L1 F.law1_same_L1
    rfl
  unfold F.law18_same
  rw [e]
  exact h
theorem ix_dot {p t : List UInt8} (hp : (46 : UInt8) ∉ p) : ixByte (p ++ 46 :: t) 46 = (p.length : Int) := by
  unfold ixByte
  have : (p ++ 46 :: t).findIdx? (fun x => x == 46) = some p.length := by
    rw [List.findIdx?_append, List.findIdx?_eq_none_iff.2 (fun x hx => by simp; rintro rfl; exact hp hx)]
    simp [List.findIdx?_cons]
  rw [this]
theorem index_eq (l : List UInt8) : F.internal_stringslite_Index l = some (ixByte l 46) := by
  unfold F.internal_stringslite_Index
  by_cases h : [46] = l
  · subst h; rfl
  · rw [if_neg (by simpa using h)]; rfl
theorem cut_eq {p t : List UInt8} (hp : (46 : UInt8) ∉ p) (hl : p.length < 225000000000000) : F.strings_Cut (p ++ 46 :: t) = some (p, t, true) := by
  unfold F.strings_Cut F.internal_stringslite_Cut
  rw [index_eq, bind_some', ix_dot hp, if_pos (by simp)]
  have e : wI ((p.length : Int) + 1) = ((p.length + 1 : Nat) : Int) := by rw [wI_in] <;> omega
  rw [tkO_ok (by simp), bind_some', e, drO_ok (by simp), bind_some']
  simp
theorem split_dot : ∀ (l : List UInt8), 0 < l.count 46 → ∃ p t, l = p ++ 46 :: t ∧ (46 : UInt8) ∉ p
  | [], h => by simp at h
  | a :: r, h => by
    by_cases ha : a = 46
    · exact ⟨[], r, by rw [ha]; rfl, by simp⟩
    · have : 0 < r.count 46 := by rw [List.count_cons] at h; simpa [ha] using h
      obtain ⟨p, t, rfl, hp⟩ := split_dot r this
      exact ⟨a :: p, t, rfl, by simp [hp]; exact fun e => ha e.symm⟩
theorem split_two (l : List UInt8) (h : l.count 46 = 2) : ∃ p q r, l = p ++ 46 :: (q ++ 46 :: r) ∧ (46 : UInt8) ∉ p ∧ (46 : UInt8) ∉ q ∧ (46 : UInt8) ∉ r := by
  obtain ⟨p, t, rfl, hp⟩ := split_dot l (by omega)
  have h1 : t.count 46 = 1 := by
    rw [List.count_append, List.count_cons_self, List.count_eq_zero.2 hp] at h; omega
  obtain ⟨q, r, rfl, hq⟩ := split_dot t (by omega)
  have h2 : r.count 46 = 0 := by
    rw [List.count_append, List.count_cons_self, List.count_eq_zero.2 hq] at h1; omega
  exact ⟨p, q, r, rfl, hp, hq, List.count_eq_zero.1 h2⟩
section
variable (l : List UInt8) (hl : l.length ≤ 65536)
include hl
end
def compactL (a b c : List UInt8) : List UInt8 × Int :=
  if 65536 < 2 + (4 * a.length + 2) / 3 + (4 * b.length + 2) / 3 + (4 * c.length + 2) / 3 then ([], 10)
  else (spellL urlS a ++ [46] ++ spellL urlS b ++ [46] ++ spellL urlS c, 0)
theorem third_six (n : Nat) : (8 * n + 5) / 6 = (4 * n + 2) / 3 := by omega
theorem third_int (n : Nat) (hn : n ≤ 140737488355328) : wI (Int.tdiv (wI ((wI ((n : Int) * 4)) + 2)) 3) = (((4 * n + 2) / 3 : Nat) : Int) := by
  have e1 : wI ((n : Int) * 4) = ((4 * n : Nat) : Int) := by rw [wI_in] <;> omega
  have e2 : wI (((4 * n : Nat) : Int) + 2) = ((4 * n + 2 : Nat) : Int) := by rw [wI_in] <;> omega
  rw [e1, e2, show Int.tdiv ((4 * n + 2 : Nat) : Int) 3 = (((4 * n + 2) / 3 : Nat) : Int) from rfl, wI_nat _ (by omega)]
section
variable (a b c : List UInt8) (ha : a.length ≤ 140737488355328) (hb : b.length ≤ 140737488355328) (hc : c.length ≤ 140737488355328)
include ha hb hc
theorem jws_Compact_eq : F.jws_Compact a b c = some (compactL a b c) := by
  unfold F.jws_Compact compactL
  have e1 : wI (2 + (((4 * a.length + 2) / 3 : Nat) : Int)) = ((2 + (4 * a.length + 2) / 3 : Nat) : Int) := by rw [wI_in] <;> omega
  have e2 : wI (((2 + (4 * a.length + 2) / 3 : Nat) : Int) + (((4 * b.length + 2) / 3 : Nat) : Int)) = ((2 + (4 * a.length + 2) / 3 + (4 * b.length + 2) / 3 : Nat) : Int) := by rw [wI_in] <;> omega
  have e3 : wI (((2 + (4 * a.length + 2) / 3 + (4 * b.length + 2) / 3 : Nat) : Int) + (((4 * c.length + 2) / 3 : Nat) : Int)) = ((2 + (4 * a.length + 2) / 3 + (4 * b.length + 2) / 3 + (4 * c.length + 2) / 3 : Nat) : Int) := by rw [wI_in] <;> omega
  rw [third_int _ ha, third_int _ hb, third_int _ hc]
  simp only [olet_eq]
  rw [e1, e2, e3]
  by_cases h : 65536 < 2 + (4 * a.length + 2) / 3 + (4 * b.length + 2) / 3 + (4 * c.length + 2) / 3
  · rw [if_pos (by rw [decide_eq_true_eq]; omega), if_pos h]
  · rw [if_neg (by rw [decide_eq_true_eq]; omega), if_neg h]
    have s1 := spellL_length urlS a; have s2 := spellL_length urlS b; have s3 := spellL_length urlS c
    rw [third_six] at s1 s2 s3
    rw [b64_Encode_eq _ ha, bind_some', sadO_ok (by simp; omega), bind_some', b64_Encode_eq _ hb, bind_some', sadO_ok (by simp; omega), bind_some', sadO_ok (by simp; omega), bind_some', b64_Encode_eq _ hc, bind_some', sadO_ok (by simp; omega), bind_some']
end
end Go.Gk
end
