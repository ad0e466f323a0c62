import Derived.Test.YtmmlnghanonbjaaGkP0
import Derived.Test.YtmmlnghanonbjaaGkFb64
set_option linter.unusedVariables false
set_option linter.unusedSimpArgs false
set_option linter.unusedSimpArgs false
namespace Go.Gk
def urlS : List UInt8 := [65, 66, 67, 68, 69, 70, 71, 72, 73, 74, 75, 76, 77, 78, 79, 80, 81, 82, 83, 84, 85, 86, 87, 88, 89, 90, 97, 98, 99, 100, 101, 102, 103, 104, 105, 106, 107, 108, 109, 110, 111, 112, 113, 114, 115, 116, 117, 118, 119, 120, 121, 122, 48, 49, 50, 51, 52, 53, 54, 55, 56, 57, 45, 95]
def stdS : List UInt8 := [65, 66, 67, 68, 69, 70, 71, 72, 73, 74, 75, 76, 77, 78, 79, 80, 81, 82, 83, 84, 85, 86, 87, 88, 89, 90, 97, 98, 99, 100, 101, 102, 103, 104, 105, 106, 107, 108, 109, 110, 111, 112, 113, 114, 115, 116, 117, 118, 119, 120, 121, 122, 48, 49, 50, 51, 52, 53, 54, 55, 56, 57, 43, 47]
def sg6 (sg : List UInt8) (n : Nat) : UInt8 := sg.getD n 0
def tri (a b c : UInt8) : Nat := a.toNat * 65536 + b.toNat * 256 + c.toNat
def spellL (sg : List UInt8) : List UInt8 → List UInt8
  | a :: b :: c :: r => sg6 sg (tri a b c / 262144) :: sg6 sg (tri a b c / 4096 % 64) :: sg6 sg (tri a b c / 64 % 64) :: sg6 sg (tri a b c % 64) :: spellL sg r
  | [a, b] => [sg6 sg (a.toNat / 4), sg6 sg (a.toNat % 4 * 16 + b.toNat / 16), sg6 sg (b.toNat % 16 * 4)]
  | [a] => [sg6 sg (a.toNat / 4), sg6 sg (a.toNat % 4 * 16)]
  | [] => []
theorem spellL_length (sg : List UInt8) : ∀ l, (spellL sg l).length = (8 * l.length + 5) / 6
  | a :: b :: c :: r => by have := spellL_length sg r; simp only [spellL, List.length_cons, this]; omega
  | [a, b] => by simp [spellL]
  | [a] => by simp [spellL]
  | [] => by simp [spellL]
theorem getO_sg {sg : List UInt8} (hsg : sg.length = 64) {n : Nat} (hn : n < 64) : getO sg (n : Int) = some (sg6 sg n) := by
  rw [getO_nat, sg6, List.getD_eq_getElem?_getD]
  rw [List.getElem?_eq_getElem (by omega)]; rfl
theorem v3_toNat (a b c : UInt8) : (((shl64 a.toUInt64 16) ||| (shl64 b.toUInt64 8)) ||| c.toUInt64).toNat = tri a b c := by
  have ha := a.toNat_lt; have hb := b.toNat_lt; have hc := c.toNat_lt
  simp only [UInt64.toNat_or, shl64_toNat, UInt8.toNat_toUInt64]
  have e1 : a.toNat * 2 ^ (min 16 64) % 18446744073709551616 = a.toNat * 65536 := by simp; omega
  have e2 : b.toNat * 2 ^ (min 8 64) % 18446744073709551616 = b.toNat * 256 := by simp; omega
  rw [e1, e2, or_add (x := a.toNat * 65536) (y := b.toNat * 256) 16 (by omega) (by omega), or_add 8 (by omega) (by omega)]
  rfl
theorem tri_lt (a b c : UInt8) : tri a b c < 16777216 := by
  have ha := a.toNat_lt; have hb := b.toNat_lt; have hc := c.toNat_lt
  unfold tri; omega
theorem mask63 (x : UInt64) : (x &&& 63).toNat = x.toNat % 64 := by
  rw [UInt64.toNat_and]; exact and_mask x.toNat 6
theorem spell_loop {sg : List UInt8} (hsg : sg.length = 64) : ∀ (l out : List UInt8), 3 * out.length + 4 * l.length + 24 ≤ 675000000000000 → loop (F.b64_spell_L1 sg) (l, out) = some (out ++ spellL sg l)
  | a :: b :: c :: r, out, hb => by
    have ht := tri_lt a b c
    have hl : decide ((3 : Int) ≤ (((a :: b :: c :: r).length : Nat) : Int)) = true := by simp; omega
    have step : F.b64_spell_L1 sg (a :: b :: c :: r, out) = some (.inl (r, out ++ [sg6 sg (tri a b c / 262144), sg6 sg (tri a b c / 4096 % 64), sg6 sg (tri a b c / 64 % 64), sg6 sg (tri a b c % 64)])) := by
      unfold F.b64_spell_L1
      simp only [hl, if_true, getO_lit0, getO_lit1, getO_lit2, bind_some', mask63, shr64_toNat, v3_toNat]
      have g1 : tri a b c / 2 ^ (min 18 64) = tri a b c / 262144 := rfl
      have g2 : tri a b c / 2 ^ (min 12 64) = tri a b c / 4096 := rfl
      have g3 : tri a b c / 2 ^ (min 6 64) = tri a b c / 64 := rfl
      rw [g1, g2, g3, getO_sg hsg (by omega), bind_some', getO_sg hsg (by omega), bind_some', getO_sg hsg (by omega), bind_some', getO_sg hsg (by omega), bind_some']
      rw [apO1_ok (by simp at hb ⊢; omega), bind_some']
      have : drO (a :: b :: c :: r) (3 : Int) = some r := by
        have := drO_ok (l := a :: b :: c :: r) (k := 3) (by simp)
        simpa using this
      rw [this, bind_some']; rfl
    rw [loop_inl step, spell_loop hsg r _ (by simp at hb ⊢; omega)]
    simp [spellL]
  | [a, b], out, hb => by
    have ha := a.toNat_lt; have hbb := b.toNat_lt
    refine loop_inr ?_
    unfold F.b64_spell_L1
    simp only [getO_lit0, getO_lit1, bind_some', UInt8.toNat_or, shr8_toNat, shl8_toNat, UInt8.toNat_and]
    rw [if_neg (by simp), if_pos (by simp)]
    have m3 : a.toNat &&& (3 : UInt8).toNat = a.toNat % 4 := and_mask a.toNat 2
    have m15 : b.toNat &&& (15 : UInt8).toNat = b.toNat % 16 := and_mask b.toNat 4
    have g1 : a.toNat / 2 ^ (min 2 8) = a.toNat / 4 := rfl
    have g2 : a.toNat % 4 * 2 ^ (min 4 8) % 256 = a.toNat % 4 * 16 := by simp; omega
    have g3 : b.toNat / 2 ^ (min 4 8) = b.toNat / 16 := rfl
    have g4 : b.toNat % 16 * 2 ^ (min 2 8) % 256 = b.toNat % 16 * 4 := by simp; omega
    rw [m3, m15, g1, g2, g3, g4, or_add 4 (by omega) (by omega)]
    rw [getO_sg hsg (by omega), bind_some', getO_sg hsg (by omega), bind_some', getO_sg hsg (by omega), bind_some', apO1_ok (by simp at hb ⊢; omega), bind_some']
    rfl
  | [a], out, hb => by
    have ha := a.toNat_lt
    refine loop_inr ?_
    unfold F.b64_spell_L1
    simp only [getO_lit0, bind_some', shr8_toNat, shl8_toNat, UInt8.toNat_and]
    rw [if_neg (by simp), if_neg (by simp), if_pos (by simp)]
    have m3 : a.toNat &&& (3 : UInt8).toNat = a.toNat % 4 := and_mask a.toNat 2
    have g1 : a.toNat / 2 ^ (min 2 8) = a.toNat / 4 := rfl
    have g2 : a.toNat % 4 * 2 ^ (min 4 8) % 256 = a.toNat % 4 * 16 := by simp; omega
    rw [m3, g1, g2]
    rw [getO_sg hsg (by omega), bind_some', getO_sg hsg (by omega), bind_some', apO1_ok (by simp at hb ⊢; omega), bind_some']
    rfl
  | [], out, _ => by
    refine loop_inr ?_
    unfold F.b64_spell_L1
    simp [F.b64_spell_K1, oinr, spellL]
theorem b64_spell_eq {sg : List UInt8} (hsg : sg.length = 64) (l : List UInt8) (h : l.length ≤ 140737488355328) : F.b64_spell l sg = some (spellL sg l) := by
  unfold F.b64_spell
  have e1 : wI ((l.length : Int) + 2) = ((l.length + 2 : Nat) : Int) := by rw [wI_in] <;> omega
  have e2 : wI (Int.tdiv ((l.length + 2 : Nat) : Int) 3) = (((l.length + 2) / 3 : Nat) : Int) := by
    rw [show Int.tdiv ((l.length + 2 : Nat) : Int) 3 = (((l.length + 2) / 3 : Nat) : Int) from rfl, wI_nat _ (by omega)]
  have e3 : wI ((((l.length + 2) / 3 : Nat) : Int) * 4) = (((l.length + 2) / 3 * 4 : Nat) : Int) := by rw [wI_in] <;> omega
  rw [e1, e2, e3, mkO_ok (by omega), bind_some']
  simpa using spell_loop hsg l [] (by simp; omega)
theorem urlS_len : urlS.length = 64 := rfl
theorem stdS_len : stdS.length = 64 := rfl
theorem b64_Encode_eq (l : List UInt8) (h : l.length ≤ 140737488355328) : F.b64_Encode l = some (spellL urlS l) := by
  unfold F.b64_Encode
  change obind (F.b64_spell l urlS) _ = _
  rw [b64_spell_eq urlS_len l h]; rfl
def fillL (s : List UInt8) : List UInt8 := s ++ List.replicate ((4 - s.length % 4) % 4) 61
theorem b64_EncodeStd_eq (l : List UInt8) (h : l.length ≤ 140737488355328) : F.b64_EncodeStd l = some (fillL (spellL stdS l)) := by
  unfold F.b64_EncodeStd
  change obind (F.b64_spell l stdS) _ = _
  rw [b64_spell_eq stdS_len l h, bind_some']
  have hl := spellL_length stdS l
  generalize spellL stdS l = s at *
  have ht : Int.tmod (s.length : Int) 4 = ((s.length % 4 : Nat) : Int) := rfl
  rw [ht]
  have h4 : s.length % 4 = 0 ∨ s.length % 4 = 2 ∨ s.length % 4 = 3 := by omega
  rcases h4 with h4 | h4 | h4
  · rw [h4]; simp [F.b64_EncodeStd_K1, fillL, h4]
  · rw [h4]
    rw [if_pos (by simp), apO1_ok (by simp; omega), bind_some']
    unfold F.b64_EncodeStd_K2
    simp only []
    rw [apO1_ok (by simp; omega), bind_some']
    simp [F.b64_EncodeStd_K1, fillL, h4, List.replicate]
  · rw [h4]
    rw [if_neg (by simp), if_pos (by simp)]
    unfold F.b64_EncodeStd_K2
    simp only []
    rw [apO1_ok (by simp; omega), bind_some']
    simp [F.b64_EncodeStd_K1, fillL, h4, List.replicate]
end Go.Gk
