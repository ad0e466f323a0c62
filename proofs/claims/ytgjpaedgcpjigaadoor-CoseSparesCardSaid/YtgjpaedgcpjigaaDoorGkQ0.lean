import Derived.Test.YtgjpaedgcpjigaaDoorGkP0
import Derived.Lib.ValidU
import Derived.Test.YtgjpaedgcpjigaaDoorGkFcbor
import Derived.Test.YtgjpaedgcpjigaaDoorGkFref30
import Derived.Test.YtgjpaedgcpjigaaDoorGkFlib
set_option linter.unusedVariables false
set_option linter.unusedSimpArgs false

section
namespace Go.Gk.Cb
open Go Go.Gk
abbrev It := Int × UInt64 × List UInt8 × Int
abbrev Er := Int × Int
def wd (n : UInt64) : Nat := if n < 24 then 0 else if n < 256 then 1 else if n < 65536 then 2 else if n < 4294967296 then 4 else 8
def be : Nat → UInt64 → List UInt8
  | 0, _ => []
  | k + 1, n => (shr64 n (8 * k)).toUInt8 :: be k n
def nbe (l : List UInt8) : UInt64 := l.foldl (fun a c => 256 * a + c.toUInt64) 0
def lg (w : Nat) : Nat := if w = 1 then 0 else if w = 2 then 1 else if w = 4 then 2 else 3
def hd (m : Nat) (n : UInt64) : List UInt8 :=
  if wd n = 0 then [UInt8.ofNat (32 * m) + n.toUInt8] else UInt8.ofNat (32 * m + 24 + lg (wd n)) :: be (wd n) n
def headD (b : List UInt8) (i : Nat) : Except Er (Nat × UInt64 × Nat) :=
  match b[i]? with
  | none => .error (220, b.length)
  | some c =>
    if 27 < c.toNat % 32 ∨ c.toNat / 32 = 7 ∧ (c.toNat % 32 < 20 ∨ 22 < c.toNat % 32) then .error (220, i)
    else if c.toNat % 32 < 24 then .ok (c.toNat / 32, UInt64.ofNat (c.toNat % 32), i + 1)
    else if b.length - (i + 1) < 2 ^ (c.toNat % 32 - 24) then .error (220, b.length)
    else if wd (nbe ((b.drop (i + 1)).take (2 ^ (c.toNat % 32 - 24)))) ≠ 2 ^ (c.toNat % 32 - 24) then .error (220, i)
    else .ok (c.toNat / 32, nbe ((b.drop (i + 1)).take (2 ^ (c.toNat % 32 - 24))), i + 1 + 2 ^ (c.toNat % 32 - 24))
def lexLt : List UInt8 → List UInt8 → Bool
  | [], [] => false
  | [], _ :: _ => true
  | _ :: _, [] => false
  | a :: r, b :: s => if a = b then lexLt r s else decide (a < b)
abbrev Rd := Nat → Except Er (Nat × List It)
def listD (rec : Rd) : Nat → Nat → Rd
  | _, 0, i => .ok (i, [])
  | 0, _ + 1, _ => .error (220, 0)
  | f + 1, n + 1, i => match rec i with
    | .error e => .error e
    | .ok (j, is) => match listD rec f n j with
      | .error e => .error e
      | .ok (k, js) => .ok (k, is ++ js)
def part (b : List UInt8) (i j : Nat) : List UInt8 := (b.drop i).take (j - i)
def keyOk (last : Option (List UInt8)) (key : List UInt8) : Bool := match last with
  | none => true
  | some l => lexLt l key
def pairsD (rec : Rd) (b : List UInt8) : Nat → Nat → Option (List UInt8) → Rd
  | _, 0, _, i => .ok (i, [])
  | 0, _ + 1, _, _ => .error (220, 0)
  | f + 1, n + 1, last, i => match rec i with
    | .error e => .error e
    | .ok (j, is) =>
      if keyOk last (part b i j) = false then .error (220, i)
      else match rec j with
        | .error e => .error e
        | .ok (k, js) => match pairsD rec b f n (some (part b i j)) k with
          | .error e => .error e
          | .ok (l, ks) => .ok (l, is ++ js ++ ks)
def insD (b : List UInt8) (sub : Rd) (m : Nat) (n : UInt64) (i : Nat) : Except Er (Nat × List It) :=
  if m = 4 then match listD sub (b.length + 1) n.toNat i with
    | .error e => .error e
    | .ok (j, is) => .ok (j, (4, 0, [], (n.toNat : Int)) :: is)
  else if m = 5 then match pairsD sub b (b.length + 1) n.toNat none i with
    | .error e => .error e
    | .ok (j, is) => .ok (j, (5, 0, [], 2 * (n.toNat : Int)) :: is)
  else match sub i with
    | .error e => .error e
    | .ok (j, is) => .ok (j, (6, n, [], 1) :: is)
def itemS (b : List UInt8) (sub : Option Rd) : Rd := fun i =>
  match headD b i with
  | .error e => .error e
  | .ok (m, n, j) =>
    if m = 4 ∨ m = 5 ∨ m = 6 then match sub with
      | none => .error (11, i)
      | some rec => insD b rec m n j
    else if m = 2 ∨ m = 3 then
      if b.length - j < n.toNat then .error (220, b.length)
      else if m = 3 ∧ Lib.validD (part b j (j + n.toNat)) = false then .error (32, i)
      else .ok (j + n.toNat, [((m : Int), 0, part b j (j + n.toNat), 0)])
    else .ok (j, [((m : Int), n, [], 0)])
def itemD : Nat → List UInt8 → Rd
  | 0, b => itemS b none
  | d + 1, b => itemS b (some (itemD d b))
def parseD (b : List UInt8) : List It × Int × Int :=
  if 65536 < b.length then ([], 10, 0) else match itemD 32 b 0 with
    | .error e => ([], e.1, e.2)
    | .ok (j, is) => if j < b.length then ([], 220, (j : Int)) else (is, 0, 0)
theorem headD_ok {b : List UInt8} {i m j : Nat} {n : UInt64} (h : headD b i = .ok (m, n, j)) : i < j ∧ j ≤ b.length ∧ m < 8 := by
  unfold headD at h
  split at h
  · cases h
  · rename_i c hc
    have hi : i < b.length := (List.getElem?_eq_some_iff.1 hc).1
    have hb : c.toNat < 256 := c.toNat_lt
    split at h
    · cases h
    · split at h
      · cases h; omega
      · split at h
        · cases h
        · split at h
          · cases h
          · cases h
            have : 1 ≤ 2 ^ (c.toNat % 32 - 24) := Nat.one_le_two_pow
            omega
theorem headD_err {b : List UInt8} {i : Nat} {e : Er} (h : headD b i = .error e) : e = (220, (b.length : Int)) ∨ e = (220, (i : Int)) ∧ i < b.length := by
  unfold headD at h
  split at h
  · cases h; exact .inl rfl
  · rename_i c hc
    have hi : i < b.length := (List.getElem?_eq_some_iff.1 hc).1
    split at h
    · cases h; exact .inr ⟨rfl, hi⟩
    · split at h
      · cases h
      · split at h
        · cases h; exact .inl rfl
        · split at h
          · cases h; exact .inr ⟨rfl, hi⟩
          · cases h
def Moves (b : List UInt8) (rec : Rd) : Prop := (∀ i j is, rec i = .ok (j, is) → i < j ∧ j ≤ b.length ∧ 1 ≤ is.length ∧ i + is.length ≤ j) ∧ (∀ i e, rec i = .error e → i ≤ b.length → e.1 ≠ 0 ∧ 0 ≤ e.2 ∧ e.2 ≤ b.length)
theorem listD_moves {b : List UInt8} {rec : Rd} (h : Moves b rec) : ∀ (f n i : Nat), i ≤ b.length → (∀ j is, listD rec f n i = .ok (j, is) → i ≤ j ∧ j ≤ b.length ∧ i + is.length ≤ j ∧ n ≤ is.length ∧ i + n ≤ j) ∧
    (∀ e, listD rec f n i = .error e → e.1 ≠ 0 ∧ 0 ≤ e.2 ∧ e.2 ≤ b.length)
  | f, 0, i, hi => by
    constructor
    · intro j is h1
      cases f <;> (simp only [listD] at h1; cases h1; simp; exact hi)
    · intro e h1
      cases f <;> (simp only [listD] at h1; cases h1)
  | 0, n + 1, i, hi => by
    constructor
    · intro j is h1; simp only [listD] at h1; cases h1
    · intro e h1; simp only [listD] at h1; cases h1; simp
  | f + 1, n + 1, i, hi => by
    simp only [listD]
    cases h1 : rec i with
    | error e =>
      refine ⟨fun j is h2 => (by cases h2), fun e' h2 => ?_⟩
      cases h2
      exact h.2 i e h1 hi
    | ok p =>
      obtain ⟨j, is⟩ := p
      obtain ⟨h3, h4, h5, h6⟩ := h.1 i j is h1
      have ih := listD_moves h f n j h4
      simp only
      cases h7 : listD rec f n j with
      | error e => exact ⟨fun j is h2 => (by cases h2), fun e' h2 => by cases h2; exact ih.2 e h7⟩
      | ok q =>
        obtain ⟨k, js⟩ := q
        refine ⟨fun j' is' h2 => ?_, fun e' h2 => (by cases h2)⟩
        cases h2
        have := ih.1 k js h7
        simp only [List.length_append]
        omega
theorem pairsD_moves {b : List UInt8} {rec : Rd} (h : Moves b rec) : ∀ (f n : Nat) (last : Option (List UInt8)) (i : Nat), i ≤ b.length → (∀ j is, pairsD rec b f n last i = .ok (j, is) → i ≤ j ∧ j ≤ b.length ∧ i + is.length ≤ j ∧ 2 * n ≤ is.length ∧ i + 2 * n ≤ j) ∧
    (∀ e, pairsD rec b f n last i = .error e → e.1 ≠ 0 ∧ 0 ≤ e.2 ∧ e.2 ≤ b.length)
  | f, 0, last, i, hi => by
    constructor
    · intro j is h1
      cases f <;> (simp only [pairsD] at h1; cases h1; simp; exact hi)
    · intro e h1
      cases f <;> (simp only [pairsD] at h1; cases h1)
  | 0, n + 1, last, i, hi => by
    constructor
    · intro j is h1; simp only [pairsD] at h1; cases h1
    · intro e h1; simp only [pairsD] at h1; cases h1; simp
  | f + 1, n + 1, last, i, hi => by
    simp only [pairsD]
    cases h1 : rec i with
    | error e =>
      refine ⟨fun j is h2 => (by cases h2), fun e' h2 => ?_⟩
      cases h2
      exact h.2 i e h1 hi
    | ok p =>
      obtain ⟨j, is⟩ := p
      obtain ⟨h3, h4, h5, h6⟩ := h.1 i j is h1
      simp only
      split
      · exact ⟨fun j is h2 => (by cases h2), fun e' h2 => by cases h2; simp; omega⟩
      · cases h7 : rec j with
        | error e => exact ⟨fun j is h2 => (by cases h2), fun e' h2 => by cases h2; exact h.2 j e h7 h4⟩
        | ok q =>
          obtain ⟨k, js⟩ := q
          obtain ⟨h8, h9, h10, h11⟩ := h.1 j k js h7
          have ih := pairsD_moves h f n (some (part b i j)) k h9
          simp only
          cases h12 : pairsD rec b f n (some (part b i j)) k with
          | error e => exact ⟨fun j is h2 => (by cases h2), fun e' h2 => by cases h2; exact ih.2 e h12⟩
          | ok s =>
            obtain ⟨l, ks⟩ := s
            refine ⟨fun j' is' h2 => ?_, fun e' h2 => (by cases h2)⟩
            cases h2
            have := ih.1 l ks h12
            simp only [List.length_append]
            omega
theorem itemS_moves {b : List UInt8} {sub : Option Rd} (h : ∀ rec, sub = some rec → Moves b rec) : Moves b (itemS b sub) := by
  have key : ∀ i, (∀ j is, itemS b sub i = .ok (j, is) → i < j ∧ j ≤ b.length ∧ 1 ≤ is.length ∧ i + is.length ≤ j) ∧ (∀ e, itemS b sub i = .error e → i ≤ b.length → e.1 ≠ 0 ∧ 0 ≤ e.2 ∧ e.2 ≤ b.length) := by
    intro i
    unfold itemS
    cases h1 : headD b i with
    | error e =>
      refine ⟨fun j is h2 => (by cases h2), fun e' h2 hi => ?_⟩
      cases h2
      rcases headD_err h1 with rfl | ⟨rfl, _⟩ <;> simp <;> omega
    | ok p =>
      obtain ⟨m, n, j⟩ := p
      obtain ⟨h3, h4, _⟩ := headD_ok h1
      simp only
      split
      · cases sub with
        | none =>
          refine ⟨fun j is h2 => (by cases h2), fun e' h2 hi => ?_⟩
          cases h2; simp; omega
        | some rec =>
          have hm := h rec rfl
          simp only [insD]
          split
          · have := listD_moves hm (b.length + 1) n.toNat j h4
            cases h5 : listD rec (b.length + 1) n.toNat j with
            | error e => exact ⟨fun j is h2 => (by cases h2), fun e' h2 hi => by cases h2; exact this.2 e h5⟩
            | ok q =>
              obtain ⟨k, is⟩ := q
              have := this.1 k is h5
              refine ⟨fun j is h2 => ?_, fun e' h2 hi => (by cases h2)⟩
              cases h2; simp; omega
          · split
            · have := pairsD_moves hm (b.length + 1) n.toNat none j h4
              cases h5 : pairsD rec b (b.length + 1) n.toNat none j with
              | error e => exact ⟨fun j is h2 => (by cases h2), fun e' h2 hi => by cases h2; exact this.2 e h5⟩
              | ok q =>
                obtain ⟨k, is⟩ := q
                have := this.1 k is h5
                refine ⟨fun j is h2 => ?_, fun e' h2 hi => (by cases h2)⟩
                cases h2; simp; omega
            · cases h5 : rec j with
              | error e => exact ⟨fun j is h2 => (by cases h2), fun e' h2 hi => by cases h2; exact hm.2 j e h5 h4⟩
              | ok q =>
                obtain ⟨k, is⟩ := q
                have := hm.1 j k is h5
                refine ⟨fun j is h2 => ?_, fun e' h2 hi => (by cases h2)⟩
                cases h2; simp; omega
      · split
        · split
          · exact ⟨fun j is h2 => (by cases h2), fun e' h2 hi => by cases h2; simp⟩
          · split
            · exact ⟨fun j is h2 => (by cases h2), fun e' h2 hi => by cases h2; simp; omega⟩
            · refine ⟨fun j is h2 => ?_, fun e' h2 hi => (by cases h2)⟩
              cases h2; simp; omega
        · refine ⟨fun j is h2 => ?_, fun e' h2 hi => (by cases h2)⟩
          cases h2; simp; omega
  exact ⟨fun i j is h1 => (key i).1 j is h1, fun i e h1 hi => (key i).2 e h1 hi⟩
theorem itemD_moves (b : List UInt8) : ∀ d, Moves b (itemD d b)
  | 0 => itemS_moves (by simp)
  | d + 1 => itemS_moves (by intro rec h; cases h; exact itemD_moves b d)
end Go.Gk.Cb
end

section
set_option linter.unusedSimpArgs false
namespace Go.Gk.Cb
open Go Go.Gk
theorem lexLt_cons (a b : UInt8) (r s : List UInt8) : lexLt (a :: r) (b :: s) = if a = b then lexLt r s else decide (a < b) := rfl
theorem lexLt_nil (l : List UInt8) : lexLt l [] = false := by cases l <;> rfl
theorem less_eq (a b : List UInt8) (ha : a.length < 9223372036854775807) : F.ref30_Less a b = some (lexLt a b) := by
  have key : ∀ k i, a.length - i = k → i ≤ a.length → i ≤ b.length → loop (F.ref30_Less_L1 a b) (i : Int) = some (lexLt (a.drop i) (b.drop i)) := by
    intro k
    induction k with
    | zero =>
      intro i h1 h2 h3
      have hi : i = a.length := by omega
      subst hi
      refine loop_inr ?_
      simp only [F.ref30_Less_L1, F.ref30_Less_K1, Int.lt_irrefl, decide_false, Bool.false_eq_true, if_false, oinr, Option.map_some]
      congr 2
      rw [List.drop_length]
      rcases Nat.lt_or_ge a.length b.length with h4 | h4
      · rw [List.drop_eq_getElem_cons h4]
        simp [lexLt, h4]
      · rw [List.drop_eq_nil_of_le h4]
        simp [lexLt]; omega
    | succ k ih =>
      intro i h1 h2 h3
      have h4 : i < a.length := by omega
      have d1 : decide ((i : Int) < (a.length : Int)) = true := by simp; omega
      rcases Nat.lt_or_ge i b.length with h5 | h5
      · have d2 : decide ((i : Int) < (b.length : Int)) = true := by simp; omega
        have g1 : getO a (i : Int) = some a[i] := getO_lt h4
        have g2 : getO b (i : Int) = some b[i] := getO_lt h5
        rw [List.drop_eq_getElem_cons h4, List.drop_eq_getElem_cons h5, lexLt_cons]
        by_cases he : a[i] = b[i]
        · have hs : F.ref30_Less_L1 a b (i : Int) = some (.inl ((i : Int) + 1)) := by
            simp only [F.ref30_Less_L1, F.ref30_Less_K1, d1, d2, g1, g2, he, if_true, bind_some', bne_self_eq_false, Bool.false_eq_true, if_false]
            rw [wI_in (by omega) (by omega)]; rfl
          rw [loop_inl hs, if_pos he]
          have := ih (i + 1) (by omega) (by omega) (by omega)
          simpa using this
        · rw [if_neg he]
          refine loop_inr ?_
          have hb : (a[i] != b[i]) = true := by simpa using he
          simp only [F.ref30_Less_L1, F.ref30_Less_K1, d1, d2, g1, g2, hb, if_true, bind_some']
          rfl
      · have hi : i = b.length := by omega
        subst hi
        refine loop_inr ?_
        simp only [F.ref30_Less_L1, F.ref30_Less_K1, d1, if_true, Int.lt_irrefl, decide_false, Bool.false_eq_true, if_false, oinr, Option.map_some]
        congr 2
        rw [List.drop_length, lexLt_nil]
        simp; omega
  exact key a.length 0 (by omega) (by omega) (by omega)
theorem isNaN8 (a : UInt8) : F.cmp_isNaN_byte a = some false := by simp [F.cmp_isNaN_byte]
def cmp3 (a b : List UInt8) : Int := if lexLt a b then -1 else if a = b then 0 else 1
theorem cmp3_cons (x y : UInt8) (r s : List UInt8) : cmp3 (x :: r) (y :: s) = if x = y then cmp3 r s else if x < y then -1 else 1 := by
  unfold cmp3
  rw [lexLt_cons]
  by_cases h : x = y
  · subst h; simp
  · by_cases h2 : x < y <;> simp [h, h2]
theorem cmp8 (a b : UInt8) : F.cmp_Compare_byte a b = some (if a < b then -1 else if b < a then 1 else 0) := by
  simp only [F.cmp_Compare_byte, isNaN8, bind_some', Bool.false_eq_true, if_false]
  by_cases h1 : a < b
  · simp [h1]
  · by_cases h2 : b < a <;> simp [h1, h2]
theorem compare_eq (a b : List UInt8) (ha : a.length < 9223372036854775807) : F.slices_Compare_byte_byte a b = some (cmp3 a b) := by
  have key : ∀ k i, a.length - i = k → i ≤ a.length → i ≤ b.length → loop (F.slices_Compare_byte_byte_L1 a b) (i : Int) = some (cmp3 (a.drop i) (b.drop i)) := by
    intro k
    induction k with
    | zero =>
      intro i h1 h2 h3
      have hi : i = a.length := by omega
      subst hi
      refine loop_inr ?_
      simp only [F.slices_Compare_byte_byte_L1, Int.lt_irrefl, decide_false, Bool.false_eq_true, if_false]
      rw [List.drop_length]
      rcases Nat.lt_or_ge a.length b.length with h4 | h4
      · rw [List.drop_eq_getElem_cons h4]
        have : decide ((a.length : Int) < (b.length : Int)) = true := by simp; omega
        simp only [this, cmp3, lexLt, oinr, if_true, Option.map_some]
      · rw [List.drop_eq_nil_of_le h4]
        have : ¬ ((a.length : Int) < (b.length : Int)) := by omega
        simp [this, cmp3, lexLt, oinr]
    | succ k ih =>
      intro i h1 h2 h3
      have h4 : i < a.length := by omega
      have d1 : decide ((i : Int) < (a.length : Int)) = true := by simp; omega
      have g1 : getO a (i : Int) = some a[i] := getO_lt h4
      rcases Nat.lt_or_ge i b.length with h5 | h5
      · have d2 : ¬ ((b.length : Int) ≤ (i : Int)) := by omega
        have g2 : getO b (i : Int) = some b[i] := getO_lt h5
        rw [List.drop_eq_getElem_cons h4, List.drop_eq_getElem_cons h5]
        by_cases he : a[i] = b[i]
        · have hs : F.slices_Compare_byte_byte_L1 a b (i : Int) = some (.inl ((i : Int) + 1)) := by
            have hlt : ¬ (b[i] < b[i]) := UInt8.lt_irrefl _
            simp only [F.slices_Compare_byte_byte_L1, d1, d2, g1, g2, he, cmp8, hlt, if_true, bind_some', bne_self_eq_false, Bool.false_eq_true, if_false, decide_false]
            rw [wI_in (by omega) (by omega)]; rfl
          rw [loop_inl hs]
          have := ih (i + 1) (by omega) (by omega) (by omega)
          rw [show ((i : Int) + 1) = ((i + 1 : Nat) : Int) by simp, this, cmp3_cons, if_pos he]
        · refine loop_inr ?_
          simp only [F.slices_Compare_byte_byte_L1, d1, d2, g1, g2, cmp8, if_true, bind_some', Bool.false_eq_true, if_false, decide_false]
          rw [cmp3_cons, if_neg he]
          by_cases hlt : a[i] < b[i]
          · simp only [hlt, if_true, oinr, Option.map_some]; rfl
          · have hgt : b[i] < a[i] := by
              rcases UInt8.lt_or_lt_of_ne he with h | h
              · exact absurd h hlt
              · exact h
            simp only [hlt, hgt, if_true, if_false, oinr, Option.map_some]; rfl
      · have hi : i = b.length := by omega
        subst hi
        refine loop_inr ?_
        rw [List.drop_eq_getElem_cons h4, List.drop_length]
        simp only [F.slices_Compare_byte_byte_L1, d1, g1, bind_some', if_true, Int.le_refl, decide_true, cmp3, lexLt, oinr, Option.map_some]
        rfl
  exact key a.length 0 (by omega) (by omega) (by omega)
theorem cmp3_nonneg (a b : List UInt8) : decide ((0 : Int) ≤ cmp3 a b) = !lexLt a b := by
  unfold cmp3
  cases h : lexLt a b
  · by_cases he : a = b <;> simp [he]
  · simp
theorem wide_eq (n : UInt64) : F.ref30_wide n = some (wd n : Int) := by
  unfold F.ref30_wide wd
  split
  · rename_i h; simp at h; simp [h]
  · rename_i h; simp only [decide_eq_true_eq] at h; simp only [h, if_false]
    split
    · rename_i h; simp at h; simp [h]
    · rename_i h; simp only [decide_eq_true_eq] at h; simp only [h, if_false]
      split
      · rename_i h; simp at h; simp [h]
      · rename_i h; simp only [decide_eq_true_eq] at h; simp only [h, if_false]
        split
        · rename_i h; simp at h; simp [h]
        · rename_i h; simp only [decide_eq_true_eq] at h; simp [h]
theorem width_eq (n : UInt64) : F.cbor_width n = some (wd n : Int) := by
  rw [← wide_eq]; rfl
theorem wd_le (n : UInt64) : wd n ≤ 8 := by unfold wd; repeat' split
                                            all_goals omega
theorem nbe_snoc (l : List UInt8) (c : UInt8) : nbe (l ++ [c]) = 256 * nbe l + c.toUInt64 := by simp [nbe]
theorem shr5 (c : UInt8) : ((shr8 c 5).toNat : Int) = ((c.toNat / 32 : Nat) : Int) := by rw [shr8_toNat]; rfl
theorem and31 (c : UInt8) : ((c &&& 31).toNat : Int) = ((c.toNat % 32 : Nat) : Int) := by
  rw [UInt8.toNat_and]
  have := and_mask c.toNat 5
  simp at this
  simp [this]
theorem shl8or (x : UInt64) (c : UInt8) : (shl64 x 8) ||| c.toUInt64 = 256 * x + c.toUInt64 := by
  apply UInt64.toNat_inj.1
  have hc : c.toNat < 256 := c.toNat_lt
  rw [UInt64.toNat_or, shl64_toNat, UInt64.toNat_add, UInt64.toNat_mul]
  have h1 : c.toUInt64.toNat = c.toNat := by simp
  have h2 : (2 : Nat) ^ (min 8 64) = 256 := by decide
  rw [h1, h2, or_add 8 (by omega) (by omega)]
  simp
  omega
theorem size_eq (k : Nat) (h : 24 ≤ k) (h2 : k ≤ 27) : iShl 1 (k - 24) = ((2 ^ (k - 24) : Nat) : Int) := by
  have : k = 24 ∨ k = 25 ∨ k = 26 ∨ k = 27 := by omega
  rcases this with rfl | rfl | rfl | rfl <;> decide
theorem pow_le8 (k : Nat) (h2 : k ≤ 27) : 2 ^ (k - 24) ≤ 8 := by
  have : k - 24 = 0 ∨ k - 24 = 1 ∨ k - 24 = 2 ∨ k - 24 = 3 := by omega
  rcases this with h | h | h | h <;> rw [h] <;> decide
abbrev Fr_ := Int × Int × UInt64 × Bool × Int × Option (Nat × Nat)
theorem nbe_take_succ (l : List UInt8) (k : Nat) (h : k < l.length) : nbe (l.take (k + 1)) = 256 * nbe (l.take k) + l[k].toUInt64 := by
  rw [List.take_succ_eq_append_getElem h, nbe_snoc]
theorem ofInt64 (n : Nat) : UInt64.ofInt (n : Int) = UInt64.ofNat n := by
  apply UInt64.toNat_inj.1
  simp [UInt64.ofInt]
  omega
theorem argument_eq (b : List UInt8) (i : Nat) (out : List It) (op : List Fr_) (hb : b.length ≤ 65536) (hi : i ≤ b.length) :
    ∃ j : Int, F.cbor_reader_argument b i out op = some (match headD b i with
      | .ok (m, n, k) => ((m : Int), n, none, (k : Int), out, op)
      | .error e => (0, 0, some e, j, out, op)) := by
  unfold F.cbor_reader_argument headD
  by_cases hl : i = b.length
  · subst hl
    refine ⟨(b.length : Int), ?_⟩
    simp
  · have hlt : i < b.length := by omega
    have h0 : ((i : Int) == (b.length : Int)) = false := by simp; omega
    simp only [h0, Bool.false_eq_true, if_false, getO_lt hlt, bind_some', olet_eq, shr5, and31, List.getElem?_eq_getElem hlt]
    have hc := (b[i]).toNat_lt
    generalize b[i] = c at hc ⊢
    have hw : wI ((i : Int) + 1) = ((i + 1 : Nat) : Int) := by rw [wI_in (by omega) (by omega)]; simp
    -- what comes behind the first test
    have kT : ∃ j : Int, F.cbor_reader_argument_K1 b i out op ((c.toNat / 32 : Nat) : Int) ((c.toNat % 32 : Nat) : Int) true = some ((0 : Int), (0 : UInt64), some ((220 : Int), (i : Int)), j, out, op) := ⟨_, rfl⟩
    have kF : c.toNat % 32 ≤ 27 → ∃ j : Int, F.cbor_reader_argument_K1 b i out op ((c.toNat / 32 : Nat) : Int) ((c.toNat % 32 : Nat) : Int) false = some (match (if c.toNat % 32 < 24 then .ok (c.toNat / 32, UInt64.ofNat (c.toNat % 32), i + 1)
        else if b.length - (i + 1) < 2 ^ (c.toNat % 32 - 24) then .error (220, (b.length : Int))
        else if wd (nbe ((b.drop (i + 1)).take (2 ^ (c.toNat % 32 - 24)))) ≠ 2 ^ (c.toNat % 32 - 24) then .error (220, (i : Int))
        else .ok (c.toNat / 32, nbe ((b.drop (i + 1)).take (2 ^ (c.toNat % 32 - 24))), i + 1 + 2 ^ (c.toNat % 32 - 24)) : Except Er (Nat × UInt64 × Nat)) with
      | .ok (m, n, k) => ((m : Int), n, none, (k : Int), out, op)
      | .error e => (0, 0, some e, j, out, op)) := by
      intro hk
      unfold F.cbor_reader_argument_K1
      simp only [Bool.false_eq_true, if_false]
      by_cases h24 : c.toNat % 32 < 24
      · have d1 : decide (((c.toNat % 32 : Nat) : Int) < 24) = true := by simp; omega
        refine ⟨0, ?_⟩
        simp only [d1, h24, if_true, hw, ofInt64]
      · have d1 : decide (((c.toNat % 32 : Nat) : Int) < 24) = false := by simp; omega
        have e1 : wI (((c.toNat % 32 : Nat) : Int) - 24) = ((c.toNat % 32 - 24 : Nat) : Int) := by rw [wI_in (by omega) (by omega)]; omega
        simp only [d1, h24, if_false, Bool.false_eq_true, e1, Int.toNat_natCast, hw]
        rw [grd_true _ (by omega), olet_eq, size_eq _ (by omega) hk]
        have hp := pow_le8 _ hk
        generalize 2 ^ (c.toNat % 32 - 24) = s at hp ⊢
        have e2 : wI ((b.length : Int) - ((i + 1 : Nat) : Int)) = ((b.length - (i + 1) : Nat) : Int) := by rw [wI_in (by omega) (by omega)]; omega
        rw [e2]
        by_cases hs : b.length - (i + 1) < s
        · have d2 : decide (((b.length - (i + 1) : Nat) : Int) < (s : Int)) = true := by simp; omega
          refine ⟨((i + 1 : Nat) : Int), ?_⟩
          simp only [d2, hs, if_true]
        · have d2 : decide (((b.length - (i + 1) : Nat) : Int) < (s : Int)) = false := by simp; omega
          have e3 : wI (((i + 1 : Nat) : Int) + (s : Int)) = ((i + 1 + s : Nat) : Int) := by rw [wI_in (by omega) (by omega)]; simp
          simp only [d2, hs, if_false, Bool.false_eq_true, e3]
          rw [slO_ok (by omega) (by omega), bind_some', show i + 1 + s - (i + 1) = s by omega]
          have hL : ((b.drop (i + 1)).take s).length = s := by simp; omega
          generalize (b.drop (i + 1)).take s = L at hL ⊢
          have key : ∀ q k, s - k = q → k ≤ s → loop (F.cbor_reader_argument_L1 i out op ((c.toNat / 32 : Nat) : Int) s L) (nbe (L.take k), (k : Int)) =
              some (if wd (nbe L) ≠ s then ((0 : Int), (0 : UInt64), some ((220 : Int), (i : Int)), ((i + 1 + s : Nat) : Int), out, op) else (((c.toNat / 32 : Nat) : Int), nbe L, none, ((i + 1 + s : Nat) : Int), out, op)) := by
            intro q
            induction q with
            | zero =>
              intro k h1 h2
              have : k = s := by omega
              subst this
              refine loop_inr ?_
              have d3 : decide (((k : Nat) : Int) < (L.length : Int)) = false := by simp; omega
              simp only [F.cbor_reader_argument_L1, d3, Bool.false_eq_true, if_false, width_eq, bind_some', hw, e3]
              rw [List.take_of_length_le (by omega)]
              by_cases hwd : wd (nbe L) = k
              · simp only [hwd, bne_self_eq_false, Bool.false_eq_true, if_false, oinr, ne_eq, not_true, Option.map_some]
              · have : ((wd (nbe L) : Int) != (k : Int)) = true := by simp; omega
                simp only [this, if_true, oinr, hwd, ne_eq, not_false_eq_true, Option.map_some]
            | succ q ih =>
              intro k h1 h2
              have hk2 : k < L.length := by omega
              have d3 : decide (((k : Nat) : Int) < (L.length : Int)) = true := by simp; omega
              have e4 : wI ((k : Int) + 1) = ((k + 1 : Nat) : Int) := by rw [wI_in (by omega) (by omega)]; simp
              have hs2 : F.cbor_reader_argument_L1 i out op ((c.toNat / 32 : Nat) : Int) s L (nbe (L.take k), (k : Int)) = some (.inl (nbe (L.take (k + 1)), ((k + 1 : Nat) : Int))) := by
                simp only [F.cbor_reader_argument_L1, d3, if_true, getO_lt hk2, bind_some', olet_eq, e4, shl8or, nbe_take_succ L k hk2]
                rfl
              rw [loop_inl hs2]
              exact ih (k + 1) (by omega) (by omega)
          have := key s 0 (by omega) (by omega)
          simp only [List.take_zero] at this
          have this : loop (F.cbor_reader_argument_L1 i out op ((c.toNat / 32 : Nat) : Int) s L) (0, 0) = _ := this
          refine ⟨((i + 1 + s : Nat) : Int), ?_⟩
          rw [this]
          by_cases hwd : wd (nbe L) = s <;> simp [hwd]
    by_cases h27 : 27 < c.toNat % 32
    · have d : decide ((27 : Int) < ((c.toNat % 32 : Nat) : Int)) = true := by simp; omega
      simp only [d, if_true, h27, true_or]
      exact kT
    · have d : decide ((27 : Int) < ((c.toNat % 32 : Nat) : Int)) = false := by simp; omega
      simp only [d, if_false, h27, false_or, Bool.false_eq_true]
      by_cases h7 : c.toNat / 32 = 7
      · have d7 : (((c.toNat / 32 : Nat) : Int) == 7) = true := by simp; omega
        simp only [d7, if_true, h7, true_and]
        by_cases h20 : c.toNat % 32 < 20
        · have d20 : decide (((c.toNat % 32 : Nat) : Int) < 20) = true := by simp; omega
          simp only [d20, if_true, h20, true_or]
          rw [h7] at kT
          exact kT
        · have d20 : decide (((c.toNat % 32 : Nat) : Int) < 20) = false := by simp; omega
          simp only [d20, if_false, h20, false_or, Bool.false_eq_true]
          by_cases h22 : 22 < c.toNat % 32
          · have d22 : decide ((22 : Int) < ((c.toNat % 32 : Nat) : Int)) = true := by simp; omega
            simp only [d22, if_true, h22]
            rw [h7] at kT
            exact kT
          · have d22 : decide ((22 : Int) < ((c.toNat % 32 : Nat) : Int)) = false := by simp; omega
            simp only [d22, if_false, h22]
            have := kF (by omega)
            rw [h7] at this
            exact this
      · have d7 : (((c.toNat / 32 : Nat) : Int) == 7) = false := by simp; omega
        simp only [d7, if_false, h7, false_and, Bool.false_eq_true]
        exact kF (by omega)
end Go.Gk.Cb
end

section
set_option linter.unusedSimpArgs false
set_option linter.unusedVariables false
namespace Go.Gk.Cb
open Go Go.Gk
theorem fail0 (b : List UInt8) (i : Int) (out : List It) (e p : Int) (x y : Int) (hx : x = 0) : F.ref30_Reader_fail b i out x y e p = some (b, i, out, e, p) := by
  subst hx; rfl
theorem tdiv32 (c : Nat) (h : c < 256) : wI (Int.tdiv (c : Int) 32) = ((c / 32 : Nat) : Int) := by
  have : Int.tdiv (c : Int) 32 = ((c / 32 : Nat) : Int) := by rw [Int.tdiv_eq_ediv_of_nonneg (by omega)]; simp
  rw [this, wI_in (by omega) (by omega)]
theorem tmod32 (c : Nat) : Int.tmod (c : Int) 32 = ((c % 32 : Nat) : Int) := by
  rw [Int.tmod_eq_emod_of_nonneg (by omega)]; simp
theorem head_eq (b : List UInt8) (i : Nat) (out : List It) (hb : b.length ≤ 65536) (hi : i ≤ b.length) :
    ∃ j : Int, F.ref30_Reader_head b i out 0 0 = some (match headD b i with
      | .ok (m, n, k) => ((m : Int), n, b, (k : Int), out, (0 : Int), (0 : Int))
      | .error e => (0, 0, b, j, out, e.1, e.2)) := by
  unfold F.ref30_Reader_head headD
  by_cases hl : i = b.length
  · subst hl
    refine ⟨(b.length : Int), ?_⟩
    simp [F.ref30_Reader_fail]
  · have hlt : i < b.length := by omega
    have h0 : decide ((b.length : Int) ≤ (i : Int)) = false := by simp; omega
    have hc := (b[i]).toNat_lt
    have hc : (b[i]).toNat < 256 := hc
    simp only [h0, Bool.false_eq_true, if_false, getO_lt hlt, bind_some', olet_eq, tdiv32 _ hc, tmod32, List.getElem?_eq_getElem hlt]
    generalize b[i] = c at hc ⊢
    have hw : wI ((i : Int) + 1) = ((i + 1 : Nat) : Int) := by rw [wI_in (by omega) (by omega)]; simp
    have kT : ∃ j : Int, F.ref30_Reader_head_K1 b i out 0 0 ((c.toNat / 32 : Nat) : Int) ((c.toNat % 32 : Nat) : Int) true = some ((0 : Int), (0 : UInt64), b, j, out, (220 : Int), (i : Int)) := ⟨_, rfl⟩
    have kF : c.toNat % 32 ≤ 27 → ∃ j : Int, F.ref30_Reader_head_K1 b i out 0 0 ((c.toNat / 32 : Nat) : Int) ((c.toNat % 32 : Nat) : Int) false = some (match (if c.toNat % 32 < 24 then .ok (c.toNat / 32, UInt64.ofNat (c.toNat % 32), i + 1)
        else if b.length - (i + 1) < 2 ^ (c.toNat % 32 - 24) then .error (220, (b.length : Int))
        else if wd (nbe ((b.drop (i + 1)).take (2 ^ (c.toNat % 32 - 24)))) ≠ 2 ^ (c.toNat % 32 - 24) then .error (220, (i : Int))
        else .ok (c.toNat / 32, nbe ((b.drop (i + 1)).take (2 ^ (c.toNat % 32 - 24))), i + 1 + 2 ^ (c.toNat % 32 - 24)) : Except Er (Nat × UInt64 × Nat)) with
      | .ok (m, n, k) => ((m : Int), n, b, (k : Int), out, (0 : Int), (0 : Int))
      | .error e => (0, 0, b, j, out, e.1, e.2)) := by
      intro hk
      unfold F.ref30_Reader_head_K1
      simp only [Bool.false_eq_true, if_false]
      by_cases h24 : c.toNat % 32 < 24
      · have d1 : decide (((c.toNat % 32 : Nat) : Int) < 24) = true := by simp; omega
        refine ⟨0, ?_⟩
        simp only [d1, h24, if_true, hw, ofInt64]
      · have d1 : decide (((c.toNat % 32 : Nat) : Int) < 24) = false := by simp; omega
        have e1 : wI (((c.toNat % 32 : Nat) : Int) - 24) = ((c.toNat % 32 - 24 : Nat) : Int) := by rw [wI_in (by omega) (by omega)]; omega
        have e5 : (UInt64.ofNat (c.toNat % 32 - 24)).toNat = c.toNat % 32 - 24 := by simp; omega
        simp only [d1, h24, if_false, Bool.false_eq_true, e1, ofInt64, e5, hw]
        rw [olet_eq, size_eq _ (by omega) hk]
        have hp := pow_le8 _ hk
        generalize 2 ^ (c.toNat % 32 - 24) = s at hp ⊢
        have e2 : wI ((b.length : Int) - ((i + 1 : Nat) : Int)) = ((b.length - (i + 1) : Nat) : Int) := by rw [wI_in (by omega) (by omega)]; omega
        rw [e2]
        by_cases hs : b.length - (i + 1) < s
        · have d2 : decide (((b.length - (i + 1) : Nat) : Int) < (s : Int)) = true := by simp; omega
          refine ⟨((i + 1 : Nat) : Int), ?_⟩
          simp only [d2, hs, if_true, fail0, bind_some']
        · have d2 : decide (((b.length - (i + 1) : Nat) : Int) < (s : Int)) = false := by simp; omega
          have e3 : wI (((i + 1 : Nat) : Int) + (s : Int)) = ((i + 1 + s : Nat) : Int) := by rw [wI_in (by omega) (by omega)]; simp
          simp only [d2, hs, if_false, Bool.false_eq_true]
          have hL : ((b.drop (i + 1)).take s).length = s := by simp; omega
          have hg : ∀ k, k < s → b[i + 1 + k]? = ((b.drop (i + 1)).take s)[k]? := fun k hk => by
            rw [List.getElem?_take, if_pos hk, List.getElem?_drop]
          generalize (b.drop (i + 1)).take s = L at hL hg ⊢
          have key : ∀ q k, s - k = q → k ≤ s → loop (F.ref30_Reader_head_L1 b i out 0 0 ((c.toNat / 32 : Nat) : Int) s) (nbe (L.take k), (k : Int)) =
              some (if wd (nbe L) ≠ s then ((0 : Int), (0 : UInt64), b, ((i + 1 + s : Nat) : Int), out, (220 : Int), (i : Int)) else (((c.toNat / 32 : Nat) : Int), nbe L, b, ((i + 1 + s : Nat) : Int), out, 0, 0)) := by
            intro q
            induction q with
            | zero =>
              intro k h1 h2
              have : k = s := by omega
              subst this
              refine loop_inr ?_
              have d3 : decide (((k : Nat) : Int) < (k : Int)) = false := by simp
              simp only [F.ref30_Reader_head_L1, d3, Bool.false_eq_true, if_false, wide_eq, bind_some', hw, e3]
              rw [List.take_of_length_le (by omega)]
              by_cases hwd : wd (nbe L) = k
              · simp only [hwd, bne_self_eq_false, Bool.false_eq_true, if_false, oinr, ne_eq, not_true, Option.map_some]
              · have : ((wd (nbe L) : Int) != (k : Int)) = true := by simp; omega
                simp only [this, if_true, oinr, hwd, ne_eq, not_false_eq_true, Option.map_some, fail0, bind_some']
            | succ q ih =>
              intro k h1 h2
              have hk2 : k < L.length := by omega
              have d3 : decide (((k : Nat) : Int) < (s : Int)) = true := by simp; omega
              have e4 : wI ((k : Int) + 1) = ((k + 1 : Nat) : Int) := by rw [wI_in (by omega) (by omega)]; simp
              have e6 : wI (((i + 1 : Nat) : Int) + (k : Int)) = ((i + 1 + k : Nat) : Int) := by rw [wI_in (by omega) (by omega)]; simp
              have g6 : getO b ((i + 1 + k : Nat) : Int) = some L[k] := by rw [getO_nat, hg k (by omega)]; simp [hk2]
              have hs2 : F.ref30_Reader_head_L1 b i out 0 0 ((c.toNat / 32 : Nat) : Int) s (nbe (L.take k), (k : Int)) = some (.inl (nbe (L.take (k + 1)), ((k + 1 : Nat) : Int))) := by
                simp only [F.ref30_Reader_head_L1, d3, if_true, hw, e6, g6, bind_some', olet_eq, e4, nbe_take_succ L k hk2]
                rfl
              rw [loop_inl hs2]
              exact ih (k + 1) (by omega) (by omega)
          have := key s 0 (by omega) (by omega)
          simp only [List.take_zero] at this
          have this : loop (F.ref30_Reader_head_L1 b i out 0 0 ((c.toNat / 32 : Nat) : Int) s) (0, 0) = _ := this
          refine ⟨((i + 1 + s : Nat) : Int), ?_⟩
          rw [this]
          by_cases hwd : wd (nbe L) = s <;> simp [hwd]
    by_cases h27 : 27 < c.toNat % 32
    · have d : decide ((27 : Int) < ((c.toNat % 32 : Nat) : Int)) = true := by simp; omega
      simp only [d, if_true, h27, true_or]
      exact kT
    · have d : decide ((27 : Int) < ((c.toNat % 32 : Nat) : Int)) = false := by simp; omega
      simp only [d, if_false, h27, false_or, Bool.false_eq_true]
      by_cases h7 : c.toNat / 32 = 7
      · have d7 : (((c.toNat / 32 : Nat) : Int) == 7) = true := by simp; omega
        simp only [d7, if_true, h7, true_and]
        by_cases h20 : c.toNat % 32 < 20
        · have d20 : decide (((c.toNat % 32 : Nat) : Int) < 20) = true := by simp; omega
          simp only [d20, if_true, h20, true_or]
          rw [h7] at kT
          exact kT
        · have d20 : decide (((c.toNat % 32 : Nat) : Int) < 20) = false := by simp; omega
          simp only [d20, if_false, h20, false_or, Bool.false_eq_true]
          by_cases h22 : 22 < c.toNat % 32
          · have d22 : decide ((22 : Int) < ((c.toNat % 32 : Nat) : Int)) = true := by simp; omega
            simp only [d22, if_true, h22]
            rw [h7] at kT
            exact kT
          · have d22 : decide ((22 : Int) < ((c.toNat % 32 : Nat) : Int)) = false := by simp; omega
            simp only [d22, if_false, h22]
            have := kF (by omega)
            rw [h7] at this
            exact this
      · have d7 : (((c.toNat / 32 : Nat) : Int) == 7) = false := by simp; omega
        simp only [d7, if_false, h7, false_and, Bool.false_eq_true]
        exact kF (by omega)
abbrev RR := List UInt8 × Int × List It × Int × Int
def Res (b : List UInt8) (out : List It) (x : Except Er (Nat × List It)) (r : RR) : Prop := match x with
  | .ok (j, is) => r = (b, (j : Int), out ++ is, 0, 0)
  | .error e => ∃ (p : Int) (q : List It), out.length ≤ q.length ∧ r = (b, p, q, e.1, e.2)
def Does (b : List UInt8) (rc : List UInt8 → Int → List It → Int → Int → Option RR) (rec : Rd) : Prop :=
  ∀ (i : Nat) (out : List It), i ≤ b.length → out.length ≤ i → ∃ r, rc b i out 0 0 = some r ∧ Res b out (rec i) r
section
variable {b : List UInt8} {rec : Rd} {rc : List UInt8 → Int → List It → Int → Int → Int → Option RR} {w : Int}
theorem pairs_eq (hb : b.length ≤ 65536) (hm : Moves b rec) (hrc : Does b (fun b i out e p => rc b i out e p (wI (w + 1))) rec) (n : UInt64) :
    ∀ (f k : Nat) (last : Option (List UInt8)) (lst : List UInt8) (i : Nat) (out : List It), i ≤ b.length → out.length ≤ i → b.length + 1 ≤ f + i → k ≤ n.toNat →
      (k = 0 ↔ last = none) → (∀ l, last = some l → l = lst) → lst.length ≤ 65536 →
      ∃ r, loop (F.ref30_Reader_pairs_L1 n w rc) (lst, UInt64.ofNat k, b, (i : Int), out, 0, 0) = some r ∧ Res b out (pairsD rec b f (n.toNat - k) last i) r := by
  intro f
  induction f with
  | zero => intro k last lst i out h1 h2 h3; omega
  | succ f ih =>
    intro k last lst i out h1 h2 h3 h4 h5 h6 h7
    have hn := n.toNat_lt
    have hkN : (UInt64.ofNat k).toNat = k := by simp; omega
    by_cases hk : k = n.toNat
    · refine ⟨(b, (i : Int), out, 0, 0), ?_, ?_⟩
      · refine loop_inr ?_
        have : decide (UInt64.ofNat k < n) = false := by
          simp only [decide_eq_false_iff_not, UInt64.lt_iff_toNat_lt, hkN]; omega
        simp only [F.ref30_Reader_pairs_L1, F.ref30_Reader_pairs_K1, this, Bool.false_eq_true, if_false]
        rfl
      · subst hk
        simp [pairsD, Res]
    · have hlt : decide (UInt64.ofNat k < n) = true := by
        simp only [decide_eq_true_eq, UInt64.lt_iff_toNat_lt, hkN]; omega
      obtain ⟨m, hm2⟩ : ∃ m, n.toNat - k = m + 1 := ⟨n.toNat - k - 1, by omega⟩
      have hm3 : m = n.toNat - (k + 1) := by omega
      rw [hm2, pairsD]
      obtain ⟨r1, hr1, hR1⟩ := hrc i out h1 h2
      simp only at hr1
      cases hx : rec i with
      | error e =>
        rw [hx] at hR1
        obtain ⟨p, q, hq, rfl⟩ := hR1
        have he := (hm.2 i e hx h1).1
        refine ⟨(b, p, q, e.1, e.2), ?_, ?_⟩
        · refine loop_inr ?_
          have h0 : (e.1 != 0) = true := by simp [he]
          simp only [F.ref30_Reader_pairs_L1, F.ref30_Reader_pairs_K1, hlt, if_true, beq_self_eq_true, hr1, bind_some', h0]
          rfl
        · exact ⟨p, q, hq, rfl⟩
      | ok a =>
        obtain ⟨j, is⟩ := a
        rw [hx] at hR1
        simp only [Res] at hR1
        subst hR1
        obtain ⟨h8, h9, h10, h11⟩ := hm.1 i j is hx
        have hsl : slO b (i : Int) (j : Int) = some (part b i j) := slO_ok (by omega) (by omega)
        have hpl : (part b i j).length ≤ 65536 := by simp [part]; omega
        -- the order of the keys
        have hord : (if decide ((0 : UInt64) < UInt64.ofNat k) = true then obind (F.ref30_Less lst (part b i j)) fun x => F.ref30_Reader_pairs_K2 w rc (UInt64.ofNat k) i (b, (j : Int), out ++ is, 0, 0) (part b i j) (!x)
            else F.ref30_Reader_pairs_K2 w rc (UInt64.ofNat k) i (b, (j : Int), out ++ is, 0, 0) (part b i j) false)
            = F.ref30_Reader_pairs_K2 w rc (UInt64.ofNat k) i (b, (j : Int), out ++ is, 0, 0) (part b i j) (!keyOk last (part b i j)) := by
          cases hla : last with
          | none =>
            have : k = 0 := h5.2 hla
            subst this
            rfl
          | some l =>
            have hk0 : k ≠ 0 := fun h => by rw [h5.1 h] at hla; cases hla
            have := h6 l hla
            subst this
            have : decide ((0 : UInt64) < UInt64.ofNat k) = true := by
              simp only [decide_eq_true_eq, UInt64.lt_iff_toNat_lt, hkN]
              show 0 < k
              omega
            rw [if_pos this, less_eq _ _ (by omega)]
            rfl
        have hst : F.ref30_Reader_pairs_L1 n w rc (lst, UInt64.ofNat k, b, (i : Int), out, 0, 0) = F.ref30_Reader_pairs_K2 w rc (UInt64.ofNat k) i (b, (j : Int), out ++ is, 0, 0) (part b i j) (!keyOk last (part b i j)) := by
          simp only [F.ref30_Reader_pairs_L1, F.ref30_Reader_pairs_K1, hlt, if_true, beq_self_eq_true, hr1, bind_some', bne_self_eq_false, Bool.false_eq_true, if_false, hsl]
          exact hord
        simp only
        by_cases hko : keyOk last (part b i j) = false
        · rw [if_pos hko]
          refine ⟨(b, (j : Int), out ++ is, 220, (i : Int)), ?_, ⟨_, _, by simp, rfl⟩⟩
          refine loop_inr ?_
          rw [hst, hko]
          rfl
        · rw [if_neg hko]
          have hko' : keyOk last (part b i j) = true := by simpa using hko
          obtain ⟨r2, hr2, hR2⟩ := hrc j (out ++ is) h9 (by simp; omega)
          simp only at hr2
          cases hy : rec j with
          | error e =>
            rw [hy] at hR2
            obtain ⟨p, q, hq, rfl⟩ := hR2
            have he := (hm.2 j e hy h9).1
            simp only [List.length_append] at hq
            refine ⟨(b, p, q, e.1, e.2), ?_, ⟨p, q, by omega, rfl⟩⟩
            have s1 : F.ref30_Reader_pairs_L1 n w rc (lst, UInt64.ofNat k, b, (i : Int), out, 0, 0) = some (.inl (part b i j, UInt64.ofNat k + 1, b, p, q, e.1, e.2)) := by
              rw [hst, hko']
              simp only [F.ref30_Reader_pairs_K2, Bool.not_true, Bool.false_eq_true, if_false, hr2, bind_some']
              rfl
            rw [loop_inl s1]
            refine loop_inr ?_
            have h0 : (e.1 == 0) = false := by simp [he]
            by_cases h12 : decide (UInt64.ofNat k + 1 < n) = true
            · simp only [F.ref30_Reader_pairs_L1, F.ref30_Reader_pairs_K1, h12, if_true, h0, Bool.false_eq_true, if_false]; rfl
            · simp only [F.ref30_Reader_pairs_L1, F.ref30_Reader_pairs_K1, h12, Bool.false_eq_true, if_false]; rfl
          | ok c =>
            obtain ⟨l, js⟩ := c
            rw [hy] at hR2
            simp only [Res] at hR2
            subst hR2
            obtain ⟨h12, h13, h14, h15⟩ := hm.1 j l js hy
            have hk1 : UInt64.ofNat k + 1 = UInt64.ofNat (k + 1) := by
              apply UInt64.toNat_inj.1
              rw [UInt64.toNat_add, hkN]; simp
            have s1 : F.ref30_Reader_pairs_L1 n w rc (lst, UInt64.ofNat k, b, (i : Int), out, 0, 0) = some (.inl (part b i j, UInt64.ofNat (k + 1), b, (l : Int), out ++ is ++ js, 0, 0)) := by
              rw [hst, hko', ← hk1]
              simp only [F.ref30_Reader_pairs_K2, Bool.not_true, Bool.false_eq_true, if_false, hr2, bind_some']
              rfl
            obtain ⟨r, hr, hR⟩ := ih (k + 1) (some (part b i j)) (part b i j) l (out ++ is ++ js) h13 (by simp; omega) (by omega) (by omega) (by simp) (by simp) hpl
            refine ⟨r, by rw [loop_inl s1]; exact hr, ?_⟩
            rw [hm3]
            simp only
            cases hz : pairsD rec b f (n.toNat - (k + 1)) (some (part b i j)) l with
            | error e =>
              rw [hz] at hR
              obtain ⟨p, q, hq, rfl⟩ := hR
              simp only [List.length_append] at hq
              exact ⟨p, q, by omega, rfl⟩
            | ok y =>
              obtain ⟨z, ks⟩ := y
              rw [hz] at hR
              simp only [Res] at hR ⊢
              rw [hR]; simp
theorem list_eq (hb : b.length ≤ 65536) (hm : Moves b rec) (hrc : Does b (fun b i out e p => rc b i out e p (wI (w + 1))) rec) (m0 : Int) (n : UInt64) (j0 : Int) (o0 : List It) (out : List It) :
    ∀ (f k : Nat) (i : Nat) (cur : List It), i ≤ b.length → cur.length ≤ i → b.length + 1 ≤ f + i → k ≤ n.toNat → out.length < cur.length → 
      ∃ r, loop (F.ref30_Reader_item_s_L1 (m0, n, b, j0, o0, 0, 0) out w rc) (UInt64.ofNat k, b, (i : Int), cur, 0, 0) = some r ∧
        (match listD rec f (n.toNat - k) i with
          | .ok (j, is) => ∃ x, (cur ++ is)[out.length]? = some x ∧ r = (b, (j : Int), (cur ++ is).set out.length (x.1, x.2.1, x.2.2.1, wI ((n &&& 4294967295).toNat : Int)), 0, 0)
          | .error e => ∃ (p : Int) (q : List It), out.length ≤ q.length ∧ r = (b, p, q, e.1, e.2)) := by
  intro f
  induction f with
  | zero => intro k i cur h1 h2 h3; omega
  | succ f ih =>
    intro k i cur h1 h2 h3 h4 h5
    have hn := n.toNat_lt
    have hkN : (UInt64.ofNat k).toNat = k := by simp; omega
    by_cases hk : k = n.toNat
    · subst hk
      have hg : getO cur ((out.length : Int) : Int) = some cur[out.length] := getO_lt h5
      have : decide (UInt64.ofNat n.toNat < n) = false := by
        simp only [decide_eq_false_iff_not, UInt64.lt_iff_toNat_lt, hkN]; omega
      refine ⟨(b, (i : Int), cur.set out.length (cur[out.length].1, cur[out.length].2.1, cur[out.length].2.2.1, wI ((n &&& 4294967295).toNat : Int)), 0, 0), ?_, ?_⟩
      · refine loop_inr ?_
        simp only [F.ref30_Reader_item_s_L1, F.ref30_Reader_item_s_K5, this, Bool.false_eq_true, if_false, hg, bind_some', olet_eq]
        rfl
      · simp only [Nat.sub_self, listD, List.append_nil]
        exact ⟨cur[out.length], by simp [h5], by simp⟩
    · have hlt : decide (UInt64.ofNat k < n) = true := by
        simp only [decide_eq_true_eq, UInt64.lt_iff_toNat_lt, hkN]; omega
      obtain ⟨m, hm2⟩ : ∃ m, n.toNat - k = m + 1 := ⟨n.toNat - k - 1, by omega⟩
      have hm3 : m = n.toNat - (k + 1) := by omega
      rw [hm2, listD]
      obtain ⟨r1, hr1, hR1⟩ := hrc i cur h1 h2
      simp only at hr1
      have hk1 : UInt64.ofNat k + 1 = UInt64.ofNat (k + 1) := by
        apply UInt64.toNat_inj.1
        rw [UInt64.toNat_add, hkN]; simp
      cases hx : rec i with
      | error e =>
        rw [hx] at hR1
        obtain ⟨p, q, hq, rfl⟩ := hR1
        have he := (hm.2 i e hx h1).1
        have s1 : F.ref30_Reader_item_s_L1 (m0, n, b, j0, o0, 0, 0) out w rc (UInt64.ofNat k, b, (i : Int), cur, 0, 0) = some (.inl (UInt64.ofNat k + 1, b, p, q, e.1, e.2)) := by
          simp only [F.ref30_Reader_item_s_L1, F.ref30_Reader_item_s_K5, hlt, if_true, beq_self_eq_true, hr1, bind_some']
          rfl
        have h0 : (e.1 == 0) = false := by simp [he]
        have hg : getO q ((out.length : Int) : Int) = some (q[out.length]'(by omega)) := getO_lt (by omega)
        have hq9 : out.length < q.length := by omega
        refine ⟨(b, p, q.set out.length (q[out.length].1, q[out.length].2.1, q[out.length].2.2.1, wI ((n &&& 4294967295).toNat : Int)), e.1, e.2), ?_, ?_⟩
        · rw [loop_inl s1]
          refine loop_inr ?_
          by_cases h12 : decide (UInt64.ofNat k + 1 < n) = true
          · simp only [F.ref30_Reader_item_s_L1, F.ref30_Reader_item_s_K5, h12, if_true, h0, Bool.false_eq_true, if_false, hg, bind_some', olet_eq]; rfl
          · simp only [F.ref30_Reader_item_s_L1, F.ref30_Reader_item_s_K5, h12, Bool.false_eq_true, if_false, hg, bind_some', olet_eq]; rfl
        · exact ⟨_, _, by simp; omega, rfl⟩
      | ok a =>
        obtain ⟨j, is⟩ := a
        rw [hx] at hR1
        simp only [Res] at hR1
        subst hR1
        obtain ⟨h8, h9, h10, h11⟩ := hm.1 i j is hx
        have s1 : F.ref30_Reader_item_s_L1 (m0, n, b, j0, o0, 0, 0) out w rc (UInt64.ofNat k, b, (i : Int), cur, 0, 0) = some (.inl (UInt64.ofNat (k + 1), b, (j : Int), cur ++ is, 0, 0)) := by
          rw [← hk1]
          simp only [F.ref30_Reader_item_s_L1, F.ref30_Reader_item_s_K5, hlt, if_true, beq_self_eq_true, hr1, bind_some']
          rfl
        obtain ⟨r, hr, hR⟩ := ih (k + 1) j (cur ++ is) h9 (by simp; omega) (by omega) (by omega) (by simp; omega)
        refine ⟨r, by rw [loop_inl s1]; exact hr, ?_⟩
        rw [hm3]
        simp only
        cases hz : listD rec f (n.toNat - (k + 1)) j with
        | error e => rw [hz] at hR; exact hR
        | ok y =>
          obtain ⟨z, ks⟩ := y
          rw [hz] at hR
          simpa using hR
end
def Utf (b : List UInt8) : Prop := ∀ s : List UInt8, s.length ≤ b.length → F.ref30_utf8 s = some (Lib.validD s)
theorem and32 (n : UInt64) (h : n.toNat ≤ 65536) : wI ((n &&& 4294967295).toNat : Int) = (n.toNat : Int) := by
  rw [UInt64.toNat_and]
  have h1 := and_mask n.toNat 32
  have h2 : (4294967295 : UInt64).toNat = 2 ^ 32 - 1 := by decide
  rw [h2, h1, Nat.mod_eq_of_lt (by omega), wI_in (by omega) (by omega)]
theorem apO40 (l m : List It) (h : l.length + m.length ≤ 1000000) : apO 40 l m = some (l ++ m) := apO_ok (by omega)
theorem set_at (out is : List It) (x y : It) : (out ++ x :: is).set out.length y = out ++ y :: is := by simp
theorem nth_at (out is : List It) (x : It) : (out ++ x :: is)[out.length]? = some x := by simp
section
variable {b : List UInt8} {rc : List UInt8 → Int → List It → Int → Int → Int → Option RR}
theorem item_eq (hb : b.length ≤ 65536) (hu : Utf b) (d : Nat) (hd : d ≤ 32) (sub : Option Rd) (hsub : ∀ rec, sub = some rec → Moves b rec) (hd0 : sub = none ↔ d = 0)
    (hrc : ∀ rec, sub = some rec → Does b (fun b i out e p => rc b i out e p (wI (((32 - d : Nat) : Int) + 1))) rec) :
    Does b (fun b i out e p => F.ref30_Reader_item_s rc b i out e p ((32 - d : Nat) : Int)) (itemS b sub) := by
  intro i out h1 h2
  obtain ⟨jj, hh⟩ := head_eq b i out hb h1
  unfold itemS
  simp only [F.ref30_Reader_item_s, bne_self_eq_false, Bool.false_eq_true, if_false, hh, bind_some']
  cases hx : headD b i with
  | error e =>
    have he : e.1 = 220 := by rcases headD_err hx with rfl | ⟨rfl, _⟩ <;> rfl
    have h0 : (e.1 != 0) = true := by rw [he]; decide
    simp only [h0, if_true]
    exact ⟨_, rfl, ⟨jj, out, Nat.le_refl _, rfl⟩⟩
  | ok a =>
    obtain ⟨m, n, j⟩ := a
    obtain ⟨h3, h4, h5⟩ := headD_ok hx
    simp only [bne_self_eq_false, Bool.false_eq_true, if_false]
    -- the ways by the major type
    have hK1 : (if decide ((4 : Int) ≤ (m : Int)) = true then (if decide ((m : Int) ≤ 6) = true then F.ref30_Reader_item_s_K1 (i : Int) ((m : Int), n, b, (j : Int), out, 0, 0) out ((32 - d : Nat) : Int) rc (((32 - d : Nat) : Int) == 32)
        else F.ref30_Reader_item_s_K1 (i : Int) ((m : Int), n, b, (j : Int), out, 0, 0) out ((32 - d : Nat) : Int) rc false) else F.ref30_Reader_item_s_K1 (i : Int) ((m : Int), n, b, (j : Int), out, 0, 0) out ((32 - d : Nat) : Int) rc false) =
        F.ref30_Reader_item_s_K1 (i : Int) ((m : Int), n, b, (j : Int), out, 0, 0) out ((32 - d : Nat) : Int) rc (decide ((m = 4 ∨ m = 5 ∨ m = 6) ∧ d = 0)) := by
      by_cases hm : 4 ≤ m
      · have e1 : decide ((4 : Int) ≤ (m : Int)) = true := by simp; omega
        rw [if_pos e1]
        by_cases hm2 : m ≤ 6
        · have e2 : decide ((m : Int) ≤ 6) = true := by simp; omega
          rw [if_pos e2]
          congr 1
          by_cases hdd : d = 0
          · subst hdd; simp; omega
          · simp [hdd]; omega
        · have e2 : decide ((m : Int) ≤ 6) = false := by simp; omega
          rw [if_neg (by rw [e2]; simp)]
          congr 1
          simp; omega
      · have e1 : decide ((4 : Int) ≤ (m : Int)) = false := by simp; omega
        rw [if_neg (by rw [e1]; simp)]
        congr 1
        simp; omega
    rw [hK1]
    by_cases hcon : m = 4 ∨ m = 5 ∨ m = 6
    · rw [if_pos hcon]
      cases hs : sub with
      | none =>
        have hd00 : d = 0 := hd0.1 hs
        have : decide ((m = 4 ∨ m = 5 ∨ m = 6) ∧ d = 0) = true := by simp [hcon, hd00]
        rw [this]
        simp only [F.ref30_Reader_item_s_K1, if_true, fail0, bind_some']
        exact ⟨_, rfl, ⟨_, _, Nat.le_refl _, rfl⟩⟩
      | some rec =>
        have hd1 : d ≠ 0 := fun h => by rw [hd0.2 h] at hs; cases hs
        have hmv := hsub rec hs
        have hdo := hrc rec hs
        have : decide ((m = 4 ∨ m = 5 ∨ m = 6) ∧ d = 0) = false := by simp [hd1]
        rw [this]
        have n0 : ((m : Int) == 0) = false := by simp; omega
        have n1 : ((m : Int) == 1) = false := by simp; omega
        have n2 : ((m : Int) == 2) = false := by simp; omega
        have n3 : ((m : Int) == 3) = false := by simp; omega
        have n7 : ((m : Int) == 7) = false := by simp; omega
        simp only [F.ref30_Reader_item_s_K1, F.ref30_Reader_item_s_K2, F.ref30_Reader_item_s_K3, Bool.false_eq_true, if_false, n0, n1, n2, n3, n7]
        unfold insD
        by_cases hm4 : m = 4
        · subst hm4
          have e4 : (((4 : Nat) : Int) == 4) = true := by decide
          simp only [e4, if_true]
          rw [apO40 _ _ (by simp; omega), bind_some']
          obtain ⟨r, hr, hR⟩ := list_eq (w := ((32 - d : Nat) : Int)) hb hmv hdo ((4 : Nat) : Int) n (j : Int) out out (b.length + 1) 0 j (out ++ [(((4 : Nat) : Int), 0, [], 0)]) h4 (by simp; omega) (by omega) (by omega) (by simp)
          refine ⟨r, hr, ?_⟩
          simp only [Nat.sub_zero] at hR
          cases hl : listD rec (b.length + 1) n.toNat j with
          | error e => rw [hl] at hR; exact hR
          | ok y =>
            obtain ⟨k, is⟩ := y
            rw [hl] at hR
            have hmm := (listD_moves hmv (b.length + 1) n.toNat j h4).1 k is hl
            obtain ⟨x, hx1, hx2⟩ := hR
            rw [List.append_assoc, List.singleton_append] at hx1 hx2
            rw [nth_at] at hx1
            cases hx1
            rw [set_at, and32 n (by omega)] at hx2
            exact hx2
        · have e4 : ((m : Int) == 4) = false := by simp; omega
          simp only [e4, Bool.false_eq_true, if_false, hm4]
          by_cases hm5 : m = 5
          · subst hm5
            have e5 : (((5 : Nat) : Int) == 5) = true := by decide
            simp only [e5, if_true]
            rw [apO40 _ _ (by simp; omega), bind_some']
            obtain ⟨r, hr, hR⟩ := pairs_eq (w := ((32 - d : Nat) : Int)) hb hmv hdo n (b.length + 1) 0 none [] j (out ++ [(((5 : Nat) : Int), 0, [], 0)]) h4 (by simp; omega) (by omega) (by omega) (by simp) (by simp) (by simp)
            have hr : F.ref30_Reader_pairs rc b (j : Int) (out ++ [(((5 : Nat) : Int), 0, [], 0)]) 0 0 n ((32 - d : Nat) : Int) = some r := hr
            rw [hr, bind_some']
            simp only [Nat.sub_zero] at hR
            cases hl : pairsD rec b (b.length + 1) n.toNat none j with
            | error e =>
              rw [hl] at hR
              obtain ⟨p, q, hq, rfl⟩ := hR
              simp only [List.length_append, List.length_singleton] at hq
              have hg : getO q ((out.length : Int) : Int) = some (q[out.length]'(by omega)) := getO_lt (by omega)
              simp only [hg, bind_some', olet_eq]
              exact ⟨_, rfl, ⟨_, _, by simp; omega, rfl⟩⟩
            | ok y =>
              obtain ⟨k, is⟩ := y
              rw [hl] at hR
              simp only [Res] at hR
              subst hR
              have hmm := (pairsD_moves hmv (b.length + 1) n.toNat none j h4).1 k is hl
              have hg : getO (out ++ [(((5 : Nat) : Int), (0 : UInt64), ([] : List UInt8), (0 : Int))] ++ is) ((out.length : Int) : Int) = some (((5 : Nat) : Int), (0 : UInt64), ([] : List UInt8), (0 : Int)) := by
                rw [getO_nat, List.append_assoc, List.singleton_append, nth_at]
              have hk2 : wI (2 * (n.toNat : Int)) = 2 * (n.toNat : Int) := wI_in (by omega) (by omega)
              simp only [hg, bind_some', olet_eq, Int.toNat_natCast]
              rw [List.append_assoc, List.singleton_append, set_at, and32 n (by omega), hk2]
              exact ⟨_, rfl, rfl⟩
          · have hm6 : m = 6 := by omega
            subst hm6
            have e5 : (((6 : Nat) : Int) == 5) = false := by decide
            have e6 : (((6 : Nat) : Int) == 6) = true := by decide
            simp only [e5, e6, Bool.false_eq_true, if_false, if_true, hm5]
            rw [apO40 _ _ (by simp; omega), bind_some']
            obtain ⟨r, hr, hR⟩ := hdo j (out ++ [(((6 : Nat) : Int), n, [], 1)]) h4 (by simp; omega)
            simp only at hr
            rw [hr, bind_some']
            cases hl : rec j with
            | error e =>
              rw [hl] at hR
              obtain ⟨p, q, hq, rfl⟩ := hR
              simp only [List.length_append, List.length_singleton] at hq
              exact ⟨(b, p, q, e.1, e.2), rfl, ⟨p, q, by omega, rfl⟩⟩
            | ok y =>
              obtain ⟨k, is⟩ := y
              rw [hl] at hR
              simp only [Res] at hR
              subst hR
              refine ⟨_, rfl, ?_⟩
              simp only [Res]
              rw [List.append_assoc, List.singleton_append]; rfl
    · rw [if_neg hcon]
      have : decide ((m = 4 ∨ m = 5 ∨ m = 6) ∧ d = 0) = false := by simp [hcon]
      rw [this]
      simp only [F.ref30_Reader_item_s_K1, Bool.false_eq_true, if_false]
      by_cases hstr : m = 2 ∨ m = 3
      · rw [if_pos hstr]
        have n0 : ((m : Int) == 0) = false := by simp; omega
        have n1 : ((m : Int) == 1) = false := by simp; omega
        have n7 : ((m : Int) == 7) = false := by simp; omega
        have hK3 : (if ((m : Int) == 2) = true then F.ref30_Reader_item_s_K3 out ((32 - d : Nat) : Int) rc ((m : Int), n, b, (j : Int), out, 0, 0) (i : Int) ((m : Int) == 2) else F.ref30_Reader_item_s_K3 out ((32 - d : Nat) : Int) rc ((m : Int), n, b, (j : Int), out, 0, 0) (i : Int) ((m : Int) == 3)) =
            F.ref30_Reader_item_s_K3 out ((32 - d : Nat) : Int) rc ((m : Int), n, b, (j : Int), out, 0, 0) (i : Int) true := by
          rcases hstr with h | h <;> subst h <;> rfl
        simp only [n0, n1, n7, Bool.false_eq_true, if_false, F.ref30_Reader_item_s_K2, hK3]
        simp only [F.ref30_Reader_item_s_K3, if_true, F.ref30_Reader_text]
        have e1 : wI ((b.length : Int) - (j : Int)) = ((b.length - j : Nat) : Int) := by rw [wI_in (by omega) (by omega)]; omega
        have e2 : (UInt64.ofNat (b.length - j)).toNat = b.length - j := by simp; omega
        rw [e1, ofInt64]
        by_cases hlen : b.length - j < n.toNat
        · have d1 : decide (UInt64.ofNat (b.length - j) < n) = true := by simp only [decide_eq_true_eq, UInt64.lt_iff_toNat_lt, e2]; exact hlen
          simp only [d1, if_true, fail0, bind_some', hlen]
          rw [apO40 _ _ (by simp; omega), bind_some']
          have q0 : (((220 : Int)) == 0) = false := by decide
          simp only [q0, Bool.false_eq_true, if_false, F.ref30_Reader_item_s_K4]
          exact ⟨_, rfl, ⟨_, _, by simp, rfl⟩⟩
        · have d1 : decide (UInt64.ofNat (b.length - j) < n) = false := by simp only [decide_eq_false_iff_not, UInt64.lt_iff_toNat_lt, e2]; omega
          have e3 : wI (n.toNat : Int) = (n.toNat : Int) := wI_in (by omega) (by omega)
          have e4 : wI ((j : Int) + (n.toNat : Int)) = ((j + n.toNat : Nat) : Int) := by rw [wI_in (by omega) (by omega)]; simp
          simp only [d1, Bool.false_eq_true, if_false, hlen, e3, e4]
          rw [slO_ok (by omega) (by omega), bind_some', bind_some']
          have hpt : (b.drop j).take (j + n.toNat - j) = part b j (j + n.toNat) := rfl
          rw [hpt]
          simp only
          rw [apO40 _ _ (by simp; omega), bind_some']
          simp only [beq_self_eq_true, if_true]
          have hpl : (part b j (j + n.toNat)).length ≤ b.length := by simp [part]; omega
          by_cases hm3 : m = 3
          · subst hm3
            have e5 : (((3 : Nat) : Int) == 3) = true := by decide
            simp only [e5, if_true, hu _ hpl, bind_some', true_and]
            cases hv : Lib.validD (part b j (j + n.toNat)) with
            | false =>
              simp only [Bool.not_false, F.ref30_Reader_item_s_K4, if_true, fail0, bind_some']
              exact ⟨_, rfl, ⟨_, _, by simp, rfl⟩⟩
            | true =>
              simp only [Bool.not_true, F.ref30_Reader_item_s_K4, Bool.false_eq_true, if_false]
              exact ⟨_, rfl, rfl⟩
          · have e5 : ((m : Int) == 3) = false := by simp; omega
            simp only [e5, Bool.false_eq_true, if_false, F.ref30_Reader_item_s_K4, hm3, false_and]
            exact ⟨_, rfl, rfl⟩
      · rw [if_neg hstr]
        have hm017 : m = 0 ∨ m = 1 ∨ m = 7 := by omega
        have hK2 : (if ((m : Int) == 0) = true then F.ref30_Reader_item_s_K2 ((m : Int), n, b, (j : Int), out, 0, 0) out ((32 - d : Nat) : Int) rc (i : Int) ((m : Int) == 0) else if ((m : Int) == 1) = true then F.ref30_Reader_item_s_K2 ((m : Int), n, b, (j : Int), out, 0, 0) out ((32 - d : Nat) : Int) rc (i : Int) ((m : Int) == 1) else F.ref30_Reader_item_s_K2 ((m : Int), n, b, (j : Int), out, 0, 0) out ((32 - d : Nat) : Int) rc (i : Int) ((m : Int) == 7)) =
            F.ref30_Reader_item_s_K2 ((m : Int), n, b, (j : Int), out, 0, 0) out ((32 - d : Nat) : Int) rc (i : Int) true := by
          rcases hm017 with h | h | h <;> subst h <;> rfl
        rw [hK2]
        simp only [F.ref30_Reader_item_s_K2, if_true]
        rw [apO40 _ _ (by simp; omega), bind_some']
        exact ⟨_, rfl, rfl⟩
end
theorem item_n_eq {b : List UInt8} (hb : b.length ≤ 65536) (hu : Utf b) : ∀ (d k : Nat), d ≤ 32 → d < k → Does b (fun b i out e p => F.ref30_Reader_item_n k b i out e p ((32 - d : Nat) : Int)) (itemD d b)
  | 0, k, hd, hk => by
    obtain ⟨k, rfl⟩ : ∃ q, k = q + 1 := ⟨k - 1, by omega⟩
    exact item_eq hb hu 0 hd none (by simp) (by simp) (by simp)
  | d + 1, k, hd, hk => by
    obtain ⟨k, rfl⟩ : ∃ q, k = q + 1 := ⟨k - 1, by omega⟩
    refine item_eq hb hu (d + 1) hd (some (itemD d b)) (by intro rec h; cases h; exact itemD_moves b d) (by simp) ?_
    intro rec h
    cases h
    have ih := item_n_eq hb hu d k (by omega) (by omega)
    have e : wI (((32 - (d + 1) : Nat) : Int) + 1) = ((32 - d : Nat) : Int) := by rw [wI_in (by omega) (by omega)]; omega
    rw [e]
    exact ih
theorem refParse_eq {b : List UInt8} (hu : Utf b) (_hl : b.length ≤ 9223372036854775807) : F.ref30_Parse b = some (parseD b) := by
  unfold F.ref30_Parse parseD
  by_cases hb : 65536 < b.length
  · have : decide ((65536 : Int) < (b.length : Int)) = true := by simp; omega
    simp only [this, if_true, hb]
  · have d1 : decide ((65536 : Int) < (b.length : Int)) = false := by simp; omega
    simp only [d1, Bool.false_eq_true, if_false, hb]
    obtain ⟨r, hr, hR⟩ := item_n_eq (by omega) hu 32 64 (by omega) (by omega) 0 [] (by omega) (by simp)
    have hr : F.ref30_Reader_item b 0 [] 0 0 0 = some r := hr
    rw [hr, bind_some']
    cases hx : itemD 32 b 0 with
    | error e =>
      rw [hx] at hR
      obtain ⟨p, q, _, rfl⟩ := hR
      have he := ((itemD_moves b 32).2 0 e hx (by omega)).1
      have h0 : (e.1 == 0) = false := by simp [he]
      have h1 : (e.1 != 0) = true := by simp [he]
      simp only [h0, Bool.false_eq_true, if_false, F.ref30_Parse_K2, F.ref30_Parse_K1, h1, if_true]
    | ok y =>
      obtain ⟨j, is⟩ := y
      rw [hx] at hR
      simp only [Res, List.nil_append] at hR
      subst hR
      simp only [beq_self_eq_true, if_true, F.ref30_Parse_K2]
      by_cases hj : j < b.length
      · have d2 : decide ((j : Int) < (b.length : Int)) = true := by simp; omega
        have q0 : ((220 : Int) != 0) = true := by decide
        simp only [d2, if_true, hj, fail0, bind_some', F.ref30_Parse_K1, q0]
      · have d2 : decide ((j : Int) < (b.length : Int)) = false := by simp; omega
        simp only [d2, Bool.false_eq_true, if_false, hj, F.ref30_Parse_K1, bne_self_eq_false]
end Go.Gk.Cb
end

section
set_option linter.unusedSimpArgs false
set_option linter.unusedVariables false
namespace Go.Gk.Cb
open Go Go.Gk
abbrev PR := List It × Int × Int
abbrev Sg := Int × List It × List Fr_
noncomputable def Dn (b : List UInt8) (i : Int) (out : List It) (op : List Fr_) : Option (Sg ⊕ PR) :=
  obind (F.cbor_reader_done b i out op) fun x => ocase x.1 (loop (F.cbor_Parse_L2 b) (x.2.1, x.2.2.1, x.2.2.2)) (fun f => oinr (some ([], f.1, f.2)))
noncomputable def run (b : List UInt8) (x : Option (Sg ⊕ PR)) : Option PR := match x with
  | none => none
  | some (.inl s) => loop (F.cbor_Parse_L1 b) s
  | some (.inr r) => some r
theorem loop_run (b : List UInt8) (s : Sg) : loop (F.cbor_Parse_L1 b) s = run b (F.cbor_Parse_L1 b s) := by
  rw [loop_eq]
  unfold run
  cases F.cbor_Parse_L1 b s with
  | none => rfl
  | some x => cases x <;> rfl
section
variable {b : List UInt8}
theorem get_last (op : List Fr_) (g : Fr_) (_h : op.length < 1000) : getO (op ++ [g]) (op.length : Int) = some g := by
  rw [getO_nat]; simp
theorem last_ix (op : List Fr_) (g : Fr_) (h : op.length < 1000) : wI (((op ++ [g]).length : Int) - 1) = (op.length : Int) := by
  simp; rw [wI_in (by omega) (by omega)]
theorem set_last (op : List Fr_) (g g' : Fr_) : (op ++ [g]).set op.length g' = op ++ [g'] := by simp
theorem L2_zero (i : Int) (out : List It) (op : List Fr_) (g : Fr_) (h : op.length < 1000) (hg : g.2.2.1 = 0) : loop (F.cbor_Parse_L2 b) (i, out, op ++ [g]) = Dn b i out op := by
  rw [loop_eq]
  have d1 : decide ((0 : Int) < ((op ++ [g]).length : Int)) = true := by simp
  have hq : (g.2.2.1 == 0) = true := by rw [hg]; rfl
  have ht : (op ++ [g]).take ((op.length : Int)).toNat = op := by simp
  simp only [F.cbor_Parse_L2, d1, if_true, get_last op g h, bind_some', hq, F.cbor_Parse_K1, last_ix op g h]
  rw [grd_true _ (by simp), ht]
  unfold Dn
  cases hd : F.cbor_reader_done b i out op with
  | none => rfl
  | some x =>
    simp only [bind_some']
    cases hx : x.1 with
    | none => simp only [ocase, oinl]
    | some f => simp only [ocase, oinr, Option.map_some]
theorem L2_more (i : Int) (out : List It) (op : List Fr_) (g : Fr_) (h : op.length < 1000) (hg : g.2.2.1 ≠ 0) : run b (loop (F.cbor_Parse_L2 b) (i, out, op ++ [g])) = loop (F.cbor_Parse_L1 b) (i, out, op ++ [g]) := by
  have d1 : decide ((0 : Int) < ((op ++ [g]).length : Int)) = true := by simp
  have hq : (g.2.2.1 == 0) = false := by simpa using hg
  have h0 : (((op ++ [g]).length : Int) == 0) = false := by simp; omega
  have : F.cbor_Parse_L2 b (i, out, op ++ [g]) = some (.inr (.inl (i, out, op ++ [g]))) := by
    simp only [F.cbor_Parse_L2, d1, if_true, last_ix op g h, get_last op g h, bind_some', hq, F.cbor_Parse_K1, Bool.false_eq_true, if_false, h0]
    rfl
  rw [loop_inr this]
  rfl
theorem L2_end (i : Nat) (out : List It) : run b (loop (F.cbor_Parse_L2 b) ((i : Int), out, [])) = some (if i < b.length then ([], 220, (i : Int)) else (out, 0, 0)) := by
  have : F.cbor_Parse_L2 b ((i : Int), out, []) = some (.inr (.inr (if i < b.length then ([], 220, (i : Int)) else (out, 0, 0)))) := by
    have d1 : decide ((0 : Int) < ((([] : List Fr_)).length : Int)) = false := by simp
    have d0 : (((([] : List Fr_)).length : Int) == 0) = true := by simp
    simp only [F.cbor_Parse_L2, d1, Bool.false_eq_true, if_false, F.cbor_Parse_K1, d0, if_true]
    by_cases h : i < b.length
    · have d2 : decide ((i : Int) < (b.length : Int)) = true := by simp; omega
      simp only [d2, if_true, h]; rfl
    · have d2 : decide ((i : Int) < (b.length : Int)) = false := by simp; omega
      simp only [d2, Bool.false_eq_true, if_false, h]; rfl
  rw [loop_inr this]
  rfl
theorem done_nil (i : Int) (out : List It) : Dn b i out [] = loop (F.cbor_Parse_L2 b) (i, out, []) := by
  unfold Dn F.cbor_reader_done
  simp [ocase]
theorem done_one (i : Int) (out ks : List It) (op : List Fr_) (x : It) (g : Fr_) (h : op.length < 1000) (hat : g.1 = (out.length : Int)) (hm : g.2.1 ≠ 5) (hk : wI (x.2.2.2 + 1) = x.2.2.2 + 1) :
    Dn b i (out ++ x :: ks) (op ++ [g]) = loop (F.cbor_Parse_L2 b) (i, out ++ (x.1, x.2.1, x.2.2.1, x.2.2.2 + 1) :: ks, op ++ [(g.1, g.2.1, g.2.2.1 - 1, g.2.2.2.1, g.2.2.2.2.1, g.2.2.2.2.2)]) := by
  have h0 : (((op ++ [g]).length : Int) == 0) = false := by simp; omega
  have hgo : getO (out ++ x :: ks) (g.1 : Int) = some x := by rw [hat, getO_nat, nth_at]
  have hm5 : (g.2.1 != 5) = true := by simpa using hm
  unfold Dn F.cbor_reader_done
  simp only [h0, Bool.false_eq_true, if_false, get_last op g h, bind_some', hgo, olet_eq, hm5, if_true, last_ix op g h, Int.toNat_natCast, set_last, F.cbor_reader_done_K1, ocase]
  rw [hat, Int.toNat_natCast, set_at, hk]
theorem done_val (i : Int) (out ks : List It) (op : List Fr_) (x : It) (g : Fr_) (h : op.length < 1000) (hat : g.1 = (out.length : Int)) (hm : g.2.1 = 5) (ho : g.2.2.2.1 = true) (hk : wI (x.2.2.2 + 1) = x.2.2.2 + 1) :
    Dn b i (out ++ x :: ks) (op ++ [g]) = loop (F.cbor_Parse_L2 b) (i, out ++ (x.1, x.2.1, x.2.2.1, x.2.2.2 + 1) :: ks, op ++ [(g.1, g.2.1, g.2.2.1 - 1, false, i, g.2.2.2.2.2)]) := by
  have h0 : (((op ++ [g]).length : Int) == 0) = false := by simp; omega
  have hgo : getO (out ++ x :: ks) (g.1 : Int) = some x := by rw [hat, getO_nat, nth_at]
  have hm5 : (g.2.1 != 5) = false := by simp [hm]
  unfold Dn F.cbor_reader_done
  simp only [h0, Bool.false_eq_true, if_false, get_last op g h, bind_some', hgo, olet_eq, hm5, if_true, ho, last_ix op g h, Int.toNat_natCast, set_last, F.cbor_reader_done_K1, ocase]
  rw [hat, Int.toNat_natCast, set_at, hk]
def vlast (b : List UInt8) (l : Option (Nat × Nat)) : Option (List UInt8) := l.map fun p => vwL b p
theorem done_key (i : Nat) (out ks : List It) (op : List Fr_) (x : It) (g : Fr_) (k : Nat) (hb : b.length ≤ 65536) (hne : b ≠ []) (h : op.length < 1000) (hat : g.1 = (out.length : Int)) (hm : g.2.1 = 5) (ho : g.2.2.2.1 = false) (hk : wI (x.2.2.2 + 1) = x.2.2.2 + 1)
    (hkey : g.2.2.2.2.1 = (k : Int)) (hki : k ≤ i) (hi : i ≤ b.length) (hl : ∀ p, g.2.2.2.2.2 = some p → p.1 ≤ p.2 ∧ p.2 ≤ b.length) :
    Dn b (i : Int) (out ++ x :: ks) (op ++ [g]) = if keyOk (vlast b g.2.2.2.2.2) (part b k i) = false then some (.inr ([], 220, (k : Int))) else
      loop (F.cbor_Parse_L2 b) ((i : Int), out ++ (x.1, x.2.1, x.2.2.1, x.2.2.2 + 1) :: ks, op ++ [(g.1, g.2.1, g.2.2.1, true, (k : Int), some (k, i))]) := by
  have h0 : (((op ++ [g]).length : Int) == 0) = false := by simp; omega
  have hgo : getO (out ++ x :: ks) (g.1 : Int) = some x := by rw [hat, getO_nat, nth_at]
  have hm5 : (g.2.1 != 5) = false := by simp [hm]
  have hsl : slO b (k : Int) (i : Int) = some (part b k i) := slO_ok hki hi
  unfold Dn F.cbor_reader_done
  simp only [h0, Bool.false_eq_true, if_false, get_last op g h, bind_some', hgo, olet_eq, hm5, ho, last_ix op g h, Int.toNat_natCast, hkey, hsl]
  rw [grd_true _ hne]
  have hK2 : ∀ t, F.cbor_reader_done_K2 (i : Int) (op ++ [g]) g ((out ++ x :: ks).set (g.1).toNat (x.1, x.2.1, x.2.2.1, wI (x.2.2.2 + 1))) t =
      some (if t = true then (some (220, (k : Int)), (i : Int), out ++ (x.1, x.2.1, x.2.2.1, x.2.2.2 + 1) :: ks, op ++ [g]) else (none, (i : Int), out ++ (x.1, x.2.1, x.2.2.1, x.2.2.2 + 1) :: ks, op ++ [(g.1, g.2.1, g.2.2.1, true, (k : Int), some (k, i))])) := by
    intro t
    rw [hat, Int.toNat_natCast, set_at, hk]
    cases t
    · simp only [F.cbor_reader_done_K2, Bool.false_eq_true, if_false, olet_eq, last_ix op g h, Int.toNat_natCast, set_last, hkey, F.cbor_reader_done_K1]
      rw [hat]
    · simp only [F.cbor_reader_done_K2, if_true, hkey]
  cases hla : g.2.2.2.2.2 with
  | none =>
    simp only [Option.isSome_none, Bool.false_eq_true, if_false, vlast, Option.map_none, keyOk, hK2, bind_some', ocase]
    rfl
  | some p =>
    obtain ⟨hp1, hp2⟩ := hl p hla
    have hvl : (vwL b p).length < 9223372036854775807 := by simp [vwL]; omega
    simp only [Option.isSome_some, if_true, bind_some', vlast, Option.map_some, keyOk]
    rw [grd_true _ ⟨hp1, hp2⟩, compare_eq _ _ hvl, bind_some', cmp3_nonneg, hK2, bind_some']
    by_cases hlx : lexLt (vwL b p) (part b k i) = false
    · simp [hlx, ocase, oinr]
    · have hlx : lexLt (vwL b p) (part b k i) = true := by simpa using hlx
      simp [hlx, ocase, oinr]
theorem ocase_nn {α ρ : Type} (x : Option ρ) (y : α → Option ρ) : ocase none x y = x := rfl
theorem ocase_ss {α ρ : Type} (a : α) (x : Option ρ) (y : α → Option ρ) : ocase (some a) x y = y a := rfl
def Act (b : List UInt8) (len : Nat) (rec : Rd) : Prop := ∀ (i : Nat) (out : List It) (op : List Fr_), i ≤ b.length → out.length ≤ i → op.length = len →
  loop (F.cbor_Parse_L1 b) ((i : Int), out, op) = match rec i with
    | .error e => some ([], e.1, e.2)
    | .ok (j, is) => run b (Dn b (j : Int) (out ++ is) op)
theorem kids_list {rec : Rd} (hb : b.length ≤ 65536) (hm : Moves b rec) {len : Nat} (hA : Act b (len + 1) rec) (hlen : len < 100) (m : Int) (hm5 : m ≠ 5) (x : It) (odd : Bool) (key : Int) (last : Option (Nat × Nat)) :
    ∀ (f k n : Nat) (i : Nat) (out ks : List It) (op : List Fr_), i ≤ b.length → out.length + 1 + ks.length ≤ i → b.length + 1 ≤ f + i → op.length = len → n < 18446744073709551616 → k ≤ b.length → n = 0 ∨ k + 1 ≤ i →
      run b (loop (F.cbor_Parse_L2 b) ((i : Int), out ++ (x.1, x.2.1, x.2.2.1, (k : Int)) :: ks, op ++ [((out.length : Int), m, UInt64.ofNat n, odd, key, last)])) =
        match listD rec f n i with
        | .error e => some ([], e.1, e.2)
        | .ok (j, is) => run b (Dn b (j : Int) (out ++ (x.1, x.2.1, x.2.2.1, ((k + n : Nat) : Int)) :: (ks ++ is)) op) := by
  intro f
  induction f with
  | zero => intro k n i out ks op h1 h2 h3; omega
  | succ f ih =>
    intro k n i out ks op h1 h2 h3 h4 h5 h6 h6'
    cases n with
    | zero =>
      rw [L2_zero _ _ _ _ (by omega) (by rfl)]
      simp [listD]
    | succ n =>
      have hn0 : UInt64.ofNat (n + 1) ≠ 0 := by
        intro h
        have := congrArg UInt64.toNat h
        simp at this
        omega
      rw [L2_more _ _ _ _ (by omega) hn0]
      rw [hA i _ _ h1 (by simp; omega) (by simp [h4]), listD]
      cases hx : rec i with
      | error e => rfl
      | ok a =>
        obtain ⟨j, is⟩ := a
        obtain ⟨h7, h8, h9, h10⟩ := hm.1 i j is hx
        simp only
        have hk1 : wI ((k : Int) + 1) = (k : Int) + 1 := wI_in (by omega) (by omega)
        rw [List.append_assoc, List.cons_append, done_one _ _ _ _ _ _ (by omega) rfl hm5 hk1]
        have e1 : UInt64.ofNat (n + 1) - 1 = UInt64.ofNat n := by
          apply UInt64.toNat_inj.1
          rw [UInt64.toNat_sub_of_le _ _ (by rw [UInt64.le_iff_toNat_le]; simp; omega)]
          simp; omega
        have := ih (k + 1) n j out (ks ++ is) op h8 (by simp; omega) (by omega) h4 (by omega) (by omega) (by omega)
        simp only [e1]
        have e2 : ((k + 1 : Nat) : Int) = (k : Int) + 1 := by simp
        rw [e2] at this
        rw [this]
        cases hz : listD rec f n j with
        | error e => rfl
        | ok y =>
          obtain ⟨z, js⟩ := y
          simp only
          rw [show k + 1 + n = k + (n + 1) by omega, List.append_assoc]
theorem kids_pairs {rec : Rd} (hb : b.length ≤ 65536) (hm : Moves b rec) {len : Nat} (hA : Act b (len + 1) rec) (hlen : len < 100) (x : It) :
    ∀ (f k n : Nat) (i : Nat) (out ks : List It) (op : List Fr_) (last : Option (Nat × Nat)), i ≤ b.length → out.length + 1 + ks.length ≤ i → b.length + 1 ≤ f + i → op.length = len → n < 18446744073709551616 → 2 * k ≤ i →
      (∀ p, last = some p → p.1 ≤ p.2 ∧ p.2 ≤ b.length) →
      run b (loop (F.cbor_Parse_L2 b) ((i : Int), out ++ (x.1, x.2.1, x.2.2.1, ((2 * k : Nat) : Int)) :: ks, op ++ [((out.length : Int), 5, UInt64.ofNat n, false, (i : Int), last)])) =
        match pairsD rec b f n (vlast b last) i with
        | .error e => some ([], e.1, e.2)
        | .ok (j, is) => run b (Dn b (j : Int) (out ++ (x.1, x.2.1, x.2.2.1, ((2 * (k + n) : Nat) : Int)) :: (ks ++ is)) op) := by
  intro f
  induction f with
  | zero => intro k n i out ks op last h1 h2 h3; omega
  | succ f ih =>
    intro k n i out ks op last h1 h2 h3 h4 h5 h6 h7
    cases n with
    | zero =>
      rw [L2_zero _ _ _ _ (by omega) (by rfl)]
      simp [pairsD]
    | succ n =>
      have hn0 : UInt64.ofNat (n + 1) ≠ 0 := by
        intro h
        have := congrArg UInt64.toNat h
        simp at this
        omega
      rw [L2_more _ _ _ _ (by omega) hn0]
      rw [hA i _ _ h1 (by simp; omega) (by simp [h4]), pairsD]
      cases hx : rec i with
      | error e => rfl
      | ok a =>
        obtain ⟨j, is⟩ := a
        obtain ⟨h8, h9, h10, h11⟩ := hm.1 i j is hx
        have hne : b ≠ [] := by rintro rfl; simp at h9; omega
        simp only
        have hk1 : wI (((2 * k : Nat) : Int) + 1) = ((2 * k : Nat) : Int) + 1 := wI_in (by omega) (by omega)
        rw [List.append_assoc, List.cons_append, done_key j _ _ _ _ _ i hb hne (by omega) rfl rfl rfl hk1 rfl (by omega) h9 h7]
        by_cases hko : keyOk (vlast b last) (part b i j) = false
        · rw [if_pos hko, if_pos hko]
          rfl
        · rw [if_neg hko, if_neg hko]
          rw [L2_more _ _ _ _ (by omega) hn0]
          rw [hA j _ _ h9 (by simp; omega) (by simp [h4])]
          cases hy : rec j with
          | error e => rfl
          | ok c =>
            obtain ⟨l, js⟩ := c
            obtain ⟨h12, h13, h14, h15⟩ := hm.1 j l js hy
            simp only
            have hk2 : wI (((2 * k : Nat) : Int) + 1 + 1) = ((2 * k : Nat) : Int) + 1 + 1 := wI_in (by omega) (by omega)
            rw [List.append_assoc, List.cons_append, done_val _ _ _ _ _ _ (by omega) rfl rfl rfl hk2]
            have e1 : UInt64.ofNat (n + 1) - 1 = UInt64.ofNat n := by
              apply UInt64.toNat_inj.1
              rw [UInt64.toNat_sub_of_le _ _ (by rw [UInt64.le_iff_toNat_le]; simp; omega)]
              simp; omega
            have := ih (k + 1) n l out (ks ++ is ++ js) op (some (i, j)) h13 (by simp; omega) (by omega) h4 (by omega) (by omega) (by intro p hp; cases hp; simp; omega)
            simp only [e1]
            have e2 : ((2 * (k + 1) : Nat) : Int) = ((2 * k : Nat) : Int) + 1 + 1 := by simp; omega
            rw [e2] at this
            rw [this]
            have hv : vlast b (some (i, j)) = some (part b i j) := rfl
            rw [hv]
            cases hz : pairsD rec b f n (some (part b i j)) l with
            | error e => rfl
            | ok y =>
              obtain ⟨z, ls⟩ := y
              simp only
              rw [show 2 * (k + 1 + n) = 2 * (k + (n + 1)) by omega]
              simp only [List.append_assoc]
theorem act_item (hb : b.length ≤ 65536) (d : Nat) (hd : d ≤ 32) (sub : Option Rd) (hsub : ∀ rec, sub = some rec → Moves b rec) (hd0 : sub = none ↔ d = 0)
    (hA : ∀ rec, sub = some rec → Act b (32 - d + 1) rec) : Act b (32 - d) (itemS b sub) := by
  intro i out op h1 h2 h3
  rw [loop_run]
  obtain ⟨jj, hh⟩ := argument_eq b i out op hb h1
  unfold itemS
  simp only [F.cbor_Parse_L1, F.cbor_reader_item, hh, bind_some']
  cases hx : headD b i with
  | error e =>
    simp only [ocase_ss, bind_some']
    rfl
  | ok a =>
    obtain ⟨m, n, j⟩ := a
    obtain ⟨h4, h5, h6⟩ := headD_ok hx
    simp only [ocase_nn]
    -- what a leaf comes to
    have leaf : ∀ (k : Int) (n' : UInt64) (s : List UInt8), run b (obind (F.cbor_reader_item_K1 b ((m : Int), n, (none : Option (Int × Int)), (j : Int), out, op) (k, n', s)) fun x_13 =>
        ocase x_13.1 (loop (F.cbor_Parse_L2 b) (x_13.2.1, x_13.2.2.1, x_13.2.2.2)) (fun x_21 => oinr (some ([], x_21.1, x_21.2)))) = run b (Dn b k (out ++ [((m : Int), n', s, 0)]) op) := by
      intro k n' s
      simp only [F.cbor_reader_item_K1]
      rw [apO40 _ _ (by simp; omega), bind_some']
      unfold Dn
      cases hq : F.cbor_reader_done b k (out ++ [((m : Int), n', s, 0)]) op with
      | none => rfl
      | some x =>
        simp only [bind_some']
        cases hy : x.1 with
        | none => simp only [ocase_nn, bind_some']
        | some f => simp only [ocase_ss, bind_some']
    by_cases hcon : m = 4 ∨ m = 5 ∨ m = 6
    · rw [if_pos hcon]
      have n0 : ((m : Int) == 0) = false := by simp; omega
      have n1 : ((m : Int) == 1) = false := by simp; omega
      have n2 : ((m : Int) == 2) = false := by simp; omega
      have n3 : ((m : Int) == 3) = false := by simp; omega
      have n7 : ((m : Int) == 7) = false := by simp; omega
      simp only [n0, n1, n2, n3, n7, Bool.false_eq_true, if_false, F.cbor_reader_item_K2, F.cbor_reader_item_K3]
      cases hs : sub with
      | none =>
        have hd00 : d = 0 := hd0.1 hs
        have : (((op.length : Nat) : Int) == 32) = true := by simp; omega
        simp only [this, if_true, bind_some', ocase_ss]
        rfl
      | some rec =>
        have hd1 : d ≠ 0 := fun h => by rw [hd0.2 h] at hs; cases hs
        have hmv := hsub rec hs
        have hac := hA rec hs
        have : (((op.length : Nat) : Int) == 32) = false := by simp; omega
        simp only [this, Bool.false_eq_true, if_false]
        have hop : apO 64 op [(((out.length : Nat) : Int), (m : Int), n, false, (j : Int), (none : Option (Nat × Nat)))] = some (op ++ [(((out.length : Nat) : Int), (m : Int), n, false, (j : Int), none)]) := apO_ok (by simp; omega)
        have hop1 : apO 64 op [(((out.length : Nat) : Int), (m : Int), (1 : UInt64), false, (j : Int), (none : Option (Nat × Nat)))] = some (op ++ [(((out.length : Nat) : Int), (m : Int), (1 : UInt64), false, (j : Int), none)]) := apO_ok (by simp; omega)
        have hn := n.toNat_lt
        have hnn : UInt64.ofNat n.toNat = n := by simp
        unfold insD
        by_cases hm4 : m = 4
        · subst hm4
          have e6 : (((4 : Nat) : Int) == 6) = false := by decide
          simp only [e6, Bool.false_eq_true, if_false, F.cbor_reader_item_K5, if_true]
          rw [apO40 _ _ (by simp; omega), bind_some', hop, bind_some', bind_some']
          simp only [ocase_nn]
          have := kids_list hb hmv hac (by omega) ((4 : Nat) : Int) (by decide) (((4 : Nat) : Int), 0, [], 0) false (j : Int) none (b.length + 1) 0 n.toNat j out [] op h5 (by simp; omega) (by omega) h3 hn (by omega) (by omega)
          rw [hnn] at this
          have this : run b (loop (F.cbor_Parse_L2 b) ((j : Int), out ++ [(((4 : Nat) : Int), 0, [], 0)], op ++ [((out.length : Int), ((4 : Nat) : Int), n, false, (j : Int), none)])) = _ := this
          rw [this]
          cases hl : listD rec (b.length + 1) n.toNat j with
          | error e => rfl
          | ok y =>
            obtain ⟨k, is⟩ := y
            simp only [Nat.zero_add, List.nil_append]
            rfl
        · by_cases hm5 : m = 5
          · subst hm5
            have e6 : (((5 : Nat) : Int) == 6) = false := by decide
            simp only [e6, Bool.false_eq_true, if_false, F.cbor_reader_item_K5, if_true, hm4]
            rw [apO40 _ _ (by simp; omega), bind_some', hop, bind_some', bind_some']
            simp only [ocase_nn]
            have := kids_pairs hb hmv hac (by omega) (((5 : Nat) : Int), 0, [], 0) (b.length + 1) 0 n.toNat j out [] op none h5 (by simp; omega) (by omega) h3 hn (by omega) (by simp)
            rw [hnn] at this
            have this : run b (loop (F.cbor_Parse_L2 b) ((j : Int), out ++ [(((5 : Nat) : Int), 0, [], 0)], op ++ [((out.length : Int), ((5 : Nat) : Int), n, false, (j : Int), none)])) = _ := this
            rw [this]
            have hv : vlast b none = none := rfl
            rw [hv]
            cases hl : pairsD rec b (b.length + 1) n.toNat none j with
            | error e => rfl
            | ok y =>
              obtain ⟨k, is⟩ := y
              simp only [Nat.zero_add, List.nil_append]
              rw [show ((2 * n.toNat : Nat) : Int) = 2 * (n.toNat : Int) by simp]
              rfl
          · have hm6 : m = 6 := by omega
            subst hm6
            have e6 : (((6 : Nat) : Int) == 6) = true := by decide
            simp only [e6, if_true, F.cbor_reader_item_K5, hm4, hm5, if_false]
            rw [apO40 _ _ (by simp; omega), bind_some', hop1, bind_some', bind_some']
            simp only [ocase_nn]
            have := kids_list hb hmv hac (by omega) ((6 : Nat) : Int) (by decide) (((6 : Nat) : Int), n, [], 0) false (j : Int) none (b.length + 1) 0 1 j out [] op h5 (by simp; omega) (by omega) h3 (by omega) (by omega) (by omega)
            have this : run b (loop (F.cbor_Parse_L2 b) ((j : Int), out ++ [(((6 : Nat) : Int), n, [], 0)], op ++ [((out.length : Int), ((6 : Nat) : Int), (1 : UInt64), false, (j : Int), none)])) = _ := this
            rw [this, listD]
            cases hl : rec j with
            | error e => rfl
            | ok y =>
              obtain ⟨k, is⟩ := y
              simp only
              cases hbl : b.length with
              | zero => simp only [listD, List.append_nil, List.nil_append]; rfl
              | succ q => simp only [listD, List.append_nil, List.nil_append]; rfl
    · rw [if_neg hcon]
      by_cases hstr : m = 2 ∨ m = 3
      · rw [if_pos hstr]
        have n0 : ((m : Int) == 0) = false := by simp; omega
        have n1 : ((m : Int) == 1) = false := by simp; omega
        have n7 : ((m : Int) == 7) = false := by simp; omega
        have hK3 : (if ((m : Int) == 2) = true then F.cbor_reader_item_K3 b (i : Int) ((m : Int), n, none, (j : Int), out, op) ((m : Int) == 2) else F.cbor_reader_item_K3 b (i : Int) ((m : Int), n, none, (j : Int), out, op) ((m : Int) == 3)) =
            F.cbor_reader_item_K3 b (i : Int) ((m : Int), n, none, (j : Int), out, op) true := by
          rcases hstr with h | h <;> subst h <;> rfl
        simp only [n0, n1, n7, Bool.false_eq_true, if_false, F.cbor_reader_item_K2, hK3]
        simp only [F.cbor_reader_item_K3, if_true]
        have e1 : wI ((b.length : Int) - (j : Int)) = ((b.length - j : Nat) : Int) := by rw [wI_in (by omega) (by omega)]; omega
        have e2 : (UInt64.ofNat (b.length - j)).toNat = b.length - j := by simp; omega
        rw [e1, ofInt64]
        by_cases hlen : b.length - j < n.toNat
        · have d1 : decide (UInt64.ofNat (b.length - j) < n) = true := by simp only [decide_eq_true_eq, UInt64.lt_iff_toNat_lt, e2]; exact hlen
          simp only [d1, if_true, hlen, bind_some', ocase_ss]
          rfl
        · have d1 : decide (UInt64.ofNat (b.length - j) < n) = false := by simp only [decide_eq_false_iff_not, UInt64.lt_iff_toNat_lt, e2]; omega
          have e3 : wI (n.toNat : Int) = (n.toNat : Int) := wI_in (by omega) (by omega)
          have e4 : wI ((j : Int) + (n.toNat : Int)) = ((j + n.toNat : Nat) : Int) := by rw [wI_in (by omega) (by omega)]; simp
          simp only [d1, Bool.false_eq_true, if_false, hlen, e3, e4]
          rw [slO_ok (by omega) (by omega), bind_some']
          have hpt : (b.drop j).take (j + n.toNat - j) = part b j (j + n.toNat) := rfl
          rw [hpt]
          have hpl : (part b j (j + n.toNat)).length ≤ b.length := by simp [part]; omega
          have hK4 : F.cbor_reader_item_K4 (i : Int) ((m : Int), n, none, (j : Int), out, op) (part b j (j + n.toNat)) b false = F.cbor_reader_item_K1 b ((m : Int), n, none, (j : Int), out, op) (((j + n.toNat : Nat) : Int), 0, part b j (j + n.toNat)) := by
            simp only [F.cbor_reader_item_K4, Bool.false_eq_true, if_false, e3, e4]
          by_cases hm3 : m = 3
          · subst hm3
            have e5 : (((3 : Nat) : Int) == 3) = true := by decide
            have hv : F.unicode_utf8_ValidString (part b j (j + n.toNat)) = some (Lib.validD (part b j (j + n.toNat))) := if_pos (by omega)
            simp only [e5, if_true, hv, bind_some', true_and]
            cases Lib.validD (part b j (j + n.toNat)) with
            | false =>
              simp only [Bool.not_false, F.cbor_reader_item_K4, if_true, bind_some', ocase_ss]
              rfl
            | true =>
              simp only [Bool.not_true, hK4, Bool.true_eq_false, if_false]
              exact leaf _ _ _
          · have e5 : ((m : Int) == 3) = false := by simp; omega
            simp only [e5, Bool.false_eq_true, if_false, hK4, leaf, hm3, false_and]
      · rw [if_neg hstr]
        have hm017 : m = 0 ∨ m = 1 ∨ m = 7 := by omega
        have hK2 : (if ((m : Int) == 0) = true then F.cbor_reader_item_K2 ((m : Int), n, none, (j : Int), out, op) b (i : Int) ((m : Int) == 0) else if ((m : Int) == 1) = true then F.cbor_reader_item_K2 ((m : Int), n, none, (j : Int), out, op) b (i : Int) ((m : Int) == 1) else F.cbor_reader_item_K2 ((m : Int), n, none, (j : Int), out, op) b (i : Int) ((m : Int) == 7)) =
            F.cbor_reader_item_K2 ((m : Int), n, none, (j : Int), out, op) b (i : Int) true := by
          rcases hm017 with h | h | h <;> subst h <;> rfl
        rw [hK2]
        simp only [F.cbor_reader_item_K2, if_true, leaf]
theorem act_itemD (hb : b.length ≤ 65536) : ∀ d, d ≤ 32 → Act b (32 - d) (itemD d b)
  | 0, hd => act_item hb 0 hd none (by simp) (by simp) (by simp)
  | d + 1, hd => by
    refine act_item hb (d + 1) hd (some (itemD d b)) (by intro rec h; cases h; exact itemD_moves b d) (by simp) ?_
    intro rec h
    cases h
    have := act_itemD hb d (by omega)
    rw [show 32 - (d + 1) + 1 = 32 - d by omega]
    exact this
theorem parse_eq (b : List UInt8) : F.cbor_Parse b = some (parseD b) := by
  unfold F.cbor_Parse parseD
  by_cases hb : 65536 < b.length
  · have : decide ((65536 : Int) < (b.length : Int)) = true := by simp; omega
    simp only [this, if_true, hb]
  · have d1 : decide ((65536 : Int) < (b.length : Int)) = false := by simp; omega
    simp only [d1, Bool.false_eq_true, if_false, hb]
    have := act_itemD (b := b) (by omega) 32 (by omega) 0 [] [] (by omega) (by simp) (by simp)
    have this : loop (F.cbor_Parse_L1 b) (0, [], []) = _ := this
    rw [this]
    cases hx : itemD 32 b 0 with
    | error e => rfl
    | ok y =>
      obtain ⟨j, is⟩ := y
      simp only [List.nil_append]
      rw [done_nil, L2_end]
end
end Go.Gk.Cb
end
