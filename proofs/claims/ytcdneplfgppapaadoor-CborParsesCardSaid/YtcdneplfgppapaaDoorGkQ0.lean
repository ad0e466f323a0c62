/- CBOR in plain words: heads, items read, items written. No program. -/
import Derived.Test.YtcdneplfgppapaaDoorGkP0
import Derived.Lib.ValidU
namespace Go.Gk.Cb
open Go Go.Gk

abbrev It := Int × UInt64 × List UInt8 × Int
abbrev Er := Int × Int

/-- how many bytes an argument has behind the head's first one -/
def wd (n : UInt64) : Nat := if n < 24 then 0 else if n < 256 then 1 else if n < 65536 then 2 else if n < 4294967296 then 4 else 8
/-- k bytes of a number, the highest first -/
def be : Nat → UInt64 → List UInt8
  | 0, _ => []
  | k + 1, n => (shr64 n (8 * k)).toUInt8 :: be k n
/-- .. read -/
def nbe (l : List UInt8) : UInt64 := l.foldl (fun a c => 256 * a + c.toUInt64) 0
def lg (w : Nat) : Nat := if w = 1 then 0 else if w = 2 then 1 else if w = 4 then 2 else 3
/-- the head -/
def hd (m : Nat) (n : UInt64) : List UInt8 :=
  if wd n = 0 then [UInt8.ofNat (32 * m) + n.toUInt8] else UInt8.ofNat (32 * m + 24 + lg (wd n)) :: be (wd n) n

/-- the head that stands at a place: its major type, its argument, the place behind it; or the error and its place -/
def headD (b : List UInt8) (i : Nat) : Except Er (Nat × UInt64 × Nat) :=
  match b[i]? with
  | none => .error (220, b.length)
  | some c =>
    if 27 < c.toNat % 32 ∨ c.toNat / 32 = 7 ∧ (c.toNat % 32 < 20 ∨ 22 < c.toNat % 32) then .error (220, i)
    else if c.toNat % 32 < 24 then .ok (c.toNat / 32, UInt64.ofNat (c.toNat % 32), i + 1)
    else if b.length - (i + 1) < 2 ^ (c.toNat % 32 - 24) then .error (220, b.length)
    else if wd (nbe ((b.drop (i + 1)).take (2 ^ (c.toNat % 32 - 24)))) ≠ 2 ^ (c.toNat % 32 - 24) then .error (220, i)
    else .ok (c.toNat / 32, nbe ((b.drop (i + 1)).take (2 ^ (c.toNat % 32 - 24))), i + 1 + 2 ^ (c.toNat % 32 - 24))

/-- does a come ahead of b, byte by byte? -/
def lexLt : List UInt8 → List UInt8 → Bool
  | [], [] => false
  | [], _ :: _ => true
  | _ :: _, [] => false
  | a :: r, b :: s => if a = b then lexLt r s else decide (a < b)

abbrev Rd := Nat → Except Er (Nat × List It)
/-- n items, one behind the other (f: rounds) -/
def listD (rec : Rd) : Nat → Nat → Rd
  | _, 0, i => .ok (i, [])
  | 0, _ + 1, _ => .error (220, 0)
  | f + 1, n + 1, i => match rec i with
    | .error e => .error e
    | .ok (j, is) => match listD rec f n j with
      | .error e => .error e
      | .ok (k, js) => .ok (k, is ++ js)
def part (b : List UInt8) (i j : Nat) : List UInt8 := (b.drop i).take (j - i)
def keyOk (last : Option (List UInt8)) (key : List UInt8) : Bool := match last with
  | none => true
  | some l => lexLt l key
/-- n pairs, their keys rising -/
def pairsD (rec : Rd) (b : List UInt8) : Nat → Nat → Option (List UInt8) → Rd
  | _, 0, _, i => .ok (i, [])
  | 0, _ + 1, _, _ => .error (220, 0)
  | f + 1, n + 1, last, i => match rec i with
    | .error e => .error e
    | .ok (j, is) =>
      if keyOk last (part b i j) = false then .error (220, i)
      else match rec j with
        | .error e => .error e
        | .ok (k, js) => match pairsD rec b f n (some (part b i j)) k with
          | .error e => .error e
          | .ok (l, ks) => .ok (l, is ++ js ++ ks)

/-- what is in a list, a map, a tag -/
def insD (b : List UInt8) (sub : Rd) (m : Nat) (n : UInt64) (i : Nat) : Except Er (Nat × List It) :=
  if m = 4 then match listD sub (b.length + 1) n.toNat i with
    | .error e => .error e
    | .ok (j, is) => .ok (j, (4, 0, [], (n.toNat : Int)) :: is)
  else if m = 5 then match pairsD sub b (b.length + 1) n.toNat none i with
    | .error e => .error e
    | .ok (j, is) => .ok (j, (5, 0, [], 2 * (n.toNat : Int)) :: is)
  else match sub i with
    | .error e => .error e
    | .ok (j, is) => .ok (j, (6, n, [], 1) :: is)

/-- an item, with what is in it: the place behind it, and the items -/
def itemS (b : List UInt8) (sub : Option Rd) : Rd := fun i =>
  match headD b i with
  | .error e => .error e
  | .ok (m, n, j) =>
    if m = 4 ∨ m = 5 ∨ m = 6 then match sub with
      | none => .error (11, i)
      | some rec => insD b rec m n j
    else if m = 2 ∨ m = 3 then
      if b.length - j < n.toNat then .error (220, b.length)
      else if m = 3 ∧ Lib.validD (part b j (j + n.toNat)) = false then .error (32, i)
      else .ok (j + n.toNat, [((m : Int), 0, part b j (j + n.toNat), 0)])
    else .ok (j, [((m : Int), n, [], 0)])
def itemD : Nat → List UInt8 → Rd
  | 0, b => itemS b none
  | d + 1, b => itemS b (some (itemD d b))

/-- Parse -/
def parseD (b : List UInt8) : List It × Int × Int :=
  if 65536 < b.length then ([], 10, 0) else match itemD 32 b 0 with
    | .error e => ([], e.1, e.2)
    | .ok (j, is) => if j < b.length then ([], 220, (j : Int)) else (is, 0, 0)

/-! what is read stands within the bytes -/
theorem headD_ok {b : List UInt8} {i m j : Nat} {n : UInt64} (h : headD b i = .ok (m, n, j)) : i < j ∧ j ≤ b.length ∧ m < 8 := by
  unfold headD at h
  split at h
  · cases h
  · rename_i c hc
    have hi : i < b.length := (List.getElem?_eq_some_iff.1 hc).1
    have hb : c.toNat < 256 := c.toNat_lt
    split at h
    · cases h
    · split at h
      · cases h; omega
      · split at h
        · cases h
        · split at h
          · cases h
          · cases h
            have : 1 ≤ 2 ^ (c.toNat % 32 - 24) := Nat.one_le_two_pow
            omega

theorem headD_err {b : List UInt8} {i : Nat} {e : Er} (h : headD b i = .error e) : e = (220, (b.length : Int)) ∨ e = (220, (i : Int)) ∧ i < b.length := by
  unfold headD at h
  split at h
  · cases h; exact .inl rfl
  · rename_i c hc
    have hi : i < b.length := (List.getElem?_eq_some_iff.1 hc).1
    split at h
    · cases h; exact .inr ⟨rfl, hi⟩
    · split at h
      · cases h
      · split at h
        · cases h; exact .inl rfl
        · split at h
          · cases h; exact .inr ⟨rfl, hi⟩
          · cases h

/-- reading moves on, within the bytes -/
def Moves (b : List UInt8) (rec : Rd) : Prop := (∀ i j is, rec i = .ok (j, is) → i < j ∧ j ≤ b.length ∧ 1 ≤ is.length ∧ i + is.length ≤ j) ∧ (∀ i e, rec i = .error e → i ≤ b.length → e.1 ≠ 0 ∧ 0 ≤ e.2 ∧ e.2 ≤ b.length)

theorem listD_moves {b : List UInt8} {rec : Rd} (h : Moves b rec) : ∀ (f n i : Nat), i ≤ b.length → (∀ j is, listD rec f n i = .ok (j, is) → i ≤ j ∧ j ≤ b.length ∧ i + is.length ≤ j ∧ n ≤ is.length ∧ i + n ≤ j) ∧
    (∀ e, listD rec f n i = .error e → e.1 ≠ 0 ∧ 0 ≤ e.2 ∧ e.2 ≤ b.length)
  | f, 0, i, hi => by
    constructor
    · intro j is h1
      cases f <;> (simp only [listD] at h1; cases h1; simp; exact hi)
    · intro e h1
      cases f <;> (simp only [listD] at h1; cases h1)
  | 0, n + 1, i, hi => by
    constructor
    · intro j is h1; simp only [listD] at h1; cases h1
    · intro e h1; simp only [listD] at h1; cases h1; simp
  | f + 1, n + 1, i, hi => by
    simp only [listD]
    cases h1 : rec i with
    | error e =>
      refine ⟨fun j is h2 => (by cases h2), fun e' h2 => ?_⟩
      cases h2
      exact h.2 i e h1 hi
    | ok p =>
      obtain ⟨j, is⟩ := p
      obtain ⟨h3, h4, h5, h6⟩ := h.1 i j is h1
      have ih := listD_moves h f n j h4
      simp only
      cases h7 : listD rec f n j with
      | error e => exact ⟨fun j is h2 => (by cases h2), fun e' h2 => by cases h2; exact ih.2 e h7⟩
      | ok q =>
        obtain ⟨k, js⟩ := q
        refine ⟨fun j' is' h2 => ?_, fun e' h2 => (by cases h2)⟩
        cases h2
        have := ih.1 k js h7
        simp only [List.length_append]
        omega

theorem pairsD_moves {b : List UInt8} {rec : Rd} (h : Moves b rec) : ∀ (f n : Nat) (last : Option (List UInt8)) (i : Nat), i ≤ b.length → (∀ j is, pairsD rec b f n last i = .ok (j, is) → i ≤ j ∧ j ≤ b.length ∧ i + is.length ≤ j ∧ 2 * n ≤ is.length ∧ i + 2 * n ≤ j) ∧
    (∀ e, pairsD rec b f n last i = .error e → e.1 ≠ 0 ∧ 0 ≤ e.2 ∧ e.2 ≤ b.length)
  | f, 0, last, i, hi => by
    constructor
    · intro j is h1
      cases f <;> (simp only [pairsD] at h1; cases h1; simp; exact hi)
    · intro e h1
      cases f <;> (simp only [pairsD] at h1; cases h1)
  | 0, n + 1, last, i, hi => by
    constructor
    · intro j is h1; simp only [pairsD] at h1; cases h1
    · intro e h1; simp only [pairsD] at h1; cases h1; simp
  | f + 1, n + 1, last, i, hi => by
    simp only [pairsD]
    cases h1 : rec i with
    | error e =>
      refine ⟨fun j is h2 => (by cases h2), fun e' h2 => ?_⟩
      cases h2
      exact h.2 i e h1 hi
    | ok p =>
      obtain ⟨j, is⟩ := p
      obtain ⟨h3, h4, h5, h6⟩ := h.1 i j is h1
      simp only
      split
      · exact ⟨fun j is h2 => (by cases h2), fun e' h2 => by cases h2; simp; omega⟩
      · cases h7 : rec j with
        | error e => exact ⟨fun j is h2 => (by cases h2), fun e' h2 => by cases h2; exact h.2 j e h7 h4⟩
        | ok q =>
          obtain ⟨k, js⟩ := q
          obtain ⟨h8, h9, h10, h11⟩ := h.1 j k js h7
          have ih := pairsD_moves h f n (some (part b i j)) k h9
          simp only
          cases h12 : pairsD rec b f n (some (part b i j)) k with
          | error e => exact ⟨fun j is h2 => (by cases h2), fun e' h2 => by cases h2; exact ih.2 e h12⟩
          | ok s =>
            obtain ⟨l, ks⟩ := s
            refine ⟨fun j' is' h2 => ?_, fun e' h2 => (by cases h2)⟩
            cases h2
            have := ih.1 l ks h12
            simp only [List.length_append]
            omega

theorem itemS_moves {b : List UInt8} {sub : Option Rd} (h : ∀ rec, sub = some rec → Moves b rec) : Moves b (itemS b sub) := by
  have key : ∀ i, (∀ j is, itemS b sub i = .ok (j, is) → i < j ∧ j ≤ b.length ∧ 1 ≤ is.length ∧ i + is.length ≤ j) ∧ (∀ e, itemS b sub i = .error e → i ≤ b.length → e.1 ≠ 0 ∧ 0 ≤ e.2 ∧ e.2 ≤ b.length) := by
    intro i
    unfold itemS
    cases h1 : headD b i with
    | error e =>
      refine ⟨fun j is h2 => (by cases h2), fun e' h2 hi => ?_⟩
      cases h2
      rcases headD_err h1 with rfl | ⟨rfl, _⟩ <;> simp <;> omega
    | ok p =>
      obtain ⟨m, n, j⟩ := p
      obtain ⟨h3, h4, _⟩ := headD_ok h1
      simp only
      split
      · cases sub with
        | none =>
          refine ⟨fun j is h2 => (by cases h2), fun e' h2 hi => ?_⟩
          cases h2; simp; omega
        | some rec =>
          have hm := h rec rfl
          simp only [insD]
          split
          · have := listD_moves hm (b.length + 1) n.toNat j h4
            cases h5 : listD rec (b.length + 1) n.toNat j with
            | error e => exact ⟨fun j is h2 => (by cases h2), fun e' h2 hi => by cases h2; exact this.2 e h5⟩
            | ok q =>
              obtain ⟨k, is⟩ := q
              have := this.1 k is h5
              refine ⟨fun j is h2 => ?_, fun e' h2 hi => (by cases h2)⟩
              cases h2; simp; omega
          · split
            · have := pairsD_moves hm (b.length + 1) n.toNat none j h4
              cases h5 : pairsD rec b (b.length + 1) n.toNat none j with
              | error e => exact ⟨fun j is h2 => (by cases h2), fun e' h2 hi => by cases h2; exact this.2 e h5⟩
              | ok q =>
                obtain ⟨k, is⟩ := q
                have := this.1 k is h5
                refine ⟨fun j is h2 => ?_, fun e' h2 hi => (by cases h2)⟩
                cases h2; simp; omega
            · cases h5 : rec j with
              | error e => exact ⟨fun j is h2 => (by cases h2), fun e' h2 hi => by cases h2; exact hm.2 j e h5 h4⟩
              | ok q =>
                obtain ⟨k, is⟩ := q
                have := hm.1 j k is h5
                refine ⟨fun j is h2 => ?_, fun e' h2 hi => (by cases h2)⟩
                cases h2; simp; omega
      · split
        · split
          · exact ⟨fun j is h2 => (by cases h2), fun e' h2 hi => by cases h2; simp⟩
          · split
            · exact ⟨fun j is h2 => (by cases h2), fun e' h2 hi => by cases h2; simp; omega⟩
            · refine ⟨fun j is h2 => ?_, fun e' h2 hi => (by cases h2)⟩
              cases h2; simp; omega
        · refine ⟨fun j is h2 => ?_, fun e' h2 hi => (by cases h2)⟩
          cases h2; simp; omega
  exact ⟨fun i j is h1 => (key i).1 j is h1, fun i e h1 hi => (key i).2 e h1 hi⟩

theorem itemD_moves (b : List UInt8) : ∀ d, Moves b (itemD d b)
  | 0 => itemS_moves (by simp)
  | d + 1 => itemS_moves (by intro rec h; cases h; exact itemD_moves b d)
end Go.Gk.Cb
