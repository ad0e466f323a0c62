import Derived.Test.YtmmlnghanonbjaaGkP3
set_option linter.unusedVariables false
set_option linter.unusedSimpArgs false
set_option linter.unusedSimpArgs false
set_option linter.unusedVariables false
namespace Go.Gk
def bitS (sg l : List UInt8) (i : Nat) : Nat := num sg (l.getD (i / 6) 0) / 2 ^ (5 - i % 6) % 2
def partB (sg l : List UInt8) (k : Nat) : Nat → Nat
  | 0 => 0
  | t + 1 => partB sg l k t + bitS sg l (8 * k + t) * 2 ^ (7 - t)
def roomB (sg l : List UInt8) (m i : Nat) : List UInt8 := (List.range m).map (fun k => UInt8.ofNat (partB sg l k (min 8 (i - 8 * k))))
section
variable {sg : List UInt8} {std : Bool} (hs : SgOk sg) (hsg : (if std then stdS else urlS) = sg) (l : List UInt8) (hg : ∀ c ∈ l, c ∈ sg) (hl : l.length ≤ 225000000000000)
include hs hsg hg hl
end
def byteN (sg l : List UInt8) (k : Nat) : Nat :=
  let g := k / 3
  let n0 := num sg (l.getD (4 * g) 0)
  let n1 := num sg (l.getD (4 * g + 1) 0)
  let n2 := num sg (l.getD (4 * g + 2) 0)
  let n3 := num sg (l.getD (4 * g + 3) 0)
  if k % 3 = 0 then n0 * 4 + n1 / 16
  else if k % 3 = 1 then n1 % 16 * 16 + n2 / 4
  else n2 % 4 * 64 + n3
theorem getD_mem {l : List UInt8} {q : Nat} (h : q < l.length) : l.getD q 0 ∈ l := by
  rw [List.getD_eq_getElem?_getD, List.getElem?_eq_getElem h]; exact List.getElem_mem h
end Go.Gk
