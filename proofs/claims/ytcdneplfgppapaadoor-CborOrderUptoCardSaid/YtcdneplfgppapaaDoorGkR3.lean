import Derived.Test.YtcdneplfgppapaaDoorGkR
import Derived.Test.YtcdneplfgppapaaDoorGkI
import Derived.Deep.Slices
set_option linter.unusedVariables false
set_option linter.unusedSimpArgs false
namespace Go.Gk
open Go.ChangeShapes Go.WideShapes Go.ChangeAt Go.RowKit
abbrev It_ := Int × UInt64 × List UInt8 × Int
def itemData {H : Type} (x : It_) : DataW H := .agg [.lit (.int .i64 x.1), .lit (.int .u64 (x.2.1.toNat : Int)), .lit (.string x.2.2.1), .lit (.int .i64 x.2.2.2)]
def ItemsD {H : Type} (d : DataW H) (l : List It_) : Prop := (d = .nil ∧ l = []) ∨ ∃ spare, d = .slice (l.map itemData) spare
def itemsBulk : List It_ → Nat
  | [] => 0
  | x :: r => 5 + x.2.2.1.length + itemsBulk r
section
variable {H : Type} {enc : TypeId × Value → H} {P : Program} {W : World}
theorem arg_items {r : Reach} {b0 : Nat} {t e : TypeId} {f0 f1 f2 f3 : Field} {v : Value} {d : DataW H} {ps : List MemPlace} (ht : P.underlying t = some (.slice e)) (he : P.underlying e = some (.struct #[f0, f1, f2, f3]))
    (o0 : f0.offset = 0) (o1 : f1.offset = 1) (o2 : f2.offset = 2) (o3 : f3.offset = 3) (ce : P.cellsOf e = 4) (t0 : P.underlying f0.type = some (.int .i64)) (t1 : P.underlying f1.type = some (.int .u64)) (t2 : P.underlying f2.type = some .string)
    (t3 : P.underlying f3.type = some (.int .i64)) (c0 : P.cellsOf f0.type = 1) (c1 : P.cellsOf f1.type = 1) (c2 : P.cellsOf f2.type = 1) (c3 : P.cellsOf f3.type = 1)
    (hval : Value.okWide P W r b0 t v) (hd : DataW.Trod enc P W 0 (fun _ => true) true t v d ps) :
    ∃ l : List It_, RP [] W (eP eI (eP e64 (eP eS eI))) v l ∧ ItemsD d l ∧ (∀ x ∈ l, x.2.2.2 ≤ 9223372036854775807) := by
  obtain ⟨a, len, cap, rfl⟩ := okWide_slice ht hval
  obtain ⟨fuel, hf⟩ := hd
  rcases Go.Deep.open_slice ht hf with ⟨hcs, hx⟩ | ⟨x, n, c, m, k, D, Pl, hcs, _, hl, _, hm, hx, hel⟩
  · simp [Value.cells] at hcs
    obtain ⟨rfl, rfl, rfl⟩ := hcs
    simp only [Prod.mk.injEq] at hx
    exact ⟨[], (RO.nil W _).rp, .inl ⟨hx.1, rfl⟩, by simp⟩
  · simp [Value.cells] at hcs
    obtain ⟨rfl, rfl, rfl⟩ := hcs
    simp only [if_true] at hm
    subst hm
    simp only [Prod.mk.injEq] at hx
    have each : ∀ i, i < m → ∃ q : It_, W.cell? (x.add (i * 4 + 0)) = some (vI q.1) ∧ W.cell? (x.add (i * 4 + 1)) = some (v64 q.2.1) ∧ W.cell? (x.add (i * 4 + 2)) = some (vS q.2.2.1) ∧ W.cell? (x.add (i * 4 + 3)) = some (vI q.2.2.2) ∧
        D i = itemData q ∧ q.2.2.2 ≤ 9223372036854775807 := by
      intro i hi
      obtain ⟨cs', h1, h2⟩ := hel i hi
      rw [ce] at h1
      obtain ⟨_, hlen, hcell⟩ := World.cells?_some h1
      obtain ⟨xs, k', hk, hxy, _, hxl, hf'⟩ := DataW.trod_struct he h2
      match xs, hxl, cs', hlen with
      | [y0, y1, y2, y3], _, [v0, v1, v2, v3], _ =>
        have g0 := hf' 0 f0 rfl
        have g1 := hf' 1 f1 rfl
        have g2 := hf' 2 f2 rfl
        have g3 := hf' 3 f3 rfl
        simp [o0, o1, o2, o3, c0, c1, c2, c3] at g0 g1 g2 g3
        have e0 := hcell 0 (by omega)
        have e1 := hcell 1 (by omega)
        have e2 := hcell 2 (by omega)
        have e3 := hcell 3 (by omega)
        rw [Go.Deep.add_add] at e0 e1 e2 e3
        obtain ⟨n0, a0, b0, w0⟩ := DataW.trod_int t0 g0
        obtain ⟨n1, a1, b1, w1⟩ := DataW.trod_int t1 g1
        obtain ⟨n2, a2, b2, w2⟩ := DataW.trod_string t2 g2
        obtain ⟨n3, a3, b3, w3⟩ := DataW.trod_int t3 g3
        simp only [List.cons.injEq, and_true] at a0 a1 a2 a3
        subst a0 a1 a2 a3
        subst b0 b1 b2 b3
        simp only [Prod.mk.injEq] at hxy
        have hu := bounds_u64 w1
        have hw3 := bounds_i64 w3
        have hn1 : ((UInt64.ofNat n1.toNat).toNat : Int) = n1 := by simp only [UInt64.toNat_ofNat']; omega
        refine ⟨(n0, UInt64.ofNat n1.toNat, n2.data.toList, n3), by simpa using e0, ?_, by simpa using e2, by simpa using e3, ?_, hw3.2⟩
        · rw [show v64 (UInt64.ofNat n1.toNat) = .int .u64 n1 by simp only [v64, hn1]]; simpa using e1
        · rw [hxy.1]; simp only [itemData, hn1]; rfl
    obtain ⟨q, hq⟩ := Go.Deep.choose_lt each
    have hlen : ((List.range len).map q).length = len := by simp
    refine ⟨(List.range len).map q, ⟨⟨some x, m, by rw [hlen], by rw [hlen]; exact hl, fun hne => ?_⟩, by simp⟩, .inr ⟨(List.range (m - len)).map fun j => D (len + j), ?_⟩, ?_⟩
    · have hpos : 0 < len := by
        rcases Nat.eq_zero_or_pos len with h0 | h0
        · subst h0; simp at hne
        · exact h0
      obtain ⟨b, off, rfl⟩ : ∃ b off, x = ⟨b, off, none⟩ := by
        obtain ⟨b, off, k⟩ := x
        cases k with
        | none => exact ⟨b, off, rfl⟩
        | some k =>
          have h0 := (hq 0 (by omega)).1
          simp [Addr.add, World.cell?] at h0
          split at h0 <;> simp_all
      refine ⟨b, off, rfl, fun j u hu => ?_⟩
      have hsz : (eP eI (eP e64 (eP eS eI))).sz = 4 := rfl
      have hj : j < len * 4 := by
        have := (List.getElem?_eq_some_iff.1 hu).1
        rw [Enc.fl_length, hlen, hsz] at this
        exact this
      have hi : j / 4 < len := by omega
      obtain ⟨e0, e1, e2, e3, _⟩ := hq (j / 4) (by omega)
      have hg := Enc.fl_get (eP eI (eP e64 (eP eS eI))) ((List.range len).map q) (j / 4) (q (j / 4)) (by simp [hi]) (j % 4) (by rw [hsz]; omega)
      rw [hsz, show j / 4 * 4 + j % 4 = j by omega, hu] at hg
      have hadd : ∀ z, (⟨b, off, none⟩ : Addr).add z = ⟨b, off + z, none⟩ := by
        intro z; unfold Addr.add; split
        · subst z; rfl
        · rfl
      rw [hadd] at e0 e1 e2 e3
      have h4 : j % 4 = 0 ∨ j % 4 = 1 ∨ j % 4 = 2 ∨ j % 4 = 3 := by omega
      rcases h4 with h | h | h | h
      · rw [h] at hg
        rw [show off + j = off + (j / 4 * 4 + 0) by omega, e0, hg]; rfl
      · rw [h] at hg
        rw [show off + j = off + (j / 4 * 4 + 1) by omega, e1, hg]; rfl
      · rw [h] at hg
        rw [show off + j = off + (j / 4 * 4 + 2) by omega, e2, hg]; rfl
      · rw [h] at hg
        rw [show off + j = off + (j / 4 * 4 + 3) by omega, e3, hg]; rfl
    · rw [hx.1, List.map_map]
      congr 1
      refine List.map_congr_left fun i hi => ?_
      have := List.mem_range.1 hi
      exact (hq i (by omega)).2.2.2.2.1
    · intro y hy
      obtain ⟨i, hi, rfl⟩ := List.mem_map.1 hy
      have := List.mem_range.1 hi
      exact (hq i (by omega)).2.2.2.2.2
end
end Go.Gk
