/- copy; parts that reach into the room behind them: lemmas only. -/
import Derived.Test.YtcdneplfgppapaaDoorGkX
set_option linter.unusedSimpArgs false
namespace Go.Gk
open Go Go.RowKit
section
variable {P : Program} {n : Nat} {L : Env} {w w0 : World} {Q : Exit → Act → World → Prop} {S : List Nat} {os : List OE}
variable {d : Option Tmp} {ty : TypeId} {pos : String} {after : Array Edge}

theorem run_firstCells_ro {τ : Type} {e : Enc τ} {v : Value} {l : List τ} (h : RO w e v l) (k : Nat) (hk : k ≤ l.length) :
    (Builtin.firstCells e.sz k v).run P w = .ok (e.fl (l.take k)).toArray w := by
  obtain ⟨a, c, rfl, hc, hr⟩ := h
  cases a with
  | none =>
    have hl : l = [] := by
      cases l with
      | nil => rfl
      | cons x r => obtain ⟨b, off, h, _⟩ := hr (by simp); cases h
    subst hl
    simp [Builtin.firstCells, Enc.fl]
  | some p =>
    by_cases hl : l = []
    · subst hl
      have : k = 0 := by simpa using hk
      subst this
      simp [Builtin.firstCells, loadCells, loadCellsFrom, Enc.fl]
    · obtain ⟨b, off, hp, hcell⟩ := hr hl
      cases hp
      have hlen : (e.fl (l.take k)).length = k * e.sz := by rw [e.fl_length, List.length_take]; congr 1; omega
      have := run_loadCells_list (P := P) w ⟨b, off, none⟩ (e.fl (l.take k)) (fun j u hj => by
        rw [add_none]
        rw [e.fl_take, List.getElem?_take] at hj
        split at hj
        · exact hcell j u hj
        · cases hj)
      rw [hlen] at this
      exact this

theorem run_copy_gk {T T2 E ty : TypeId} {τ : Type} {e : Enc τ} {z : Value} {bytes : Nat} {v u : Value} {l m : List τ} {B lo hi : Nat} (hT : P.underlying T = some (.slice E)) (hE : TI P E z e.sz bytes) (hsz : e.sz = 1)
    (ho : (own e v l).ok S B w) (hu : RO w e u m) (h1 : lo ≤ hi) (h2 : hi ≤ l.length) :
    ∃ w', (Builtin.copy_ #[T, T2] ty #[slV v e.sz lo hi, u]).run P w = .ok (vI (min m.length (hi - lo) : Nat)) w' ∧ (own e v (cpL l m lo hi)).ok S B w' ∧ Fr (own e v l).blk.toList w w' := by
  obtain ⟨inf, hi', _, hs, _⟩ := hE.get
  have hk := run_firstCells_ro (P := P) hu (min m.length (hi - lo)) (Nat.min_le_left _ _)
  obtain ⟨ua, uc, rfl, huc, hur⟩ := hu
  have hcp : cpL l m lo hi = l.take lo ++ m.take (min m.length (hi - lo)) ++ l.drop (lo + min m.length (hi - lo)) := by
    unfold cpL
    congr 2
    by_cases h : m.length ≤ hi - lo
    · rw [Nat.min_eq_left h, List.take_of_length_le h, List.take_of_length_le (Nat.le_refl _)]
    · rw [Nat.min_eq_right (by omega)]
  rcases ho.2 with ⟨rfl, hn⟩ | ⟨g, cap, cur, T', rfl, hfr, hg, hnc, hcm, hcs, htake⟩
  · have hl : l = [] := List.eq_nil_of_length_eq_zero hn
    subst hl
    have e1 : hi = 0 := by simpa using h2
    have e2 : lo = 0 := by omega
    subst e1 e2
    have hv0 : slV (.slice none 0 0) e.sz 0 0 = .slice none 0 0 := rfl
    refine ⟨w, ?_, ?_, Fr.refl _ _⟩
    · rw [hv0]
      simp at hk
      simp [Builtin.copy_, run_underlying hT, Builtin.lenOf, sizeOf, typeInfo, hi', hs, hk, goInt]
    · rw [hcp]; simpa using ho
  · have hcells : e.fl (m.take (min m.length (hi - lo))) = (e.fl m).take (min m.length (hi - lo)) := by rw [e.fl_take, hsz, Nat.mul_one]
    have hlen : (e.fl (m.take (min m.length (hi - lo)))).length = min m.length (hi - lo) := by rw [e.fl_length, hsz]; simp
    have hcur : lo + min m.length (hi - lo) ≤ cur.size := by rw [hsz] at hcs; omega
    by_cases hcl : cap = lo
    · -- nothing can be laid
      have hz : hi - lo = 0 := by omega
      refine ⟨w, ?_, ?_, Fr.refl _ _⟩
      · have hv0 : slV (.slice (some ⟨g, 0, none⟩) l.length cap) e.sz lo hi = .slice (some ⟨g, 0, none⟩) (hi - lo) (cap - lo) := by simp [slV, hcl]
        rw [hv0]
        simp only [hz, Nat.min_zero] at hk ⊢
        simp [Builtin.copy_, run_underlying hT, Builtin.lenOf, sizeOf, typeInfo, hi', hs, hk, goInt, Enc.fl, storeCells]
      · rw [hcp, hz]; simpa using ho
    · have hv0 : slV (.slice (some ⟨g, 0, none⟩) l.length cap) e.sz lo hi = .slice (some ⟨g, lo, none⟩) (hi - lo) (cap - lo) := by simp [slV, hcl, add_none, hsz]
      have hst := run_storeCells_at P g lo T' (e.fl (m.take (min m.length (hi - lo)))) 0 cur w hg (by rw [hlen]; omega) (e.fl_one _)
      simp only [Nat.add_zero] at hst
      obtain ⟨nr, hnr⟩ : ∃ nr, nr = (cur.toList.take lo ++ e.fl (m.take (min m.length (hi - lo))) ++ cur.toList.drop (lo + (e.fl (m.take (min m.length (hi - lo)))).length)).toArray := ⟨_, rfl⟩
      rw [← hnr] at hst
      refine ⟨w.setRow g nr, ?_, ⟨e.fl_length _, .inr ⟨g, cap, nr, T', ?_, hfr, setRow_heap w g cur _ T' _ hg, ?_, hcm, ?_, ?_⟩⟩, Fr.setRow w g _⟩
      · rw [hv0]
        simp [Builtin.copy_, run_underlying hT, Builtin.lenOf, sizeOf, typeInfo, hi', hs, hk, hst, goInt]
      · rw [cpL_length l m lo hi h1 h2]
      · rw [cpL_length l m lo hi h1 h2]; exact hnc
      · rw [hnr]
        simp only [List.size_toArray, List.length_append, List.length_take, List.length_drop, Array.length_toList, hlen, hsz] at hcs ⊢
        omega
      · rw [cpL_length l m lo hi h1 h2, hcp, e.fl_append, e.fl_append]
        have e3 : cur.toList.take lo = e.fl (l.take lo) := by
          rw [e.fl_take, ← htake, List.take_take, hsz]; congr 1; omega
        rw [hnr, e3, hlen]
        simp only [List.toList_toArray]
        rw [List.take_append]
        have e4 : (e.fl (l.take lo) ++ e.fl (m.take (min m.length (hi - lo)))).length = lo + min m.length (hi - lo) := by
          rw [List.length_append, hlen, e.fl_length, hsz, List.length_take]; omega
        rw [List.take_of_length_le (by rw [e4, hsz]; omega), e4]
        congr 1
        rw [e.fl_drop, ← htake, hsz, List.take_drop]
        simp only [Nat.mul_one]
        congr 1
        congr 1
        omega

theorem slV_self {v : Value} {τ : Type} {e : Enc τ} {l : List τ} (h : RO w e v l) : slV v e.sz 0 l.length = v := by
  obtain ⟨a, c, rfl, hc, hr⟩ := h
  simp only [slV, Nat.sub_zero, Nat.zero_mul]
  congr 1
  split
  · rfl
  · cases a <;> simp [Addr.add]

theorem OpX_copy {x y : Operand} {T T2 E : TypeId} {τ : Type} {e : Enc τ} {z : Value} {bytes : Nat} {v u : Value} {l m : List τ} {i lo hi : Nat} (hT : P.underlying T = some (.slice E)) (hE : TI P E z e.sz bytes) (hsz : e.sz = 1)
    (hx : L.ev x = some (slV v e.sz lo hi)) (hy : L.ev y = some u) (hS : St S w0 w os) (hi' : os[i]? = some (own e v l)) (hu : RO w e u m) (h1 : lo ≤ hi) (h2 : hi ≤ l.length) :
    OpX P n L w ⟨d, .call ⟨.builtin .copy, #[x, y], #[T, T2]⟩, ty, pos, after, none⟩ (fun r w' => r = vI (min m.length (hi - lo) : Nat) ∧ St S w0 w' (os.set i (own e v (cpL l m lo hi)))) := by
  obtain ⟨w', hr, h3, h4⟩ := run_copy_gk (T2 := T2) (ty := ty) hT hE hsz (hS.ok _ (List.mem_of_getElem? hi')) hu h1 h2
  refine OpX_run _ w' (fun a ha => ?_) ⟨rfl, hS.set hi' h4 h3 fun k hk => .inl hk⟩
  simp [execOp, resolve, invoke, builtin, ha.ev hx, ha.ev hy, hr]
theorem G_copy {x y : Operand} {T T2 E : TypeId} {τ : Type} {e : Enc τ} {z : Value} {bytes : Nat} {v u : Value} {l m : List τ} {i : Nat} (hT : P.underlying T = some (.slice E)) (hE : TI P E z e.sz bytes) (hsz : e.sz = 1)
    (hx : L.ev x = some v) (hy : L.ev y = some u) (hS : St S w0 w os) (hi' : os[i]? = some (own e v l)) (hu : RO w e u m) :
    OpX P n L w ⟨d, .call ⟨.builtin .copy, #[x, y], #[T, T2]⟩, ty, pos, after, none⟩ (fun r w' => r = vI (min m.length l.length : Nat) ∧ St S w0 w' (os.set i (own e v (cpL l m 0 l.length)))) := by
  have h := OpX_copy (P := P) (n := n) (d := d) (ty := ty) (pos := pos) (after := after) (T2 := T2) (lo := 0) (hi := l.length) hT hE hsz (by rw [slV_self (hS.ro i hi')]; exact hx) hy hS hi' hu (Nat.zero_le _) (Nat.le_refl _)
  exact h

/-! the first ones of a longer list -/
theorem ixA_slV0 {τ : Type} {e : Enc τ} {v : Value} {l : List τ} (h : RO w e v l) (k i : Nat) : ixA (slV v e.sz 0 k) e.sz i = ixA v e.sz i := by
  obtain ⟨a, c, rfl, hc, hr⟩ := h
  simp only [slV, Nat.zero_mul]
  cases a with
  | none => split <;> rfl
  | some p =>
    have : p.add 0 = p := by simp [Addr.add]
    split <;> simp [ixA, this]
theorem slV_slV0 {τ : Type} {e : Enc τ} {v : Value} {l : List τ} (h : RO w e v l) (k k' : Nat) : slV (slV v e.sz 0 k) e.sz 0 k' = slV v e.sz 0 k' := by
  obtain ⟨a, c, rfl, hc, hr⟩ := h
  simp only [slV, Nat.zero_mul, Nat.sub_zero]
  cases a with
  | none => simp
  | some p =>
    have : p.add 0 = p := by simp [Addr.add]
    split <;> simp [this]
theorem RO.tk {τ : Type} {e : Enc τ} {v : Value} {l : List τ} (h : RO w e v l) {k : Nat} (hk : k ≤ l.length) : RO w e (slV v e.sz 0 k) (l.take k) := h.subh hk

section
variable {T E : TypeId} {τ : Type} {e : Enc τ} {v : Value} {l r : List τ} {z0 : Value} {bytes : Nat}
/-- x[:hi] of the first k of l, up to the end of l -/
theorem G_slh_room {x z : Operand} {k' : IntKind} {hi : Int} {k : Nat} (hT : P.underlying T = some (.slice E)) (hE : TI P E z0 e.sz bytes)
    (hx : L.ev x = some (slV v e.sz 0 k)) (hz : L.ev z = some (.int k' hi)) (h : RO w e v l) (hg : tkO l hi = some r) :
    OpV P n L w ⟨d, .slice T x none (some z) none, ty, pos, after, none⟩ (slV v e.sz 0 hi.toNat) w := fun a ha => by
  obtain ⟨⟨h0, h1⟩, _⟩ := tkO_some hg
  obtain ⟨b, c, rfl, hc, _⟩ := h
  obtain ⟨inf, hi', _, hs, _⟩ := hE.get
  have e2 : hi ≤ (c : Int) := by omega
  have hx' : L.ev x = some (.slice (if c = 0 then b else b.map (·.add (0 * e.sz))) (k - 0) (c - 0)) := hx
  have hb : (if c = 0 then b else b.map (·.add (0 * e.sz))) = b := by
    split
    · rfl
    · cases b <;> simp [Addr.add]
  rw [hb] at hx'
  simp [execOp, ha.ev hx', ha.ev hz, Instr.sliceAt, Instr.slice, run_underlying hT, Instr.sliceBounds, run_sliceBound, h0, e2, sizeOf, typeInfo, hi', hs, slV]
/-- an element's address in the first k of l -/
theorem G_ix_room {x y : Operand} {k' : IntKind} {i : Int} {t : τ} {k : Nat} (hT : P.underlying T = some (.slice E)) (hE : TI P E z0 e.sz bytes)
    (hx : L.ev x = some (slV v e.sz 0 k)) (hy : L.ev y = some (.int k' i)) (h : RO w e v l) (hk : k ≤ l.length) (hg : getO (l.take k) i = some t) :
    OpV P n L w ⟨d, .indexAddr T x y, ty, pos, after, none⟩ (pP (ixA v e.sz i.toNat)) w := by
  rw [← ixA_slV0 h k]
  exact G_ix hT hE hx hy (h.tk hk) hg
end
theorem getO_take {τ : Type} {l : List τ} {k : Nat} {i : Int} {t : τ} (h : getO (l.take k) i = some t) : getO l i = some t := by
  unfold getO at h ⊢
  split at h
  · rw [if_pos ‹_›]
    rw [List.getElem?_take] at h
    split at h
    · exact h
    · cases h
  · cases h
end
end Go.Gk
