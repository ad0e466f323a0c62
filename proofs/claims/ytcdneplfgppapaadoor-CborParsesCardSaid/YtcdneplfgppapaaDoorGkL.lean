/- Lists of lists that are read; empty literals; places of elements: rules of the walk. Lemmas only. -/
import Derived.Test.YtcdneplfgppapaaDoorGkK
set_option linter.unusedSimpArgs false
namespace Go.Gk
open Go Go.RowKit

section
variable {P : Program} {n : Nat} {L : Env} {w w' w0 : World} {Q : Exit → Act → World → Prop} {S : List Nat} {os os0 os1 : List OE}
variable {d : Option Tmp} {ty : TypeId} {pos : String} {after : Array Edge}

theorem OpV_nilP {x : Operand} {p : Addr} (hx : L.ev x = some (pP p)) : OpV P n L w ⟨d, .nilCheck x, ty, pos, after, none⟩ (pP p) w := fun a ha => by
  simp [execOp, ha.ev hx]

/-! an empty literal -/
theorem OpX_lit0 {T E : TypeId} {τ : Type} {e : Enc τ} {z : Value} {bytes : Nat} (hT : P.underlying T = some (.slice E)) (hE : TI P E z e.sz bytes) (hS : St S w0 w os) :
    OpX P n L w ⟨d, .buildSlice T 0 #[], ty, pos, after, none⟩ (fun v w' => St S w0 w' (own e v ([] : List τ) :: os)) := by
  obtain ⟨inf, hi, hz', hs, hb⟩ := hE.get
  refine OpX_run (.slice (some ⟨w.heap.size, 0, none⟩) 0 0) (w.alloc (.cells #[] E)) (fun a ha => ?_) ?_
  · have h0 : (Array.map (fun _ : Nat => (default : Value)) (Array.range 0)) = #[] := Array.eq_empty_of_size_eq_zero (by simp)
    simp [execOp, Instr.buildSlice, run_underlying hT, sizeOf, typeInfo, hi, Instr.fill, newRow, h0]
  · refine hS.push (Fr.alloc _ _ _) (o := own e _ _) ?_ ?_
    · exact ⟨by simp, .inr ⟨w.heap.size, 0, #[], E, rfl, hS.fresh, heap_alloc_new w _, Nat.le_refl _, by simp [maxLen], by simp, by simp⟩⟩
    · intro k hk
      simp [OE.blk, Value.ownBlock] at hk
      omega

/-! lists of lists -/
def SV.of (v : Value) : SV := match v with
  | .slice a n c => ⟨a, n, c⟩
  | _ => ⟨none, 0, 0⟩
theorem RO.sv {τ : Type} {e : Enc τ} {v : Value} {l : List τ} (h : RO w e v l) : (SV.of v).v = v := by
  obtain ⟨a, c, rfl, _⟩ := h; rfl
theorem RO.svrp {τ : Type} {e : Enc τ} {v : Value} {l : List τ} (h : RO w e v l) : RP [] w e (SV.of v).v l := by rw [h.sv]; exact h.rp
theorem RP.sv {τ : Type} {e : Enc τ} {v : Value} {l : List τ} (h : RP S w e v l) : RP S w e (SV.of v).v l := by rw [h.1.sv]; exact h
theorem fl_eVc {v : Value} {r : List SV} {vs : List Value} (h : (SV.of v).v = v) (ht : eV.fl r = vs) : eV.fl (SV.of v :: r) = v :: vs := by
  rw [← ht]
  show [(SV.of v).v] ++ eV.fl r = v :: eV.fl r
  rw [h]; rfl
/-- each of the slices reads as its list -/
def AllRP (S : List Nat) (w : World) {τ : Type} (e : Enc τ) : List SV → List (List τ) → Prop
  | [], [] => True
  | s :: r, l :: m => RP S w e s.v l ∧ AllRP S w e r m
  | _, _ => False
theorem AllRP.len {τ : Type} {e : Enc τ} : ∀ {s : List SV} {m : List (List τ)}, AllRP S w e s m → s.length = m.length
  | [], [], _ => rfl
  | _ :: _, _ :: _, h => by simp [AllRP.len h.2]
theorem AllRP.nth {τ : Type} {e : Enc τ} : ∀ {s : List SV} {m : List (List τ)}, AllRP S w e s m → ∀ {i : Nat} {l : List τ}, m[i]? = some l → ∃ v, s[i]? = some v ∧ RP S w e v.v l
  | [], [], _, i, l, hi => by simp at hi
  | a :: r, b :: m, h, 0, l, hi => by simp at hi; subst hi; exact ⟨a, rfl, h.1⟩
  | a :: r, b :: m, h, i + 1, l, hi => by simpa using AllRP.nth h.2 (by simpa using hi)
theorem AllRP.get {τ : Type} {e : Enc τ} {s : List SV} {m : List (List τ)} (h : AllRP S w e s m) {i : Int} {l : List τ} (hi : getO m i = some l) : ∃ v, getO s i = some v ∧ RP S w e v.v l := by
  obtain ⟨h0, _, h2⟩ := getO_some hi
  obtain ⟨v, h3, h4⟩ := h.nth h2
  exact ⟨v, by simp [getO, h0, h3], h4⟩
theorem L_len {x : Operand} {T E : TypeId} {τ : Type} {v : Value} {s : List SV} {m : List (List τ)} (hT : P.underlying T = some (.slice E)) (hx : L.ev x = some v) (h : RO w eV v s) (hl : s.length = m.length) :
    OpV P n L w ⟨d, .call ⟨.builtin .len, #[x], #[T]⟩, ty, pos, after, none⟩ (vI m.length) w := by
  have := OpV_len (n := n) (d := d) (ty := ty) (pos := pos) (after := after) hT hx h
  rwa [hl] at this

/-! parts by the shape alone -/
section
variable {T E : TypeId} {τ : Type} {e : Enc τ} {v : Value} {l r : List τ} {z0 : Value} {bytes : Nat}
theorem K_sl {x y z : Operand} {k k' : IntKind} {lo hi : Int} (hT : P.underlying T = some (.slice E)) (hE : TI P E z0 e.sz bytes)
    (hx : L.ev x = some v) (hy : L.ev y = some (.int k lo)) (hz : L.ev z = some (.int k' hi)) (h : SHP v l.length) (hg : slO l lo hi = some r) :
    OpV P n L w ⟨d, .slice T x (some y) (some z) none, ty, pos, after, none⟩ (slV v e.sz lo.toNat hi.toNat) w := fun a ha => by
  obtain ⟨⟨h0, h1, h2⟩, _⟩ := slO_some hg
  obtain ⟨b, c, rfl, hc, _⟩ := h
  obtain ⟨inf, hi', _, hs, _⟩ := hE.get
  have e2 : hi ≤ (c : Int) := by omega
  have e3 : (hi.toNat : Int) = hi := Int.toNat_of_nonneg (by omega)
  simp [execOp, ha.ev hx, ha.ev hy, ha.ev hz, Instr.sliceAt, Instr.slice, run_underlying hT, Instr.sliceBounds, run_sliceBound, h0, e2, e3, h1, (by omega : 0 ≤ hi), sizeOf, typeInfo, hi', hs, slV]
theorem K_sll {x y : Operand} {k : IntKind} {lo : Int} (hT : P.underlying T = some (.slice E)) (hE : TI P E z0 e.sz bytes)
    (hx : L.ev x = some v) (hy : L.ev y = some (.int k lo)) (h : SHP v l.length) (hg : drO l lo = some r) :
    OpV P n L w ⟨d, .slice T x (some y) none none, ty, pos, after, none⟩ (slV v e.sz lo.toNat l.length) w := fun a ha => by
  obtain ⟨⟨h0, h2⟩, _⟩ := drO_some hg
  obtain ⟨b, c, rfl, hc, _⟩ := h
  obtain ⟨inf, hi', _, hs, _⟩ := hE.get
  have e2 : lo ≤ (l.length : Int) := by omega
  simp [execOp, ha.ev hx, ha.ev hy, Instr.sliceAt, Instr.slice, run_underlying hT, Instr.sliceBounds, run_sliceBound, h0, e2, sizeOf, typeInfo, hi', hs, slV]
theorem K_slh {x z : Operand} {k' : IntKind} {hi : Int} (hT : P.underlying T = some (.slice E)) (hE : TI P E z0 e.sz bytes)
    (hx : L.ev x = some v) (hz : L.ev z = some (.int k' hi)) (h : SHP v l.length) (hg : tkO l hi = some r) :
    OpV P n L w ⟨d, .slice T x none (some z) none, ty, pos, after, none⟩ (slV v e.sz 0 hi.toNat) w := fun a ha => by
  obtain ⟨⟨h1, h2⟩, _⟩ := tkO_some hg
  obtain ⟨b, c, rfl, hc, _⟩ := h
  obtain ⟨inf, hi', _, hs, _⟩ := hE.get
  have e2 : hi ≤ (c : Int) := by omega
  simp [execOp, ha.ev hx, ha.ev hz, Instr.sliceAt, Instr.slice, run_underlying hT, Instr.sliceBounds, run_sliceBound, h1, e2, sizeOf, typeInfo, hi', hs, slV]
end
theorem b_beql (T : TypeId) (x y : Bool) {D : TypeDesc} (hT : P.underlying T = some D) (hD : D = .bool) : BinR P .eql T (vB x) (vB y) (vB (x == y)) := fun _ _ w => by
  subst hD
  have h : ∀ k, (Op.equalIn (k + 1) T (vB x) (vB y)).run P w = .ok (x == y) w := fun k => by simp [Op.equalIn, run_underlying hT]
  have h9 : (Op.equal T (vB x) (vB y)).run P w = .ok (x == y) w := h 9999
  simp [eqGuard, binOp, h9]
theorem b_bneq (T : TypeId) (x y : Bool) {D : TypeDesc} (hT : P.underlying T = some D) (hD : D = .bool) : BinR P .neq T (vB x) (vB y) (vB (x != y)) := fun _ _ w => by
  subst hD
  have h : ∀ k, (Op.equalIn (k + 1) T (vB x) (vB y)).run P w = .ok (x == y) w := fun k => by simp [Op.equalIn, run_underlying hT]
  have h9 : (Op.equal T (vB x) (vB y)).run P w = .ok (x == y) w := h 9999
  simp [eqGuard, binOp, h9, bne]

/-! is the list nil? -/
theorem RP.isnil {τ : Type} {e : Enc τ} {v : Value} {l : List τ} {T E : TypeId} (h : RP S w e v l) (hT : P.underlying T = some (.slice E)) :
    (l = [] ∧ BinR P .eql T v (.slice none 0 0) (vB true) ∧ BinR P .neq T v (.slice none 0 0) (vB false)) ∨ (BinR P .eql T v (.slice none 0 0) (vB false) ∧ BinR P .neq T v (.slice none 0 0) (vB true)) := by
  obtain ⟨a, c, rfl, hc, hr⟩ := h.1
  cases a with
  | some a => exact .inr ⟨b_seN hT, b_sneN hT⟩
  | none =>
    refine .inl ⟨?_, b_seN hT, b_sneN hT⟩
    cases l with
    | nil => rfl
    | cons x r => obtain ⟨b, off, h1, _⟩ := hr (by simp); cases h1
/-! guarded operations that write -/
theorem wpR_gx {ops : Array Oper} {rest : List Oper} {d : Nat} {op : Op} {Φ : Value → World → Prop} {j : Nat} {want : Bool} {t : Tmp}
    (hj : (ops[j]?).bind (·.dst) = some t) (hb : L.get t = some (vB want))
    (hv : OpX P n L w ⟨some d, op, ty, pos, after, none⟩ Φ) (hd : Nat.blt d n = true)
    (h : ∀ v w', Φ v w' → wpR P n ops Q rest ((d, v) :: L) w') : wpR P n ops Q (⟨some d, op, ty, pos, after, some (j, want)⟩ :: rest) L w := by
  obtain ⟨v, w', h1, h2⟩ := hv
  exact wpR_gv hj hb h1 hd (h v w' h2)
theorem lxE_gx {ops : Array Oper} {C D : World → Prop} {fl : Nat → Bool} {i : Nat} {r : List Nat} {d : Nat} {op : Op} {Φ : Value → World → Prop} {j : Nat} {want : Bool} {t : Tmp} (hC : C w)
    (ho : ops[i]? = some ⟨some d, op, ty, pos, after, some (j, want)⟩) (hf : fl i = false) (hj : (ops[j]?).bind (·.dst) = some t) (hb : L.get t = some (vB want))
    (hv : OpX P n L w ⟨some d, op, ty, pos, after, none⟩ Φ) (hd : Nat.blt d n = true) (h : ∀ v w', Φ v w' → lxE P n ops C D Q fl r ((d, v) :: L) w') : lxE P n ops C D Q fl (i :: r) L w := fun a ha => by
  refine ⟨hC, ?_⟩
  simp only [ho, hf, Bool.false_eq_true, if_false]
  obtain ⟨v, w', h1, h2⟩ := hv
  unfold wpOp
  simp only [ho]
  rw [if_pos (by rw [wanted_of ha rfl hj hb]; simp)]
  left
  have he : execOp a.eval ⟨some d, op, ty, pos, after, some (j, want)⟩ = execOp a.eval ⟨some d, op, ty, pos, after, none⟩ := by cases op <;> rfl
  unfold Oper.wp
  rw [he, h1 a ha]
  exact h v w' h2 _ (ha.put hd)
theorem lxE_gvL {ops : Array Oper} {C D : World → Prop} {fl : Nat → Bool} {i : Nat} {r : List Nat} {d : Nat} {op : Op} {v : Value} {j : Nat} {want : Bool} {t : Tmp} (hC : C w)
    (ho : ops[i]? = some ⟨some d, op, ty, pos, after, some (j, want)⟩) (hf : fl i = false) (hj : (ops[j]?).bind (·.dst) = some t) (hb : L.get t = some (vB want))
    (hv : OpV P n L w ⟨some d, op, ty, pos, after, none⟩ v w) (hd : Nat.blt d n = true) (h : lxE P n ops C D Q fl r ((d, v) :: L) w) : lxE P n ops C D Q fl (i :: r) L w :=
  lxE_gx hC ho hf hj hb (Φ := fun v' w' => v' = v ∧ w' = w) (OpX_run v w hv ⟨rfl, rfl⟩) hd (by rintro _ _ ⟨rfl, rfl⟩; exact h)
end
end Go.Gk
