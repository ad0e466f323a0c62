/- The operations on slices, texts and memory, as rules of the walk: lemmas only. -/
import Derived.Test.YtcdneplfgppapaaDoorGkC
import Derived.Laws.BytesArg
import Derived.Lib.Strings
import Derived.Laws.Slices
set_option linter.unusedSimpArgs false
namespace Go.Gk
open Go Go.RowKit

section
variable {P : Program} {n : Nat} {L : Env} {w : World} {Q : Exit → Act → World → Prop}
variable {d : Option Tmp} {ty : TypeId} {pos : String} {after : Array Edge}

theorem size_mk (l : List UInt8) : (⟨⟨l⟩⟩ : ByteArray).size = l.length := rfl

/-- What the table of types says of an element type. -/
def TI (P : Program) (E : TypeId) (z : Value) (sz bytes : Nat) : Prop := (P.info? E).map (fun i => (i.zero, i.size, i.bytes)) = some (some z, sz, bytes)
theorem TI.get {E : TypeId} {z : Value} {sz bytes : Nat} (h : TI P E z sz bytes) : ∃ i, P.info? E = some i ∧ i.zero = some z ∧ i.size = sz ∧ i.bytes = bytes := by
  unfold TI at h
  cases hi : P.info? E with
  | none => rw [hi] at h; cases h
  | some i =>
    rw [hi] at h
    simp only [Option.map_some, Option.some.injEq, Prod.mk.injEq] at h
    exact ⟨i, rfl, h.1, h.2.1, h.2.2⟩

/-- An operation that yields some value and some world. -/
def OpX (P : Program) (n : Nat) (L : Env) (w : World) (o : Oper) (Φ : Value → World → Prop) : Prop := ∃ v w', OpV P n L w o v w' ∧ Φ v w'
theorem wpR_x {ops : Array Oper} {rest : List Oper} {d : Nat} {op : Op} {Φ : Value → World → Prop}
    (hv : OpX P n L w ⟨some d, op, ty, pos, after, none⟩ Φ) (hd : Nat.blt d n = true)
    (h : ∀ v w', Φ v w' → wpR P n ops Q rest ((d, v) :: L) w') : wpR P n ops Q (⟨some d, op, ty, pos, after, none⟩ :: rest) L w := by
  obtain ⟨v, w', h1, h2⟩ := hv
  exact wpR_v h1 hd (h v w' h2)

/-- .. that yields nothing. -/
def OpY (P : Program) (n : Nat) (L : Env) (w : World) (o : Oper) (Φ : World → Prop) : Prop := ∃ w', OpS P n L w o w' ∧ Φ w'
theorem wpR_y {ops : Array Oper} {rest : List Oper} {op : Op} {Φ : World → Prop}
    (hv : OpY P n L w ⟨none, op, ty, pos, after, none⟩ Φ)
    (h : ∀ w', Φ w' → wpR P n ops Q rest L w') : wpR P n ops Q (⟨none, op, ty, pos, after, none⟩ :: rest) L w := by
  obtain ⟨w', h1, h2⟩ := hv
  exact wpR_s h1 (h w' h2)

/-! len -/
theorem OpV_len {x : Operand} {T E : TypeId} {τ : Type} {e : Enc τ} {v : Value} {l : List τ} (hT : P.underlying T = some (.slice E)) (hx : L.ev x = some v) (h : RO w e v l) :
    OpV P n L w ⟨d, .call ⟨.builtin .len, #[x], #[T]⟩, ty, pos, after, none⟩ (vI l.length) w := fun a ha => by
  obtain ⟨b, c, rfl, _⟩ := h
  simp [execOp, resolve, invoke, builtin, Builtin.len_, ha.ev hx, run_underlying hT, goInt]
theorem OpV_lenS {x : Operand} {T : TypeId} {l : List UInt8} (hT : P.underlying T = some .string) (hx : L.ev x = some (vS l)) :
    OpV P n L w ⟨d, .call ⟨.builtin .len, #[x], #[T]⟩, ty, pos, after, none⟩ (vI l.length) w := fun a ha => by
  simp [execOp, resolve, invoke, builtin, Builtin.len_, ha.ev hx, run_underlying hT, goInt, size_mk]

/-! an element -/
theorem run_indexAt {T E : TypeId} {k : IntKind} {i : Int} {τ : Type} {e : Enc τ} {v : Value} {l : List τ} {z : Value} {bytes : Nat} (hT : P.underlying T = some (.slice E)) (hE : TI P E z e.sz bytes)
    (h : RO w e v l) (h0 : 0 ≤ i) (h1 : i.toNat < l.length) : (Instr.indexAt T v (.int k i)).run P w = .ok (pP (ixA v e.sz i.toNat)) w := by
  obtain ⟨a, c, rfl, hc, hr⟩ := h
  obtain ⟨b, off, rfl, _⟩ := hr (by rintro rfl; simp at h1)
  obtain ⟨inf, hi, _, hs, _⟩ := hE.get
  have h2 : i < l.length := by omega
  simp [Instr.indexAt, asIntOf, run_underlying hT, h0, h2, sizeOf, typeInfo, hi, hs, ixA]

theorem OpV_ix {x y : Operand} {T E : TypeId} {k : IntKind} {i : Int} {τ : Type} {e : Enc τ} {v : Value} {l : List τ} {z : Value} {bytes : Nat} (hT : P.underlying T = some (.slice E)) (hE : TI P E z e.sz bytes)
    (hx : L.ev x = some v) (hy : L.ev y = some (.int k i)) (h : RO w e v l) (h0 : 0 ≤ i) (h1 : i.toNat < l.length) :
    OpV P n L w ⟨d, .indexAddr T x y, ty, pos, after, none⟩ (pP (ixA v e.sz i.toNat)) w := fun a ha => by
  simp [execOp, ha.ev hx, ha.ev hy, run_indexAt (k := k) hT hE h h0 h1]

/-- A cell that is loaded. -/
theorem OpV_load {x : Operand} {T : TypeId} {D : TypeDesc} {p : Addr} {u : Value} (hT : P.underlying T = some D) (hD : (match D with | .struct _ | .array _ _ => true | _ => false) = false)
    (hx : L.ev x = some (pP p)) (h : w.cell? p = some u) :
    OpV P n L w ⟨d, .load T x, ty, pos, after, none⟩ u w := fun a ha => by
  have : (isAgg T).run P w = .ok false w := by
    simp only [isAgg, Sem.run_bind, run_underlying hT, Result.andThen_ok]
    cases D <;> simp_all
  simp [execOp, ha.ev hx, Instr.loadAt, Instr.sureAddr, loadVar, this, load, Sem.run, h]

theorem OpV_loadE {x : Operand} {T : TypeId} {D : TypeDesc} {τ : Type} {e : Enc τ} {v : Value} {l : List τ} {i : Nat} {t : τ} {u : Value} (hT : P.underlying T = some D) (hD : (match D with | .struct _ | .array _ _ => true | _ => false) = false)
    (hx : L.ev x = some (pP (ixA v e.sz i))) (h : RO w e v l) (hi : l[i]? = some t) (hu : e.cells t = [u]) :
    OpV P n L w ⟨d, .load T x, ty, pos, after, none⟩ u w := OpV_load hT hD hx (h.cellAt0 hi hu)

/-! texts -/
theorem OpV_ixS {x y : Operand} {T : TypeId} {k : IntKind} {i : Int} {l : List UInt8} {t : UInt8} (hT : P.underlying T = some .string)
    (hx : L.ev x = some (vS l)) (hy : L.ev y = some (.int k i)) (h0 : 0 ≤ i) (h1 : l[i.toNat]? = some t) :
    OpV P n L w ⟨d, .index T x y, ty, pos, after, none⟩ (v8 t) w := fun a ha => by
  have hg : (⟨⟨l⟩⟩ : ByteArray)[i.toNat]? = some t := by
    obtain ⟨hl, he⟩ := List.getElem?_eq_some_iff.1 h1
    rw [ByteArray.getElem?_lt' _ _ (by simpa [size_mk] using hl)]
    rw [← he]; rfl
  simp [execOp, ha.ev hx, ha.ev hy, Instr.index, asIntOf, run_underlying hT, h0, hg]

def subS (l : List UInt8) (lo hi : Nat) : List UInt8 := (l.drop lo).take (hi - lo)
theorem extract_subS (l : List UInt8) (lo hi : Nat) : (⟨⟨l⟩⟩ : ByteArray).extract lo hi = ⟨⟨subS l lo hi⟩⟩ := by
  rw [ByteArray.extract_mk]; simp [subS]
theorem OpV_slS {x y z : Operand} {T : TypeId} {k k' : IntKind} {lo hi : Int} {l : List UInt8} (hT : P.underlying T = some .string)
    (hx : L.ev x = some (vS l)) (hy : L.ev y = some (.int k lo)) (hz : L.ev z = some (.int k' hi)) (h0 : 0 ≤ lo) (h1 : lo ≤ hi) (h2 : hi.toNat ≤ l.length) :
    OpV P n L w ⟨d, .slice T x (some y) (some z) none, ty, pos, after, none⟩ (vS (subS l lo.toNat hi.toNat)) w := fun a ha => by
  have e2 : hi ≤ ((⟨⟨l⟩⟩ : ByteArray).size : Int) := by rw [size_mk]; omega
  have e3 : (hi.toNat : Int) = hi := Int.toNat_of_nonneg (by omega)
  simp [execOp, ha.ev hx, ha.ev hy, ha.ev hz, Instr.sliceAt, Instr.slice, run_underlying hT, Instr.sliceBounds, run_sliceBound, h0, e2, e3, h1, (by omega : 0 ≤ hi), extract_subS]
theorem OpV_slSl {x y : Operand} {T : TypeId} {k : IntKind} {lo : Int} {l : List UInt8} (hT : P.underlying T = some .string)
    (hx : L.ev x = some (vS l)) (hy : L.ev y = some (.int k lo)) (h0 : 0 ≤ lo) (h2 : lo.toNat ≤ l.length) :
    OpV P n L w ⟨d, .slice T x (some y) none none, ty, pos, after, none⟩ (vS (l.drop lo.toNat)) w := fun a ha => by
  have e2 : lo ≤ ((⟨⟨l⟩⟩ : ByteArray).size : Int) := by rw [size_mk]; omega
  have e4 : subS l lo.toNat (⟨⟨l⟩⟩ : ByteArray).size = l.drop lo.toNat := by
    unfold subS; rw [List.take_of_length_le]; simp [size_mk]
  simp [execOp, ha.ev hx, ha.ev hy, Instr.sliceAt, Instr.slice, run_underlying hT, Instr.sliceBounds, run_sliceBound, h0, e2, extract_subS, e4]
theorem OpV_slSh {x z : Operand} {T : TypeId} {k' : IntKind} {hi : Int} {l : List UInt8} (hT : P.underlying T = some .string)
    (hx : L.ev x = some (vS l)) (hz : L.ev z = some (.int k' hi)) (h1 : 0 ≤ hi) (h2 : hi.toNat ≤ l.length) :
    OpV P n L w ⟨d, .slice T x none (some z) none, ty, pos, after, none⟩ (vS (l.take hi.toNat)) w := fun a ha => by
  have e2 : hi ≤ ((⟨⟨l⟩⟩ : ByteArray).size : Int) := by rw [size_mk]; omega
  have e4 : subS l 0 hi.toNat = l.take hi.toNat := by simp [subS]
  simp [execOp, ha.ev hx, ha.ev hz, Instr.sliceAt, Instr.slice, run_underlying hT, Instr.sliceBounds, run_sliceBound, h1, e2, extract_subS, e4]
theorem b_sadd (T : TypeId) (x y : List UInt8) (h : x.length + y.length ≤ 9223372036854775807) : BinR P .add T (vS x) (vS y) (vS (x ++ y)) := fun _ _ w => by
  have h1 : ¬ 9223372036854775807 < ((⟨⟨x⟩⟩ : ByteArray).size : Int) + ((⟨⟨y⟩⟩ : ByteArray).size : Int) := by rw [size_mk, size_mk]; omega
  have h2 : (⟨⟨x⟩⟩ : ByteArray) ++ (⟨⟨y⟩⟩ : ByteArray) = ⟨⟨x ++ y⟩⟩ := by apply ByteArray.ext; simp
  simp [eqGuard, binOp, Op.stringOp, IntKind.max, IntKind.signed, IntKind.bits, h1, h2]
theorem b_seql (T : TypeId) (x y : List UInt8) : BinR P .eql T (vS x) (vS y) (vB (x == y)) := fun _ _ w => by
  simp [eqGuard, binOp, Op.stringOp, vS_toList]
theorem b_sneq (T : TypeId) (x y : List UInt8) : BinR P .neq T (vS x) (vS y) (vB (x != y)) := fun _ _ w => by
  simp [eqGuard, binOp, Op.stringOp, vS_toList, bne]

/-! parts of slices -/
section
variable {T E : TypeId} {τ : Type} {e : Enc τ} {v : Value} {l : List τ} {z0 : Value} {bytes : Nat}
theorem OpV_sl {x y z : Operand} {k k' : IntKind} {lo hi : Int} (hT : P.underlying T = some (.slice E)) (hE : TI P E z0 e.sz bytes)
    (hx : L.ev x = some v) (hy : L.ev y = some (.int k lo)) (hz : L.ev z = some (.int k' hi)) (h : RO w e v l) (h0 : 0 ≤ lo) (h1 : lo ≤ hi) (h2 : hi.toNat ≤ l.length) :
    OpV P n L w ⟨d, .slice T x (some y) (some z) none, ty, pos, after, none⟩ (slV v e.sz lo.toNat hi.toNat) w := fun a ha => by
  obtain ⟨b, c, rfl, hc, _⟩ := h
  obtain ⟨inf, hi', _, hs, _⟩ := hE.get
  have e2 : hi ≤ (c : Int) := by omega
  have e3 : (hi.toNat : Int) = hi := Int.toNat_of_nonneg (by omega)
  simp [execOp, ha.ev hx, ha.ev hy, ha.ev hz, Instr.sliceAt, Instr.slice, run_underlying hT, Instr.sliceBounds, run_sliceBound, h0, e2, e3, h1, (by omega : 0 ≤ hi), sizeOf, typeInfo, hi', hs, slV]
theorem OpV_sll {x y : Operand} {k : IntKind} {lo : Int} (hT : P.underlying T = some (.slice E)) (hE : TI P E z0 e.sz bytes)
    (hx : L.ev x = some v) (hy : L.ev y = some (.int k lo)) (h : RO w e v l) (h0 : 0 ≤ lo) (h2 : lo.toNat ≤ l.length) :
    OpV P n L w ⟨d, .slice T x (some y) none none, ty, pos, after, none⟩ (slV v e.sz lo.toNat l.length) w := fun a ha => by
  obtain ⟨b, c, rfl, hc, _⟩ := h
  obtain ⟨inf, hi', _, hs, _⟩ := hE.get
  have e2 : lo ≤ (l.length : Int) := by omega
  simp [execOp, ha.ev hx, ha.ev hy, Instr.sliceAt, Instr.slice, run_underlying hT, Instr.sliceBounds, run_sliceBound, h0, e2, sizeOf, typeInfo, hi', hs, slV]
theorem OpV_slh {x z : Operand} {k' : IntKind} {hi : Int} (hT : P.underlying T = some (.slice E)) (hE : TI P E z0 e.sz bytes)
    (hx : L.ev x = some v) (hz : L.ev z = some (.int k' hi)) (h : RO w e v l) (h1 : 0 ≤ hi) (h2 : hi.toNat ≤ l.length) :
    OpV P n L w ⟨d, .slice T x none (some z) none, ty, pos, after, none⟩ (slV v e.sz 0 hi.toNat) w := fun a ha => by
  obtain ⟨b, c, rfl, hc, _⟩ := h
  obtain ⟨inf, hi', _, hs, _⟩ := hE.get
  have e2 : hi ≤ (c : Int) := by omega
  simp [execOp, ha.ev hx, ha.ev hz, Instr.sliceAt, Instr.slice, run_underlying hT, Instr.sliceBounds, run_sliceBound, h1, e2, sizeOf, typeInfo, hi', hs, slV]
theorem RO.subl (h : RO w e v l) {lo : Nat} (h2 : lo ≤ l.length) : RO w e (slV v e.sz lo l.length) (l.drop lo) := by
  have := h.sub (lo := lo) (hi := l.length) h2 (Nat.le_refl _)
  rwa [List.take_of_length_le (by simp)] at this
theorem RO.subh (h : RO w e v l) {hi : Nat} (h2 : hi ≤ l.length) : RO w e (slV v e.sz 0 hi) (l.take hi) := by
  have := h.sub (lo := 0) (hi := hi) (Nat.zero_le _) h2
  simpa using this
/-- Within the capacity: of the first ones nothing turns. -/
theorem RP.sub {S : List Nat} (h : RP S w e v l) {lo hi : Nat} (h1 : lo ≤ hi) (h2 : hi ≤ l.length) : RP S w e (slV v e.sz lo hi) ((l.drop lo).take (hi - lo)) := by
  refine ⟨h.1.sub h1 h2, fun hne k hk hb => h.2 (fun e => hne (by rw [e]; simp)) k hk ?_⟩
  obtain ⟨a, c, rfl, _⟩ := h.1
  cases a with
  | none => simp [slV, Value.ownBlock] at hb
  | some x =>
    by_cases hc : c = lo
    · simpa [slV, hc, Value.ownBlock] using hb
    · simp [slV, hc, Value.ownBlock] at hb ⊢
      rw [← hb]; unfold Addr.add; split <;> rfl
theorem RP.subl {S : List Nat} (h : RP S w e v l) {lo : Nat} (h2 : lo ≤ l.length) : RP S w e (slV v e.sz lo l.length) (l.drop lo) := by
  have := h.sub (lo := lo) (hi := l.length) h2 (Nat.le_refl _)
  rwa [List.take_of_length_le (by simp)] at this
theorem RP.subh {S : List Nat} (h : RP S w e v l) {hi : Nat} (h2 : hi ≤ l.length) : RP S w e (slV v e.sz 0 hi) (l.take hi) := by
  have := h.sub (lo := 0) (hi := hi) (Nat.zero_le _) h2
  simpa using this
end

/-! bytes to a text -/
theorem strOfBytes (l : List UInt8) : strOfNums (l.map fun x => (x.toNat : Int)) = ⟨⟨l⟩⟩ := by
  have : (strOfNums (l.map fun x => (x.toNat : Int))).data.toList = l := by
    rw [strOfNums_data, List.map_map]
    conv => rhs; rw [← List.map_id l]
    apply List.map_congr_left
    intro x _
    simp
  cases h : strOfNums (l.map fun x => (x.toNat : Int)) with
  | mk data => rw [h] at this; simp only at this; rw [← this]
theorem fl_e8 (l : List UInt8) : e8.fl l = l.map v8 := by
  induction l with
  | nil => rfl
  | cons a r ih => simp only [Enc.fl, List.flatMap_cons, List.map_cons] at ih ⊢; rw [ih]; rfl
theorem c_str {S D E : TypeId} {v : Value} {l : List UInt8} (hS : P.underlying S = some (.slice E)) (hE : P.underlying E = some (.int .u8)) (hD : P.underlying D = some .string) (h : RO w e8 v l) :
    (convert S D v).run P w = .ok (vS l) w := by
  obtain ⟨a, c, rfl, hc, hr⟩ := h
  cases a with
  | none =>
    have hl : l = [] := by
      cases l with
      | nil => rfl
      | cons x r => obtain ⟨b, off, h, _⟩ := hr (by simp); cases h
    subst hl
    exact run_convert_bytes_nil w S E hS hE _ _ D hD
  | some p =>
    by_cases hl : l = []
    · subst hl
      rw [run_convert_bytes_string w S D E _ _ c hS hE hD]
      simp [Conv.bytesToString, loadCells, loadCellsFrom, vS]
      rfl
    · obtain ⟨b, off, hp, hcell⟩ := hr hl
      cases hp
      rw [run_convert_bytes_arg w S E hS hE b off l.length c (l.map fun x => (x.toNat : Int)) (by simp) (fun i hi => ?_) D hD]
      · rw [strOfBytes]
      · have := hcell i (v8 l[i]) (by rw [fl_e8]; simp [hi])
        rw [this]
        simp [List.getD, hi]
theorem OpV_str {S D E : TypeId} {x : Operand} {v : Value} {l : List UInt8} (hS : P.underlying S = some (.slice E)) (hE : P.underlying E = some (.int .u8)) (hD : P.underlying D = some .string)
    (hx : L.ev x = some v) (h : RO w e8 v l) : OpV P n L w ⟨d, .convert S D x, ty, pos, after, none⟩ (vS l) w := fun a ha => by
  simp [execOp, ha.ev hx, c_str hS hE hD h]
end
end Go.Gk
