/- Lists of structs: elements of several cells, their fields, equality of structs. Lemmas only. -/
import Derived.Test.YtcdneplfgppapaaDoorGkI
import Derived.Laws.StructEq
set_option linter.unusedSimpArgs false
namespace Go.Gk
open Go Go.RowKit

def eB : Enc Bool := ⟨1, fun x => [vB x], fun _ => rfl, fun _ u h => by simp at h; subst h; rfl⟩
/-- two encodings, one behind the other -/
def eP {α β : Type} (e : Enc α) (f : Enc β) : Enc (α × β) := ⟨e.sz + f.sz, fun t => e.cells t.1 ++ f.cells t.2, fun t => by rw [List.length_append, e.len, f.len], fun t u h => by
  rcases List.mem_append.1 h with h | h
  · exact e.one _ _ h
  · exact f.one _ _ h⟩

section
variable {P : Program} {n : Nat} {L : Env} {w w0 : World} {Q : Exit → Act → World → Prop} {S : List Nat} {os : List OE}
variable {d : Option Tmp} {ty : TypeId} {pos : String} {after : Array Edge}

/-! a field of an element -/
theorem OpV_fieldE {s : TypeId} {x : Operand} {a0 : Addr} {f k : Nat} {fs : Array Field} {fd : Field} (hs : P.underlying s = some (.struct fs)) (hf : fs[f]? = some fd) (hk : fd.offset = k) (hsz : (P.info? fd.type).map (·.size == 0) = some false)
    (hx : L.ev x = some (pP a0)) : OpV P n L w ⟨d, .fieldAddr s x f, ty, pos, after, none⟩ (pP (a0.add k)) w := fun a ha => by
  cases hi : P.info? fd.type with
  | none => rw [hi] at hsz; cases hsz
  | some i =>
    have h0 : ¬ i.size = 0 := by rw [hi] at hsz; simpa using hsz
    simp [execOp, Instr.fieldAt, ha.ev hx, run_underlying hs, hf, Instr.sureAddr, fieldPlace, sizeOf, typeInfo, hi, h0, hk]
theorem G_loadF {x : Operand} {T : TypeId} {D : TypeDesc} {τ : Type} {e : Enc τ} {v : Value} {l : List τ} {i : Int} {t : τ} {k : Nat} {u : Value} (hT : P.underlying T = some D) (hD : (match D with | .struct _ | .array _ _ => true | _ => false) = false)
    (hx : L.ev x = some (pP ((ixA v e.sz i.toNat).add k))) (h : RO w e v l) (hg : getO l i = some t) (hk : Nat.blt k e.sz = true) (hu : (e.cells t)[k]? = some u) :
    OpV P n L w ⟨d, .load T x, ty, pos, after, none⟩ u w := OpV_load hT hD hx (h.cellAt (getO_some hg).2.2 (Nat.le_of_ble_eq_true hk) hu)
theorem G_loadW {x : Operand} {T : TypeId} {D : TypeDesc} {τ : Type} {e : Enc τ} {v : Value} {l : List τ} {i : Int} {t : τ} (hT : P.underlying T = some D) (hD : (match D with | .struct _ | .array _ _ => true | _ => false) = true)
    (hi : (P.info? T).map (·.size) = some e.sz) (hx : L.ev x = some (pP (ixA v e.sz i.toNat))) (h : RO w e v l) (hg : getO l i = some t) :
    OpV P n L w ⟨d, .load T x, ty, pos, after, none⟩ (.agg (e.cells t).toArray) w := fun a ha => by
  have hagg : (isAgg T).run P w = .ok true w := by
    unfold isAgg
    rw [Sem.run_bind, run_underlying hT w]
    cases D <;> simp_all
  cases hq : P.info? T with
  | none => simp [hq] at hi
  | some inf =>
    have hs : inf.size = (e.cells t).length := by rw [e.len]; simpa [hq] using hi
    have hl : (loadCells (ixA v e.sz i.toNat) (e.cells t).length).run P w = .ok (e.cells t).toArray w :=
      run_loadCells_list (P := P) w _ (e.cells t) (fun j u hu => h.cellAt (getO_some hg).2.2 (by have := (List.getElem?_eq_some_iff.1 hu).1; rwa [e.len] at this) hu)
    simp [execOp, Instr.loadAt, ha.ev hx, Instr.sureAddr, loadVar, hagg, sizeOf, typeInfo, hq, hs, hl]

/-! writing an element, whole or a field -/
theorem fl_set {τ : Type} (e : Enc τ) (l : List τ) (j : Nat) (t : τ) (hj : j < l.length) : e.fl (l.set j t) = (e.fl l).take (j * e.sz) ++ e.cells t ++ (e.fl l).drop ((j + 1) * e.sz) := by
  rw [← e.fl_take, ← e.fl_drop, List.set_eq_take_append_cons_drop, if_pos hj, e.fl_append]
  simp [Enc.fl]
theorem split_at {α : Type} (c : List α) (a : Nat) (h : a ≤ c.length) : ∃ A B, c = A ++ B ∧ A.length = a := ⟨c.take a, c.drop a, (List.take_append_drop a c).symm, by simp; omega⟩
theorem seg_set {α : Type} (c us : List α) (a k sz m : Nat) (hm : m ≤ c.length) (ha : a + sz ≤ m) (hk : k + us.length ≤ sz) :
    (c.take (a + k) ++ us ++ c.drop (a + k + us.length)).take m = (c.take m).take a ++ (((c.drop a).take sz).take k ++ us ++ ((c.drop a).take sz).drop (k + us.length)) ++ (c.take m).drop (a + sz) := by
  obtain ⟨A, c1, rfl, rfl⟩ := split_at c a (by omega)
  simp only [List.length_append] at hm
  obtain ⟨B, c2, rfl, rfl⟩ := split_at c1 k (by omega)
  simp only [List.length_append] at hm
  obtain ⟨C, c3, rfl, hC⟩ := split_at c2 us.length (by omega)
  simp only [List.length_append] at hm
  obtain ⟨D, c4, rfl, hD⟩ := split_at c3 (sz - B.length - us.length) (by omega)
  simp only [List.length_append] at hm
  obtain ⟨E, F, rfl, hE⟩ := split_at c4 (m - A.length - sz) (by omega)
  have e1 : (A ++ (B ++ (C ++ (D ++ (E ++ F))))).take (A.length + B.length) = A ++ B := by
    rw [← List.append_assoc, show A.length + B.length = (A ++ B).length by simp, List.take_left' rfl]
  have e2 : (A ++ (B ++ (C ++ (D ++ (E ++ F))))).drop (A.length + B.length + us.length) = D ++ (E ++ F) := by
    rw [← List.append_assoc, ← List.append_assoc, show A.length + B.length + us.length = (A ++ B ++ C).length by simp; omega, List.drop_left' rfl]
  have e3 : (A ++ (B ++ (C ++ (D ++ (E ++ F))))).drop A.length = B ++ (C ++ (D ++ (E ++ F))) := List.drop_left' rfl
  have e4 : (B ++ (C ++ (D ++ (E ++ F)))).take sz = B ++ (C ++ D) := by
    rw [show B ++ (C ++ (D ++ (E ++ F))) = (B ++ (C ++ D)) ++ (E ++ F) by simp, List.take_left' (by simp; omega)]
  have e5 : (B ++ (C ++ D)).take B.length = B := List.take_left' rfl
  have e6 : (B ++ (C ++ D)).drop (B.length + us.length) = D := by
    rw [← List.append_assoc, List.drop_left' (by simp; omega)]
  have e7 : (A ++ (B ++ (C ++ (D ++ (E ++ F))))).take m = A ++ (B ++ (C ++ (D ++ E))) := by
    rw [show A ++ (B ++ (C ++ (D ++ (E ++ F)))) = (A ++ (B ++ (C ++ (D ++ E)))) ++ F by simp, List.take_left' (by simp; omega)]
  have e8 : (A ++ (B ++ (C ++ (D ++ E)))).take A.length = A := List.take_left' rfl
  have e9 : (A ++ (B ++ (C ++ (D ++ E)))).drop (A.length + sz) = E := by
    rw [show A ++ (B ++ (C ++ (D ++ E))) = (A ++ (B ++ (C ++ D))) ++ E by simp, List.drop_left' (by simp; omega)]
  rw [e1, e2, e3, e4, e5, e6, e7, e8, e9, show A ++ B ++ us ++ (D ++ (E ++ F)) = (A ++ (B ++ us ++ D) ++ E) ++ F by simp, List.take_left' (by simp; omega)]
theorem OpY_storeF {x y : Operand} {T : TypeId} {τ : Type} {e : Enc τ} {v u : Value} {l : List τ} {i k : Nat} {j : Int} {t t' : τ} {us : List Value} (hT : (P.info? T).map (·.size) = some us.length)
    (hx : L.ev x = some (pP ((ixA v e.sz j.toNat).add k))) (hy : L.ev y = some u) (hu : u.cells.toList = us) (hS : St S w0 w os) (hi : os[i]? = some (own e v l)) (hg : getO l j = some t')
    (ht : e.cells t = (e.cells t').take k ++ us ++ (e.cells t').drop (k + us.length)) (hk : Nat.ble (k + us.length) e.sz = true) :
    OpY P n L w ⟨none, .store T x y, ty, pos, after, none⟩ (fun w' => St S w0 w' (os.set i (own e v (l.set j.toNat t)))) := by
  have hok := hS.ok _ (List.mem_of_getElem? hi)
  obtain ⟨_, hj, hgl⟩ := getO_some hg
  have hk' := Nat.le_of_ble_eq_true hk
  have hu1 : ∀ q ∈ us, q.oneCell' = true := fun q hq => e.one t q (by rw [ht]; simp [hq])
  rcases hok.2 with ⟨rfl, hn⟩ | ⟨g, cap, cur, T', rfl, hfr, hgc, hnc, hcm, hcs, htake⟩
  · omega
  · have hm : (j.toNat + 1) * e.sz ≤ l.length * e.sz := Nat.mul_le_mul_right _ hj
    have hm1 : (j.toNat + 1) * e.sz = j.toNat * e.sz + e.sz := by rw [Nat.add_mul, Nat.one_mul]
    have hm2 : l.length * e.sz ≤ cap * e.sz := Nat.mul_le_mul_right _ hnc
    have hix : (ixA (.slice (some ⟨g, 0, none⟩) l.length cap) e.sz j.toNat).add k = ⟨g, j.toNat * e.sz + k, none⟩ := by simp [ixA, add_none]
    rw [hix] at hx
    cases hq : P.info? T with
    | none => simp [hq] at hT
    | some inf =>
      have hs : inf.size = us.length := by simpa [hq] using hT
      have hst := run_storeCells_at P g (j.toNat * e.sz + k) T' us 0 cur w hgc (by omega) hu1
      simp only [Nat.add_zero] at hst
      have hvl : u.cells.size = us.length := by rw [← hu]; simp
      refine OpY_run _ (fun a ha => ?_) (hS.set hi (Fr.setRow w g (cur.toList.take (j.toNat * e.sz + k) ++ us ++ cur.toList.drop (j.toNat * e.sz + k + us.length)).toArray) (o' := own e _ _) ⟨e.fl_length _, .inr ⟨g, cap, _, T', by simp, hfr, setRow_heap w g cur _ T' _ hgc, by simpa using hnc, hcm, ?_, ?_⟩⟩ fun k hk => .inl hk)
      · simp [execOp, ha.ev hx, ha.ev hy, Instr.storeAt, Instr.sureAddr, storeVar, sizeOf, typeInfo, hq, hs, hu, hvl, hst]
      · simp; omega
      · rw [List.length_set, fl_set e l _ t hj, ht, ← htake]
        have hl1 : (e.cells t').length = e.sz := e.len t'
        have hget : e.cells t' = (cur.toList.drop (j.toNat * e.sz)).take e.sz := by
          apply List.ext_getElem?
          intro q
          rw [List.getElem?_take]
          split
          · rename_i hq2
            have h1 := e.fl_get l j.toNat t' hgl q hq2
            rw [← h1, ← htake, List.getElem?_take, if_pos (by omega), List.getElem?_drop]
          · rw [List.getElem?_eq_none (by omega)]
        rw [hget]
        simp only [hm1]
        exact seg_set cur.toList us (j.toNat * e.sz) k e.sz (l.length * e.sz) (by simp; omega) (by omega) (by omega)
theorem OpY_storeW {x y : Operand} {T : TypeId} {τ : Type} {e : Enc τ} {v u : Value} {l : List τ} {i : Nat} {j : Int} {t t' : τ} (hT : (P.info? T).map (·.size) = some e.sz)
    (hx : L.ev x = some (pP (ixA v e.sz j.toNat))) (hy : L.ev y = some u) (hu : u.cells.toList = e.cells t) (hS : St S w0 w os) (hi : os[i]? = some (own e v l)) (hg : getO l j = some t') :
    OpY P n L w ⟨none, .store T x y, ty, pos, after, none⟩ (fun w' => St S w0 w' (os.set i (own e v (l.set j.toNat t)))) :=
  OpY_storeF (k := 0) (us := e.cells t) (by rw [e.len]; exact hT) (by rw [hx]; simp [Addr.add]) hy hu hS hi hg (by rw [List.drop_eq_nil_of_le (by rw [e.len, e.len]; omega)]; simp) (by rw [e.len]; simp)

/-! a slice literal of elements of several cells -/
theorem OpX_litE {T E : TypeId} {m : Nat} {ps : List (Nat × Operand)} {vs : List (Nat × Value × List Value)} {τ : Type} {e : Enc τ} {l : List τ} {z : Value} {bytes : Nat} (hT : P.underlying T = some (.slice E)) (hE : TI P E z e.sz bytes)
    (hps : (ps.map fun p => (L.ev p.2).map fun v => (p.1, v)) = vs.map (fun p => some (p.1, p.2.1))) (hc : cellsOk vs) (hl : l.length = m)
    (hf : fillV ((List.range m).map fun i => (i * e.sz, e.sz)) ((List.range (m * e.sz)).map (fun i => z.cells[i % z.cells.size]!)) vs = some (e.fl l)) (hm0 : 0 < m * e.sz) (hms : m * e.sz ≤ 16777216) (hS : St S w0 w os) :
    OpX P n L w ⟨d, .buildSlice T m ps.toArray, ty, pos, after, none⟩ (fun v w' => St S w0 w' (own e v l :: os)) := by
  obtain ⟨inf, hi, hz', hs, hb⟩ := hE.get
  have hlen := e.fl_length l
  have hm9 : m ≤ m * e.sz := Nat.le_mul_of_pos_right _ (Nat.pos_of_ne_zero fun h => by rw [h] at hm0; simp at hm0)
  refine OpX_run (.slice (some ⟨w.heap.size, 0, none⟩) m m) (w.alloc (.cells (e.fl l).toArray E)) (fun a ha => ?_) ?_
  · have he : ps.map (fun p => (p.1, a.eval p.2)) = vs.map (fun p => (p.1, p.2.1)) := by
      clear hc hf
      induction ps generalizing vs with
      | nil => cases vs <;> simp_all
      | cons p r ih =>
        cases vs with
        | nil => simp at hps
        | cons v s =>
          simp only [List.map_cons, List.cons.injEq] at hps
          obtain ⟨h1, h2⟩ := hps
          cases hp : L.ev p.2 with
          | none => rw [hp] at h1; cases h1
          | some u =>
            rw [hp] at h1
            simp only [Option.map_some, Option.some.injEq] at h1
            simp [ha.ev hp, h1, ih h2]
    have hfill := fill_V (place := fun i => some (i * inf.size, inf.size)) (pl := (List.range m).map fun i => (i * e.sz, e.sz)) (fun i x hx => by
      rw [List.getElem?_map] at hx
      by_cases hm : i < m
      · rw [List.getElem?_range hm] at hx; rw [hs]; simpa using hx
      · rw [List.getElem?_eq_none (by simp; omega)] at hx; cases hx) vs _ _ (cellsOk_all hc) hf
    have hr := run_buildSlice (P := P) w T E m (ps.toArray.map fun x => (x.1, a.eval x.2)) (e.fl l).toArray inf z hT hi hz' (by rw [hs]; omega) (by rw [hs]; omega) (by
      have : (ps.toArray.map fun x => (x.1, a.eval x.2)).toList = vs.map (fun p => (p.1, p.2.1)) := by simp [he]
      rw [this]
      have hz9 : ((List.range (m * e.sz)).map (fun i => z.cells[i % z.cells.size]!)).toArray = (Array.range (m * e.sz)).map (z.cells[· % z.cells.size]!) := by
        apply Array.ext'; simp
      rw [hz9] at hfill
      rw [hs] at hfill ⊢
      exact hfill)
    simp only [execOp, Sem.run_bind, hr, Result.andThen_ok]; rfl
  · refine hS.push (Fr.alloc _ _ _) (o := own e _ _) ?_ ?_
    · refine ⟨e.fl_length _, .inr ⟨w.heap.size, m, (e.fl l).toArray, E, ?_, hS.fresh, heap_alloc_new w _, ?_, ?_, ?_, ?_⟩⟩
      · rw [hl]
      · omega
      · simp [maxLen]; omega
      · simp [hlen, hl]
      · simp only []
        rw [List.take_of_length_le (by rw [hlen]; exact Nat.le_refl _)]
    · intro k hk
      simp [OE.blk, Value.ownBlock] at hk
      omega

/-! an own list cut short stays the call's own -/
theorem St.trunc {τ : Type} {e : Enc τ} {v : Value} {l : List τ} {i k : Nat} (h : St S w0 w os) (hi : os[i]? = some (own e v l)) (hk : k ≤ l.length) : St S w0 w (os.set i (own e (slV v e.sz 0 k) (l.take k))) := by
  have hok := h.ok _ (List.mem_of_getElem? hi)
  have hlen : (l.take k).length = k := by simp; omega
  refine h.set hi (o' := own e _ _) (Fr.refl _ _) ⟨e.fl_length _, ?_⟩ ?_
  · rcases hok.2 with ⟨rfl, hn⟩ | ⟨g, cap, cur, T, rfl, hfr, hg, hnc, hcm, hcs, htake⟩
    · left
      have : k = 0 := by omega
      subst this
      simp [slV]
    · right
      refine ⟨g, cap, cur, T, ?_, hfr, hg, by omega, hcm, hcs, ?_⟩
      · rw [hlen]
        by_cases hc : cap = 0
        · simp [slV, hc]
        · simp [slV, hc, Addr.add]
      · rw [hlen, e.fl_take, ← htake, List.take_take]
        congr 1
        have := Nat.mul_le_mul_right e.sz hk
        omega
  · intro q hq
    left
    rcases hok.2 with ⟨rfl, hn⟩ | ⟨g, cap, cur, T, rfl, _⟩
    · simp [OE.blk, slV, Value.ownBlock] at hq
    · simp only [OE.blk] at hq ⊢
      by_cases hc : cap = 0
      · simpa [slV, hc, Value.ownBlock] using hq
      · simpa [slV, hc, Value.ownBlock, Addr.add] using hq

/-! equality of structs -/
/-- field by field -/
def EqF (P : Program) (xs ys : Array Value) (fs : List Field) (b : Bool) : Prop := ∀ (k : Nat) (w : World), (Op.eqFields (k + 1) xs ys fs).run P w = .ok b w
theorem eqf_nil {xs ys : Array Value} : EqF P xs ys [] true := fun k w => by simp [Op.eqFields]
theorem run_part {T : TypeId} {D : TypeDesc} {xs : Array Value} {off : Nat} {u : Value} (hT : P.underlying T = some D) (hD : (match D with | .struct _ | .array _ _ => true | _ => false) = false) (hu : xs[off]? = some u) (w : World) : (part T xs off).run P w = .ok u w := by
  have hagg : (isAgg T).run P w = .ok false w := by
    unfold isAgg
    rw [Sem.run_bind, run_underlying hT w]
    cases D <;> simp_all
  simp [part, hagg, hu]
theorem eqf_i {xs ys : Array Value} {f : Field} {fs : List Field} {k : IntKind} {a b : Int} {r : Bool} (hn : (f.name != "_") = true) (hT : P.underlying f.type = some (.int k)) (hx : xs[f.offset]? = some (.int k a)) (hy : ys[f.offset]? = some (.int k b)) (h : EqF P xs ys fs r) :
    EqF P xs ys (f :: fs) ((a == b) && r) := fun d w => by
  have hn' : f.name ≠ "_" := by simpa using hn
  simp only [Op.eqFields, hn', ne_eq, not_false_eq_true, if_true, Sem.run_bind, run_part hT rfl hx, run_part hT rfl hy, Result.andThen_ok, run_equalIn_int w d _ k k a b hT]
  cases hab : (a == b) <;> simp [h d w]
theorem eqf_8 {xs ys : Array Value} {f : Field} {fs : List Field} {a b : UInt8} {r : Bool} (hn : (f.name != "_") = true) (hT : P.underlying f.type = some (.int .u8)) (hx : xs[f.offset]? = some (v8 a)) (hy : ys[f.offset]? = some (v8 b)) (h : EqF P xs ys fs r) :
    EqF P xs ys (f :: fs) ((a == b) && r) := by
  have h1 := eqf_i hn hT hx hy h
  have h2 : ((a.toNat : Int) == (b.toNat : Int)) = (a == b) := by
    by_cases hab : a = b
    · subst hab; simp
    · have : ¬ (a.toNat : Int) = (b.toNat : Int) := fun e => hab (UInt8.toNat_inj.1 (by omega))
      rw [beq_eq_false_iff_ne.2 this, beq_eq_false_iff_ne.2 hab]
  rwa [h2] at h1
theorem eqf_32 {xs ys : Array Value} {f : Field} {fs : List Field} {a b : UInt32} {r : Bool} (hn : (f.name != "_") = true) (hT : P.underlying f.type = some (.int .u32)) (hx : xs[f.offset]? = some (v32 a)) (hy : ys[f.offset]? = some (v32 b)) (h : EqF P xs ys fs r) :
    EqF P xs ys (f :: fs) ((a == b) && r) := by
  have h1 := eqf_i hn hT hx hy h
  have h2 : ((a.toNat : Int) == (b.toNat : Int)) = (a == b) := by
    by_cases hab : a = b
    · subst hab; simp
    · have : ¬ (a.toNat : Int) = (b.toNat : Int) := fun e => hab (UInt32.toNat_inj.1 (by omega))
      rw [beq_eq_false_iff_ne.2 this, beq_eq_false_iff_ne.2 hab]
  rwa [h2] at h1
theorem eqf_64 {xs ys : Array Value} {f : Field} {fs : List Field} {a b : UInt64} {r : Bool} (hn : (f.name != "_") = true) (hT : P.underlying f.type = some (.int .u64)) (hx : xs[f.offset]? = some (v64 a)) (hy : ys[f.offset]? = some (v64 b)) (h : EqF P xs ys fs r) :
    EqF P xs ys (f :: fs) ((a == b) && r) := by
  have h1 := eqf_i hn hT hx hy h
  have h2 : ((a.toNat : Int) == (b.toNat : Int)) = (a == b) := by
    by_cases hab : a = b
    · subst hab; simp
    · have : ¬ (a.toNat : Int) = (b.toNat : Int) := fun e => hab (UInt64.toNat_inj.1 (by omega))
      rw [beq_eq_false_iff_ne.2 this, beq_eq_false_iff_ne.2 hab]
  rwa [h2] at h1
theorem eqf_b {xs ys : Array Value} {f : Field} {fs : List Field} {a b : Bool} {r : Bool} (hn : (f.name != "_") = true) (hT : P.underlying f.type = some .bool) (hx : xs[f.offset]? = some (.bool a)) (hy : ys[f.offset]? = some (.bool b)) (h : EqF P xs ys fs r) :
    EqF P xs ys (f :: fs) ((a == b) && r) := fun d w => by
  have hn' : f.name ≠ "_" := by simpa using hn
  simp only [Op.eqFields, hn', ne_eq, not_false_eq_true, if_true, Sem.run_bind, run_part hT rfl hx, run_part hT rfl hy, Result.andThen_ok, run_equalIn_bool' w d _ a b hT]
  cases hab : (a == b) <;> simp [h d w]
theorem eqf_s {xs ys : Array Value} {f : Field} {fs : List Field} {a b : List UInt8} {r : Bool} (hn : (f.name != "_") = true) (hT : P.underlying f.type = some .string) (hx : xs[f.offset]? = some (vS a)) (hy : ys[f.offset]? = some (vS b)) (h : EqF P xs ys fs r) :
    EqF P xs ys (f :: fs) ((a == b) && r) := fun d w => by
  have hn' : f.name ≠ "_" := by simpa using hn
  simp only [Op.eqFields, hn', ne_eq, not_false_eq_true, if_true, Sem.run_bind, run_part hT rfl hx, run_part hT rfl hy, Result.andThen_ok, run_equalIn_string w d _ ⟨⟨a⟩⟩ ⟨⟨b⟩⟩ hT, vS_toList]
  cases hab : (a == b) <;> simp [h d w]
theorem b_ageq {T : TypeId} {fs : Array Field} {xs ys : Array Value} {b : Bool} (hT : P.underlying T = some (.struct fs)) (hp : P.stoodInHeld T = false) (hg : P.eqGuardType P.depth T = false) (h : EqF P xs ys fs.toList b) : BinR P .eql T (.agg xs) (.agg ys) (vB b) := fun x y w => by
  have hf : P.fieldsOf T = fs := by simp [Program.fieldsOf, hT]
  have ht : P.underlying T = some (.struct (P.fieldsOf T)) := by rw [hf]; exact hT
  simp only [Sem.run_bind, run_eqGuard_agg w .eql T x y xs ys hg, Result.andThen_ok, run_eql_struct w T xs ys, run_equalIn_agg w 9999 T xs ys ht hp, hf, h 9998 w]
theorem agx {op : BinOp} {T : TypeId} {x y : Value} {b b' : Bool} (h : BinR P op T x y (vB b)) (hb : b = b') : BinR P op T x y (vB b') := hb ▸ h
theorem b_agne {T : TypeId} {fs : Array Field} {xs ys : Array Value} {b : Bool} (hT : P.underlying T = some (.struct fs)) (hp : P.stoodInHeld T = false) (hg : P.eqGuardType P.depth T = false) (h : EqF P xs ys fs.toList b) : BinR P .neq T (.agg xs) (.agg ys) (vB (!b)) := fun x y w => by
  have hf : P.fieldsOf T = fs := by simp [Program.fieldsOf, hT]
  have ht : P.underlying T = some (.struct (P.fieldsOf T)) := by rw [hf]; exact hT
  simp only [Sem.run_bind, run_eqGuard_agg w .neq T x y xs ys hg, Result.andThen_ok, run_neq_struct w T xs ys, run_equalIn_agg w 9999 T xs ys ht hp, hf, h 9998 w]
end
end Go.Gk
