/- Variables in memory ('boxes'), built values, parts of built values, rounds that are laid out: rules of the walk. Lemmas only. -/
import Derived.Test.YtcdneplfgppapaaDoorGkH
import Derived.Laws.CopyRow
set_option linter.unusedSimpArgs false
namespace Go.Gk
open Go Go.RowKit

section
variable {P : Program} {n : Nat} {L : Env} {w w0 : World} {Q : Exit → Act → World → Prop} {S : List Nat} {os : List OE}
variable {d : Option Tmp} {ty : TypeId} {pos : String} {after : Array Edge}

/-- a place of a block -/
abbrev pB (b off : Nat) : Value := .pointer (some ⟨b, off, none⟩)

theorem add_lit0 (b off k : Nat) : (⟨b, off, none⟩ : Addr).add k = ⟨b, off + k, none⟩ := by unfold Addr.add; split <;> simp_all

/-! new variables -/
theorem box_push (h : St S w0 w os) (cs : Array Value) (E : TypeId) : St S w0 (w.alloc (.cells cs E)) (.bx w.heap.size cs.toList :: os) := by
  refine h.push (Fr.alloc _ _ _) ⟨h.fresh, E, cs, heap_alloc_new w _, rfl⟩ fun k hk => ?_
  simp [OE.blk] at hk; omega
theorem OpX_alloc {E : TypeId} {z : Value} {cs : List Value} (hE : (P.info? E).map (·.zero) = some (some z)) (hz : z.cells.toList = cs) (hS : St S w0 w os) :
    OpX P n L w ⟨d, .alloc E, ty, pos, after, none⟩ (fun v w' => ∃ b, v = pB b 0 ∧ St S w0 w' (.bx b cs :: os)) := by
  refine OpX_run (pB w.heap.size 0) (w.alloc (.cells z.cells E)) (fun a ha => ?_) ⟨_, rfl, hz ▸ box_push hS _ _⟩
  cases hi : P.info? E with
  | none => rw [hi] at hE; cases hE
  | some i =>
    rw [hi] at hE
    simp only [Option.map_some, Option.some.injEq] at hE
    simp [execOp, Instr.alloc, zeroValue, typeInfo, hi, hE, newVar, newRow]
theorem OpX_box {E : TypeId} {x : Operand} {v : Value} {cs : List Value} (hx : L.ev x = some v) (hz : v.cells.toList = cs) (hS : St S w0 w os) :
    OpX P n L w ⟨d, .box E x, ty, pos, after, none⟩ (fun v w' => ∃ b, v = pB b 0 ∧ St S w0 w' (.bx b cs :: os)) := by
  refine OpX_run (pB w.heap.size 0) (w.alloc (.cells v.cells E)) (fun a ha => ?_) ⟨_, rfl, hz ▸ box_push hS _ _⟩
  simp [execOp, Instr.box, ha.ev hx, newVar, newRow]

/-! places in a variable -/
theorem OpV_fieldB {s : TypeId} {x : Operand} {b off f k : Nat} {fs : Array Field} {fd : Field} (hs : P.underlying s = some (.struct fs)) (hf : fs[f]? = some fd) (hk : fd.offset = k) (hsz : (P.info? fd.type).map (·.size == 0) = some false)
    (hx : L.ev x = some (pB b off)) : OpV P n L w ⟨d, .fieldAddr s x f, ty, pos, after, none⟩ (pB b (off + k)) w := fun a ha => by
  cases hi : P.info? fd.type with
  | none => rw [hi] at hsz; cases hsz
  | some i =>
    have h0 : ¬ i.size = 0 := by rw [hi] at hsz; simpa using hsz
    simp [execOp, Instr.fieldAt, ha.ev hx, run_underlying hs, hf, Instr.sureAddr, fieldPlace, sizeOf, typeInfo, hi, h0, add_lit0, hk]
theorem OpV_ixB {T E : TypeId} {m : Nat} {x y : Operand} {b off : Nat} {k : IntKind} {i : Int} {sz : Nat} (hT : P.underlying T = some (.array m E)) (hE : (P.info? E).map (·.size) = some sz)
    (hx : L.ev x = some (pB b off)) (hy : L.ev y = some (.int k i)) (h0 : 0 ≤ i) (h1 : i < (m : Int)) : OpV P n L w ⟨d, .indexAddr T x y, ty, pos, after, none⟩ (pB b (off + i.toNat * sz)) w := fun a ha => by
  cases hi : P.info? E with
  | none => rw [hi] at hE; cases hE
  | some inf =>
    have hs : inf.size = sz := by rw [hi] at hE; simpa using hE
    simp [execOp, Instr.indexAt, ha.ev hx, ha.ev hy, asIntOf, run_underlying hT, Instr.sureAddr, h0, h1, sizeOf, typeInfo, hi, hs, add_lit0]

theorem OpV_nilB {x : Operand} {b off : Nat} (hx : L.ev x = some (pB b off)) : OpV P n L w ⟨d, .nilCheck x, ty, pos, after, none⟩ (pB b off) w := fun a ha => by
  simp [execOp, ha.ev hx]

/-! reading a variable -/
theorem St.bxc (h : St S w0 w os) (i : Nat) {b : Nat} {cs : List Value} (hi : os[i]? = some (.bx b cs)) (k : Nat) : w.cell? ⟨b, k, none⟩ = cs[k]? := by
  obtain ⟨_, T, cur, hg, hcs⟩ := h.ok _ (List.mem_of_getElem? hi)
  rw [cell_of_row w b k cur T (0, 0) hg, ← hcs]; simp
theorem OpV_ldB {T : TypeId} {D : TypeDesc} {x : Operand} {b off : Nat} {u : Value} (hT : P.underlying T = some D) (hD : (match D with | .struct _ | .array _ _ => true | _ => false) = false)
    (hx : L.ev x = some (pB b off)) (hc : w.cell? ⟨b, off, none⟩ = some u) : OpV P n L w ⟨d, .load T x, ty, pos, after, none⟩ u w := fun a ha => by
  have hagg : (isAgg T).run P w = .ok false w := by
    unfold isAgg
    rw [Sem.run_bind, run_underlying hT w]
    cases D <;> simp_all
  simp [execOp, Instr.loadAt, ha.ev hx, Instr.sureAddr, loadVar, hagg, hc]
theorem OpV_ldBs {T : TypeId} {D : TypeDesc} {x : Operand} {b off : Nat} {us : List Value} (hT : P.underlying T = some D) (hD : (match D with | .struct _ | .array _ _ => true | _ => false) = true)
    (hi : (P.info? T).map (·.size) = some us.length) (hx : L.ev x = some (pB b off)) (hc : ∀ j u, us[j]? = some u → w.cell? ⟨b, off + j, none⟩ = some u) :
    OpV P n L w ⟨d, .load T x, ty, pos, after, none⟩ (.agg us.toArray) w := fun a ha => by
  have hagg : (isAgg T).run P w = .ok true w := by
    unfold isAgg
    rw [Sem.run_bind, run_underlying hT w]
    cases D <;> simp_all
  cases hq : P.info? T with
  | none => simp [hq] at hi
  | some i =>
    have hs : i.size = us.length := by simpa [hq] using hi
    have hl : (loadCells ⟨b, off, none⟩ us.length).run P w = .ok us.toArray w :=
      run_loadCells_list (P := P) w ⟨b, off, none⟩ us (fun j v hv => by rw [add_lit0]; exact hc j v hv)
    simp [execOp, Instr.loadAt, ha.ev hx, Instr.sureAddr, loadVar, hagg, sizeOf, typeInfo, hq, hs, hl]
theorem St.bxs (h : St S w0 w os) (i : Nat) {b : Nat} {cs us : List Value} {off : Nat} (hi : os[i]? = some (.bx b cs)) (hu : (cs.drop off).take us.length = us) : ∀ j u, us[j]? = some u → w.cell? ⟨b, off + j, none⟩ = some u := by
  intro j u hj
  rw [h.bxc i hi]
  rw [← hu, List.getElem?_take] at hj
  split at hj
  · simpa using hj
  · cases hj

/-! writing a variable -/
def ones : List Value → Prop
  | [] => True
  | v :: r => v.oneCell' = true ∧ ones r
theorem ones_all : ∀ {l : List Value}, ones l → ∀ v ∈ l, v.oneCell' = true
  | [], _, v, hv => by cases hv
  | u :: r, h, v, hv => by
    rcases List.mem_cons.1 hv with rfl | hv
    · exact h.1
    · exact ones_all h.2 v hv

def spl (cs : List Value) (off : Nat) (us : List Value) : List Value := cs.take off ++ us ++ cs.drop (off + us.length)
theorem St.setB (h : St S w0 w os) {i b off : Nat} {cs us : List Value} (hi : os[i]? = some (.bx b cs)) :
    ∃ T cur, w.heap[b]? = some (.cells cur T (0, 0)) ∧ cur.toList = cs ∧ St S w0 (w.setRow b (cur.toList.take off ++ us ++ cur.toList.drop (off + us.length)).toArray) (os.set i (.bx b (spl cs off us))) := by
  have hok := h.ok _ (List.mem_of_getElem? hi)
  obtain ⟨hf, T, cur, hg, hcs⟩ := hok
  refine ⟨T, cur, hg, hcs, ?_⟩
  refine h.set hi (o' := .bx b (spl cs off us)) (Fr.setRow w b _) ⟨hf, T, _, setRow_heap w b cur _ T (0, 0) hg, ?_⟩ fun k hk => .inl hk
  subst hcs
  simp [spl]
theorem OpY_stB {T : TypeId} {x y : Operand} {b off i : Nat} {v : Value} {cs us : List Value} (hi : os[i]? = some (.bx b cs)) (hsz : (P.info? T).map (·.size) = some us.length)
    (hx : L.ev x = some (pB b off)) (hy : L.ev y = some v) (hv : v.cells.toList = us) (h1 : ones us) (hl : Nat.ble (off + us.length) cs.length = true) (hS : St S w0 w os) :
    OpY P n L w ⟨none, .store T x y, ty, pos, after, none⟩ (fun w' => St S w0 w' (os.set i (.bx b (spl cs off us)))) := by
  obtain ⟨T', cur, hg, hcs, hS'⟩ := hS.setB (off := off) (us := us) hi
  refine OpY_run _ (fun a ha => ?_) hS'
  cases hq : P.info? T with
  | none => simp [hq] at hsz
  | some inf =>
    have hs : inf.size = us.length := by simpa [hq] using hsz
    have hle : off + 0 + us.length ≤ cur.size := by
      have := Nat.le_of_ble_eq_true hl
      rw [← hcs] at this; simpa using this
    have hst := run_storeCells_at P b off T' us 0 cur w hg hle (ones_all h1)
    have hvl : v.cells.size = us.length := by rw [← hv]; simp
    simp only [Nat.add_zero] at hst
    simp [execOp, Instr.storeAt, ha.ev hx, ha.ev hy, Instr.sureAddr, storeVar, sizeOf, typeInfo, hq, hs, hv, hvl, hst]

/-! built values -/
theorem _root_.Go.Gk.RO.one {τ : Type} {e : Enc τ} {v : Value} {l : List τ} (h : RO w e v l) : v.oneCell' = true := by
  obtain ⟨a, c, rfl, _⟩ := h; rfl
theorem cells_one {v : Value} (h : v.oneCell' = true) : v.cells.toList = [v] := by cases v <;> simp_all [Value.cells, Value.oneCell']
/-- Where the parts of a type's values lie, and its zero. -/
def layOf (P : Program) (T : TypeId) : Option (List (Nat × Nat) × List Value) :=
  match P.info? T, P.underlying T with
  | some it, some (.array m e) =>
    match it.zero, P.info? e with
    | some z, some ie => some ((List.range m).map fun i => (i * ie.size, ie.size), z.cells.toList)
    | _, _ => none
  | some it, some (.struct fields) =>
    match it.zero, fields.toList.mapM (fun f => (P.info? f.type).map fun i => (f.offset, i.size)) with
    | some z, some places => some (places, z.cells.toList)
    | _, _ => none
  | _, _ => none
def fillV (pl : List (Nat × Nat)) : List Value → List (Nat × Value × List Value) → Option (List Value)
  | cs, [] => some cs
  | cs, (i, _, us) :: r => match pl[i]? with
    | some (off, sz) => if Nat.beq us.length sz && Nat.ble (off + us.length) cs.length then fillV pl (spl cs off us) r else none
    | none => none
theorem foldl_spl : ∀ (us : List Value) (off k : Nat) (cs : Array Value), off + k + us.length ≤ cs.size →
    (us.zipIdx k).foldl (fun cs (x : Value × Nat) => cs.setIfInBounds (off + x.2) x.1) cs = (spl cs.toList (off + k) us).toArray
  | [], off, k, cs, _ => by simp [spl]
  | u :: r, off, k, cs, h => by
    have ih := foldl_spl r off (k + 1) (cs.setIfInBounds (off + k) u) (by simp at h ⊢; omega)
    rw [List.zipIdx_cons, List.foldl_cons, ih]
    congr 1
    unfold spl
    have e := list_seg_step cs.toList (off + k) u r (by simp at h ⊢; omega)
    simpa [Array.toList_setIfInBounds, Nat.add_assoc] using e
theorem fill_V {place : Nat → Option (Nat × Nat)} {pl : List (Nat × Nat)} (hpl : ∀ i x, pl[i]? = some x → place i = some x) : ∀ (ps : List (Nat × Value × List Value)) (cs cs' : List Value),
    (∀ p ∈ ps, p.2.1.cells.toList = p.2.2) → fillV pl cs ps = some cs' → Instr.fill place cs.toArray (ps.map fun p => (p.1, p.2.1)) = some cs'.toArray
  | [], cs, cs', _, h => by simp [fillV] at h; simp [Instr.fill, h]
  | (i, v, us) :: r, cs, cs', hc, h => by
    simp only [fillV] at h
    cases hi : pl[i]? with
    | none => rw [hi] at h; cases h
    | some x =>
      obtain ⟨off, sz⟩ := x
      rw [hi] at h
      simp only at h
      split at h
      · rename_i hb
        simp only [Bool.and_eq_true] at hb
        have h1 := Nat.eq_of_beq_eq_true hb.1
        have h2 := Nat.le_of_ble_eq_true hb.2
        have hv : v.cells.toList = us := hc (i, v, us) (by simp)
        have hvs : v.cells.size = us.length := by rw [← hv]; simp
        have ih := fill_V hpl r (spl cs off us) cs' (fun p hp => hc p (by simp [hp])) h
        simp only [List.map_cons, Instr.fill, hpl i _ hi]
        rw [if_neg (by simp; omega)]
        have hf : v.cells.zipIdx.foldl (fun cs (x : Value × Nat) => cs.setIfInBounds (off + x.2) x.1) cs.toArray = (spl cs off us).toArray := by
          have := foldl_spl us off 0 cs.toArray (by simpa using h2)
          simp only [Nat.add_zero] at this
          rw [← this, ← Array.foldl_toList]
          simp [Array.toList_zipIdx, hv]
        rw [hf]
        exact ih
      · cases h
theorem built_L {T : TypeId} {pl : List (Nat × Nat)} {z cs' : List Value} {ps : List (Nat × Value × List Value)} (hlay : layOf P T = some (pl, z)) (hc : ∀ p ∈ ps, p.2.1.cells.toList = p.2.2) (hf : fillV pl z ps = some cs') :
    P.built T (ps.map fun p => (p.1, p.2.1)) = some cs'.toArray := by
  unfold layOf at hlay
  unfold Program.built
  cases hi : P.info? T with
  | none => rw [hi] at hlay; cases hlay
  | some it =>
    cases hu : P.underlying T with
    | none => rw [hi, hu] at hlay; cases hlay
    | some D =>
      rw [hi, hu] at hlay
      cases D with
      | array m e =>
        simp only at hlay ⊢
        cases hz : it.zero with
        | none => rw [hz] at hlay; cases hlay
        | some z0 =>
          cases he : P.info? e with
          | none => rw [hz, he] at hlay; cases hlay
          | some ie =>
            rw [hz, he] at hlay
            simp only [Option.some.injEq, Prod.mk.injEq] at hlay
            obtain ⟨rfl, rfl⟩ := hlay
            simp only
            have := fill_V (place := fun i => some (i * ie.size, ie.size)) (fun i x hx => by
              rw [List.getElem?_map] at hx
              by_cases hm : i < m
              · rw [List.getElem?_range hm] at hx; simpa using hx
              · rw [List.getElem?_eq_none (by simp; omega)] at hx; cases hx) ps _ cs' hc hf
            simpa using this
      | struct fields =>
        simp only at hlay ⊢
        cases hz : it.zero with
        | none => rw [hz] at hlay; cases hlay
        | some z0 =>
          cases hp : fields.toList.mapM (fun f => (P.info? f.type).map fun i => (f.offset, i.size)) with
          | none => rw [hz, hp] at hlay; cases hlay
          | some places =>
            rw [hz, hp] at hlay
            simp only [Option.some.injEq, Prod.mk.injEq] at hlay
            obtain ⟨rfl, rfl⟩ := hlay
            simp only
            have := fill_V (place := fun i => places.toArray[i]?) (fun i x hx => by simpa using hx) ps _ cs' hc hf
            simpa using this
      | _ => cases hlay
def cellsOk : List (Nat × Value × List Value) → Prop
  | [] => True
  | p :: r => p.2.1.cells.toList = p.2.2 ∧ cellsOk r
theorem cellsOk_all : ∀ {l : List (Nat × Value × List Value)}, cellsOk l → ∀ p ∈ l, p.2.1.cells.toList = p.2.2
  | [], _, v, hv => by cases hv
  | u :: r, h, v, hv => by
    rcases List.mem_cons.1 hv with rfl | hv
    · exact h.1
    · exact cellsOk_all h.2 v hv
theorem OpV_build {T : TypeId} {ps : List (Nat × Operand)} {vs : List (Nat × Value × List Value)} {pl : List (Nat × Nat)} {z cells : List Value} (hps : (ps.map fun p => (L.ev p.2).map fun v => (p.1, v)) = vs.map (fun p => some (p.1, p.2.1)))
    (hlay : layOf P T = some (pl, z)) (hc : cellsOk vs) (hf : fillV pl z vs = some cells) :
    OpV P n L w ⟨d, .build T ps.toArray, ty, pos, after, none⟩ (.agg cells.toArray) w := fun a ha => by
  have he : ps.map (fun p => (p.1, a.eval p.2)) = vs.map (fun p => (p.1, p.2.1)) := by
    clear hc hf
    induction ps generalizing vs with
    | nil => cases vs <;> simp_all
    | cons p r ih =>
      cases vs with
      | nil => simp at hps
      | cons v s =>
        simp only [List.map_cons, List.cons.injEq] at hps
        obtain ⟨h1, h2⟩ := hps
        cases hp : L.ev p.2 with
        | none => rw [hp] at h1; cases h1
        | some u =>
          rw [hp] at h1
          simp only [Option.map_some, Option.some.injEq] at h1
          simp [ha.ev hp, h1, ih h2]
  have hr := run_build (P := P) w T (ps.toArray.map fun x => (x.1, a.eval x.2)) cells.toArray (by
    have := built_L hlay (cellsOk_all hc) hf
    simpa [he] using this)
  simp only [execOp, Sem.run_bind, hr, Result.andThen_ok]; rfl
theorem OpV_ixA {T E : TypeId} {m : Nat} {x y : Operand} {cs : Array Value} {k : IntKind} {i : Int} {sz : Nat} {u : Value} {D : TypeDesc} (hT : P.underlying T = some (.array m E)) (hE : P.underlying E = some D)
    (hD : (match D with | .struct _ | .array _ _ => true | _ => false) = false) (hsz : (P.info? E).map (·.size) = some sz)
    (hx : L.ev x = some (.agg cs)) (hy : L.ev y = some (.int k i)) (h0 : 0 ≤ i) (h1 : i < (m : Int)) (hu : cs[i.toNat * sz]? = some u) : OpV P n L w ⟨d, .index T x y, ty, pos, after, none⟩ u w := fun a ha => by
  have hagg : (isAgg E).run P w = .ok false w := by
    unfold isAgg
    rw [Sem.run_bind, run_underlying hE w]
    cases D <;> simp_all
  cases hi : P.info? E with
  | none => rw [hi] at hsz; cases hsz
  | some inf =>
    have hs : inf.size = sz := by rw [hi] at hsz; simpa using hsz
    simp [execOp, Instr.index, ha.ev hx, ha.ev hy, asIntOf, run_underlying hT, h0, h1, sizeOf, typeInfo, hi, hs, part, hagg, hu]
end
end Go.Gk
