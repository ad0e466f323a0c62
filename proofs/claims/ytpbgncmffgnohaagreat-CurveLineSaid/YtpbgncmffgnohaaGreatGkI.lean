import Derived.Test.YtpbgncmffgnohaaGreatGkC
import Derived.Laws.CopyRow
import Derived.Laws.StructEq
import Derived.Lib.AppendStr
set_option linter.unusedVariables false
set_option linter.unusedSimpArgs false

section
set_option linter.unusedSimpArgs false
namespace Go.Gk
open Go Go.RowKit
section
variable {P : Program} {n : Nat} {L : Env} {w w0 : World} {Q : Exit → Act → World → Prop} {S : List Nat} {os : List OE}
variable {d : Option Tmp} {ty : TypeId} {pos : String} {after : Array Edge}
abbrev pB (b off : Nat) : Value := .pointer (some ⟨b, off, none⟩)
theorem add_lit0 (b off k : Nat) : (⟨b, off, none⟩ : Addr).add k = ⟨b, off + k, none⟩ := by unfold Addr.add; split <;> simp_all
theorem box_push (h : St S w0 w os) (cs : Array Value) (E : TypeId) : St S w0 (w.alloc (.cells cs E)) (.bx w.heap.size cs.toList :: os) := by
  refine h.push (Fr.alloc _ _ _) ⟨h.fresh, E, cs, heap_alloc_new w _, rfl⟩ fun k hk => ?_
  simp [OE.blk] at hk; omega
theorem kE {E : TypeId} {z : Value} {cs : List Value} (hE : (P.info? E).map (·.zero) = some (some z)) (hz : z.cells.toList = cs) (hS : St S w0 w os) :
    OpX P n L w ⟨d, .alloc E, ty, pos, after, none⟩ (fun v w' => ∃ b, v = pB b 0 ∧ St S w0 w' (.bx b cs :: os)) := by
  refine OpX_run (pB w.heap.size 0) (w.alloc (.cells z.cells E)) (fun a ha => ?_) ⟨_, rfl, hz ▸ box_push hS _ _⟩
  cases hi : P.info? E with
  | none => rw [hi] at hE; cases hE
  | some i =>
    rw [hi] at hE
    simp only [Option.map_some, Option.some.injEq] at hE
    simp [execOp, Instr.alloc, zeroValue, typeInfo, hi, hE, newVar, newRow]
theorem OpX_box {E : TypeId} {x : Operand} {v : Value} {cs : List Value} (hx : L.ev x = some v) (hz : v.cells.toList = cs) (hS : St S w0 w os) :
    OpX P n L w ⟨d, .box E x, ty, pos, after, none⟩ (fun v w' => ∃ b, v = pB b 0 ∧ St S w0 w' (.bx b cs :: os)) := by
  refine OpX_run (pB w.heap.size 0) (w.alloc (.cells v.cells E)) (fun a ha => ?_) ⟨_, rfl, hz ▸ box_push hS _ _⟩
  simp [execOp, Instr.box, ha.ev hx, newVar, newRow]
theorem kl {s : TypeId} {x : Operand} {b off f k : Nat} {fs : Array Field} {fd : Field} (hs : P.underlying s = some (.struct fs)) (hf : fs[f]? = some fd) (hk : fd.offset = k) (hsz : (P.info? fd.type).map (·.size == 0) = some false)
    (hx : L.ev x = some (pB b off)) : OpV P n L w ⟨d, .fieldAddr s x f, ty, pos, after, none⟩ (pB b (off + k)) w := fun a ha => by
  cases hi : P.info? fd.type with
  | none => rw [hi] at hsz; cases hsz
  | some i =>
    have h0 : ¬ i.size = 0 := by rw [hi] at hsz; simpa using hsz
    simp [execOp, Instr.fieldAt, ha.ev hx, run_underlying hs, hf, Instr.sureAddr, fieldPlace, sizeOf, typeInfo, hi, h0, add_lit0, hk]
theorem kJ {x : Operand} {b off : Nat} (hx : L.ev x = some (pB b off)) : OpV P n L w ⟨d, .nilCheck x, ty, pos, after, none⟩ (pB b off) w := fun a ha => by
  simp [execOp, ha.ev hx]
theorem St.bxc (h : St S w0 w os) (i : Nat) {b : Nat} {cs : List Value} (hi : os[i]? = some (.bx b cs)) (k : Nat) : w.cell? ⟨b, k, none⟩ = cs[k]? := by
  obtain ⟨_, T, cur, hg, hcs⟩ := h.ok _ (List.mem_of_getElem? hi)
  rw [cell_of_row w b k cur T (0, 0) hg, ← hcs]; simp
theorem ku {T : TypeId} {D : TypeDesc} {x : Operand} {b off : Nat} {u : Value} (hT : P.underlying T = some D) (hD : (match D with | .struct _ | .array _ _ => true | _ => false) = false)
    (hx : L.ev x = some (pB b off)) (hc : w.cell? ⟨b, off, none⟩ = some u) : OpV P n L w ⟨d, .load T x, ty, pos, after, none⟩ u w := fun a ha => by
  have hagg : (isAgg T).run P w = .ok false w := by
    unfold isAgg
    rw [Sem.run_bind, run_underlying hT w]
    cases D <;> simp_all
  simp [execOp, Instr.loadAt, ha.ev hx, Instr.sureAddr, loadVar, hagg, hc]
theorem kH {T : TypeId} {D : TypeDesc} {x : Operand} {b off : Nat} {us : List Value} (hT : P.underlying T = some D) (hD : (match D with | .struct _ | .array _ _ => true | _ => false) = true)
    (hi : (P.info? T).map (·.size) = some us.length) (hx : L.ev x = some (pB b off)) (hc : ∀ j u, us[j]? = some u → w.cell? ⟨b, off + j, none⟩ = some u) :
    OpV P n L w ⟨d, .load T x, ty, pos, after, none⟩ (.agg us.toArray) w := fun a ha => by
  have hagg : (isAgg T).run P w = .ok true w := by
    unfold isAgg
    rw [Sem.run_bind, run_underlying hT w]
    cases D <;> simp_all
  cases hq : P.info? T with
  | none => simp [hq] at hi
  | some i =>
    have hs : i.size = us.length := by simpa [hq] using hi
    have hl : (loadCells ⟨b, off, none⟩ us.length).run P w = .ok us.toArray w :=
      run_loadCells_list (P := P) w ⟨b, off, none⟩ us (fun j v hv => by rw [add_lit0]; exact hc j v hv)
    simp [execOp, Instr.loadAt, ha.ev hx, Instr.sureAddr, loadVar, hagg, sizeOf, typeInfo, hq, hs, hl]
theorem St.bxs (h : St S w0 w os) (i : Nat) {b : Nat} {cs us : List Value} {off : Nat} (hi : os[i]? = some (.bx b cs)) (hu : (cs.drop off).take us.length = us) : ∀ j u, us[j]? = some u → w.cell? ⟨b, off + j, none⟩ = some u := by
  intro j u hj
  rw [h.bxc i hi]
  rw [← hu, List.getElem?_take] at hj
  split at hj
  · simpa using hj
  · cases hj
def ones : List Value → Prop
  | [] => True
  | v :: r => v.oneCell' = true ∧ ones r
theorem ones_all : ∀ {l : List Value}, ones l → ∀ v ∈ l, v.oneCell' = true
  | [], _, v, hv => by cases hv
  | u :: r, h, v, hv => by
    rcases List.mem_cons.1 hv with rfl | hv
    · exact h.1
    · exact ones_all h.2 v hv
def spl (cs : List Value) (off : Nat) (us : List Value) : List Value := cs.take off ++ us ++ cs.drop (off + us.length)
theorem St.setB (h : St S w0 w os) {i b off : Nat} {cs us : List Value} (hi : os[i]? = some (.bx b cs)) :
    ∃ T cur, w.heap[b]? = some (.cells cur T (0, 0)) ∧ cur.toList = cs ∧ St S w0 (w.setRow b (cur.toList.take off ++ us ++ cur.toList.drop (off + us.length)).toArray) (os.set i (.bx b (spl cs off us))) := by
  have hok := h.ok _ (List.mem_of_getElem? hi)
  obtain ⟨hf, T, cur, hg, hcs⟩ := hok
  refine ⟨T, cur, hg, hcs, ?_⟩
  refine h.set hi (o' := .bx b (spl cs off us)) (Fr.setRow w b _) ⟨hf, T, _, setRow_heap w b cur _ T (0, 0) hg, ?_⟩ fun k hk => .inl hk
  subst hcs
  simp [spl]
theorem kM {T : TypeId} {x y : Operand} {b off i : Nat} {v : Value} {cs us : List Value} (hi : os[i]? = some (.bx b cs)) (hsz : (P.info? T).map (·.size) = some us.length)
    (hx : L.ev x = some (pB b off)) (hy : L.ev y = some v) (hv : v.cells.toList = us) (h1 : ones us) (hl : Nat.ble (off + us.length) cs.length = true) (hS : St S w0 w os) :
    OpY P n L w ⟨none, .store T x y, ty, pos, after, none⟩ (fun w' => St S w0 w' (os.set i (.bx b (spl cs off us)))) := by
  obtain ⟨T', cur, hg, hcs, hS'⟩ := hS.setB (off := off) (us := us) hi
  refine OpY_run _ (fun a ha => ?_) hS'
  cases hq : P.info? T with
  | none => simp [hq] at hsz
  | some inf =>
    have hs : inf.size = us.length := by simpa [hq] using hsz
    have hle : off + 0 + us.length ≤ cur.size := by
      have := Nat.le_of_ble_eq_true hl
      rw [← hcs] at this; simpa using this
    have hst := run_storeCells_at P b off T' us 0 cur w hg hle (ones_all h1)
    have hvl : v.cells.size = us.length := by rw [← hv]; simp
    simp only [Nat.add_zero] at hst
    simp [execOp, Instr.storeAt, ha.ev hx, ha.ev hy, Instr.sureAddr, storeVar, sizeOf, typeInfo, hq, hs, hv, hvl, hst]
theorem _root_.Go.Gk.RO.one {τ : Type} {e : Enc τ} {v : Value} {l : List τ} (h : RO w e v l) : v.oneCell' = true := by
  obtain ⟨a, c, rfl, _⟩ := h; rfl
theorem cells_one {v : Value} (h : v.oneCell' = true) : v.cells.toList = [v] := by cases v <;> simp_all [Value.cells, Value.oneCell']
def layOf (P : Program) (T : TypeId) : Option (List (Nat × Nat) × List Value) :=
  match P.info? T, P.underlying T with
  | some it, some (.array m e) =>
    match it.zero, P.info? e with
    | some z, some ie => some ((List.range m).map fun i => (i * ie.size, ie.size), z.cells.toList)
    | _, _ => none
  | some it, some (.struct fields) =>
    match it.zero, fields.toList.mapM (fun f => (P.info? f.type).map fun i => (f.offset, i.size)) with
    | some z, some places => some (places, z.cells.toList)
    | _, _ => none
  | _, _ => none
def fillV (pl : List (Nat × Nat)) : List Value → List (Nat × Value × List Value) → Option (List Value)
  | cs, [] => some cs
  | cs, (i, _, us) :: r => match pl[i]? with
    | some (off, sz) => if Nat.beq us.length sz && Nat.ble (off + us.length) cs.length then fillV pl (spl cs off us) r else none
    | none => none
theorem foldl_spl : ∀ (us : List Value) (off k : Nat) (cs : Array Value), off + k + us.length ≤ cs.size →
    (us.zipIdx k).foldl (fun cs (x : Value × Nat) => cs.setIfInBounds (off + x.2) x.1) cs = (spl cs.toList (off + k) us).toArray
  | [], off, k, cs, _ => by simp [spl]
  | u :: r, off, k, cs, h => by
    have ih := foldl_spl r off (k + 1) (cs.setIfInBounds (off + k) u) (by simp at h ⊢; omega)
    rw [List.zipIdx_cons, List.foldl_cons, ih]
    congr 1
    unfold spl
    have e := list_seg_step cs.toList (off + k) u r (by simp at h ⊢; omega)
    simpa [Array.toList_setIfInBounds, Nat.add_assoc] using e
theorem fill_V {place : Nat → Option (Nat × Nat)} {pl : List (Nat × Nat)} (hpl : ∀ i x, pl[i]? = some x → place i = some x) : ∀ (ps : List (Nat × Value × List Value)) (cs cs' : List Value),
    (∀ p ∈ ps, p.2.1.cells.toList = p.2.2) → fillV pl cs ps = some cs' → Instr.fill place cs.toArray (ps.map fun p => (p.1, p.2.1)) = some cs'.toArray
  | [], cs, cs', _, h => by simp [fillV] at h; simp [Instr.fill, h]
  | (i, v, us) :: r, cs, cs', hc, h => by
    simp only [fillV] at h
    cases hi : pl[i]? with
    | none => rw [hi] at h; cases h
    | some x =>
      obtain ⟨off, sz⟩ := x
      rw [hi] at h
      simp only at h
      split at h
      · rename_i hb
        simp only [Bool.and_eq_true] at hb
        have h1 := Nat.eq_of_beq_eq_true hb.1
        have h2 := Nat.le_of_ble_eq_true hb.2
        have hv : v.cells.toList = us := hc (i, v, us) (by simp)
        have hvs : v.cells.size = us.length := by rw [← hv]; simp
        have ih := fill_V hpl r (spl cs off us) cs' (fun p hp => hc p (by simp [hp])) h
        simp only [List.map_cons, Instr.fill, hpl i _ hi]
        rw [if_neg (by simp; omega)]
        have hf : v.cells.zipIdx.foldl (fun cs (x : Value × Nat) => cs.setIfInBounds (off + x.2) x.1) cs.toArray = (spl cs off us).toArray := by
          have := foldl_spl us off 0 cs.toArray (by simpa using h2)
          simp only [Nat.add_zero] at this
          rw [← this, ← Array.foldl_toList]
          simp [Array.toList_zipIdx, hv]
        rw [hf]
        exact ih
      · cases h
theorem built_L {T : TypeId} {pl : List (Nat × Nat)} {z cs' : List Value} {ps : List (Nat × Value × List Value)} (hlay : layOf P T = some (pl, z)) (hc : ∀ p ∈ ps, p.2.1.cells.toList = p.2.2) (hf : fillV pl z ps = some cs') :
    P.built T (ps.map fun p => (p.1, p.2.1)) = some cs'.toArray := by
  unfold layOf at hlay
  unfold Program.built
  cases hi : P.info? T with
  | none => rw [hi] at hlay; cases hlay
  | some it =>
    cases hu : P.underlying T with
    | none => rw [hi, hu] at hlay; cases hlay
    | some D =>
      rw [hi, hu] at hlay
      cases D with
      | array m e =>
        simp only at hlay ⊢
        cases hz : it.zero with
        | none => rw [hz] at hlay; cases hlay
        | some z0 =>
          cases he : P.info? e with
          | none => rw [hz, he] at hlay; cases hlay
          | some ie =>
            rw [hz, he] at hlay
            simp only [Option.some.injEq, Prod.mk.injEq] at hlay
            obtain ⟨rfl, rfl⟩ := hlay
            simp only
            have := fill_V (place := fun i => some (i * ie.size, ie.size)) (fun i x hx => by
              rw [List.getElem?_map] at hx
              by_cases hm : i < m
              · rw [List.getElem?_range hm] at hx; simpa using hx
              · rw [List.getElem?_eq_none (by simp; omega)] at hx; cases hx) ps _ cs' hc hf
            simpa using this
      | struct fields =>
        simp only at hlay ⊢
        cases hz : it.zero with
        | none => rw [hz] at hlay; cases hlay
        | some z0 =>
          cases hp : fields.toList.mapM (fun f => (P.info? f.type).map fun i => (f.offset, i.size)) with
          | none => rw [hz, hp] at hlay; cases hlay
          | some places =>
            rw [hz, hp] at hlay
            simp only [Option.some.injEq, Prod.mk.injEq] at hlay
            obtain ⟨rfl, rfl⟩ := hlay
            simp only
            have := fill_V (place := fun i => places.toArray[i]?) (fun i x hx => by simpa using hx) ps _ cs' hc hf
            simpa using this
      | _ => cases hlay
def cellsOk : List (Nat × Value × List Value) → Prop
  | [] => True
  | p :: r => p.2.1.cells.toList = p.2.2 ∧ cellsOk r
theorem cellsOk_all : ∀ {l : List (Nat × Value × List Value)}, cellsOk l → ∀ p ∈ l, p.2.1.cells.toList = p.2.2
  | [], _, v, hv => by cases hv
  | u :: r, h, v, hv => by
    rcases List.mem_cons.1 hv with rfl | hv
    · exact h.1
    · exact cellsOk_all h.2 v hv
theorem OpV_build {T : TypeId} {ps : List (Nat × Operand)} {vs : List (Nat × Value × List Value)} {pl : List (Nat × Nat)} {z cells : List Value} (hps : (ps.map fun p => (L.ev p.2).map fun v => (p.1, v)) = vs.map (fun p => some (p.1, p.2.1)))
    (hlay : layOf P T = some (pl, z)) (hc : cellsOk vs) (hf : fillV pl z vs = some cells) :
    OpV P n L w ⟨d, .build T ps.toArray, ty, pos, after, none⟩ (.agg cells.toArray) w := fun a ha => by
  have he : ps.map (fun p => (p.1, a.eval p.2)) = vs.map (fun p => (p.1, p.2.1)) := by
    clear hc hf
    induction ps generalizing vs with
    | nil => cases vs <;> simp_all
    | cons p r ih =>
      cases vs with
      | nil => simp at hps
      | cons v s =>
        simp only [List.map_cons, List.cons.injEq] at hps
        obtain ⟨h1, h2⟩ := hps
        cases hp : L.ev p.2 with
        | none => rw [hp] at h1; cases h1
        | some u =>
          rw [hp] at h1
          simp only [Option.map_some, Option.some.injEq] at h1
          simp [ha.ev hp, h1, ih h2]
  have hr := run_build (P := P) w T (ps.toArray.map fun x => (x.1, a.eval x.2)) cells.toArray (by
    have := built_L hlay (cellsOk_all hc) hf
    simpa [he] using this)
  simp only [execOp, Sem.run_bind, hr, Result.andThen_ok]; rfl
end
end Go.Gk
end

section
set_option linter.unusedSimpArgs false
namespace Go.Gk
open Go Go.RowKit
section
variable {P : Program} {n : Nat} {L : Env} {w w0 : World} {Q : Exit → Act → World → Prop} {S : List Nat} {os : List OE}
variable {d : Option Tmp} {ty : TypeId} {pos : String} {after : Array Edge}
theorem St.trunc {τ : Type} {e : Enc τ} {v : Value} {l : List τ} {i k : Nat} (h : St S w0 w os) (hi : os[i]? = some (own e v l)) (hk : k ≤ l.length) : St S w0 w (os.set i (own e (slV v e.sz 0 k) (l.take k))) := by
  have hok := h.ok _ (List.mem_of_getElem? hi)
  have hlen : (l.take k).length = k := by simp; omega
  refine h.set hi (o' := own e _ _) (Fr.refl _ _) ⟨e.fl_length _, ?_⟩ ?_
  · rcases hok.2 with ⟨rfl, hn⟩ | ⟨g, cap, cur, T, rfl, hfr, hg, hnc, hcm, hcs, htake⟩
    · left
      have : k = 0 := by omega
      subst this
      simp [slV]
    · right
      refine ⟨g, cap, cur, T, ?_, hfr, hg, by omega, hcm, hcs, ?_⟩
      · rw [hlen]
        by_cases hc : cap = 0
        · simp [slV, hc]
        · simp [slV, hc, Addr.add]
      · rw [hlen, e.fl_take, ← htake, List.take_take]
        congr 1
        have := Nat.mul_le_mul_right e.sz hk
        omega
  · intro q hq
    left
    rcases hok.2 with ⟨rfl, hn⟩ | ⟨g, cap, cur, T, rfl, _⟩
    · simp [OE.blk, slV, Value.ownBlock] at hq
    · simp only [OE.blk] at hq ⊢
      by_cases hc : cap = 0
      · simpa [slV, hc, Value.ownBlock] using hq
      · simpa [slV, hc, Value.ownBlock, Addr.add] using hq
end
end Go.Gk
end

section
set_option linter.unusedSimpArgs false
namespace Go.Gk
open Go Go.RowKit Go.Lib
section
variable {P : Program} {n : Nat} {L : Env} {w w' w0 : World} {Q : Exit → Act → World → Prop} {S : List Nat} {os os0 os1 : List OE}
variable {d : Option Tmp} {ty : TypeId} {pos : String} {after : Array Edge}
def blks (os : List OE) : List Nat := os.filterMap OE.blk
theorem mem_blks {k : Nat} : k ∈ blks os ↔ ∃ o ∈ os, o.blk = some k := by simp [blks, List.mem_filterMap]
theorem OE.ok.re {S S' : List Nat} {B B' : Nat} {o : OE} (h : o.ok S B w) (hb : ∀ k, o.blk = some k → fre S B k → fre S' B' k) : o.ok S' B' w := by
  cases o with
  | sl v sz n cs =>
    refine ⟨h.1, ?_⟩
    rcases h.2 with hn | ⟨g, cap, cur, T, rfl, hf, rest⟩
    · exact .inl hn
    · exact .inr ⟨g, cap, cur, T, rfl, hb g rfl hf, rest⟩
  | rd v sz n cs =>
    obtain ⟨hl, a, c, rfl, hc, hx⟩ := h
    refine ⟨hl, a, c, rfl, hc, fun hn => ?_⟩
    obtain ⟨b, off, rfl, hlt, hf, hcell⟩ := hx hn
    exact ⟨b, off, rfl, hlt, hb b (by simp [OE.blk, hn, Value.ownBlock]) hf, hcell⟩
  | bx b cs => exact ⟨hb b rfl h.1, h.2⟩
theorem St.give (h : St S w0 w (os0 ++ os)) : St (blks os0) w w os0 :=
  ⟨Fr.refl _ _, fun o ho => (h.ok o (List.mem_append_left _ ho)).re fun k hk _ => .inr (mem_blks.2 ⟨o, ho, hk⟩), (List.pairwise_append.1 h.dj).1⟩
theorem St.back (h : St S w0 w (os0 ++ os)) (h' : St (blks os0) w w' os1) : St S w0 w' (os1 ++ os) := by
  have hfre : ∀ k, fre (blks os0) w.heap.size k → fre S w0.heap.size k := by
    intro k hk
    rcases hk with hk | hk
    · exact .inl (Nat.le_trans h.fr.size hk)
    · obtain ⟨o, ho, hb⟩ := mem_blks.1 hk
      exact ((h.ok o (List.mem_append_left _ ho)).lt hb).2
  have hx := (List.pairwise_append.1 h.dj).2
  refine ⟨h.fr.step h'.fr fun k hk => hfre k (.inr hk), ?_, ?_⟩
  · intro o ho
    rcases List.mem_append.1 ho with ho | ho
    · exact (h'.ok o ho).re fun k _ hf => hfre k hf
    · refine (h.ok o (List.mem_append_right _ ho)).fr h'.fr fun k hk hb => ?_
      obtain ⟨p, hp, hpb⟩ := mem_blks.1 hk
      exact hx.2 p hp o ho k hpb hb
  · refine List.pairwise_append.2 ⟨h'.dj, hx.1, fun o ho p hp k hk hk' => ?_⟩
    have h1 := ((h.ok p (List.mem_append_right _ hp)).lt hk').1
    rcases ((h'.ok o ho).lt hk).2 with h2 | h2
    · omega
    · obtain ⟨q, hq, hqb⟩ := mem_blks.1 h2
      exact hx.2 q hq p hp k hqb hk'
theorem RP.give {τ : Type} {e : Enc τ} {v : Value} {l : List τ} (h : RP S w0 e v l) (hz : 0 < e.sz) (hS : St S w0 w (os0 ++ os)) : RP (blks os0) w e v l := by
  refine ⟨h.now hS.fr, fun hl k hk hb => ?_⟩
  obtain ⟨o, ho, hob⟩ := mem_blks.1 hk
  have h1 := ((hS.ok o (List.mem_append_left _ ho)).lt hob).2
  obtain ⟨a, c, rfl, hc, hr⟩ := h.1
  obtain ⟨b, off, rfl, hcell⟩ := hr hl
  have hbk : b = k := by simpa [Value.ownBlock] using hb
  subst hbk
  rcases h1 with h1 | h1
  · have hne : 0 < (e.fl l).length := by
      rw [e.fl_length]
      exact Nat.mul_pos (List.length_pos_iff.2 hl) hz
    have := cell_lt (hcell 0 _ (List.getElem?_eq_getElem hne))
    simp only at this
    omega
  · exact h.2 hl b h1 rfl
theorem St.giveO {τ : Type} {e : Enc τ} {v : Value} {l : List τ} (hS : St S w0 w (os0 ++ os)) (i : Nat) (hi : os[i]? = some (own e v l)) : RP (blks os0) w e v l := by
  have hm := List.mem_of_getElem? hi
  refine ⟨(hS.ok _ (List.mem_append_right _ hm)).ro, fun hl k hk hb => ?_⟩
  obtain ⟨o, ho, hob⟩ := mem_blks.1 hk
  exact (List.pairwise_append.1 hS.dj).2.2 o ho _ hm k hob hb
theorem RP.tk {τ : Type} {e : Enc τ} {v : Value} {l : List τ} (h : RP S w e v l) {k : Nat} (hk : k ≤ l.length) : RP S w e (slV v e.sz 0 k) (l.take k) := h.subh hk
theorem OE.ok.red {S : List Nat} {B : Nat} {τ : Type} {e : Enc τ} {v : Value} {l : List τ} (h : (own e v l).ok S B w) : (red e v l).ok S B w := by
  refine ⟨h.1, ?_⟩
  rcases h.2 with ⟨rfl, hn⟩ | ⟨g, cap, cur, T, rfl, hf, hg, hnc, hcm, hcs, htake⟩
  · exact ⟨none, 0, by rw [hn], by rw [hn]; exact Nat.le_refl _, fun h => absurd hn h⟩
  · refine ⟨_, cap, rfl, hnc, fun _ => ⟨g, 0, rfl, hg.lt, hf, fun j u hj => ?_⟩⟩
    rw [← htake, List.getElem?_take] at hj
    split at hj
    · rw [Nat.zero_add, hg.cell j]
      simpa using hj
    · cases hj
theorem eqlIn_ptrN {T E : TypeId} (hT : P.underlying T = some (.pointer E)) (b off k : Nat) (w : World) : (Op.equalIn (k + 1) T (pB b off) (.pointer none)).run P w = .ok false w := by
  simp [Op.equalIn, run_underlying hT]
theorem eqlIn_NN {T E : TypeId} (hT : P.underlying T = some (.pointer E)) (k : Nat) (w : World) : (Op.equalIn (k + 1) T (.pointer none) (.pointer none)).run P w = .ok true w := by
  simp [Op.equalIn, run_underlying hT]
theorem eql_ptrN {T E : TypeId} (hT : P.underlying T = some (.pointer E)) (b off : Nat) (w : World) : (Op.equal T (pB b off) (.pointer none)).run P w = .ok false w := eqlIn_ptrN hT b off 9999 w
theorem eql_NN {T E : TypeId} (hT : P.underlying T = some (.pointer E)) (w : World) : (Op.equal T (.pointer none) (.pointer none)).run P w = .ok true w := eqlIn_NN hT 9999 w
theorem b_pneN {T E : TypeId} (hT : P.underlying T = some (.pointer E)) (b off : Nat) : BinR P .neq T (pB b off) (.pointer none) (vB true) := fun _ _ w => by
  simp [eqGuard, binOp, eql_ptrN hT]
theorem b_pnnN {T E : TypeId} (hT : P.underlying T = some (.pointer E)) : BinR P .neq T (.pointer none) (.pointer none) (vB false) := fun _ _ w => by
  simp [eqGuard, binOp, eql_NN hT]
theorem b_peqN {T E : TypeId} (hT : P.underlying T = some (.pointer E)) (b off : Nat) : BinR P .eql T (pB b off) (.pointer none) (vB false) := fun _ _ w => by
  simp [eqGuard, binOp, eql_ptrN hT]
theorem b_penN {T E : TypeId} (hT : P.underlying T = some (.pointer E)) : BinR P .eql T (.pointer none) (.pointer none) (vB true) := fun _ _ w => by
  simp [eqGuard, binOp, eql_NN hT]
theorem run_ldAgg {T : TypeId} {D : TypeDesc} {b : Nat} {us : List Value} (hT : P.underlying T = some D) (hD : (match D with | .struct _ | .array _ _ => true | _ => false) = true)
    (hi : (P.info? T).map (·.size) = some us.length) (hc : ∀ j u, us[j]? = some u → w.cell? ⟨b, 0 + j, none⟩ = some u) : (loadVar T ⟨b, 0, none⟩).run P w = .ok (.agg us.toArray) w := by
  have hagg : (isAgg T).run P w = .ok true w := by
    unfold isAgg
    rw [Sem.run_bind, run_underlying hT w]
    cases D <;> simp_all
  cases hq : P.info? T with
  | none => simp [hq] at hi
  | some i =>
    have hs : i.size = us.length := by simpa [hq] using hi
    have hl : (loadCells ⟨b, 0, none⟩ us.length).run P w = .ok us.toArray w :=
      run_loadCells_list (P := P) w ⟨b, 0, none⟩ us (fun j v hv => by rw [add_lit0]; exact hc j v hv)
    simp [loadVar, hagg, sizeOf, typeInfo, hq, hs, hl]
def RV (P : Program) (L : Env) (w : World) : ResultVar → Value → Prop
  | .tmp t, v => L.get t = some v
  | .cell t T, v => ∃ b, L.get t = some (pB b 0) ∧ (loadVar T ⟨b, 0, none⟩).run P w = .ok v w
theorem run_asAddr (b off : Nat) (w : World) : (asAddr (pB b off)).run P w = .ok ⟨b, off, none⟩ w := rfl
theorem QE_rv1 {fn : Func} {r1 : ResultVar} {v1 : Value} {φ : Value → World → Prop} (hres : fn.results = #[r1]) (h1 : RV P L w r1 v1) (h : φ v1 w) : QE n (bodyPost P fn (Ret φ)) .ret L w := fun a ha => by
  refine ⟨ha.defers, v1, ?_, h⟩
  cases r1
  · have g1 := ha.get _ _ h1
    simp [results, hres, g1]
  · obtain ⟨b1, g1, k1⟩ := h1
    have g1 := ha.get _ _ g1
    simp [results, hres, g1, k1, run_asAddr]
theorem QE_rv2 {fn : Func} {r1 r2 : ResultVar} {v1 v2 : Value} {φ : Value → World → Prop} (hres : fn.results = #[r1, r2]) (h1 : RV P L w r1 v1) (h2 : RV P L w r2 v2) (h : φ (.tuple #[v1, v2]) w) : QE n (bodyPost P fn (Ret φ)) .ret L w := fun a ha => by
  refine ⟨ha.defers, .tuple #[v1, v2], ?_, h⟩
  cases r1 <;> cases r2
  · have g1 := ha.get _ _ h1
    have g2 := ha.get _ _ h2
    simp [results, hres, g1, g2]
  · have g1 := ha.get _ _ h1
    obtain ⟨b2, g2, k2⟩ := h2
    have g2 := ha.get _ _ g2
    simp [results, hres, g1, g2, k2, run_asAddr]
  · obtain ⟨b1, g1, k1⟩ := h1
    have g1 := ha.get _ _ g1
    have g2 := ha.get _ _ h2
    simp [results, hres, g1, g2, k1, run_asAddr]
  · obtain ⟨b1, g1, k1⟩ := h1
    have g1 := ha.get _ _ g1
    obtain ⟨b2, g2, k2⟩ := h2
    have g2 := ha.get _ _ g2
    simp [results, hres, g1, g2, k1, k2, run_asAddr]
def SHP (v : Value) (m : Nat) : Prop := ∃ a c, v = .slice a m c ∧ m ≤ c ∧ (m ≠ 0 → ∃ b off, a = some ⟨b, off, none⟩)
theorem RO.shp {τ : Type} {e : Enc τ} {v : Value} {l : List τ} (h : RO w e v l) : SHP v l.length := by
  obtain ⟨a, c, rfl, hc, hr⟩ := h
  refine ⟨a, c, rfl, hc, fun hn => ?_⟩
  obtain ⟨b, off, h1, _⟩ := hr (by rintro rfl; simp at hn)
  exact ⟨b, off, h1⟩
end
end Go.Gk
end

section
set_option linter.unusedSimpArgs false
namespace Go.Gk
open Go Go.RowKit
section
variable {P : Program} {n : Nat} {L : Env} {w w' w0 : World} {Q : Exit → Act → World → Prop} {S : List Nat} {os os0 os1 : List OE}
variable {d : Option Tmp} {ty : TypeId} {pos : String} {after : Array Edge}
def SV.of (v : Value) : SV := match v with
  | .slice a n c => ⟨a, n, c⟩
  | _ => ⟨none, 0, 0⟩
theorem RO.sv {τ : Type} {e : Enc τ} {v : Value} {l : List τ} (h : RO w e v l) : (SV.of v).v = v := by
  obtain ⟨a, c, rfl, _⟩ := h; rfl
theorem RO.svrp {τ : Type} {e : Enc τ} {v : Value} {l : List τ} (h : RO w e v l) : RP [] w e (SV.of v).v l := by rw [h.sv]; exact h.rp
theorem RP.sv {τ : Type} {e : Enc τ} {v : Value} {l : List τ} (h : RP S w e v l) : RP S w e (SV.of v).v l := by rw [h.1.sv]; exact h
theorem fl_eVc {v : Value} {r : List SV} {vs : List Value} (h : (SV.of v).v = v) (ht : eV.fl r = vs) : eV.fl (SV.of v :: r) = v :: vs := by
  rw [← ht]
  show [(SV.of v).v] ++ eV.fl r = v :: eV.fl r
  rw [h]; rfl
def AllRP (S : List Nat) (w : World) {τ : Type} (e : Enc τ) : List SV → List (List τ) → Prop
  | [], [] => True
  | s :: r, l :: m => RP S w e s.v l ∧ AllRP S w e r m
  | _, _ => False
theorem AllRP.len {τ : Type} {e : Enc τ} : ∀ {s : List SV} {m : List (List τ)}, AllRP S w e s m → s.length = m.length
  | [], [], _ => rfl
  | _ :: _, _ :: _, h => by simp [AllRP.len h.2]
theorem AllRP.nth {τ : Type} {e : Enc τ} : ∀ {s : List SV} {m : List (List τ)}, AllRP S w e s m → ∀ {i : Nat} {l : List τ}, m[i]? = some l → ∃ v, s[i]? = some v ∧ RP S w e v.v l
  | [], [], _, i, l, hi => by simp at hi
  | a :: r, b :: m, h, 0, l, hi => by simp at hi; subst hi; exact ⟨a, rfl, h.1⟩
  | a :: r, b :: m, h, i + 1, l, hi => by simpa using AllRP.nth h.2 (by simpa using hi)
theorem AllRP.get {τ : Type} {e : Enc τ} {s : List SV} {m : List (List τ)} (h : AllRP S w e s m) {i : Int} {l : List τ} (hi : getO m i = some l) : ∃ v, getO s i = some v ∧ RP S w e v.v l := by
  obtain ⟨h0, _, h2⟩ := getO_some hi
  obtain ⟨v, h3, h4⟩ := h.nth h2
  exact ⟨v, by simp [getO, h0, h3], h4⟩
theorem L_len {x : Operand} {T E : TypeId} {τ : Type} {v : Value} {s : List SV} {m : List (List τ)} (hT : P.underlying T = some (.slice E)) (hx : L.ev x = some v) (h : RO w eV v s) (hl : s.length = m.length) :
    OpV P n L w ⟨d, .call ⟨.builtin .len, #[x], #[T]⟩, ty, pos, after, none⟩ (vI m.length) w := by
  have := kB (n := n) (d := d) (ty := ty) (pos := pos) (after := after) hT hx h
  rwa [hl] at this
section
variable {T E : TypeId} {τ : Type} {e : Enc τ} {v : Value} {l r : List τ} {z0 : Value} {bytes : Nat}
end
theorem b_beql (T : TypeId) (x y : Bool) {D : TypeDesc} (hT : P.underlying T = some D) (hD : D = .bool) : BinR P .eql T (vB x) (vB y) (vB (x == y)) := fun _ _ w => by
  subst hD
  have h : ∀ k, (Op.equalIn (k + 1) T (vB x) (vB y)).run P w = .ok (x == y) w := fun k => by simp [Op.equalIn, run_underlying hT]
  have h9 : (Op.equal T (vB x) (vB y)).run P w = .ok (x == y) w := h 9999
  simp [eqGuard, binOp, h9]
theorem b_bneq (T : TypeId) (x y : Bool) {D : TypeDesc} (hT : P.underlying T = some D) (hD : D = .bool) : BinR P .neq T (vB x) (vB y) (vB (x != y)) := fun _ _ w => by
  subst hD
  have h : ∀ k, (Op.equalIn (k + 1) T (vB x) (vB y)).run P w = .ok (x == y) w := fun k => by simp [Op.equalIn, run_underlying hT]
  have h9 : (Op.equal T (vB x) (vB y)).run P w = .ok (x == y) w := h 9999
  simp [eqGuard, binOp, h9, bne]
end
end Go.Gk
end

section
namespace Go.Gk
section
variable {P : Program} {n : Nat} {L : Env} {w w0 : World} {Q : Exit → Act → World → Prop}
variable {d : Option Nat} {ty : TypeId} {pos : String} {after : Array Edge}
theorem run_callV {o : Oper} {x : Operand} {f : FuncId} {xs : List Operand} {ts : Array TypeId} {vs cap : List Value} {a : Act} (ho : o.op = .call ⟨.value x, xs.toArray, ts⟩)
    (hx : a.eval x = .func (.func f) #[] cap.toArray) (hf : isGo P f = true) (hargs : xs.map a.eval = vs) : (execOp a.eval o).run P w = .ok (.enter f (vs ++ cap).toArray) w := by
  simp only [execOp, ho, resolve, hx, Deferred.ofValue, Sem.run_bind, Sem.run_pure, Result.andThen_ok, invoke]
  have : (#[] ++ Array.map a.eval xs.toArray ++ cap.toArray : Array Value) = (vs ++ cap).toArray := by simp [hargs]
  rw [this]
  exact run_callFunc hf
end
end Go.Gk
namespace Go.Gk
section
variable {P : Program} {n : Nat} {L : Env} {w w0 : World} {Q : Exit → Act → World → Prop} {S : List Nat} {os : List OE}
variable {d : Option Nat} {ty : TypeId} {pos : String} {after : Array Edge}
def MapAt (w0 w : World) (r : Nat) (es : Array MapEntry) (c : Nat) : Prop := Fr [] w0 w ∧ w0.heap.size ≤ r ∧ w.heap[r]? = some (.map es c)
theorem MapAt.put {r : Nat} {es es' : Array MapEntry} {c c' : Nat} (h : MapAt w0 w r es c) : MapAt w0 { w with heap := w.heap.setIfInBounds r (.map es' c') } r es' c' := by
  obtain ⟨hf, hr, hg⟩ := h
  have hlt : r < w.heap.size := (Array.getElem?_eq_some_iff.1 hg).1
  refine ⟨⟨hf.os, hf.tape, hf.output, by simpa using hf.size, fun k hk hn => ?_⟩, hr, by simp [hlt]⟩
  rw [← hf.block k hk hn]
  simp [Array.getElem?_setIfInBounds]; omega
end
end Go.Gk
end

section
set_option linter.unusedVariables false
namespace Go.Gk
open Go Go.RowKit
theorem dj_symm {a b : OE} (h : OE.dj a b) : OE.dj b a := by
  unfold OE.dj at *
  intro k hk hk2
  exact h k hk2 hk
theorem St.perm {S : List Nat} {w0 w : World} {os os' : List OE} (h : St S w0 w os) (hp : os.Perm os') : St S w0 w os' :=
  ⟨h.fr, fun o ho => h.ok o (hp.mem_iff.2 ho), (hp.pairwise_iff (fun {a b} hab => dj_symm hab)).1 h.dj⟩
theorem St.tail {S : List Nat} {w0 w : World} {l os : List OE} (h : St S w0 w (l ++ os)) : St S w0 w os :=
  ⟨h.fr, fun o ho => h.ok o (List.mem_append_right _ ho), (List.pairwise_append.1 h.dj).2.1⟩
section
variable {P : Program} {ops : Array Oper} {Q : Exit → Act → World → Prop} {nw : Nat → Bool} {S : List Nat} {w0 : World} {os : List OE} {ent : Nat → Value → OE} {news : List Nat}
def NewOK (P : Program) (ops : Array Oper) (S : List Nat) (w0 : World) (ent : Nat → Value → OE) (o : Oper) (i : Nat) (a : Act) : Prop :=
  Region.wanted o (yielded ops a.tmps) = true ∧ ∀ w os', St S w0 w os' → ∃ v w', (execOp a.eval o).run P w = .ok (.value v) w' ∧ St S w0 w' (ent i v :: os')
theorem NewOK.of_same {o : Oper} {i : Nat} {a a' : Act} (hy : NewOK P ops S w0 ent o i a) (he : execOp a'.eval o = execOp a.eval o)
    (hw : Region.wanted o (yielded ops a'.tmps) = Region.wanted o (yielded ops a.tmps)) : NewOK P ops S w0 ent o i a' := by
  unfold NewOK at *
  rw [he, hw]
  exact hy
variable {n : Nat} {L : Env}
end
end Go.Gk
end

section
set_option linter.unusedSimpArgs false
set_option linter.unusedVariables false
set_option linter.unusedSectionVars false
namespace Go.Gk
open Go Go.RowKit
section
variable {P : Program} {n : Nat} {L : Env} {w w' w0 : World} {Q : Exit → Act → World → Prop} {S : List Nat} {os os0 os1 : List OE}
variable {d : Option Tmp} {ty : TypeId} {pos : String} {after : Array Edge}
def twE {τ : Type} (e : Enc τ) (va : Value) (la : List τ) (q : Nat) : OE := if q = 0 then red e (.slice none 0 0) ([] : List τ) else red e va la
def Tw {τ : Type} (va : Value) (la : List τ) (v : Value) (l : List τ) (q : Nat) : Prop :=
  q = 0 → ∃ a c c' t, va = .slice a la.length c ∧ la.length ≤ c ∧ v = .slice a l.length c' ∧ l = la ++ t
theorem Tw.ro {τ : Type} {e : Enc τ} {va v : Value} {la l : List τ} {q : Nat} {B : Nat} (h : Tw va la v l q) (he : (twE e va la q).ok S B w) (hv : RO w e v l) : RO w e va la := by
  by_cases hq : q = 0
  · obtain ⟨a, c, c', t, rfl, hc, rfl, rfl⟩ := h hq
    obtain ⟨a2, c2, h1, h2, h3⟩ := hv
    injection h1 with e1 e2 e3
    subst e1
    refine ⟨a, c, rfl, hc, fun hl => ?_⟩
    obtain ⟨b, off, hb, hcell⟩ := h3 (by simp [hl])
    refine ⟨b, off, hb, fun j u hj => hcell j u ?_⟩
    rw [e.fl_append, List.getElem?_append_left (List.getElem?_eq_some_iff.1 hj).1]
    exact hj
  · unfold twE at he
    rw [if_neg hq] at he
    exact he.rro
theorem _root_.Eq.to {op : BinOp} {T : TypeId} {x y : Value} {b b' : Bool} (h : b = b') (hb : BinR P op T x y (vB b)) : BinR P op T x y (vB b') := h ▸ hb
end
end Go.Gk
end

section
set_option linter.unusedSimpArgs false
set_option linter.unusedVariables false
namespace Go.Gk
open Go Go.RowKit
def isB (want : Bool) : Value → Bool
  | .bool b => b == want
  | _ => false
def bin1 (op : BinOp) (x y : Int) : Option Value := match op with
  | .add => some (vI (wI (x + y)))
  | .sub => some (vI (wI (x - y)))
  | .eql => some (vB (x == y))
  | .neq => some (vB (x != y))
  | .lss => some (vB (decide (x < y)))
  | .leq => some (vB (decide (x ≤ y)))
  | .gtr => some (vB (decide (y < x)))
  | .geq => some (vB (decide (y ≤ x)))
  | _ => none
def run1 (L : Env) : Op → Option Value
  | .move x => L.ev x
  | .assign x => L.ev x
  | .pick c x y => match L.ev c with
    | some (.bool true) => L.ev x
    | some (.bool false) => L.ev y
    | _ => none
  | .extract x i => match L.ev x with
    | some (.tuple vs) => vs.toList[i]?
    | _ => none
  | .unOp op _ x => match op, L.ev x with
    | .not, some (.bool b) => some (vB (!b))
    | _, _ => none
  | .binOp op _ x y _ => match L.ev x, L.ev y with
    | some (.int .i64 a), some (.int .i64 b) => bin1 op a b
    | _, _ => none
  | _ => none
def runs (ops : Array Oper) (n : Nat) : Nat → Env → List Oper → Option (Env × List Oper)
  | 0, L, l => some (L, l)
  | m + 1, L, o :: l => match o.dst with
    | none => none
    | some d => bif Nat.blt d n then
      match o.guard with
      | none => match run1 L o.op with
        | some v => runs ops n m ((d, v) :: L) l
        | none => none
      | some (j, want) => match (ops[j]?).bind (·.dst) with
        | none => none
        | some t => match L.get t with
          | none => none
          | some v => bif isB want v then (match run1 L o.op with
            | some u => runs ops n m ((d, u) :: L) l
            | none => none) else runs ops n m ((d, undef) :: L) l
      else none
  | _ + 1, _, [] => none
section
variable {P : Program} {n : Nat} {L : Env} {w : World} {Q : Exit → Act → World → Prop}
theorem bin1_ok {op : BinOp} {T : TypeId} {x y : Int} {v : Value} (h : bin1 op x y = some v) : BinR P op T (vI x) (vI y) v := by
  cases op <;> simp only [bin1] at h <;> first | (cases h; fail) | (injection h with h; subst h; first | exact b_iadd _ _ _ | exact b_isub _ _ _ | exact b_ieql _ _ _ | exact b_ineq _ _ _ | exact b_ilss _ _ _ | exact b_ileq _ _ _ | exact b_igtr _ _ _ | exact b_igeq _ _ _) | cases h
theorem run1_ok {d : Option Tmp} {op : Op} {v : Value} {ty : TypeId} {pos : String} {after : Array Edge} (h : run1 L op = some v) : OpV P n L w ⟨d, op, ty, pos, after, none⟩ v w := by
  unfold run1 at h
  split at h
  · exact km h
  · exact kA h
  · split at h
    · rename_i e; exact kd1 e h
    · rename_i e; exact ke1 e h
    · cases h
  · split at h
    · rename_i e
      refine kV e ?_
      rw [← Array.getElem?_toList]; exact h
    · cases h
  · split at h
    · rename_i e; cases h; exact kc1 e (u_not _)
    · cases h
  · split at h
    · rename_i e1 e2; exact kt e1 e2 (bin1_ok h)
    · cases h
  · cases h
theorem kb {ops : Array Oper} : ∀ (m : Nat) {L L' : Env} {rest rest' : List Oper}, runs ops n m L rest = some (L', rest') → wpR P n ops Q rest' L' w → wpR P n ops Q rest L w
  | 0, L, L', rest, rest', h, k => by simp only [runs] at h; cases h; exact k
  | m + 1, L, L', [], rest', h, k => by simp [runs] at h
  | m + 1, L, L', o :: l, rest', h, k => by
    obtain ⟨dst, op, ty, pos, after, guard⟩ := o
    simp only [runs] at h
    cases dst with
    | none => cases h
    | some d =>
      simp only at h
      cases hd : Nat.blt d n with
      | false => rw [hd] at h; cases h
      | true =>
        rw [hd] at h
        simp only [cond_true] at h
        cases guard with
        | none =>
          simp only at h
          cases hv : run1 L op with
          | none => rw [hv] at h; cases h
          | some v => rw [hv] at h; exact ki (run1_ok hv) hd (kb m h k)
        | some g =>
          obtain ⟨j, want⟩ := g
          simp only at h
          cases hj : (ops[j]?).bind (·.dst) with
          | none => rw [hj] at h; cases h
          | some t =>
            rw [hj] at h
            simp only at h
            cases hg : L.get t with
            | none => rw [hg] at h; cases h
            | some v =>
              rw [hg] at h
              simp only at h
              cases hb : isB want v with
              | true =>
                rw [hb] at h
                simp only [cond_true] at h
                have hv2 : v = vB want := by
                  cases v <;> simp [isB] at hb
                  subst hb; rfl
                subst hv2
                cases hv : run1 L op with
                | none => rw [hv] at h; cases h
                | some u => rw [hv] at h; exact kT hj hg (run1_ok hv) hd (kb m h k)
              | false =>
                rw [hb] at h
                simp only [cond_false] at h
                intro a ha
                unfold wpList
                rw [if_neg (by
                  have := ha.get t _ hg
                  simp only [Region.wanted, yielded, hj, Option.bind_some, this]
                  cases v <;> simp_all [isB])]
                exact kb m h k _ (ha.put hd)
end
end Go.Gk
end
