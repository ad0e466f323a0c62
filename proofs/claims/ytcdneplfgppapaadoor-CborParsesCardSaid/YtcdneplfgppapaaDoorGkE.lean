/- Operations that make or write memory, calls and returns, as rules of the walk: lemmas only. -/
import Derived.Test.YtcdneplfgppapaaDoorGkF
import Derived.Lib.ConvBytes
set_option linter.unusedSimpArgs false
namespace Go.Gk
open Go Go.RowKit

section
variable {P : Program} {n : Nat} {L : Env} {w w0 : World} {Q : Exit → Act → World → Prop} {S : List Nat} {os : List OE}
variable {d : Option Tmp} {ty : TypeId} {pos : String} {after : Array Edge}

theorem OpX_run {o : Oper} {Φ : Value → World → Prop} (v : Value) (w' : World) (hv : OpV P n L w o v w') (h : Φ v w') : OpX P n L w o Φ := ⟨v, w', hv, h⟩
theorem OpY_run {o : Oper} {Φ : World → Prop} (w' : World) (hv : OpS P n L w o w') (h : Φ w') : OpY P n L w o Φ := ⟨w', hv, h⟩

theorem St.fresh (h : St S w0 w os) : fre S w0.heap.size w.heap.size := .inl h.fr.size

/-! make -/
theorem made_take (z : Array Value) (sz c l : Nat) {τ : Type} (e : Enc τ) (t0 : τ) (hz : z.toList = e.cells t0) (hs : e.sz = sz) (hl : l ≤ c) :
    (madeCells z (c * sz)).toList.take (l * sz) = e.fl (List.replicate l t0) := by
  have hsz : z.size = sz := by rw [← Array.length_toList, hz, e.len, hs]
  apply List.ext_getElem?
  intro k
  rw [List.getElem?_take]
  split
  · rename_i hk
    have hpos : 0 < sz := by
      rcases Nat.eq_zero_or_pos sz with h | h
      · subst h; simp at hk
      · exact h
    have hk2 : k < c * sz := Nat.lt_of_lt_of_le hk (Nat.mul_le_mul_right _ hl)
    have hmod : k % sz < sz := Nat.mod_lt _ hpos
    have hdiv : k / sz < l := (Nat.div_lt_iff_lt_mul hpos).2 hk
    have e1 : k = k / sz * e.sz + k % sz := by rw [hs, Nat.mul_comm]; exact (Nat.div_add_mod k sz).symm
    have h1 := e.fl_get (List.replicate l t0) (k / sz) t0 (by simp [List.getElem?_replicate, hdiv]) (k % sz) (by rw [hs]; exact hmod)
    rw [← e1] at h1
    rw [h1, ← hz]
    simp only [madeCells, Array.toList_map, Array.toList_range, List.getElem?_map, List.getElem?_range hk2, Option.map_some, hsz]
    rw [getElem!_pos z (k % sz) (by rw [hsz]; exact hmod)]
    simp [hsz, hmod]
  · rename_i hk
    rw [List.getElem?_eq_none]
    rw [e.fl_length, List.length_replicate, hs]
    omega

theorem OpX_make {T E : TypeId} {x y : Operand} {k k' : IntKind} {l c : Int} {τ : Type} {e : Enc τ} {t0 : τ} {z : Value} {bytes : Nat} (hT : P.underlying T = some (.slice E)) (hE : TI P E z e.sz bytes) (hz : z.cells.toList = e.cells t0)
    (hx : L.ev x = some (.int k l)) (hy : L.ev y = some (.int k' c)) (hS : St S w0 w os) (h0 : 0 ≤ l) (h1 : l ≤ c) (h2 : (bytes : Int) * c ≤ 281474976710656) (h3 : c ≤ 9223372036854775807) :
    OpX P n L w ⟨d, .makeSlice T x y, ty, pos, after, none⟩ (fun v w' => St S w0 w' (own e v (List.replicate l.toNat t0) :: os)) := by
  obtain ⟨inf, hi, hz', hs, hb⟩ := hE.get
  have hr := run_make (P := P) w T E inf z hT hi hz' k k' l c h0 h1 (by rw [hb]; exact h2) h3
  refine OpX_run (.slice (some ⟨w.heap.size, 0, none⟩) l.toNat c.toNat) (w.alloc (.cells (madeCells z.cells (c.toNat * inf.size)) E)) (fun a ha => ?_) ?_
  · simp only [execOp, ha.ev hx, ha.ev hy, Sem.run_bind, hr, Result.andThen_ok]; rfl
  · refine hS.push (Fr.alloc _ _ _) (o := own e _ _) ?_ ?_
    · refine ⟨e.fl_length _, .inr ⟨w.heap.size, c.toNat, madeCells z.cells (c.toNat * inf.size), E, ?_, hS.fresh, heap_alloc_new w _, ?_, ?_, ?_, ?_⟩⟩
      · simp
      · simp; omega
      · simp [maxLen]; omega
      · rw [size_madeCells, hs]; exact Nat.le_refl _
      · rw [hs, List.length_replicate]
        exact made_take z.cells e.sz c.toNat l.toNat e t0 hz rfl (by omega)
    · intro k hk
      simp [OE.blk, Value.ownBlock] at hk
      omega

/-! a slice literal of one-cell elements -/
theorem fill_one (sz : Nat) (hsz : sz = 1) : ∀ (vs : List Value) (k : Nat) (cells : Array Value), (∀ v ∈ vs, v.oneCell' = true) → k + vs.length ≤ cells.size →
    Instr.fill (fun i => some (i * sz, sz)) cells (vs.zipIdx k |>.map fun p => (p.2, p.1)) = some (cells.toList.take k ++ vs ++ cells.toList.drop (k + vs.length)).toArray
  | [], k, cells, _, _ => by simp [Instr.fill]
  | v :: r, k, cells, h1, hk => by
    subst hsz
    have hv : v.cells = #[v] := by have := h1 v (by simp); cases v <;> simp_all [Value.cells, Value.oneCell']
    have ih := fill_one 1 rfl r (k + 1) (cells.setIfInBounds k v) (fun u hu => h1 u (by simp [hu])) (by simp at hk ⊢; omega)
    simp only [List.zipIdx_cons, List.map_cons, Instr.fill, hv]
    rw [if_neg (by simp at hk ⊢; omega)]
    have hz1 : (#[v] : Array Value).zipIdx.foldl (fun cs (x : Value × Nat) => cs.setIfInBounds (k * 1 + x.2) x.1) cells = cells.setIfInBounds k v := by
      have : (#[v] : Array Value).zipIdx = #[(v, 0)] := rfl
      rw [this]; simp
    rw [hz1, ih]
    congr 2
    have e := list_seg_step cells.toList k v r (by simp at hk ⊢; omega)
    simpa [Array.toList_setIfInBounds, Nat.add_assoc] using e

/-- The parts of a literal, evaluated. -/
def Env.parts (L : Env) : List (Nat × Operand) → Nat → Option (List Value)
  | [], _ => some []
  | (i, x) :: r, k => if i = k then match L.ev x, Env.parts L r (k + 1) with
    | some v, some vs => some (v :: vs)
    | _, _ => none
    else none
theorem Env.parts_eq {L : Env} {a : Act} (ha : Rep n L a) : ∀ {ps : List (Nat × Operand)} {k : Nat} {vs : List Value}, L.parts ps k = some vs → ps.map (fun p => (p.1, a.eval p.2)) = (vs.zipIdx k).map fun p => (p.2, p.1)
  | [], k, vs, h => by simp [Env.parts] at h; subst h; rfl
  | (i, x) :: r, k, vs, h => by
    simp only [Env.parts] at h
    split at h
    · rename_i hik
      cases hx : L.ev x with
      | none => simp [hx] at h
      | some v =>
        cases hr : L.parts r (k + 1) with
        | none => simp [hx, hr] at h
        | some us =>
          simp [hx, hr] at h
          subst h
          simp only [List.map_cons, List.zipIdx_cons, ha.ev hx, Env.parts_eq ha hr, hik]
    · cases h

theorem OpX_lit {T E : TypeId} {m : Nat} {ps : List (Nat × Operand)} {vs : List Value} {τ : Type} {e : Enc τ} {l : List τ} {z : Value} {bytes : Nat} (hT : P.underlying T = some (.slice E)) (hE : TI P E z 1 bytes)
    (hp : L.parts ps 0 = some vs) (hm : vs.length = m) (hsz : e.sz = 1) (hl : e.fl l = vs) (hm0 : 0 < m) (hms : m ≤ 16777216) (hS : St S w0 w os) :
    OpX P n L w ⟨d, .buildSlice T m ps.toArray, ty, pos, after, none⟩ (fun v w' => St S w0 w' (own e v l :: os)) := by
  obtain ⟨inf, hi, hz', hs, hb⟩ := hE.get
  have hlen : l.length = m := by have := e.fl_length l; rw [hl, hm, hsz] at this; omega
  have hone : ∀ v ∈ vs, v.oneCell' = true := by rw [← hl]; exact e.fl_one l
  have hf := fill_one inf.size hs vs 0 ((Array.range (m * inf.size)).map (z.cells[· % z.cells.size]!)) hone (by simp [hs, hm])
  simp only [List.take_zero, List.nil_append, Nat.zero_add] at hf
  rw [List.drop_eq_nil_of_le (by simp [hs, hm]), List.append_nil] at hf
  refine OpX_run (.slice (some ⟨w.heap.size, 0, none⟩) m m) (w.alloc (.cells vs.toArray E)) (fun a ha => ?_) ?_
  · have hpe : (ps.toArray.map fun x => (x.1, a.eval x.2)).toList = (vs.zipIdx 0).map fun p => (p.2, p.1) := by
      simp only [Array.toList_map]
      exact Env.parts_eq ha hp
    have hr := run_buildSlice (P := P) w T E m (ps.toArray.map fun x => (x.1, a.eval x.2)) vs.toArray inf z hT hi hz' (by rw [hs]; simp; omega) (by rw [hs]; simp; omega) (by rw [hpe]; exact hf)
    simp only [execOp, Sem.run_bind, hr, Result.andThen_ok]; rfl
  · refine hS.push (Fr.alloc _ _ _) (o := own e _ _) ?_ ?_
    · refine ⟨e.fl_length _, .inr ⟨w.heap.size, m, vs.toArray, E, ?_, hS.fresh, heap_alloc_new w _, ?_, ?_, ?_, ?_⟩⟩
      · rw [hlen]
      · omega
      · simp [maxLen]; omega
      · simp [hsz, hm]
      · rw [hlen, hsz, hl]; simp; exact List.take_of_length_le (by omega)
    · intro k hk
      simp [OE.blk, Value.ownBlock] at hk
      omega

/-! append -/
theorem grow_fits {need old bytes : Nat} (h : old < need) (hb : need * bytes ≤ 225000000000000) (hby : bytes ≤ 65536) : Builtin.nextslicecap need old * bytes ≤ 281474976710656 := by
  have key : Builtin.nextslicecap need old ≤ need + need / 4 + 512 := by
    unfold Builtin.nextslicecap
    split
    · omega
    · split
      · omega
      · rename_i h1 h2
        rw [growBy_four]
        repeat' split
        all_goals omega
  calc Builtin.nextslicecap need old * bytes ≤ (need + need / 4 + 512) * bytes := Nat.mul_le_mul_right _ key
    _ = need * bytes + need / 4 * bytes + 512 * bytes := by rw [Nat.add_mul, Nat.add_mul]
    _ ≤ 281474976710656 := by
      have : need / 4 * bytes ≤ need * bytes / 4 := by
        rw [Nat.le_div_iff_mul_le (by omega)]
        calc need / 4 * bytes * 4 = need / 4 * 4 * bytes := by rw [Nat.mul_assoc, Nat.mul_comm bytes 4, ← Nat.mul_assoc]
          _ ≤ need * bytes := Nat.mul_le_mul_right _ (Nat.div_mul_le_self _ _)
      omega

theorem run_append_room' (t ty e : TypeId) (i : TypeInfo) (ht : P.underlying t = some (.slice e)) (hi : P.info? e = some i)
    (g sLen sCap : Nat) (cur : Array Value) (T : TypeId) (hg : w.heap[g]? = some (.cells cur T (0, 0)))
    (a : Addr) (m c : Nat) (news : List Value) (hl : news.length = m * i.size) (hnews : ∀ j u, news[j]? = some u → w.cell? (a.add j) = some u) (h1 : ∀ u ∈ news, u.oneCell' = true)
    (hroom : sLen + m ≤ sCap) (hfit : sLen * i.size + news.length ≤ cur.size) :
    (Builtin.append_ #[t, t] ty #[.slice (some ⟨g, 0, none⟩) sLen sCap, .slice (some a) m c]).run P w =
      .ok (.slice (some ⟨g, 0, none⟩) (sLen + m) sCap) (w.setRow g (cur.toList.take (sLen * i.size) ++ news ++ cur.toList.drop (sLen * i.size + news.length)).toArray) := by
  have hf := run_firstCells_some (P := P) w i.size m a m c news hl hnews
  have hst := run_storeCells_at P g (sLen * i.size) T news 0 cur w hg (by simpa using hfit) h1
  simp only [Nat.add_zero] at hst
  simp [Builtin.append_, run_underlying ht, sizeOf, typeInfo, hi, Builtin.lenOf, hroom, hf, Addr.add_lit, hst]

theorem run_append_none (t ty e : TypeId) (i : TypeInfo) (ht : P.underlying t = some (.slice e)) (hi : P.info? e = some i) (v : Value) (b : Option Addr) (sLen sCap c : Nat) (hv : v = .slice b sLen sCap) (hle : sLen ≤ sCap) (x : Option Addr) :
    (Builtin.append_ #[t, t] ty #[v, .slice x 0 c]).run P w = .ok v w := by
  subst hv
  cases b <;> cases x <;> simp [Builtin.append_, run_underlying ht, sizeOf, typeInfo, hi, Builtin.lenOf, hle, Builtin.firstCells, loadCells, loadCellsFrom, storeCells]

theorem run_append_gk {T E ty : TypeId} {τ : Type} {e : Enc τ} {z : Value} {bytes : Nat} {v u : Value} {l m : List τ} {B : Nat} (hT : P.underlying T = some (.slice E)) (hE : TI P E z e.sz bytes) (hz : z.cells.size = e.sz) (hby : bytes ≤ 65536) (hby0 : 0 < bytes)
    (ho : (own e v l).ok S B w) (hu : RO w e u m) (hB : B ≤ w.heap.size) (hb : (l.length + m.length) * bytes ≤ 225000000000000) :
    ∃ v' w', (Builtin.append_ #[T, T] ty #[v, u]).run P w = .ok v' w' ∧ (own e v' (l ++ m)).ok S B w' ∧ Fr (own e v l).blk.toList w w' ∧ (∀ k, (own e v' (l ++ m)).blk = some k → (own e v l).blk = some k ∨ w.heap.size ≤ k) := by
  obtain ⟨inf, hi, hz', hs, hbb⟩ := hE.get
  obtain ⟨ua, c, rfl, hc, hr⟩ := hu
  by_cases hm : m = []
  · subst hm
    rcases ho.2 with ⟨rfl, hn⟩ | ⟨g, cap, cur, T', rfl, hfr, hg, hnc, hcm, hcs, htake⟩
    · have hl : l = [] := List.eq_nil_of_length_eq_zero hn
      subst hl
      refine ⟨_, w, run_append_none T ty E inf hT hi _ none 0 0 c rfl (Nat.le_refl _) ua, ?_, Fr.refl _ _, fun k hk => .inl (by simpa using hk)⟩
      simpa using ho
    · refine ⟨_, w, run_append_none T ty E inf hT hi _ (some ⟨g, 0, none⟩) l.length cap c rfl hnc ua, ?_, Fr.refl _ _, fun k hk => .inl (by simpa using hk)⟩
      simpa using ho
  · obtain ⟨b, off, rfl, hcell⟩ := hr hm
    have hcell' : ∀ j x, (e.fl m)[j]? = some x → w.cell? ((⟨b, off, none⟩ : Addr).add j) = some x := fun j x hj => by rw [add_none]; exact hcell j x hj
    have hml : (e.fl m).length = m.length * inf.size := by rw [hs]; exact e.fl_length m
    have hm0 : 0 < m.length := List.length_pos_iff.2 hm
    have h63 : l.length + m.length ≤ 225000000000000 := Nat.le_trans (Nat.le_mul_of_pos_right _ hby0) hb
    rcases ho.2 with ⟨rfl, hn⟩ | ⟨g, cap, cur, T', rfl, hfr, hg, hnc, hcm, hcs, htake⟩
    · have hl : l = [] := List.eq_nil_of_length_eq_zero hn
      subst hl
      simp only [List.length_nil, Nat.zero_add] at hb h63
      have hrun := run_append_nil (P := P) w T ty E inf z hT hi hz' ⟨b, off, none⟩ m.length c (e.fl m) hml hcell' hm0 (by omega) (by rw [hbb]; omega)
      refine ⟨_, _, hrun, ⟨e.fl_length _, .inr ⟨w.heap.size, grownCap w m.length 0 E, _, E, ?_, ?_, heap_alloc_new w.drew _, ?_, ?_, ?_, ?_⟩⟩, ?_, ?_⟩
      · simp
      · exact .inl hB
      · simp; exact grownCap_ge w m.length 0 E
      · exact grownCap_le_maxLen w m.length 0 E (by simp [maxLen]; omega)
      · have := grownCap_ge w m.length 0 E
        simp only [Array.size_append, List.size_toArray, size_zeroCells, hz, e.fl_length, ← Nat.add_mul]
        exact Nat.mul_le_mul_right _ (by omega)
      · simp only [List.nil_append, Array.toList_append, List.toList_toArray]
        rw [← e.fl_length]
        exact List.take_left
      · exact (Fr.drew _ w).trans (Fr.alloc _ _ _)
      · intro k hk
        simp [OE.blk, Value.ownBlock] at hk
        right; omega
    · by_cases hroom : l.length + m.length ≤ cap
      · have hfit : l.length * inf.size + (e.fl m).length ≤ cur.size := by
          rw [hml, ← Nat.add_mul]
          exact Nat.le_trans (Nat.mul_le_mul_right _ hroom) (by rw [hs]; exact hcs)
        have hrun := run_append_room' (w := w) T ty E inf hT hi g l.length cap cur T' hg ⟨b, off, none⟩ m.length c (e.fl m) hml hcell' (e.fl_one m) hroom hfit
        refine ⟨_, _, hrun, ⟨e.fl_length _, .inr ⟨g, cap, _, T', ?_, hfr, setRow_heap w g cur _ T' _ hg, ?_, hcm, ?_, ?_⟩⟩, ?_, ?_⟩
        · simp
        · simpa using hroom
        · simp only [List.size_toArray, List.length_append, List.length_take, List.length_drop, Array.length_toList] at hfit ⊢
          omega
        · rw [hs, htake, List.length_append, Nat.add_mul]
          simp only [List.append_assoc]
          rw [← List.append_assoc, ← e.fl_append]
          have : l.length * e.sz + m.length * e.sz = (e.fl (l ++ m)).length := by rw [e.fl_length, List.length_append, Nat.add_mul]
          rw [this]
          exact List.take_left
        · exact Fr.setRow w g _
        · intro k hk
          left
          simpa [OE.blk, Value.ownBlock] using hk
      · have holds : ∀ j x, (e.fl l)[j]? = some x → w.cell? ((⟨g, 0, none⟩ : Addr).add j) = some x := fun j x hj => by
          rw [add_none, Nat.zero_add, cell_of_row w g j cur T' (0, 0) hg]
          rw [← htake, List.getElem?_take] at hj
          split at hj
          · simpa using hj
          · cases hj
        have hll : (e.fl l).length = l.length * inf.size := by rw [hs]; exact e.fl_length l
        have hrun := run_append_grow (P := P) w T ty E inf z hT hi hz' ⟨g, 0, none⟩ l.length cap (e.fl l) hll holds ⟨b, off, none⟩ m.length c (e.fl m) hml hcell' (by omega) (by omega)
          (by rw [hbb]; exact grow_fits (by omega) hb hby)
        refine ⟨_, _, hrun, ⟨e.fl_length _, .inr ⟨w.heap.size, grownCap w (l.length + m.length) cap E, _, E, ?_, ?_, heap_alloc_new w.drew _, ?_, ?_, ?_, ?_⟩⟩, ?_, ?_⟩
        · simp
        · exact .inl hB
        · simp; exact grownCap_ge w (l.length + m.length) cap E
        · exact grownCap_le_maxLen w (l.length + m.length) cap E (by simp [maxLen]; omega)
        · have := grownCap_ge w (l.length + m.length) cap E
          simp only [Array.size_append, List.size_toArray, size_zeroCells, hz, e.fl_length, ← Nat.add_mul]
          exact Nat.mul_le_mul_right _ (by omega)
        · simp only [Array.toList_append, List.append_assoc]
          rw [← List.append_assoc, ← e.fl_append, ← e.fl_length]
          exact List.take_left
        · exact (Fr.drew _ w).trans (Fr.alloc _ _ _)
        · intro k hk
          simp [OE.blk, Value.ownBlock] at hk
          right; omega

theorem OpX_append {x y : Operand} {T E : TypeId} {τ : Type} {e : Enc τ} {z : Value} {bytes : Nat} {v u : Value} {l m : List τ} {i : Nat} (hT : P.underlying T = some (.slice E)) (hE : TI P E z e.sz bytes) (hz : z.cells.size = e.sz) (hby : bytes ≤ 65536) (hby0 : 0 < bytes)
    (hx : L.ev x = some v) (hy : L.ev y = some u) (hS : St S w0 w os) (hi : os[i]? = some (own e v l)) (hu : RO w e u m) (hb : (l.length + m.length) * bytes ≤ 225000000000000) :
    OpX P n L w ⟨d, .call ⟨.builtin .append, #[x, y], #[T, T]⟩, ty, pos, after, none⟩ (fun v' w' => St S w0 w' (os.set i (own e v' (l ++ m)))) := by
  obtain ⟨v', w', hr, h1, h2, h3⟩ := run_append_gk (ty := ty) hT hE hz hby hby0 (hS.ok _ (List.mem_of_getElem? hi)) hu hS.fr.size hb
  refine OpX_run v' w' (fun a ha => ?_) (hS.set hi h2 h1 h3)
  simp [execOp, resolve, invoke, builtin, ha.ev hx, ha.ev hy, hr]

/-- append to nothing: a nil slice. -/
theorem OpX_append0 {x y : Operand} {T E : TypeId} {τ : Type} {e : Enc τ} {z : Value} {bytes : Nat} {u : Value} {m : List τ} (hT : P.underlying T = some (.slice E)) (hE : TI P E z e.sz bytes) (hz : z.cells.size = e.sz) (hby : bytes ≤ 65536) (hby0 : 0 < bytes)
    (hx : L.ev x = some (.slice none 0 0)) (hy : L.ev y = some u) (hS : St S w0 w os) (hu : RO w e u m) (hb : m.length * bytes ≤ 225000000000000) :
    OpX P n L w ⟨d, .call ⟨.builtin .append, #[x, y], #[T, T]⟩, ty, pos, after, none⟩ (fun v' w' => St S w0 w' (own e v' m :: os)) := by
  have hn : (own e (.slice none 0 0) ([] : List τ)).ok S w0.heap.size w := ⟨by simp, .inl ⟨rfl, rfl⟩⟩
  obtain ⟨v', w', hr, h1, h2, h3⟩ := run_append_gk (ty := ty) hT hE hz hby hby0 hn hu hS.fr.size (by simpa using hb)
  refine OpX_run v' w' (fun a ha => ?_) (hS.push (by simpa [OE.blk, Value.ownBlock] using h2) h1 fun k hk => ?_)
  · simp [execOp, resolve, invoke, builtin, ha.ev hx, ha.ev hy, hr]
  · rcases h3 k hk with h | h
    · simp [OE.blk, Value.ownBlock] at h
    · exact h

/-! a store -/
theorem setE_fl {τ : Type} (e : Enc τ) (l : List τ) (j : Nat) (t : τ) (u : Value) (hu : e.cells t = [u]) (hj : j < l.length) : e.fl (l.set j t) = (e.fl l).set (j * e.sz) u := by
  have hsz : e.sz = 1 := by rw [← e.len t, hu]; rfl
  have key : ∀ (l : List τ) (j : Nat), j < l.length → e.fl (l.set j t) = (e.fl l).set j u := by
    intro l
    induction l with
    | nil => intro j hj; simp at hj
    | cons a r ih =>
      intro j hj
      have ha : ∃ b, e.cells a = [b] := List.length_eq_one_iff.1 (by rw [e.len, hsz])
      obtain ⟨b, hb⟩ := ha
      cases j with
      | zero => simp [Enc.fl, hu, hb]
      | succ j =>
        have := ih j (by simpa using hj)
        simp only [Enc.fl, List.set_cons_succ, List.flatMap_cons, hb, List.singleton_append] at this ⊢
        rw [this]
  rw [key l j hj, hsz, Nat.mul_one]

theorem run_storeVar1 {T : TypeId} {z : Value} {bytes : Nat} (hT : TI P T z 1 bytes) {g j : Nat} {cur : Array Value} {T' : TypeId} {u : Value} (hg : w.heap[g]? = some (.cells cur T' (0, 0))) (hj : j < cur.size) (hu : u.oneCell' = true) :
    (storeVar T ⟨g, j, none⟩ u).run P w = .ok () (w.setRow g (cur.toList.set j u).toArray) := by
  obtain ⟨inf, hi, _, hs, _⟩ := hT.get
  have hc : u.cells = #[u] := by cases u <;> simp_all [Value.cells, Value.oneCell']
  have hst := run_storeCells_at P g j T' [u] 0 cur w hg (by simp; omega) (by simpa using hu)
  have he : (cur.toList.take (j + 0) ++ [u] ++ cur.toList.drop (j + 0 + [u].length)) = cur.toList.set j u := by
    simp only [Nat.add_zero, List.length_singleton]
    rw [List.set_eq_take_append_cons_drop, if_pos (by simpa using hj)]
    simp
  rw [he] at hst
  simp [storeVar, sizeOf, typeInfo, hi, hs, hc, hst]

theorem OpY_storeE {x y : Operand} {T : TypeId} {τ : Type} {e : Enc τ} {z : Value} {bytes : Nat} {v u : Value} {l : List τ} {i j : Nat} {t : τ} (hT : TI P T z 1 bytes)
    (hx : L.ev x = some (pP (ixA v e.sz j))) (hy : L.ev y = some u) (hu : e.cells t = [u]) (hS : St S w0 w os) (hi : os[i]? = some (own e v l)) (hj : j < l.length) :
    OpY P n L w ⟨none, .store T x y, ty, pos, after, none⟩ (fun w' => St S w0 w' (os.set i (own e v (l.set j t)))) := by
  have hok := hS.ok _ (List.mem_of_getElem? hi)
  have hsz : e.sz = 1 := by rw [← e.len t, hu]; rfl
  have hu1 : u.oneCell' = true := e.one t u (by rw [hu]; simp)
  rcases hok.2 with ⟨rfl, hn⟩ | ⟨g, cap, cur, T', rfl, hfr, hg, hnc, hcm, hcs, htake⟩
  · omega
  · have hjc : j < cur.size := by rw [hsz] at hcs; omega
    have hix : ixA (.slice (some ⟨g, 0, none⟩) l.length cap) e.sz j = ⟨g, j, none⟩ := by simp [ixA, add_none, hsz]
    rw [hix] at hx
    have hr := run_storeVar1 (P := P) (T := T) hT hg hjc hu1
    refine OpY_run (w.setRow g (cur.toList.set j u).toArray) (fun a ha => ?_) (hS.set hi (Fr.setRow w g _) (o' := own e _ _) ⟨e.fl_length _, .inr ⟨g, cap, _, T', by simp, hfr, setRow_heap w g cur _ T' _ hg, by simpa using hnc, hcm, by simpa using hcs, ?_⟩⟩ fun k hk => .inl hk)
    · simp [execOp, ha.ev hx, ha.ev hy, Instr.storeAt, Instr.sureAddr, hr]
    · simp only [List.length_set]
      rw [setE_fl e l j t u hu hj, ← htake, hsz, Nat.mul_one, Nat.mul_one, List.take_set]

/-! a text as bytes -/
theorem OpX_bytes {D T E : TypeId} {x : Operand} {l : List UInt8} (hD : P.underlying D = some .string) (hT : P.underlying T = some (.slice E)) (hE : P.underlying E = some (.int .u8))
    (hx : L.ev x = some (vS l)) (hS : St S w0 w os) :
    OpX P n L w ⟨d, .convert D T x, ty, pos, after, none⟩ (fun v w' => St S w0 w' (red e8 v l :: os)) := by
  have hr := Lib.run_convert_string_bytes (P := P) w D T E ⟨⟨l⟩⟩ hD hT hE
  have hfr : Fr [] w (Lib.bytesWorld w E ⟨⟨l⟩⟩) := ⟨rfl, rfl, rfl, by rw [Lib.bytesWorld_size]; omega, fun k hk _ => Lib.bytesWorld_at_old w E ⟨⟨l⟩⟩ k hk⟩
  have hok : (red e8 (.slice (some ⟨w.heap.size, 0, none⟩) l.length (grownCap w (⟨⟨l⟩⟩ : ByteArray).size 0 E)) l).ok S w0.heap.size (Lib.bytesWorld w E ⟨⟨l⟩⟩) := by
    refine ⟨e8.fl_length l, _, _, rfl, grownCap_ge w _ 0 E, fun _ => ⟨w.heap.size, 0, rfl, ?_, hS.fresh, fun j u hj => ?_⟩⟩
    · rw [Lib.bytesWorld_size]; exact Nat.lt_succ_self _
    · rw [fl_e8] at hj
      have hjl : j < l.length := by
        have := (List.getElem?_eq_some_iff.1 hj).1
        simpa using this
      rw [Nat.zero_add, Lib.bytesWorld_cell w E ⟨⟨l⟩⟩ j hjl]
      simp [hjl] at hj
      subst hj
      simp [List.getD, hjl]
  have hst : St S w0 (Lib.bytesWorld w E ⟨⟨l⟩⟩) (red e8 (.slice (some ⟨w.heap.size, 0, none⟩) l.length (grownCap w (⟨⟨l⟩⟩ : ByteArray).size 0 E)) l :: os) := hS.push hfr hok fun k hk => by
    simp only [OE.blk] at hk
    split at hk
    · cases hk
    · simp [Value.ownBlock] at hk; omega
  refine OpX_run _ _ (fun a ha => ?_) hst
  simp only [execOp, ha.ev hx, Sem.run_bind, hr, Result.andThen_ok]; rfl

/-! calls -/
def Ret (φ : Value → World → Prop) : Ending → World → Prop := fun e w => match e with
  | .returned v => φ v w
  | _ => False

def isGo (P : Program) (f : FuncId) : Bool := match P.funcs[f]? with
  | some fn => fn.body.isSome && fn.name != "runtime.NumGoroutine"
  | none => false

theorem run_callFunc {f : FuncId} {args : Array Value} (h : isGo P f = true) : (callFunc f args).run P w = .ok (.enter f args) w := by
  unfold isGo at h
  split at h
  · rename_i fn hf
    simp only [Bool.and_eq_true] at h
    have h1 : ¬ (fn.name == "runtime.NumGoroutine") = true := by simpa using h.2
    have h2 : fn.body.isNone = false := by cases hb : fn.body <;> simp_all
    simp only [callFunc, Sem.run_bind, program, Sem.run, Result.andThen_ok, hf, h1, h2]
    rfl
  · cases h

theorem run_call {o : Oper} {f : FuncId} {xs : List Operand} {ts : Array TypeId} {vs : List Value} {a : Act} (ho : o.op = .call ⟨.value (.func f), xs.toArray, ts⟩)
    (hf : isGo P f = true) (hargs : xs.map a.eval = vs) : (execOp a.eval o).run P w = .ok (.enter f vs.toArray) w := by
  simp only [execOp, ho, resolve, Act.eval, Deferred.ofValue, Sem.run_bind, Sem.run_pure, Result.andThen_ok, invoke]
  have : (#[] ++ Array.map a.eval xs.toArray ++ #[] : Array Value) = vs.toArray := by simp [hargs]
  rw [this]
  exact run_callFunc hf

theorem wp_call {o : Oper} {f : FuncId} {xs : List Operand} {ts : Array TypeId} {vs : List Value} {φ : Value → World → Prop} {K : Act → World → Prop} {a : Act} (ho : o.op = .call ⟨.value (.func f), xs.toArray, ts⟩)
    (hf : isGo P f = true) (hargs : xs.map a.eval = vs) (hc : Calls P f vs.toArray w (Ret φ)) (k : ∀ v w', φ v w' → K (a.put o.dst v) w') : o.wp P a w K Q := by
  unfold Oper.wp
  rw [run_call ho hf hargs]
  refine Calls.mono hc fun e w' he => ?_
  cases e with
  | returned v => exact k v w' he
  | panicked c => exact he.elim
  | outgrown => exact he.elim

theorem wpR_call {ops : Array Oper} {rest : List Oper} {d : Nat} {f : FuncId} {xs : List Operand} {ts : Array TypeId} {vs : List Value} {φ : Value → World → Prop}
    (hf : isGo P f = true) (hargs : L.evs xs = some vs) (hc : Calls P f vs.toArray w (Ret φ)) (hd : Nat.blt d n = true)
    (k : ∀ v w', φ v w' → wpR P n ops Q rest ((d, v) :: L) w') : wpR P n ops Q (⟨some d, .call ⟨.value (.func f), xs.toArray, ts⟩, ty, pos, after, none⟩ :: rest) L w := fun a ha => by
  unfold wpList
  rw [if_pos (by simp [Region.wanted])]
  exact .inl (wp_call rfl hf (ha.evs hargs) hc fun v w' h => k v w' h _ (ha.put hd))
theorem wpR_call0 {ops : Array Oper} {rest : List Oper} {f : FuncId} {xs : List Operand} {ts : Array TypeId} {vs : List Value} {φ : Value → World → Prop}
    (hf : isGo P f = true) (hargs : L.evs xs = some vs) (hc : Calls P f vs.toArray w (Ret φ))
    (k : ∀ v w', φ v w' → wpR P n ops Q rest L w') : wpR P n ops Q (⟨none, .call ⟨.value (.func f), xs.toArray, ts⟩, ty, pos, after, none⟩ :: rest) L w := fun a ha => by
  unfold wpList
  rw [if_pos (by simp [Region.wanted])]
  exact .inl (wp_call rfl hf (ha.evs hargs) hc fun v w' h => k v w' h _ ha)
theorem lxE_call {ops : Array Oper} {C D : World → Prop} {fl : Nat → Bool} {i : Nat} {r : List Nat} {d : Nat} {f : FuncId} {xs : List Operand} {ts : Array TypeId} {vs : List Value} {φ : Value → World → Prop} (hC : C w)
    (ho : ops[i]? = some ⟨some d, .call ⟨.value (.func f), xs.toArray, ts⟩, ty, pos, after, none⟩) (hfl : fl i = false)
    (hf : isGo P f = true) (hargs : L.evs xs = some vs) (hc : Calls P f vs.toArray w (Ret φ)) (hd : Nat.blt d n = true)
    (k : ∀ v w', φ v w' → lxE P n ops C D Q fl r ((d, v) :: L) w') : lxE P n ops C D Q fl (i :: r) L w := fun a ha => by
  refine ⟨hC, ?_⟩
  simp only [ho, hfl, Bool.false_eq_true, if_false]
  unfold wpOp
  simp only [ho]
  rw [if_pos (by simp [Region.wanted])]
  exact .inl (wp_call rfl hf (ha.evs hargs) hc fun v w' h => k v w' h _ (ha.put hd))

/-! the end of a function -/
theorem QE_ret1 {fn : Func} {t : Tmp} {v : Value} {φ : Value → World → Prop} (hres : fn.results = #[.tmp t]) (hv : L.get t = some v) (h : φ v w) : QE n (bodyPost P fn (Ret φ)) .ret L w := fun a ha => by
  refine ⟨ha.defers, v, ?_, h⟩
  have := ha.get t v hv
  simp [results, hres, this]
theorem QE_end0 {fn : Func} {φ : Value → World → Prop} (hres : fn.results = #[]) (h : φ (.tuple #[]) w) : QE n (bodyPost P fn (Ret φ)) .normal L w := fun a ha => by
  refine ⟨ha.defers, .tuple #[], ?_, h⟩
  simp [results, hres]
theorem QE_ret0 {fn : Func} {φ : Value → World → Prop} (hres : fn.results = #[]) (h : φ (.tuple #[]) w) : QE n (bodyPost P fn (Ret φ)) .ret L w := fun a ha => by
  refine ⟨ha.defers, .tuple #[], ?_, h⟩
  simp [results, hres]
theorem QE_ret2 {fn : Func} {t1 t2 : Tmp} {v1 v2 : Value} {φ : Value → World → Prop} (hres : fn.results = #[.tmp t1, .tmp t2]) (h1 : L.get t1 = some v1) (h2 : L.get t2 = some v2) (h : φ (.tuple #[v1, v2]) w) : QE n (bodyPost P fn (Ret φ)) .ret L w := fun a ha => by
  refine ⟨ha.defers, .tuple #[v1, v2], ?_, h⟩
  have g1 := ha.get t1 v1 h1
  have g2 := ha.get t2 v2 h2
  simp [results, hres, g1, g2]
theorem QE_ret3 {fn : Func} {t1 t2 t3 : Tmp} {v1 v2 v3 : Value} {φ : Value → World → Prop} (hres : fn.results = #[.tmp t1, .tmp t2, .tmp t3]) (h1 : L.get t1 = some v1) (h2 : L.get t2 = some v2) (h3 : L.get t3 = some v3) (h : φ (.tuple #[v1, v2, v3]) w) : QE n (bodyPost P fn (Ret φ)) .ret L w := fun a ha => by
  refine ⟨ha.defers, .tuple #[v1, v2, v3], ?_, h⟩
  have g1 := ha.get t1 v1 h1
  have g2 := ha.get t2 v2 h2
  have g3 := ha.get t3 v3 h3
  simp [results, hres, g1, g2, g3]
theorem QE_ret4 {fn : Func} {t1 t2 t3 t4 : Tmp} {v1 v2 v3 v4 : Value} {φ : Value → World → Prop} (hres : fn.results = #[.tmp t1, .tmp t2, .tmp t3, .tmp t4]) (h1 : L.get t1 = some v1) (h2 : L.get t2 = some v2) (h3 : L.get t3 = some v3) (h4 : L.get t4 = some v4) (h : φ (.tuple #[v1, v2, v3, v4]) w) : QE n (bodyPost P fn (Ret φ)) .ret L w := fun a ha => by
  refine ⟨ha.defers, .tuple #[v1, v2, v3, v4], ?_, h⟩
  have g1 := ha.get t1 v1 h1
  have g2 := ha.get t2 v2 h2
  have g3 := ha.get t3 v3 h3
  have g4 := ha.get t4 v4 h4
  simp [results, hres, g1, g2, g3, g4]
theorem QE_ret5 {fn : Func} {t1 t2 t3 t4 t5 : Tmp} {v1 v2 v3 v4 v5 : Value} {φ : Value → World → Prop} (hres : fn.results = #[.tmp t1, .tmp t2, .tmp t3, .tmp t4, .tmp t5]) (h1 : L.get t1 = some v1) (h2 : L.get t2 = some v2) (h3 : L.get t3 = some v3) (h4 : L.get t4 = some v4) (h5 : L.get t5 = some v5) (h : φ (.tuple #[v1, v2, v3, v4, v5]) w) : QE n (bodyPost P fn (Ret φ)) .ret L w := fun a ha => by
  refine ⟨ha.defers, .tuple #[v1, v2, v3, v4, v5], ?_, h⟩
  have g1 := ha.get t1 v1 h1
  have g2 := ha.get t2 v2 h2
  have g3 := ha.get t3 v3 h3
  have g4 := ha.get t4 v4 h4
  have g5 := ha.get t5 v5 h5
  simp [results, hres, g1, g2, g3, g4, g5]
theorem QE_ret6 {fn : Func} {t1 t2 t3 t4 t5 t6 : Tmp} {v1 v2 v3 v4 v5 v6 : Value} {φ : Value → World → Prop} (hres : fn.results = #[.tmp t1, .tmp t2, .tmp t3, .tmp t4, .tmp t5, .tmp t6]) (h1 : L.get t1 = some v1) (h2 : L.get t2 = some v2) (h3 : L.get t3 = some v3) (h4 : L.get t4 = some v4) (h5 : L.get t5 = some v5) (h6 : L.get t6 = some v6) (h : φ (.tuple #[v1, v2, v3, v4, v5, v6]) w) : QE n (bodyPost P fn (Ret φ)) .ret L w := fun a ha => by
  refine ⟨ha.defers, .tuple #[v1, v2, v3, v4, v5, v6], ?_, h⟩
  have g1 := ha.get t1 v1 h1
  have g2 := ha.get t2 v2 h2
  have g3 := ha.get t3 v3 h3
  have g4 := ha.get t4 v4 h4
  have g5 := ha.get t5 v5 h5
  have g6 := ha.get t6 v6 h6
  simp [results, hres, g1, g2, g3, g4, g5, g6]

def argEnv : Nat → List Value → Env
  | _, [] => []
  | k, v :: r => (k, v) :: argEnv (k + 1) r
theorem argEnv_get : ∀ (vs : List Value) (k i : Nat) (v : Value), (argEnv k vs).get i = some v → k ≤ i ∧ vs[i - k]? = some v
  | [], k, i, v, h => by simp [argEnv, Env.get] at h
  | u :: r, k, i, v, h => by
    simp only [argEnv, Env.get] at h
    by_cases hk : Nat.beq k i = true
    · rw [hk] at h
      simp at h
      have := Nat.eq_of_beq_eq_true hk
      subst this
      simp [h]
    · simp only [hk] at h
      have := argEnv_get r (k + 1) i v (by simpa using h)
      refine ⟨by omega, ?_⟩
      rw [show i - k = (i - (k + 1)) + 1 by omega]
      simpa using this.2
theorem calls_of {f : FuncId} {fn : Func} {c : Code} {vs : List Value} {φ : Value → World → Prop} (hf : P.funcs[f]? = some fn) (hb : fn.body = some c) (hn : Nat.ble vs.length fn.ntmps = true)
    (h : wpC P fn.ntmps c (bodyPost P fn (Ret φ)) (argEnv 0 vs) w) : Calls P f vs.toArray w (Ret φ) := by
  refine calls_of_wp hf hb (h _ ⟨rfl, ?_, fun i v hi => ?_⟩)
  · have := Nat.le_of_ble_eq_true hn
    simp; omega
  · have := (argEnv_get vs 0 i v hi).2
    simp only [Nat.sub_zero] at this
    have hl : i < vs.length := (List.getElem?_eq_some_iff.1 this).1
    rw [Array.getElem?_append_left (by simpa using hl)]
    simpa using this
end
end Go.Gk
