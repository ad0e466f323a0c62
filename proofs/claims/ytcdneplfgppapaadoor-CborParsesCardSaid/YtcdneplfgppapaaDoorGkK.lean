/- Calls that are handed places to write in; what is nil; texts that are appended; parts of arrays: rules of the walk. Lemmas only. -/
import Derived.Test.YtcdneplfgppapaaDoorGkJ
import Derived.Lib.AppendStr
set_option linter.unusedSimpArgs false
namespace Go.Gk
open Go Go.RowKit Go.Lib

section
variable {P : Program} {n : Nat} {L : Env} {w w' w0 : World} {Q : Exit → Act → World → Prop} {S : List Nat} {os os0 os1 : List OE}
variable {d : Option Tmp} {ty : TypeId} {pos : String} {after : Array Edge}

/-! what is lent to a call, and comes back -/
def blks (os : List OE) : List Nat := os.filterMap OE.blk
theorem mem_blks {k : Nat} : k ∈ blks os ↔ ∃ o ∈ os, o.blk = some k := by simp [blks, List.mem_filterMap]

theorem OE.ok.re {S S' : List Nat} {B B' : Nat} {o : OE} (h : o.ok S B w) (hb : ∀ k, o.blk = some k → fre S B k → fre S' B' k) : o.ok S' B' w := by
  cases o with
  | sl v sz n cs =>
    refine ⟨h.1, ?_⟩
    rcases h.2 with hn | ⟨g, cap, cur, T, rfl, hf, rest⟩
    · exact .inl hn
    · exact .inr ⟨g, cap, cur, T, rfl, hb g rfl hf, rest⟩
  | rd v sz n cs =>
    obtain ⟨hl, a, c, rfl, hc, hx⟩ := h
    refine ⟨hl, a, c, rfl, hc, fun hn => ?_⟩
    obtain ⟨b, off, rfl, hlt, hf, hcell⟩ := hx hn
    exact ⟨b, off, rfl, hlt, hb b (by simp [OE.blk, hn, Value.ownBlock]) hf, hcell⟩
  | bx b cs => exact ⟨hb b rfl h.1, h.2⟩

theorem St.give (h : St S w0 w (os0 ++ os)) : St (blks os0) w w os0 :=
  ⟨Fr.refl _ _, fun o ho => (h.ok o (List.mem_append_left _ ho)).re fun k hk _ => .inr (mem_blks.2 ⟨o, ho, hk⟩), (List.pairwise_append.1 h.dj).1⟩

theorem St.back (h : St S w0 w (os0 ++ os)) (h' : St (blks os0) w w' os1) : St S w0 w' (os1 ++ os) := by
  have hfre : ∀ k, fre (blks os0) w.heap.size k → fre S w0.heap.size k := by
    intro k hk
    rcases hk with hk | hk
    · exact .inl (Nat.le_trans h.fr.size hk)
    · obtain ⟨o, ho, hb⟩ := mem_blks.1 hk
      exact ((h.ok o (List.mem_append_left _ ho)).lt hb).2
  have hx := (List.pairwise_append.1 h.dj).2
  refine ⟨h.fr.step h'.fr fun k hk => hfre k (.inr hk), ?_, ?_⟩
  · intro o ho
    rcases List.mem_append.1 ho with ho | ho
    · exact (h'.ok o ho).re fun k _ hf => hfre k hf
    · refine (h.ok o (List.mem_append_right _ ho)).fr h'.fr fun k hk hb => ?_
      obtain ⟨p, hp, hpb⟩ := mem_blks.1 hk
      exact hx.2 p hp o ho k hpb hb
  · refine List.pairwise_append.2 ⟨h'.dj, hx.1, fun o ho p hp k hk hk' => ?_⟩
    have h1 := ((h.ok p (List.mem_append_right _ hp)).lt hk').1
    rcases ((h'.ok o ho).lt hk).2 with h2 | h2
    · omega
    · obtain ⟨q, hq, hqb⟩ := mem_blks.1 h2
      exact hx.2 q hq p hp k hqb hk'

theorem RP.give {τ : Type} {e : Enc τ} {v : Value} {l : List τ} (h : RP S w0 e v l) (hz : 0 < e.sz) (hS : St S w0 w (os0 ++ os)) : RP (blks os0) w e v l := by
  refine ⟨h.now hS.fr, fun hl k hk hb => ?_⟩
  obtain ⟨o, ho, hob⟩ := mem_blks.1 hk
  have h1 := ((hS.ok o (List.mem_append_left _ ho)).lt hob).2
  obtain ⟨a, c, rfl, hc, hr⟩ := h.1
  obtain ⟨b, off, rfl, hcell⟩ := hr hl
  have hbk : b = k := by simpa [Value.ownBlock] using hb
  subst hbk
  rcases h1 with h1 | h1
  · have hne : 0 < (e.fl l).length := by
      rw [e.fl_length]
      exact Nat.mul_pos (List.length_pos_iff.2 hl) hz
    have := cell_lt (hcell 0 _ (List.getElem?_eq_getElem hne))
    simp only at this
    omega
  · exact h.2 hl b h1 rfl
theorem St.giveO {τ : Type} {e : Enc τ} {v : Value} {l : List τ} (hS : St S w0 w (os0 ++ os)) (i : Nat) (hi : os[i]? = some (own e v l)) : RP (blks os0) w e v l := by
  have hm := List.mem_of_getElem? hi
  refine ⟨(hS.ok _ (List.mem_append_right _ hm)).ro, fun hl k hk hb => ?_⟩
  obtain ⟨o, ho, hob⟩ := mem_blks.1 hk
  exact (List.pairwise_append.1 hS.dj).2.2 o ho _ hm k hob hb
theorem St.giveR {τ : Type} {e : Enc τ} {v : Value} {l : List τ} (hS : St S w0 w (os0 ++ os)) (i : Nat) (hi : os[i]? = some (red e v l)) : RP (blks os0) w e v l := by
  have hm := List.mem_of_getElem? hi
  refine ⟨(hS.ok _ (List.mem_append_right _ hm)).rro, fun hl k hk hb => ?_⟩
  obtain ⟨o, ho, hob⟩ := mem_blks.1 hk
  refine (List.pairwise_append.1 hS.dj).2.2 o ho _ hm k hob ?_
  simp only [OE.blk]
  rw [if_neg (by simpa using hl)]
  exact hb
theorem RP.tk {τ : Type} {e : Enc τ} {v : Value} {l : List τ} (h : RP S w e v l) {k : Nat} (hk : k ≤ l.length) : RP S w e (slV v e.sz 0 k) (l.take k) := h.subh hk

/-- An own list may be kept to be read alone. -/
theorem OE.ok.red {S : List Nat} {B : Nat} {τ : Type} {e : Enc τ} {v : Value} {l : List τ} (h : (own e v l).ok S B w) : (red e v l).ok S B w := by
  refine ⟨h.1, ?_⟩
  rcases h.2 with ⟨rfl, hn⟩ | ⟨g, cap, cur, T, rfl, hf, hg, hnc, hcm, hcs, htake⟩
  · exact ⟨none, 0, by rw [hn], by rw [hn]; exact Nat.le_refl _, fun h => absurd hn h⟩
  · refine ⟨_, cap, rfl, hnc, fun _ => ⟨g, 0, rfl, (Array.getElem?_eq_some_iff.1 hg).1, hf, fun j u hj => ?_⟩⟩
    rw [← htake, List.getElem?_take] at hj
    split at hj
    · rw [Nat.zero_add, cell_of_row w g j cur T (0, 0) hg]
      simpa using hj
    · cases hj
theorem St.freeze {τ : Type} {e : Enc τ} {v : Value} {l : List τ} {i : Nat} (h : St S w0 w os) (hi : os[i]? = some (own e v l)) : St S w0 w (os.set i (red e v l)) := by
  refine h.set hi (o' := red e v l) (Fr.refl _ _) (h.ok _ (List.mem_of_getElem? hi)).red fun k hk => .inl ?_
  simp only [OE.blk] at hk ⊢
  split at hk
  · cases hk
  · exact hk
theorem St.rnil {τ : Type} (e : Enc τ) (h : St S w0 w os) : St S w0 w (red e (.slice none 0 0) ([] : List τ) :: os) :=
  h.push (Fr.refl _ _) ⟨by simp, none, 0, rfl, Nat.le_refl _, fun h => absurd rfl h⟩ (by simp [OE.blk])

/-! what may be nil -/
/-- the pointer: nil, or a place that the call leaves -/
def oval (u : Value) (o : Option (List Value)) : Prop := match o with
  | none => u = .pointer none
  | some _ => ∃ b, u = pB b 0
def oent (u : Value) (o : Option (List Value)) : List OE := match o, u with
  | some cs, .pointer (some a) => [.bx a.block cs]
  | _, _ => []
theorem eqlIn_ptrN {T E : TypeId} (hT : P.underlying T = some (.pointer E)) (b off k : Nat) (w : World) : (Op.equalIn (k + 1) T (pB b off) (.pointer none)).run P w = .ok false w := by
  simp [Op.equalIn, run_underlying hT]
theorem eqlIn_NN {T E : TypeId} (hT : P.underlying T = some (.pointer E)) (k : Nat) (w : World) : (Op.equalIn (k + 1) T (.pointer none) (.pointer none)).run P w = .ok true w := by
  simp [Op.equalIn, run_underlying hT]
theorem eql_ptrN {T E : TypeId} (hT : P.underlying T = some (.pointer E)) (b off : Nat) (w : World) : (Op.equal T (pB b off) (.pointer none)).run P w = .ok false w := eqlIn_ptrN hT b off 9999 w
theorem eql_NN {T E : TypeId} (hT : P.underlying T = some (.pointer E)) (w : World) : (Op.equal T (.pointer none) (.pointer none)).run P w = .ok true w := eqlIn_NN hT 9999 w
theorem b_pneN {T E : TypeId} (hT : P.underlying T = some (.pointer E)) (b off : Nat) : BinR P .neq T (pB b off) (.pointer none) (vB true) := fun _ _ w => by
  simp [eqGuard, binOp, eql_ptrN hT]
theorem b_pnnN {T E : TypeId} (hT : P.underlying T = some (.pointer E)) : BinR P .neq T (.pointer none) (.pointer none) (vB false) := fun _ _ w => by
  simp [eqGuard, binOp, eql_NN hT]
theorem b_peqN {T E : TypeId} (hT : P.underlying T = some (.pointer E)) (b off : Nat) : BinR P .eql T (pB b off) (.pointer none) (vB false) := fun _ _ w => by
  simp [eqGuard, binOp, eql_ptrN hT]
theorem b_penN {T E : TypeId} (hT : P.underlying T = some (.pointer E)) : BinR P .eql T (.pointer none) (.pointer none) (vB true) := fun _ _ w => by
  simp [eqGuard, binOp, eql_NN hT]
/-! slices and nil -/
theorem eqlIn_slN {T E : TypeId} (hT : P.underlying T = some (.slice E)) (a : Option Addr) (n c k : Nat) (w : World) : (Op.equalIn (k + 1) T (.slice a n c) (.slice none 0 0)).run P w = .ok a.isNone w := by
  cases a <;> simp [Op.equalIn, run_underlying hT]
theorem eql_slN {T E : TypeId} (hT : P.underlying T = some (.slice E)) (a : Option Addr) (n c : Nat) (w : World) : (Op.equal T (.slice a n c) (.slice none 0 0)).run P w = .ok a.isNone w := eqlIn_slN hT a n c 9999 w
theorem b_sneN {T E : TypeId} {a : Option Addr} {n c : Nat} (hT : P.underlying T = some (.slice E)) : BinR P .neq T (.slice a n c) (.slice none 0 0) (vB (!a.isNone)) := fun _ _ w => by
  simp [eqGuard, binOp, eql_slN hT]
theorem b_seN {T E : TypeId} {a : Option Addr} {n c : Nat} (hT : P.underlying T = some (.slice E)) : BinR P .eql T (.slice a n c) (.slice none 0 0) (vB a.isNone) := fun _ _ w => by
  simp [eqGuard, binOp, eql_slN hT]

/-! a text that is appended -/
theorem strCells_fl (m : List UInt8) : strCells ⟨⟨m⟩⟩ = e8.fl m := by rw [fl_e8]; rfl
theorem run_append_room_str' (t u ty e : TypeId) (i : TypeInfo) (ht : P.underlying t = some (.slice e)) (hu : P.underlying u = some .string) (hi : P.info? e = some i) (hs1 : i.size = 1)
    (g sLen sCap : Nat) (cur : Array Value) (T : TypeId) (hg : w.heap[g]? = some (.cells cur T (0, 0))) (s : ByteArray)
    (hroom : sLen + s.size ≤ sCap) (hfit : sLen + s.size ≤ cur.size) :
    (Builtin.append_ #[t, u] ty #[.slice (some ⟨g, 0, none⟩) sLen sCap, .string s]).run P w =
      .ok (.slice (some ⟨g, 0, none⟩) (sLen + s.size) sCap) (w.setRow g (cur.toList.take sLen ++ strCells s ++ cur.toList.drop (sLen + s.size)).toArray) := by
  have hf := run_firstCells_string (P := P) w 1 s
  have hst := run_storeCells_at P g sLen T (strCells s) 0 cur w hg (by simpa [strCells_length] using hfit) (strCells_oneCell s)
  simp only [Nat.add_zero, strCells_length] at hst
  simp [Builtin.append_, run_underlying ht, run_underlying hu, sizeOf, typeInfo, hi, hs1, Builtin.lenOf, hroom, hf, Addr.add_lit, hst]
theorem run_append_str_gk {T U E ty : TypeId} {v : Value} {l m : List UInt8} {B : Nat} (hT : P.underlying T = some (.slice E)) (hU : P.underlying U = some .string) (hE : TI P E (.int .u8 0) 1 1)
    (ho : (own e8 v l).ok S B w) (hB : B ≤ w.heap.size) (hb : l.length + m.length ≤ 225000000000000 / 1) :
    ∃ v' w', (Builtin.append_ #[T, U] ty #[v, vS m]).run P w = .ok v' w' ∧ (own e8 v' (l ++ m)).ok S B w' ∧ Fr (own e8 v l).blk.toList w w' ∧ (∀ k, (own e8 v' (l ++ m)).blk = some k → (own e8 v l).blk = some k ∨ w.heap.size ≤ k) := by
  obtain ⟨inf, hi, hz', hs, hbb⟩ := hE.get
  have hsz : (⟨⟨m⟩⟩ : ByteArray).size = m.length := rfl
  have hfl : ∀ x : List UInt8, (e8.fl x).length = x.length := fun x => by rw [e8.fl_length]; exact Nat.mul_one _
  by_cases hm : m = []
  · subst hm
    have hf0 : (strCells ⟨⟨[]⟩⟩) = [] := rfl
    rcases ho.2 with ⟨rfl, hn⟩ | ⟨g, cap, cur, T', rfl, hfr, hg, hnc, hcm, hcs, htake⟩
    · have hl : l = [] := List.eq_nil_of_length_eq_zero hn
      subst hl
      refine ⟨.slice none 0 0, w, ?_, by simpa using ho, Fr.refl _ _, fun k hk => .inl (by simpa using hk)⟩
      have hf := run_firstCells_string (P := P) w 1 ⟨⟨[]⟩⟩
      rw [hsz] at hf
      simp only [List.length_nil] at hf
      simp [Builtin.append_, run_underlying hT, run_underlying hU, sizeOf, typeInfo, hi, hs, Builtin.lenOf, hsz, hf]
    · have hcs' : cap ≤ cur.size := by simpa [e8] using hcs
      have hr := run_append_room_str' (P := P) (w := w) T U ty E inf hT hU hi hs g l.length cap cur T' hg ⟨⟨[]⟩⟩ (by rw [hsz]; simpa using hnc) (by rw [hsz]; simp; omega)
      refine ⟨_, _, hr, ⟨e8.fl_length _, .inr ⟨g, cap, _, T', by simp [hsz], hfr, setRow_heap w g cur _ T' _ hg, by simpa using hnc, hcm, ?_, ?_⟩⟩, Fr.setRow w g _, fun k hk => .inl (by simpa [OE.blk, Value.ownBlock] using hk)⟩
      · simp only [hf0, hsz, List.append_nil, List.length_nil, Nat.add_zero, List.take_append_drop]
        simpa [e8] using hcs'
      · simp only [hf0, hsz, List.append_nil, List.length_nil, Nat.add_zero, List.take_append_drop]
        exact htake
  · have hm0 : 0 < m.length := List.length_pos_iff.2 hm
    rcases ho.2 with ⟨rfl, hn⟩ | ⟨g, cap, cur, T', rfl, hfr, hg, hnc, hcm, hcs, htake⟩
    · have hl : l = [] := List.eq_nil_of_length_eq_zero hn
      subst hl
      simp only [List.length_nil, Nat.zero_add] at hb
      have hr := Go.run_append_nil_string (P := P) w T U ty E inf (.int .u8 0) hT hU hi hz' ⟨⟨m⟩⟩ (by rw [hsz]; omega) (by rw [hsz]; omega) (by rw [hsz, hbb]; omega)
      have e1 : ((⟨⟨m⟩⟩ : ByteArray).data.map fun b => Value.int .u8 b.toNat) = (e8.fl m).toArray := by
        rw [fl_e8]; simp
      rw [e1, hsz] at hr
      refine ⟨_, _, hr, ⟨e8.fl_length _, .inr ⟨w.heap.size, grownCap w m.length 0 E, _, E, ?_, .inl hB, heap_alloc_new w.drew _, ?_, ?_, ?_, ?_⟩⟩, (Fr.drew _ w).trans (Fr.alloc _ _ _), ?_⟩
      · simp
      · simp; exact grownCap_ge w m.length 0 E
      · exact grownCap_le_maxLen w m.length 0 E (by simp [maxLen]; omega)
      · have := grownCap_ge w m.length 0 E
        have hz1 : (Value.int IntKind.u8 0).cells.size = 1 := rfl
        simp only [Array.size_append, List.size_toArray, size_zeroCells, hz1, hfl]
        simp only [e8]
        omega
      · simp only [List.nil_append, Array.toList_append, List.toList_toArray]
        rw [← e8.fl_length]
        exact List.take_left
      · intro k hk
        simp [OE.blk, Value.ownBlock] at hk
        right; omega
    · by_cases hroom : l.length + m.length ≤ cap
      · have hcs' : cap ≤ cur.size := by simpa [e8] using hcs
        have hr := run_append_room_str' (P := P) (w := w) T U ty E inf hT hU hi hs g l.length cap cur T' hg ⟨⟨m⟩⟩ (by rw [hsz]; exact hroom) (by rw [hsz]; omega)
        rw [strCells_fl, hsz] at hr
        refine ⟨_, _, hr, ⟨e8.fl_length _, .inr ⟨g, cap, _, T', by simp, hfr, setRow_heap w g cur _ T' _ hg, by simpa using hroom, hcm, ?_, ?_⟩⟩, Fr.setRow w g _, fun k hk => .inl (by simpa [OE.blk, Value.ownBlock] using hk)⟩
        · simp only [List.size_toArray, List.length_append, List.length_take, List.length_drop, Array.length_toList, hfl]
          simp only [e8]
          omega
        · have ht : cur.toList.take l.length = e8.fl l := by simpa [e8] using htake
          rw [ht, ← e8.fl_append, ← e8.fl_length]
          exact List.take_left
      · have holds : ∀ j x, (e8.fl l)[j]? = some x → w.cell? ((⟨g, 0, none⟩ : Addr).add j) = some x := fun j x hj => by
          rw [add_none, Nat.zero_add, cell_of_row w g j cur T' (0, 0) hg]
          rw [← htake, List.getElem?_take] at hj
          split at hj
          · simpa using hj
          · cases hj
        have hr := run_append_grow_string (P := P) w T U ty E inf (.int .u8 0) hT hU hi hz' ⟨g, 0, none⟩ l.length cap (e8.fl l) (by rw [hs, hfl]; omega) holds ⟨⟨m⟩⟩ (by rw [hsz]; omega) (by rw [hsz]; omega)
          (by rw [hsz, hbb]; exact grow_fits (by omega) (by omega) (by omega))
        rw [strCells_fl, hsz] at hr
        refine ⟨_, _, hr, ⟨e8.fl_length _, .inr ⟨w.heap.size, grownCap w (l.length + m.length) cap E, _, E, ?_, .inl hB, heap_alloc_new w.drew _, ?_, ?_, ?_, ?_⟩⟩, (Fr.drew _ w).trans (Fr.alloc _ _ _), ?_⟩
        · simp
        · simp; exact grownCap_ge w (l.length + m.length) cap E
        · exact grownCap_le_maxLen w (l.length + m.length) cap E (by simp [maxLen]; omega)
        · have := grownCap_ge w (l.length + m.length) cap E
          have hz1 : (Value.int IntKind.u8 0).cells.size = 1 := rfl
          simp only [Array.size_append, List.size_toArray, size_zeroCells, hz1, hfl]
          simp only [e8]
          omega
        · simp only [Array.toList_append, List.append_assoc]
          rw [← List.append_assoc, ← e8.fl_append, ← e8.fl_length]
          exact List.take_left
        · intro k hk
          simp [OE.blk, Value.ownBlock] at hk
          right; omega
theorem G_appendS {x y : Operand} {T U E : TypeId} {v : Value} {l m r : List UInt8} {i : Nat} (hT : P.underlying T = some (.slice E)) (hU : P.underlying U = some .string) (hE : TI P E (.int .u8 0) 1 1)
    (hx : L.ev x = some v) (hy : L.ev y = some (vS m)) (hS : St S w0 w os) (hi : os[i]? = some (own e8 v l)) (hg : apO 1 l m = some r) :
    OpX P n L w ⟨d, .call ⟨.builtin .append, #[x, y], #[T, U]⟩, ty, pos, after, none⟩ (fun v' w' => St S w0 w' (os.set i (own e8 v' r))) := by
  obtain ⟨rfl, hb⟩ := apO_some hg
  obtain ⟨v', w', hr, h1, h2, h3⟩ := run_append_str_gk (ty := ty) (m := m) hT hU hE (hS.ok _ (List.mem_of_getElem? hi)) hS.fr.size (by omega)
  refine OpX_run v' w' (fun a ha => ?_) (hS.set hi h2 h1 h3)
  simp [execOp, resolve, invoke, builtin, ha.ev hx, ha.ev hy, hr]
theorem G_appendS0 {x y : Operand} {T U E : TypeId} {m r : List UInt8} (hT : P.underlying T = some (.slice E)) (hU : P.underlying U = some .string) (hE : TI P E (.int .u8 0) 1 1)
    (hx : L.ev x = some (.slice none 0 0)) (hy : L.ev y = some (vS m)) (hS : St S w0 w os) (hg : apO 1 [] m = some r) :
    OpX P n L w ⟨d, .call ⟨.builtin .append, #[x, y], #[T, U]⟩, ty, pos, after, none⟩ (fun v' w' => St S w0 w' (own e8 v' r :: os)) := by
  obtain ⟨hr9, hb⟩ := apO_some hg
  have hr9 : r = m := hr9
  subst hr9
  have hn : (own e8 (.slice none 0 0) ([] : List UInt8)).ok S w0.heap.size w := ⟨by simp, .inl ⟨rfl, rfl⟩⟩
  obtain ⟨v', w', hr, h1, h2, h3⟩ := run_append_str_gk (ty := ty) (m := r) hT hU hE hn hS.fr.size (by omega)
  refine OpX_run v' w' (fun a ha => ?_) (hS.push (by simpa [OE.blk, Value.ownBlock] using h2) h1 fun k hk => ?_)
  · simp [execOp, resolve, invoke, builtin, ha.ev hx, ha.ev hy, hr]
  · rcases h3 k hk with h | h
    · simp [OE.blk, Value.ownBlock] at h
    · exact h

/-! append to an empty slice without room: what is left may be read -/
theorem G_appendC {x y : Operand} {T E : TypeId} {τ : Type} {e : Enc τ} {z : Value} {bytes : Nat} {a0 : Option Addr} {u : Value} {m r : List τ} (hT : P.underlying T = some (.slice E)) (hE : TI P E z e.sz bytes) (hz : (Nat.beq z.cells.size e.sz && Nat.ble bytes 65536 && Nat.blt 0 bytes) = true)
    (hx : L.ev x = some (.slice a0 0 0)) (hy : L.ev y = some u) (hS : St S w0 w os) (hu : RO w e u m) (hg : apO bytes [] m = some r) :
    OpX P n L w ⟨d, .call ⟨.builtin .append, #[x, y], #[T, T]⟩, ty, pos, after, none⟩ (fun v' w' => St S w0 w' (red e v' r :: os)) := by
  obtain ⟨hr9, hb⟩ := apO_some hg
  have hr9 : r = m := hr9
  rw [hr9]
  simp only [Bool.and_eq_true, Nat.blt_eq] at hz
  have hby0 := hz.2
  have hzc := Nat.eq_of_beq_eq_true hz.1.1
  obtain ⟨inf, hi, hz', hs, hbb⟩ := hE.get
  obtain ⟨ua, c, rfl, hc, hr⟩ := hu
  by_cases hm : m = []
  · subst hm
    refine OpX_run (.slice a0 0 0) w (fun a ha => ?_) (hS.push (Fr.refl _ _) (o := red e (.slice a0 0 0) []) ⟨by simp, a0, 0, rfl, by simp, fun h => absurd rfl h⟩ (by simp [OE.blk]))
    have := run_append_none (P := P) (w := w) (ty := ty) T E inf hT hi (.slice a0 0 0) a0 0 0 c rfl (Nat.le_refl _) ua
    simp only [List.length_nil] at *
    simp [execOp, resolve, invoke, builtin, ha.ev hx, ha.ev hy, this]
  · obtain ⟨b, off, rfl, hcell⟩ := hr hm
    have hcell' : ∀ j x, (e.fl m)[j]? = some x → w.cell? ((⟨b, off, none⟩ : Addr).add j) = some x := fun j x hj => by rw [add_none]; exact hcell j x hj
    have hml : (e.fl m).length = m.length * inf.size := by rw [hs]; exact e.fl_length m
    have hm0 : 0 < m.length := List.length_pos_iff.2 hm
    simp only [List.length_nil, Nat.zero_add] at hb
    have h63 : m.length ≤ 225000000000000 := Nat.le_trans (Nat.le_mul_of_pos_right _ hby0) hb
    have hrun : ∃ K, grownCap w m.length 0 E = K ∧ (Builtin.append_ #[T, T] ty #[.slice a0 0 0, .slice (some ⟨b, off, none⟩) m.length c]).run P w =
      .ok (.slice (some ⟨w.heap.size, 0, none⟩) m.length K) (w.drew.alloc (.cells ((e.fl m).toArray ++ Builtin.zeroCells z.cells (K - m.length)) E)) := by
      refine ⟨_, rfl, ?_⟩
      cases a0 with
      | none => exact run_append_nil (P := P) w T ty E inf z hT hi hz' ⟨b, off, none⟩ m.length c (e.fl m) hml hcell' hm0 (by omega) (by rw [hbb]; omega)
      | some p =>
        have := run_append_grow (P := P) w T ty E inf z hT hi hz' p 0 0 [] (by simp) (by simp) ⟨b, off, none⟩ m.length c (e.fl m) hml hcell' (by omega) (by omega)
          (by rw [hbb]; exact grow_fits (by omega) (by simpa using hb) (Nat.le_of_ble_eq_true hz.1.2))
        simpa using this
    obtain ⟨K, hK, hrun⟩ := hrun
    have hge := grownCap_ge w m.length 0 E
    have hok : (own e (.slice (some ⟨w.heap.size, 0, none⟩) m.length K) m).ok S w0.heap.size (w.drew.alloc (.cells ((e.fl m).toArray ++ Builtin.zeroCells z.cells (K - m.length)) E)) := by
      refine ⟨e.fl_length _, .inr ⟨w.heap.size, K, _, E, rfl, hS.fresh, heap_alloc_new w.drew _, by omega, ?_, ?_, ?_⟩⟩
      · rw [← hK]; exact grownCap_le_maxLen w m.length 0 E (by simp [maxLen]; omega)
      · simp only [Array.size_append, List.size_toArray, size_zeroCells, hzc, e.fl_length, ← Nat.add_mul]
        exact Nat.mul_le_mul_right _ (by omega)
      · simp only [Array.toList_append, List.toList_toArray]
        rw [← e.fl_length]
        exact List.take_left
    refine OpX_run _ _ (fun a ha => ?_) (hS.push ((Fr.drew _ w).trans (Fr.alloc _ _ _)) hok.red fun k hk => ?_)
    · simp [execOp, resolve, invoke, builtin, ha.ev hx, ha.ev hy, hrun]
    · simp only [OE.blk] at hk
      split at hk
      · cases hk
      · simp [Value.ownBlock] at hk; omega
/-! an own load beside something that writes, where the order between the two is fixed -/
theorem lxE_vL {ops : Array Oper} {C D : World → Prop} {fl : Nat → Bool} {i : Nat} {r : List Nat} {d : Nat} {op : Op} {v : Value} (hC : C w) (ho : ops[i]? = some ⟨some d, op, ty, pos, after, none⟩) (hf : fl i = false)
    (hv : OpV P n L w ⟨some d, op, ty, pos, after, none⟩ v w) (hd : Nat.blt d n = true) (h : lxE P n ops C D Q fl r ((d, v) :: L) w) : lxE P n ops C D Q fl (i :: r) L w :=
  lxE_x hC ho hf (Φ := fun v' w' => v' = v ∧ w' = w) (OpX_run v w hv ⟨rfl, rfl⟩) hd (by rintro _ _ ⟨rfl, rfl⟩; exact h)

/-! results that lie in memory -/
theorem run_ldAgg {T : TypeId} {D : TypeDesc} {b : Nat} {us : List Value} (hT : P.underlying T = some D) (hD : (match D with | .struct _ | .array _ _ => true | _ => false) = true)
    (hi : (P.info? T).map (·.size) = some us.length) (hc : ∀ j u, us[j]? = some u → w.cell? ⟨b, 0 + j, none⟩ = some u) : (loadVar T ⟨b, 0, none⟩).run P w = .ok (.agg us.toArray) w := by
  have hagg : (isAgg T).run P w = .ok true w := by
    unfold isAgg
    rw [Sem.run_bind, run_underlying hT w]
    cases D <;> simp_all
  cases hq : P.info? T with
  | none => simp [hq] at hi
  | some i =>
    have hs : i.size = us.length := by simpa [hq] using hi
    have hl : (loadCells ⟨b, 0, none⟩ us.length).run P w = .ok us.toArray w :=
      run_loadCells_list (P := P) w ⟨b, 0, none⟩ us (fun j v hv => by rw [add_lit0]; exact hc j v hv)
    simp [loadVar, hagg, sizeOf, typeInfo, hq, hs, hl]
theorem run_ldOne {T : TypeId} {D : TypeDesc} {b : Nat} {u : Value} (hT : P.underlying T = some D) (hD : (match D with | .struct _ | .array _ _ => true | _ => false) = false)
    (hc : w.cell? ⟨b, 0, none⟩ = some u) : (loadVar T ⟨b, 0, none⟩).run P w = .ok u w := by
  have hagg : (isAgg T).run P w = .ok false w := by
    unfold isAgg
    rw [Sem.run_bind, run_underlying hT w]
    cases D <;> simp_all
  simp [loadVar, hagg, hc]
/-- what a result reads as -/
def RV (P : Program) (L : Env) (w : World) : ResultVar → Value → Prop
  | .tmp t, v => L.get t = some v
  | .cell t T, v => ∃ b, L.get t = some (pB b 0) ∧ (loadVar T ⟨b, 0, none⟩).run P w = .ok v w
theorem run_asAddr (b off : Nat) (w : World) : (asAddr (pB b off)).run P w = .ok ⟨b, off, none⟩ w := rfl
theorem QE_rv1 {fn : Func} {r1 : ResultVar} {v1 : Value} {φ : Value → World → Prop} (hres : fn.results = #[r1]) (h1 : RV P L w r1 v1) (h : φ v1 w) : QE n (bodyPost P fn (Ret φ)) .ret L w := fun a ha => by
  refine ⟨ha.defers, v1, ?_, h⟩
  cases r1
  · have g1 := ha.get _ _ h1
    simp [results, hres, g1]
  · obtain ⟨b1, g1, k1⟩ := h1
    have g1 := ha.get _ _ g1
    simp [results, hres, g1, k1, run_asAddr]
theorem QE_rv2 {fn : Func} {r1 r2 : ResultVar} {v1 v2 : Value} {φ : Value → World → Prop} (hres : fn.results = #[r1, r2]) (h1 : RV P L w r1 v1) (h2 : RV P L w r2 v2) (h : φ (.tuple #[v1, v2]) w) : QE n (bodyPost P fn (Ret φ)) .ret L w := fun a ha => by
  refine ⟨ha.defers, .tuple #[v1, v2], ?_, h⟩
  cases r1 <;> cases r2
  · have g1 := ha.get _ _ h1
    have g2 := ha.get _ _ h2
    simp [results, hres, g1, g2]
  · have g1 := ha.get _ _ h1
    obtain ⟨b2, g2, k2⟩ := h2
    have g2 := ha.get _ _ g2
    simp [results, hres, g1, g2, k2, run_asAddr]
  · obtain ⟨b1, g1, k1⟩ := h1
    have g1 := ha.get _ _ g1
    have g2 := ha.get _ _ h2
    simp [results, hres, g1, g2, k1, run_asAddr]
  · obtain ⟨b1, g1, k1⟩ := h1
    have g1 := ha.get _ _ g1
    obtain ⟨b2, g2, k2⟩ := h2
    have g2 := ha.get _ _ g2
    simp [results, hres, g1, g2, k1, k2, run_asAddr]
/-! the shape of a slice alone -/
def SHP (v : Value) (m : Nat) : Prop := ∃ a c, v = .slice a m c ∧ m ≤ c ∧ (m ≠ 0 → ∃ b off, a = some ⟨b, off, none⟩)
theorem RO.shp {τ : Type} {e : Enc τ} {v : Value} {l : List τ} (h : RO w e v l) : SHP v l.length := by
  obtain ⟨a, c, rfl, hc, hr⟩ := h
  refine ⟨a, c, rfl, hc, fun hn => ?_⟩
  obtain ⟨b, off, h1, _⟩ := hr (by rintro rfl; simp at hn)
  exact ⟨b, off, h1⟩
theorem K_len {x : Operand} {T E : TypeId} {v : Value} {m : Nat} (hT : P.underlying T = some (.slice E)) (hx : L.ev x = some v) (h : SHP v m) :
    OpV P n L w ⟨d, .call ⟨.builtin .len, #[x], #[T]⟩, ty, pos, after, none⟩ (vI m) w := fun a ha => by
  obtain ⟨b, c, rfl, _⟩ := h
  simp [execOp, resolve, invoke, builtin, Builtin.len_, ha.ev hx, run_underlying hT, goInt]
theorem K_ix {x y : Operand} {T E : TypeId} {k : IntKind} {i : Int} {τ : Type} {e : Enc τ} {v : Value} {l : List τ} {t : τ} {z : Value} {bytes : Nat} (hT : P.underlying T = some (.slice E)) (hE : TI P E z e.sz bytes)
    (hx : L.ev x = some v) (hy : L.ev y = some (.int k i)) (h : SHP v l.length) (hg : getO l i = some t) :
    OpV P n L w ⟨d, .indexAddr T x y, ty, pos, after, none⟩ (pP (ixA v e.sz i.toNat)) w := fun a ha => by
  obtain ⟨h0, h1, _⟩ := getO_some hg
  obtain ⟨q, c, rfl, hc, hr⟩ := h
  obtain ⟨b, off, rfl⟩ := hr (by omega)
  obtain ⟨inf, hi, _, hs, _⟩ := hE.get
  have h2 : i < l.length := by omega
  simp [execOp, ha.ev hx, ha.ev hy, Instr.indexAt, asIntOf, run_underlying hT, h0, h2, sizeOf, typeInfo, hi, hs, ixA]
theorem getO_set {τ : Type} {l y : List τ} {i : Int} {x t : τ} (hy : l.set i.toNat t = y) (hx : getO l i = some x) : getO y i = some t := by
  obtain ⟨h0, h1, _⟩ := getO_some hx
  subst hy
  simp [getO, h0, h1]

/-! a part of a list that came in, kept in an element: by its bounds -/
def eWv (vb : Value) (o : Option (Nat × Nat)) : Value := match o with
  | none => .slice none 0 0
  | some p => match vb with
    | .slice a _ c => .slice (if c = p.1 then a else a.map (·.add (p.1 * 1))) (p.2 - p.1) (c - p.1)
    | _ => .slice none 0 0
def eW (vb : Value) : Enc (Option (Nat × Nat)) := ⟨1, fun o => [eWv vb o], fun _ => rfl, fun o u h => by
  simp at h; subst h
  cases o with
  | none => rfl
  | some p => cases vb <;> rfl⟩
theorem eWv_cells (vb : Value) (o : Option (Nat × Nat)) : (eWv vb o).cells.toList = [eWv vb o] := cells_one ((eW vb).one o _ (by simp [eW]))
theorem eWv_slV {v : Value} {l : List UInt8} (h : RO w e8 v l) (lo hi : Nat) : slV v e8.sz lo hi = eWv v (some (lo, hi)) := by
  obtain ⟨a, c, rfl, _⟩ := h
  rfl
theorem RP.eW {v : Value} {l : List UInt8} {o : Option (Nat × Nat)} {c : Nat × Nat} (h : RP S w e8 v l) (ho : o = some c) (h1 : c.1 ≤ c.2) (h2 : c.2 ≤ l.length) : RP S w e8 (eWv v o) (vwL l c) := by
  subst ho
  rw [← eWv_slV h.1]
  exact h.sub h1 h2
theorem RP.eWn {v : Value} {l : List UInt8} (h : RP S w e8 v l) (hl : l ≠ []) (o : Option (Nat × Nat)) : ∃ a m c, eWv v o = .slice a m c ∧ a.isNone = o.isNone := by
  obtain ⟨a, c, rfl, hc, hr⟩ := h.1
  obtain ⟨b, off, rfl, _⟩ := hr hl
  cases o with
  | none => exact ⟨none, 0, 0, rfl, rfl⟩
  | some p =>
    refine ⟨_, _, _, rfl, ?_⟩
    split <;> simp
theorem RP.eWne {v : Value} {l : List UInt8} {T E : TypeId} (h : RP S w e8 v l) (hT : P.underlying T = some (.slice E)) (o : Option (Nat × Nat)) (hl : l ≠ []) : BinR P .neq T (eWv v o) (.slice none 0 0) (vB o.isSome) := by
  obtain ⟨a, m, c, h1, h2⟩ := h.eWn hl o
  rw [h1]
  have := b_sneN (P := P) (T := T) (E := E) (a := a) (n := m) (c := c) hT
  rw [h2] at this
  cases o <;> exact this
theorem RP.eWeq {v : Value} {l : List UInt8} {T E : TypeId} (h : RP S w e8 v l) (hT : P.underlying T = some (.slice E)) (o : Option (Nat × Nat)) (hl : l ≠ []) : BinR P .eql T (eWv v o) (.slice none 0 0) (vB o.isNone) := by
  obtain ⟨a, m, c, h1, h2⟩ := h.eWn hl o
  rw [h1]
  have := b_seN (P := P) (T := T) (E := E) (a := a) (n := m) (c := c) hT
  rw [h2] at this
  exact this
theorem W_sl {x y z : Operand} {T E : TypeId} {k k' : IntKind} {lo hi : Int} {v : Value} {l r : List UInt8} {z0 : Value} {bytes : Nat} (hT : P.underlying T = some (.slice E)) (hE : TI P E z0 e8.sz bytes)
    (hx : L.ev x = some v) (hy : L.ev y = some (.int k lo)) (hz : L.ev z = some (.int k' hi)) (h : RO w e8 v l) (hg : slO l lo hi = some r) :
    OpV P n L w ⟨d, .slice T x (some y) (some z) none, ty, pos, after, none⟩ (eWv v (some (lo.toNat, hi.toNat))) w := by
  have := G_sl (n := n) (d := d) (ty := ty) (pos := pos) (after := after) hT hE hx hy hz h hg
  rwa [eWv_slV h] at this
theorem RP.W_sl {v : Value} {l r : List UInt8} {lo hi : Int} (h : RP S w e8 v l) (hg : slO l lo hi = some r) : RP S w e8 (eWv v (some (lo.toNat, hi.toNat))) r := by
  rw [← eWv_slV h.1]; exact h.g_sl hg

/-! min, max -/
theorem OpV_min {x y : Operand} {T : TypeId} {p q : Int} (hx : L.ev x = some (vI p)) (hy : L.ev y = some (vI q)) : OpV P n L w ⟨d, .call ⟨.builtin .min, #[x, y], #[T, T]⟩, ty, pos, after, none⟩ (vI (min p q)) w := fun a ha => by
  have h1 : (if q < p then q else p) = min p q := by split <;> omega
  have h2 : (Builtin.min2 (vI p) (vI q)).run P w = .ok (vI (min p q)) w := by rw [← h1]; rfl
  simp [execOp, resolve, invoke, builtin, Builtin.min_, ha.ev hx, ha.ev hy, h2]
theorem OpV_max {x y : Operand} {T : TypeId} {p q : Int} (hx : L.ev x = some (vI p)) (hy : L.ev y = some (vI q)) : OpV P n L w ⟨d, .call ⟨.builtin .max, #[x, y], #[T, T]⟩, ty, pos, after, none⟩ (vI (max p q)) w := fun a ha => by
  have h1 : (if p < q then q else p) = max p q := by split <;> omega
  have h2 : (Builtin.max2 (vI p) (vI q)).run P w = .ok (vI (max p q)) w := by rw [← h1]; rfl
  simp [execOp, resolve, invoke, builtin, Builtin.max_, ha.ev hx, ha.ev hy, h2]

/-! an array in a variable, read as a slice -/
theorem St.bxro {τ : Type} {e : Enc τ} {l : List τ} {b : Nat} {cs : List Value} (h : St S w0 w os) (i : Nat) (hi : os[i]? = some (.bx b cs)) (hl : cs = e.fl l) : RO w e (.slice (some ⟨b, 0, none⟩) l.length l.length) l := by
  refine ⟨_, _, rfl, Nat.le_refl _, fun _ => ⟨b, 0, rfl, fun j u hj => ?_⟩⟩
  rw [Nat.zero_add, h.bxc i hi, hl]
  exact hj
theorem A_sll {x y : Operand} {T E : TypeId} {k : IntKind} {lo : Int} {τ : Type} {e : Enc τ} {l r : List τ} {b : Nat} {z0 : Value} {bytes m : Nat} (hT : P.underlying T = some (.array m E)) (hE : TI P E z0 e.sz bytes)
    (hx : L.ev x = some (pB b 0)) (hy : L.ev y = some (.int k lo)) (hm : l.length = m) (hg : drO l lo = some r) :
    OpV P n L w ⟨d, .slice T x (some y) none none, ty, pos, after, none⟩ (slV (.slice (some ⟨b, 0, none⟩) l.length l.length) e.sz lo.toNat l.length) w := fun a ha => by
  obtain ⟨⟨h0, h2⟩, _⟩ := drO_some hg
  obtain ⟨inf, hi', _, hs, _⟩ := hE.get
  have e2 : lo ≤ (m : Int) := by omega
  subst hm
  have hv : slV (.slice (some ⟨b, 0, none⟩) l.length l.length) e.sz lo.toNat l.length = .slice (some (if l.length = lo.toNat then ⟨b, 0, none⟩ else (⟨b, 0, none⟩ : Addr).add (lo.toNat * e.sz))) (l.length - lo.toNat) (l.length - lo.toNat) := by
    simp only [slV]
    split <;> rfl
  rw [hv]
  simp [execOp, ha.ev hx, ha.ev hy, Instr.sliceAt, Instr.sureAddr, run_underlying hT, Instr.sliceBounds, run_sliceBound, h0, e2, sizeOf, typeInfo, hi', hs]
end
end Go.Gk
