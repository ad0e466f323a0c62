/- The rules of the walk in the words of the plain functions; loops, joins, guards: lemmas only. -/
import Derived.Test.YtcdneplfgppapaaDoorGkE
import Derived.Test.YtcdneplfgppapaaDoorGkS
namespace Go.Gk
open Go Go.RowKit

section
variable {P : Program} {n : Nat} {L : Env} {w w0 : World} {Q : Exit → Act → World → Prop} {S : List Nat} {os : List OE}
variable {d : Option Tmp} {ty : TypeId} {pos : String} {after : Array Edge}

/-! elements -/
theorem G_ix {x y : Operand} {T E : TypeId} {k : IntKind} {i : Int} {τ : Type} {e : Enc τ} {v : Value} {l : List τ} {t : τ} {z : Value} {bytes : Nat} (hT : P.underlying T = some (.slice E)) (hE : TI P E z e.sz bytes)
    (hx : L.ev x = some v) (hy : L.ev y = some (.int k i)) (h : RO w e v l) (hg : getO l i = some t) :
    OpV P n L w ⟨d, .indexAddr T x y, ty, pos, after, none⟩ (pP (ixA v e.sz i.toNat)) w :=
  OpV_ix hT hE hx hy h (getO_some hg).1 (getO_some hg).2.1
theorem G_load {x : Operand} {T : TypeId} {D : TypeDesc} {τ : Type} {e : Enc τ} {v : Value} {l : List τ} {i : Int} {t : τ} {u : Value} (hT : P.underlying T = some D) (hD : (match D with | .struct _ | .array _ _ => true | _ => false) = false)
    (hx : L.ev x = some (pP (ixA v e.sz i.toNat))) (h : RO w e v l) (hg : getO l i = some t) (hu : e.cells t = [u]) :
    OpV P n L w ⟨d, .load T x, ty, pos, after, none⟩ u w := OpV_loadE hT hD hx h (getO_some hg).2.2 hu
theorem G_ixS {x y : Operand} {T : TypeId} {k : IntKind} {i : Int} {l : List UInt8} {t : UInt8} (hT : P.underlying T = some .string)
    (hx : L.ev x = some (vS l)) (hy : L.ev y = some (.int k i)) (hg : getO l i = some t) :
    OpV P n L w ⟨d, .index T x y, ty, pos, after, none⟩ (v8 t) w := OpV_ixS hT hx hy (getO_some hg).1 (getO_some hg).2.2
theorem G_storeE {x y : Operand} {T : TypeId} {τ : Type} {e : Enc τ} {z : Value} {bytes : Nat} {v u : Value} {l : List τ} {i : Nat} {j : Int} {t t' : τ} (hT : TI P T z 1 bytes)
    (hx : L.ev x = some (pP (ixA v e.sz j.toNat))) (hy : L.ev y = some u) (hS : St S w0 w os) (hi : os[i]? = some (own e v l)) (hg : getO l j = some t') (hu : e.cells t = [u]) :
    OpY P n L w ⟨none, .store T x y, ty, pos, after, none⟩ (fun w' => St S w0 w' (os.set i (own e v (l.set j.toNat t)))) :=
  OpY_storeE hT hx hy hu hS hi (getO_some hg).2.1

/-! parts -/
theorem G_slS {x y z : Operand} {T : TypeId} {k k' : IntKind} {lo hi : Int} {l r : List UInt8} (hT : P.underlying T = some .string)
    (hx : L.ev x = some (vS l)) (hy : L.ev y = some (.int k lo)) (hz : L.ev z = some (.int k' hi)) (hg : slO l lo hi = some r) :
    OpV P n L w ⟨d, .slice T x (some y) (some z) none, ty, pos, after, none⟩ (vS r) w := by
  obtain ⟨⟨h0, h1, h2⟩, rfl⟩ := slO_some hg
  exact OpV_slS hT hx hy hz h0 h1 h2
theorem G_slSl {x y : Operand} {T : TypeId} {k : IntKind} {lo : Int} {l r : List UInt8} (hT : P.underlying T = some .string)
    (hx : L.ev x = some (vS l)) (hy : L.ev y = some (.int k lo)) (hg : drO l lo = some r) :
    OpV P n L w ⟨d, .slice T x (some y) none none, ty, pos, after, none⟩ (vS r) w := by
  obtain ⟨⟨h0, h1⟩, rfl⟩ := drO_some hg
  exact OpV_slSl hT hx hy h0 h1
theorem G_slSh {x z : Operand} {T : TypeId} {k : IntKind} {hi : Int} {l r : List UInt8} (hT : P.underlying T = some .string)
    (hx : L.ev x = some (vS l)) (hz : L.ev z = some (.int k hi)) (hg : tkO l hi = some r) :
    OpV P n L w ⟨d, .slice T x none (some z) none, ty, pos, after, none⟩ (vS r) w := by
  obtain ⟨⟨h0, h1⟩, rfl⟩ := tkO_some hg
  exact OpV_slSh hT hx hz h0 h1
section
variable {T E : TypeId} {τ : Type} {e : Enc τ} {v : Value} {l r : List τ} {z0 : Value} {bytes : Nat}
theorem G_sl {x y z : Operand} {k k' : IntKind} {lo hi : Int} (hT : P.underlying T = some (.slice E)) (hE : TI P E z0 e.sz bytes)
    (hx : L.ev x = some v) (hy : L.ev y = some (.int k lo)) (hz : L.ev z = some (.int k' hi)) (h : RO w e v l) (hg : slO l lo hi = some r) :
    OpV P n L w ⟨d, .slice T x (some y) (some z) none, ty, pos, after, none⟩ (slV v e.sz lo.toNat hi.toNat) w :=
  OpV_sl hT hE hx hy hz h (slO_some hg).1.1 (slO_some hg).1.2.1 (slO_some hg).1.2.2
theorem G_sll {x y : Operand} {k : IntKind} {lo : Int} (hT : P.underlying T = some (.slice E)) (hE : TI P E z0 e.sz bytes)
    (hx : L.ev x = some v) (hy : L.ev y = some (.int k lo)) (h : RO w e v l) (hg : drO l lo = some r) :
    OpV P n L w ⟨d, .slice T x (some y) none none, ty, pos, after, none⟩ (slV v e.sz lo.toNat l.length) w :=
  OpV_sll hT hE hx hy h (drO_some hg).1.1 (drO_some hg).1.2
theorem G_slh {x z : Operand} {k : IntKind} {hi : Int} (hT : P.underlying T = some (.slice E)) (hE : TI P E z0 e.sz bytes)
    (hx : L.ev x = some v) (hz : L.ev z = some (.int k hi)) (h : RO w e v l) (hg : tkO l hi = some r) :
    OpV P n L w ⟨d, .slice T x none (some z) none, ty, pos, after, none⟩ (slV v e.sz 0 hi.toNat) w :=
  OpV_slh hT hE hx hz h (tkO_some hg).1.1 (tkO_some hg).1.2
theorem RO.g_sl {lo hi : Int} (h : RO w e v l) (hg : slO l lo hi = some r) : RO w e (slV v e.sz lo.toNat hi.toNat) r := by
  obtain ⟨⟨h0, h1, h2⟩, rfl⟩ := slO_some hg
  exact h.sub (by omega) h2
theorem RO.g_sll {lo : Int} (h : RO w e v l) (hg : drO l lo = some r) : RO w e (slV v e.sz lo.toNat l.length) r := by
  obtain ⟨⟨h0, h1⟩, rfl⟩ := drO_some hg
  exact h.subl h1
theorem RO.g_slh {hi : Int} (h : RO w e v l) (hg : tkO l hi = some r) : RO w e (slV v e.sz 0 hi.toNat) r := by
  obtain ⟨⟨h0, h1⟩, rfl⟩ := tkO_some hg
  exact h.subh h1
theorem RP.g_sl {lo hi : Int} (h : RP S w e v l) (hg : slO l lo hi = some r) : RP S w e (slV v e.sz lo.toNat hi.toNat) r := by
  obtain ⟨⟨h0, h1, h2⟩, rfl⟩ := slO_some hg
  exact h.sub (by omega) h2
theorem RP.g_sll {lo : Int} (h : RP S w e v l) (hg : drO l lo = some r) : RP S w e (slV v e.sz lo.toNat l.length) r := by
  obtain ⟨⟨h0, h1⟩, rfl⟩ := drO_some hg
  exact h.subl h1
theorem RP.g_slh {hi : Int} (h : RP S w e v l) (hg : tkO l hi = some r) : RP S w e (slV v e.sz 0 hi.toNat) r := by
  obtain ⟨⟨h0, h1⟩, rfl⟩ := tkO_some hg
  exact h.subh h1
theorem RP.nil (S : List Nat) (w : World) : RP S w e (.slice none 0 0) ([] : List τ) := ⟨RO.nil w e, by simp [Value.ownBlock]⟩
end

/-! memory -/
theorem G_make {T E : TypeId} {x y : Operand} {k k' : IntKind} {l c : Int} {τ : Type} {e : Enc τ} {t0 : τ} {r : List τ} {z : Value} {bytes : Nat} (hT : P.underlying T = some (.slice E)) (hE : TI P E z e.sz bytes) (hz : z.cells.toList = e.cells t0)
    (hx : L.ev x = some (.int k l)) (hy : L.ev y = some (.int k' c)) (hS : St S w0 w os) (hg : mkO bytes l c t0 = some r) :
    OpX P n L w ⟨d, .makeSlice T x y, ty, pos, after, none⟩ (fun v w' => St S w0 w' (own e v r :: os)) := by
  obtain ⟨rfl, h0, h1, h2, h3⟩ := mkO_some hg
  exact OpX_make hT hE hz hx hy hS h0 h1 h2 h3
theorem G_append {x y : Operand} {T E : TypeId} {τ : Type} {e : Enc τ} {z : Value} {bytes : Nat} {v u : Value} {l m r : List τ} {i : Nat} (hT : P.underlying T = some (.slice E)) (hE : TI P E z e.sz bytes) (hz : (Nat.beq z.cells.size e.sz && Nat.ble bytes 65536 && Nat.blt 0 bytes) = true)
    (hx : L.ev x = some v) (hy : L.ev y = some u) (hS : St S w0 w os) (hi : os[i]? = some (own e v l)) (hu : RO w e u m) (hg : apO bytes l m = some r) :
    OpX P n L w ⟨d, .call ⟨.builtin .append, #[x, y], #[T, T]⟩, ty, pos, after, none⟩ (fun v' w' => St S w0 w' (os.set i (own e v' r))) := by
  obtain ⟨rfl, hb⟩ := apO_some hg
  simp only [Bool.and_eq_true, Nat.blt_eq] at hz
  exact OpX_append hT hE (Nat.eq_of_beq_eq_true hz.1.1) (Nat.le_of_ble_eq_true hz.1.2) hz.2 hx hy hS hi hu hb
theorem G_append0 {x y : Operand} {T E : TypeId} {τ : Type} {e : Enc τ} {z : Value} {bytes : Nat} {u : Value} {m r : List τ} (hT : P.underlying T = some (.slice E)) (hE : TI P E z e.sz bytes) (hz : (Nat.beq z.cells.size e.sz && Nat.ble bytes 65536 && Nat.blt 0 bytes) = true)
    (hx : L.ev x = some (.slice none 0 0)) (hy : L.ev y = some u) (hS : St S w0 w os) (hu : RO w e u m) (hg : apO bytes [] m = some r) :
    OpX P n L w ⟨d, .call ⟨.builtin .append, #[x, y], #[T, T]⟩, ty, pos, after, none⟩ (fun v' w' => St S w0 w' (own e v' r :: os)) := by
  obtain ⟨rfl, hb⟩ := apO_some hg
  simp only [Bool.and_eq_true, Nat.blt_eq] at hz
  exact OpX_append0 hT hE (Nat.eq_of_beq_eq_true hz.1.1) (Nat.le_of_ble_eq_true hz.1.2) hz.2 hx hy hS hu (by simpa using hb)
theorem G_sadd (T : TypeId) {x y r : List UInt8} (hg : sadO x y = some r) : BinR P .add T (vS x) (vS y) (vS r) := by
  obtain ⟨rfl, hb⟩ := sadO_some hg
  exact b_sadd T x y hb

/-- Behind a call: what it has left, beside what is the caller's own. -/
theorem St.call {w' : World} {os' : List OE} (h : St S w0 w os) (h' : St [] w w' os') : St S w0 w' (os' ++ os) := by
  have hf : Fr [] w w' := h'.fr
  have hblk : ∀ o ∈ os', ∀ k, o.blk = some k → w.heap.size ≤ k := fun o ho k hk => by
    rcases ((h'.ok o ho).lt hk).2 with h1 | h1
    · exact h1
    · simp at h1
  refine ⟨h.fr.step hf (by simp), fun o ho => ?_, ?_⟩
  · rcases List.mem_append.1 ho with ho | ho
    · have hok := h'.ok o ho
      have hle := h.fr.size
      cases o with
      | sl v sz m cs =>
        refine ⟨hok.1, ?_⟩
        rcases hok.2 with hn | ⟨g, cap, cur, T, hv, hfr, rest⟩
        · exact .inl hn
        · refine .inr ⟨g, cap, cur, T, hv, .inl ?_, rest⟩
          rcases hfr with h1 | h1
          · omega
          · simp at h1
      | rd v sz m cs =>
        obtain ⟨hl, a, c, hv, hc, hx⟩ := hok
        refine ⟨hl, a, c, hv, hc, fun hn => ?_⟩
        obtain ⟨b, off, h1, h2, h3, h4⟩ := hx hn
        refine ⟨b, off, h1, h2, .inl ?_, h4⟩
        rcases h3 with h3 | h3
        · omega
        · simp at h3
      | bx b cs =>
        obtain ⟨hfr, hh⟩ := hok
        refine ⟨.inl ?_, hh⟩
        rcases hfr with h1 | h1
        · omega
        · simp at h1
    · exact (h.ok o ho).fr hf (by simp)
  · rw [List.pairwise_append]
    refine ⟨h'.dj, h.dj, fun o ho p hp k hk hk' => ?_⟩
    have h1 := hblk o ho k hk
    have h2 := ((h.ok p hp).lt hk').1
    omega

/-- Some of the things, in whatever order. -/
theorem St.pick {os' : List OE} (h : St S w0 w os) (ix : List Nat) (hn : ix.Nodup) (he : os'.map some = ix.map (fun i => os[i]?)) : St S w0 w os' := by
  have hlen : os'.length = ix.length := by have := congrArg List.length he; simpa using this
  have hget : ∀ k (hk : k < os'.length), ∃ (hk2 : k < ix.length), os[ix[k]]? = some os'[k] := fun k hk => by
    have h1 : (os'.map some)[k]? = (ix.map (fun i => os[i]?))[k]? := by rw [he]
    have hk2 : k < ix.length := by omega
    simp [hk, hk2] at h1
    exact ⟨hk2, h1.symm⟩
  refine ⟨h.fr, fun o ho => ?_, ?_⟩
  · obtain ⟨k, hk, rfl⟩ := List.getElem_of_mem ho
    obtain ⟨hk2, h1⟩ := hget k hk
    exact h.ok _ (List.mem_of_getElem? h1)
  · rw [List.pairwise_iff_getElem]
    intro a b ha hb hab
    obtain ⟨ha2, h1⟩ := hget a ha
    obtain ⟨hb2, h2⟩ := hget b hb
    have hne : ix[a] ≠ ix[b] := by
      have := List.pairwise_iff_getElem.1 hn a b ha2 hb2 hab
      exact this
    have hd : ∀ x y (hx : x < os.length) (hy : y < os.length), x < y → (os[x]).dj (os[y]) := List.pairwise_iff_getElem.1 h.dj
    obtain ⟨l1, e1⟩ := List.getElem?_eq_some_iff.1 h1
    obtain ⟨l2, e2⟩ := List.getElem?_eq_some_iff.1 h2
    rcases Nat.lt_or_gt_of_ne hne with hlt | hlt
    · have := hd _ _ l1 l2 hlt; rw [e1, e2] at this; exact this
    · have := hd _ _ l2 l1 hlt; rw [e1, e2] at this; exact this.symm

theorem St.drew (h : St S w0 w os) : St S w0 w.drew os := h.step (Fr.drew [] w)

/-- Where a nil slice stands for one of the call's own. -/
theorem St.nil {τ : Type} (e : Enc τ) (h : St S w0 w os) : St S w0 w (own e (.slice none 0 0) ([] : List τ) :: os) :=
  ⟨h.fr, fun o ho => by
    rcases List.mem_cons.1 ho with rfl | ho
    · exact ⟨by simp, .inl ⟨rfl, rfl⟩⟩
    · exact h.ok o ho, List.Pairwise.cons (fun p _ k hk => by simp [OE.blk, Value.ownBlock] at hk) h.dj⟩

/-! guards inside a region -/
theorem wanted_of {ops : Array Oper} {o : Oper} {a : Act} {j : Nat} {want b : Bool} {t : Tmp} (ha : Rep n L a) (hg : o.guard = some (j, want)) (hj : (ops[j]?).bind (·.dst) = some t) (hb : L.get t = some (vB b)) :
    Region.wanted o (yielded ops a.tmps) = (b == want) := by
  have := ha.get t _ hb
  simp [Region.wanted, hg, yielded, hj, this]

theorem wpR_gv {ops : Array Oper} {rest : List Oper} {d : Nat} {op : Op} {v : Value} {w' : World} {j : Nat} {want : Bool} {t : Tmp}
    (hj : (ops[j]?).bind (·.dst) = some t) (hb : L.get t = some (vB want))
    (hv : OpV P n L w ⟨some d, op, ty, pos, after, none⟩ v w') (hd : Nat.blt d n = true)
    (h : wpR P n ops Q rest ((d, v) :: L) w') : wpR P n ops Q (⟨some d, op, ty, pos, after, some (j, want)⟩ :: rest) L w := fun a ha => by
  unfold wpList
  rw [if_pos (by rw [wanted_of ha rfl hj hb]; simp)]
  refine .inl ?_
  have := hv a ha
  unfold Oper.wp
  have he : execOp a.eval ⟨some d, op, ty, pos, after, some (j, want)⟩ = execOp a.eval ⟨some d, op, ty, pos, after, none⟩ := by cases op <;> rfl
  rw [he, this]
  exact h _ (ha.put hd)
theorem wpR_gskip {ops : Array Oper} {rest : List Oper} {d : Nat} {op : Op} {j : Nat} {want b : Bool} {t : Tmp}
    (hj : (ops[j]?).bind (·.dst) = some t) (hb : L.get t = some (vB b)) (hne : (b == want) = false) (hd : Nat.blt d n = true)
    (h : wpR P n ops Q rest ((d, undef) :: L) w) : wpR P n ops Q (⟨some d, op, ty, pos, after, some (j, want)⟩ :: rest) L w := fun a ha => by
  unfold wpList
  rw [if_neg (by rw [wanted_of ha rfl hj hb, hne]; simp)]
  exact h _ (ha.put hd)
theorem not_wanted_of {ops : Array Oper} {o : Oper} {a : Act} {j : Nat} {want : Bool} {t : Tmp} (ha : Rep n L a) (hg : o.guard = some (j, want)) (hj : (ops[j]?).bind (·.dst) = some t) (hb : L.get t = some undef) :
    Region.wanted o (yielded ops a.tmps) = false := by
  have := ha.get t _ hb
  simp [Region.wanted, hg, yielded, hj, this, undef]
theorem wpR_gskipU {ops : Array Oper} {rest : List Oper} {d : Nat} {op : Op} {j : Nat} {want : Bool} {t : Tmp}
    (hj : (ops[j]?).bind (·.dst) = some t) (hb : L.get t = some undef) (hd : Nat.blt d n = true)
    (h : wpR P n ops Q rest ((d, undef) :: L) w) : wpR P n ops Q (⟨some d, op, ty, pos, after, some (j, want)⟩ :: rest) L w := fun a ha => by
  unfold wpList
  rw [if_neg (by rw [not_wanted_of ha rfl hj hb]; simp)]
  exact h _ (ha.put hd)
theorem lxE_gskipU {ops : Array Oper} {C D : World → Prop} {fl : Nat → Bool} {i : Nat} {r : List Nat} {d : Nat} {op : Op} {j : Nat} {want : Bool} {t : Tmp} (hC : C w) (ho : ops[i]? = some ⟨some d, op, ty, pos, after, some (j, want)⟩) (hf : fl i = true)
    (hj : (ops[j]?).bind (·.dst) = some t) (hb : L.get t = some undef) (hd : Nat.blt d n = true) (h : lxE P n ops C D Q fl r ((d, undef) :: L) w) : lxE P n ops C D Q fl (i :: r) L w := fun a ha => by
  refine ⟨hC, ?_⟩
  simp only [ho, hf, if_true]
  exact ⟨undef, .inr ⟨not_wanted_of ha rfl hj hb, rfl⟩, h _ (ha.put hd)⟩
theorem wpR_gcall {ops : Array Oper} {rest : List Oper} {d : Nat} {f : FuncId} {xs : List Operand} {ts : Array TypeId} {vs : List Value} {φ : Value → World → Prop} {j : Nat} {want : Bool} {t : Tmp}
    (hj : (ops[j]?).bind (·.dst) = some t) (hb : L.get t = some (vB want))
    (hf : isGo P f = true) (hargs : L.evs xs = some vs) (hc : Calls P f vs.toArray w (Ret φ)) (hd : Nat.blt d n = true)
    (k : ∀ v w', φ v w' → wpR P n ops Q rest ((d, v) :: L) w') : wpR P n ops Q (⟨some d, .call ⟨.value (.func f), xs.toArray, ts⟩, ty, pos, after, some (j, want)⟩ :: rest) L w := fun a ha => by
  unfold wpList
  rw [if_pos (by rw [wanted_of ha rfl hj hb]; simp)]
  exact .inl (wp_call rfl hf (ha.evs hargs) hc fun v w' h => k v w' h _ (ha.put hd))
theorem lxE_gv {ops : Array Oper} {C D : World → Prop} {fl : Nat → Bool} {i : Nat} {r : List Nat} {d : Nat} {op : Op} {v : Value} {j : Nat} {want : Bool} {t : Tmp} (hC : C w) (ho : ops[i]? = some ⟨some d, op, ty, pos, after, some (j, want)⟩) (hf : fl i = true)
    (hj : (ops[j]?).bind (·.dst) = some t) (hb : L.get t = some (vB want))
    (hv : ∀ w, C w → OpV P n L w ⟨some d, op, ty, pos, after, none⟩ v w) (hd : Nat.blt d n = true) (h : lxE P n ops C D Q fl r ((d, v) :: L) w) : lxE P n ops C D Q fl (i :: r) L w := fun a ha => by
  refine ⟨hC, ?_⟩
  simp only [ho, hf, if_true]
  have he : execOp a.eval ⟨some d, op, ty, pos, after, some (j, want)⟩ = execOp a.eval ⟨some d, op, ty, pos, after, none⟩ := by cases op <;> rfl
  exact ⟨v, .inl ⟨by rw [wanted_of ha rfl hj hb]; simp, fun w' hw' => by rw [he]; exact hv w' hw' a ha⟩, h _ (ha.put hd)⟩
theorem lxE_gskip {ops : Array Oper} {C D : World → Prop} {fl : Nat → Bool} {i : Nat} {r : List Nat} {d : Nat} {op : Op} {j : Nat} {want b : Bool} {t : Tmp} (hC : C w) (ho : ops[i]? = some ⟨some d, op, ty, pos, after, some (j, want)⟩) (hf : fl i = true)
    (hj : (ops[j]?).bind (·.dst) = some t) (hb : L.get t = some (vB b)) (hne : (b == want) = false) (hd : Nat.blt d n = true) (h : lxE P n ops C D Q fl r ((d, undef) :: L) w) : lxE P n ops C D Q fl (i :: r) L w := fun a ha => by
  refine ⟨hC, ?_⟩
  simp only [ho, hf, if_true]
  exact ⟨undef, .inr ⟨by rw [wanted_of ha rfl hj hb, hne], rfl⟩, h _ (ha.put hd)⟩

theorem lxE_gcall {ops : Array Oper} {C D : World → Prop} {fl : Nat → Bool} {i : Nat} {r : List Nat} {d : Nat} {f : FuncId} {xs : List Operand} {ts : Array TypeId} {vs : List Value} {φ : Value → World → Prop} {j : Nat} {want : Bool} {t : Tmp} (hC : C w)
    (ho : ops[i]? = some ⟨some d, .call ⟨.value (.func f), xs.toArray, ts⟩, ty, pos, after, some (j, want)⟩) (hfl : fl i = false) (hj : (ops[j]?).bind (·.dst) = some t) (hb : L.get t = some (vB want))
    (hf : isGo P f = true) (hargs : L.evs xs = some vs) (hc : Calls P f vs.toArray w (Ret φ)) (hd : Nat.blt d n = true)
    (k : ∀ v w', φ v w' → lxE P n ops C D Q fl r ((d, v) :: L) w') : lxE P n ops C D Q fl (i :: r) L w := fun a ha => by
  refine ⟨hC, ?_⟩
  simp only [ho, hfl, Bool.false_eq_true, if_false]
  unfold wpOp
  simp only [ho]
  rw [if_pos (by rw [wanted_of ha rfl hj hb]; simp)]
  exact .inl (wp_call rfl hf (ha.evs hargs) hc fun v w' h => k v w' h _ (ha.put hd))
/-- one that is left out, marked as loud -/
theorem lxE_gskipL {ops : Array Oper} {C D : World → Prop} {fl : Nat → Bool} {i : Nat} {r : List Nat} {d : Nat} {op : Op} {j : Nat} {want b : Bool} {t : Tmp} (hC : C w) (ho : ops[i]? = some ⟨some d, op, ty, pos, after, some (j, want)⟩) (hf : fl i = false)
    (hj : (ops[j]?).bind (·.dst) = some t) (hb : L.get t = some (vB b)) (hne : (b == want) = false) (hd : Nat.blt d n = true) (h : lxE P n ops C D Q fl r ((d, undef) :: L) w) : lxE P n ops C D Q fl (i :: r) L w := fun a ha => by
  refine ⟨hC, ?_⟩
  simp only [ho, hf, Bool.false_eq_true, if_false]
  unfold wpOp
  simp only [ho]
  rw [if_neg (by rw [wanted_of ha rfl hj hb, hne]; simp)]
  exact h _ (ha.put hd)
theorem lxE_gskipUL {ops : Array Oper} {C D : World → Prop} {fl : Nat → Bool} {i : Nat} {r : List Nat} {d : Nat} {op : Op} {j : Nat} {want : Bool} {t : Tmp} (hC : C w) (ho : ops[i]? = some ⟨some d, op, ty, pos, after, some (j, want)⟩) (hf : fl i = false)
    (hj : (ops[j]?).bind (·.dst) = some t) (hb : L.get t = some undef) (hd : Nat.blt d n = true) (h : lxE P n ops C D Q fl r ((d, undef) :: L) w) : lxE P n ops C D Q fl (i :: r) L w := fun a ha => by
  refine ⟨hC, ?_⟩
  simp only [ho, hf, Bool.false_eq_true, if_false]
  unfold wpOp
  simp only [ho]
  rw [if_neg (by rw [not_wanted_of ha rfl hj hb]; simp)]
  exact h _ (ha.put hd)
theorem calls_at {f : FuncId} {fn : Func} {c : Code} {vs : List Value} {φ : Value → World → Prop} (n : Nat) (hf : P.funcs[f]? = some fn) (hb : fn.body = some c) (hn : fn.ntmps = n) (hl : Nat.ble vs.length n = true)
    (h : wpC P n c (bodyPost P fn (Ret φ)) (argEnv 0 vs) w) : Calls P f vs.toArray w (Ret φ) := by
  subst hn
  exact calls_of hf hb hl h

/-! loops and joins -/
theorem loop_ind {σ ρ : Type} {c : Code} {r : ρ} (f : σ → Option (σ ⊕ ρ)) (I : σ → Env → World → Prop)
    (hround : ∀ k s L w x, I s L w → (∀ s' L' w', I s' L' w' → iter f k s' = some r → wpN P n c Q k L' w') → f s = some x → lk f k r x → wpC P n c (Exit.then (Code.rounds P c Q k) Q) L w)
    (s : σ) (hI : I s L w) (h : loop f s = some r) : wpC P n (.loop c) Q L w := by
  obtain ⟨k, hk⟩ := loop_some h
  refine wpC_loop k ?_
  have key : ∀ k s L w, I s L w → iter f k s = some r → wpN P n c Q k L w := by
    intro k
    induction k with
    | zero => intro s L w _ h; simp [iter] at h
    | succ k ih =>
      intro s L w hI h
      obtain ⟨x, h1, h2⟩ := iter_lk h
      exact wpN_succ (hround k s L w x hI ih h1 h2)
  exact key k s L w hI hk

theorem seq_join {γ ρ : Type} {x y : Code} {r : ρ} (J : γ → Env → World → Prop) (f : γ → Option ρ)
    (hy : ∀ g L w, J g L w → f g = some r → wpC P n y Q L w)
    (hx : (∀ g L w, J g L w → f g = some r → wpC P n y Q L w) → wpC P n x (Exit.then (y.wp P Q) Q) L w) : wpC P n (.seq x y) Q L w :=
  wpC_seq (hx hy)
end
end Go.Gk
