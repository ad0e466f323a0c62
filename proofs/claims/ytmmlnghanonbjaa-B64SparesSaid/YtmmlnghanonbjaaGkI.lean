import Derived.Test.YtmmlnghanonbjaaGkC
import Derived.Laws.CopyRow
import Derived.Laws.StructEq
import Derived.Lib.AppendStr
set_option linter.unusedVariables false
set_option linter.unusedSimpArgs false

section
set_option linter.unusedSimpArgs false
namespace Go.Gk
open Go Go.RowKit
section
variable {P : Program} {n : Nat} {L : Env} {w w0 : World} {Q : Exit → Act → World → Prop} {S : List Nat} {os : List OE}
variable {d : Option Tmp} {ty : TypeId} {pos : String} {after : Array Edge}
abbrev pB (b off : Nat) : Value := .pointer (some ⟨b, off, none⟩)
def ones : List Value → Prop
  | [] => True
  | v :: r => v.oneCell' = true ∧ ones r
def spl (cs : List Value) (off : Nat) (us : List Value) : List Value := cs.take off ++ us ++ cs.drop (off + us.length)
theorem _root_.Go.Gk.RO.one {τ : Type} {e : Enc τ} {v : Value} {l : List τ} (h : RO w e v l) : v.oneCell' = true := by
  obtain ⟨a, c, rfl, _⟩ := h; rfl
def layOf (P : Program) (T : TypeId) : Option (List (Nat × Nat) × List Value) :=
  match P.info? T, P.underlying T with
  | some it, some (.array m e) =>
    match it.zero, P.info? e with
    | some z, some ie => some ((List.range m).map fun i => (i * ie.size, ie.size), z.cells.toList)
    | _, _ => none
  | some it, some (.struct fields) =>
    match it.zero, fields.toList.mapM (fun f => (P.info? f.type).map fun i => (f.offset, i.size)) with
    | some z, some places => some (places, z.cells.toList)
    | _, _ => none
  | _, _ => none
def fillV (pl : List (Nat × Nat)) : List Value → List (Nat × Value × List Value) → Option (List Value)
  | cs, [] => some cs
  | cs, (i, _, us) :: r => match pl[i]? with
    | some (off, sz) => if Nat.beq us.length sz && Nat.ble (off + us.length) cs.length then fillV pl (spl cs off us) r else none
    | none => none
def cellsOk : List (Nat × Value × List Value) → Prop
  | [] => True
  | p :: r => p.2.1.cells.toList = p.2.2 ∧ cellsOk r
end
end Go.Gk
end

section
set_option linter.unusedSimpArgs false
namespace Go.Gk
open Go Go.RowKit
def eB : Enc Bool := ⟨1, fun x => [vB x], fun _ => rfl, fun _ u h => by simp at h; subst h; rfl⟩
def eP {α β : Type} (e : Enc α) (f : Enc β) : Enc (α × β) := ⟨e.sz + f.sz, fun t => e.cells t.1 ++ f.cells t.2, fun t => by rw [List.length_append, e.len, f.len], fun t u h => by
  rcases List.mem_append.1 h with h | h
  · exact e.one _ _ h
  · exact f.one _ _ h⟩
section
variable {P : Program} {n : Nat} {L : Env} {w w0 : World} {Q : Exit → Act → World → Prop} {S : List Nat} {os : List OE}
variable {d : Option Tmp} {ty : TypeId} {pos : String} {after : Array Edge}
def EqF (P : Program) (xs ys : Array Value) (fs : List Field) (b : Bool) : Prop := ∀ (k : Nat) (w : World), (Op.eqFields (k + 1) xs ys fs).run P w = .ok b w
end
end Go.Gk
end

section
set_option linter.unusedSimpArgs false
namespace Go.Gk
open Go Go.RowKit Go.Lib
section
variable {P : Program} {n : Nat} {L : Env} {w w' w0 : World} {Q : Exit → Act → World → Prop} {S : List Nat} {os os0 os1 : List OE}
variable {d : Option Tmp} {ty : TypeId} {pos : String} {after : Array Edge}
def blks (os : List OE) : List Nat := os.filterMap OE.blk
theorem RP.tk {τ : Type} {e : Enc τ} {v : Value} {l : List τ} (h : RP S w e v l) {k : Nat} (hk : k ≤ l.length) : RP S w e (slV v e.sz 0 k) (l.take k) := h.subh hk
theorem OE.ok.red {S : List Nat} {B : Nat} {τ : Type} {e : Enc τ} {v : Value} {l : List τ} (h : (own e v l).ok S B w) : (red e v l).ok S B w := by
  refine ⟨h.1, ?_⟩
  rcases h.2 with ⟨rfl, hn⟩ | ⟨g, cap, cur, T, rfl, hf, hg, hnc, hcm, hcs, htake⟩
  · exact ⟨none, 0, by rw [hn], by rw [hn]; exact Nat.le_refl _, fun h => absurd hn h⟩
  · refine ⟨_, cap, rfl, hnc, fun _ => ⟨g, 0, rfl, (Array.getElem?_eq_some_iff.1 hg).1, hf, fun j u hj => ?_⟩⟩
    rw [← htake, List.getElem?_take] at hj
    split at hj
    · rw [Nat.zero_add, cell_of_row w g j cur T (0, 0) hg]
      simpa using hj
    · cases hj
theorem St.rnil {τ : Type} (e : Enc τ) (h : St S w0 w os) : St S w0 w (red e (.slice none 0 0) ([] : List τ) :: os) :=
  h.push (Fr.refl _ _) ⟨by simp, none, 0, rfl, Nat.le_refl _, fun h => absurd rfl h⟩ (by simp [OE.blk])
def oval (u : Value) (o : Option (List Value)) : Prop := match o with
  | none => u = .pointer none
  | some _ => ∃ b, u = pB b 0
def oent (u : Value) (o : Option (List Value)) : List OE := match o, u with
  | some cs, .pointer (some a) => [.bx a.block cs]
  | _, _ => []
def RV (P : Program) (L : Env) (w : World) : ResultVar → Value → Prop
  | .tmp t, v => L.get t = some v
  | .cell t T, v => ∃ b, L.get t = some (pB b 0) ∧ (loadVar T ⟨b, 0, none⟩).run P w = .ok v w
def SHP (v : Value) (m : Nat) : Prop := ∃ a c, v = .slice a m c ∧ m ≤ c ∧ (m ≠ 0 → ∃ b off, a = some ⟨b, off, none⟩)
theorem RO.shp {τ : Type} {e : Enc τ} {v : Value} {l : List τ} (h : RO w e v l) : SHP v l.length := by
  obtain ⟨a, c, rfl, hc, hr⟩ := h
  refine ⟨a, c, rfl, hc, fun hn => ?_⟩
  obtain ⟨b, off, h1, _⟩ := hr (by rintro rfl; simp at hn)
  exact ⟨b, off, h1⟩
def eWv (vb : Value) (o : Option (Nat × Nat)) : Value := match o with
  | none => .slice none 0 0
  | some p => match vb with
    | .slice a _ c => .slice (if c = p.1 then a else a.map (·.add (p.1 * 1))) (p.2 - p.1) (c - p.1)
    | _ => .slice none 0 0
def eW (vb : Value) : Enc (Option (Nat × Nat)) := ⟨1, fun o => [eWv vb o], fun _ => rfl, fun o u h => by
  simp at h; subst h
  cases o with
  | none => rfl
  | some p => cases vb <;> rfl⟩
theorem eWv_slV {v : Value} {l : List UInt8} (h : RO w e8 v l) (lo hi : Nat) : slV v e8.sz lo hi = eWv v (some (lo, hi)) := by
  obtain ⟨a, c, rfl, _⟩ := h
  rfl
theorem RP.eW {v : Value} {l : List UInt8} {o : Option (Nat × Nat)} {c : Nat × Nat} (h : RP S w e8 v l) (ho : o = some c) (h1 : c.1 ≤ c.2) (h2 : c.2 ≤ l.length) : RP S w e8 (eWv v o) (vwL l c) := by
  subst ho
  rw [← eWv_slV h.1]
  exact h.sub h1 h2
end
end Go.Gk
end

section
set_option linter.unusedSimpArgs false
namespace Go.Gk
open Go Go.RowKit
section
variable {P : Program} {n : Nat} {L : Env} {w w' w0 : World} {Q : Exit → Act → World → Prop} {S : List Nat} {os os0 os1 : List OE}
variable {d : Option Tmp} {ty : TypeId} {pos : String} {after : Array Edge}
def SV.of (v : Value) : SV := match v with
  | .slice a n c => ⟨a, n, c⟩
  | _ => ⟨none, 0, 0⟩
theorem RO.sv {τ : Type} {e : Enc τ} {v : Value} {l : List τ} (h : RO w e v l) : (SV.of v).v = v := by
  obtain ⟨a, c, rfl, _⟩ := h; rfl
theorem RP.sv {τ : Type} {e : Enc τ} {v : Value} {l : List τ} (h : RP S w e v l) : RP S w e (SV.of v).v l := by rw [h.1.sv]; exact h
theorem fl_eVc {v : Value} {r : List SV} {vs : List Value} (h : (SV.of v).v = v) (ht : eV.fl r = vs) : eV.fl (SV.of v :: r) = v :: vs := by
  rw [← ht]
  show [(SV.of v).v] ++ eV.fl r = v :: eV.fl r
  rw [h]; rfl
def AllRP (S : List Nat) (w : World) {τ : Type} (e : Enc τ) : List SV → List (List τ) → Prop
  | [], [] => True
  | s :: r, l :: m => RP S w e s.v l ∧ AllRP S w e r m
  | _, _ => False
theorem AllRP.len {τ : Type} {e : Enc τ} : ∀ {s : List SV} {m : List (List τ)}, AllRP S w e s m → s.length = m.length
  | [], [], _ => rfl
  | _ :: _, _ :: _, h => by simp [AllRP.len h.2]
theorem AllRP.nth {τ : Type} {e : Enc τ} : ∀ {s : List SV} {m : List (List τ)}, AllRP S w e s m → ∀ {i : Nat} {l : List τ}, m[i]? = some l → ∃ v, s[i]? = some v ∧ RP S w e v.v l
  | [], [], _, i, l, hi => by simp at hi
  | a :: r, b :: m, h, 0, l, hi => by simp at hi; subst hi; exact ⟨a, rfl, h.1⟩
  | a :: r, b :: m, h, i + 1, l, hi => by simpa using AllRP.nth h.2 (by simpa using hi)
theorem AllRP.get {τ : Type} {e : Enc τ} {s : List SV} {m : List (List τ)} (h : AllRP S w e s m) {i : Int} {l : List τ} (hi : getO m i = some l) : ∃ v, getO s i = some v ∧ RP S w e v.v l := by
  obtain ⟨h0, _, h2⟩ := getO_some hi
  obtain ⟨v, h3, h4⟩ := h.nth h2
  exact ⟨v, by simp [getO, h0, h3], h4⟩
section
variable {T E : TypeId} {τ : Type} {e : Enc τ} {v : Value} {l r : List τ} {z0 : Value} {bytes : Nat}
end
end
end Go.Gk
end

section
namespace Go.Gk
section
variable {P : Program} {n : Nat} {L : Env} {w w0 : World} {Q : Exit → Act → World → Prop}
variable {d : Option Nat} {ty : TypeId} {pos : String} {after : Array Edge}
end
end Go.Gk
namespace Go.Gk
section
variable {P : Program} {n : Nat} {L : Env} {w w0 : World} {Q : Exit → Act → World → Prop} {S : List Nat} {os : List OE}
variable {d : Option Nat} {ty : TypeId} {pos : String} {after : Array Edge}
def MapAt (w0 w : World) (r : Nat) (es : Array MapEntry) (c : Nat) : Prop := Fr [] w0 w ∧ w0.heap.size ≤ r ∧ w.heap[r]? = some (.map es c)
theorem MapAt.put {r : Nat} {es es' : Array MapEntry} {c c' : Nat} (h : MapAt w0 w r es c) : MapAt w0 { w with heap := w.heap.setIfInBounds r (.map es' c') } r es' c' := by
  obtain ⟨hf, hr, hg⟩ := h
  have hlt : r < w.heap.size := (Array.getElem?_eq_some_iff.1 hg).1
  refine ⟨⟨hf.os, hf.tape, hf.output, by simpa using hf.size, fun k hk hn => ?_⟩, hr, by simp [hlt]⟩
  rw [← hf.block k hk hn]
  simp [Array.getElem?_setIfInBounds]; omega
end
end Go.Gk
end

section
set_option linter.unusedVariables false
namespace Go.Gk
open Go Go.RowKit
def upd (g : Nat → Value) (i : Nat) (v : Value) : Nat → Value := fun k => if k = i then v else g k
section
variable {P : Program} {ops : Array Oper} {Q : Exit → Act → World → Prop} {nw : Nat → Bool} {S : List Nat} {w0 : World} {os : List OE} {ent : Nat → Value → OE} {news : List Nat}
def NewOK (P : Program) (ops : Array Oper) (S : List Nat) (w0 : World) (ent : Nat → Value → OE) (o : Oper) (i : Nat) (a : Act) : Prop :=
  Region.wanted o (yielded ops a.tmps) = true ∧ ∀ w os', St S w0 w os' → ∃ v w', (execOp a.eval o).run P w = .ok (.value v) w' ∧ St S w0 w' (ent i v :: os')
theorem NewOK.of_same {o : Oper} {i : Nat} {a a' : Act} (hy : NewOK P ops S w0 ent o i a) (he : execOp a'.eval o = execOp a.eval o)
    (hw : Region.wanted o (yielded ops a'.tmps) = Region.wanted o (yielded ops a.tmps)) : NewOK P ops S w0 ent o i a' := by
  unfold NewOK at *
  rw [he, hw]
  exact hy
def lxN (P : Program) (ops : Array Oper) (Q : Exit → Act → World → Prop) (nw : Nat → Bool) (S : List Nat) (w0 : World) (os : List OE) (ent : Nat → Value → OE) (news : List Nat) : List Nat → (Nat → Value) → Act → Prop
  | [], g, a => ∀ w, St S w0 w (news.map (fun i => ent i (g i)) ++ os) → Q .normal a w
  | i :: r, g, a => match ops[i]? with
    | none => lxN P ops Q nw S w0 os ent news r g a
    | some o => if nw i then NewOK P ops S w0 ent o i a ∧ ∀ v, lxN P ops Q nw S w0 os ent news r (upd g i v) (a.put o.dst v)
      else ∃ v, Ins P ops (fun w => St S w0 w os) o v a ∧ lxN P ops Q nw S w0 os ent news r g (a.put o.dst v)
variable {n : Nat} {L : Env}
def lxNE (P : Program) (n : Nat) (ops : Array Oper) (Q : Exit → Act → World → Prop) (nw : Nat → Bool) (S : List Nat) (w0 : World) (os : List OE) (ent : Nat → Value → OE) (news : List Nat) (l : List Nat) (g : Nat → Value) (L : Env) : Prop :=
  ∀ a, Rep n L a → lxN P ops Q nw S w0 os ent news l g a
end
end Go.Gk
end

section
set_option linter.unusedSimpArgs false
set_option linter.unusedVariables false
set_option linter.unusedSectionVars false
namespace Go.Gk
open Go Go.RowKit
section
variable {P : Program} {n : Nat} {L : Env} {w w' w0 : World} {Q : Exit → Act → World → Prop} {S : List Nat} {os os0 os1 : List OE}
variable {d : Option Tmp} {ty : TypeId} {pos : String} {after : Array Edge}
def twE {τ : Type} (e : Enc τ) (va : Value) (la : List τ) (q : Nat) : OE := if q = 0 then red e (.slice none 0 0) ([] : List τ) else red e va la
def Tw {τ : Type} (va : Value) (la : List τ) (v : Value) (l : List τ) (q : Nat) : Prop :=
  q = 0 → ∃ a c c' t, va = .slice a la.length c ∧ la.length ≤ c ∧ v = .slice a l.length c' ∧ l = la ++ t
theorem Tw.ro {τ : Type} {e : Enc τ} {va v : Value} {la l : List τ} {q : Nat} {B : Nat} (h : Tw va la v l q) (he : (twE e va la q).ok S B w) (hv : RO w e v l) : RO w e va la := by
  by_cases hq : q = 0
  · obtain ⟨a, c, c', t, rfl, hc, rfl, rfl⟩ := h hq
    obtain ⟨a2, c2, h1, h2, h3⟩ := hv
    injection h1 with e1 e2 e3
    subst e1
    refine ⟨a, c, rfl, hc, fun hl => ?_⟩
    obtain ⟨b, off, hb, hcell⟩ := h3 (by simp [hl])
    refine ⟨b, off, hb, fun j u hj => hcell j u ?_⟩
    rw [e.fl_append, List.getElem?_append_left (List.getElem?_eq_some_iff.1 hj).1]
    exact hj
  · unfold twE at he
    rw [if_neg hq] at he
    exact he.rro
theorem St.twro {τ : Type} {e : Enc τ} {va v : Value} {la l : List τ} {q : Nat} (h : St S w0 w os) (hA : Tw va la v l q) (i j : Nat) (hi : os[i]? = some (own e v l)) (hj : os[j]? = some (twE e va la q)) : RO w e va la :=
  hA.ro (h.ok _ (List.mem_of_getElem? hj)) (h.ro i hi)
theorem St.twin {τ : Type} {e : Enc τ} {v : Value} {l : List τ} (h : St S w0 w os) (i : Nat) (hi : os[i]? = some (own e v l)) : St S w0 w (twE e v l 0 :: os) := by
  have := h.rnil e
  simpa [twE] using this
theorem RO.tw {τ : Type} {e : Enc τ} {v : Value} {l : List τ} (h : RO w e v l) : Tw v l v l 0 := fun _ => by
  obtain ⟨a, c, rfl, hc, _⟩ := h
  exact ⟨a, c, c, [], rfl, hc, rfl, by simp⟩
theorem set_same {α : Type} {l : List α} {j : Nat} {x : α} (h : l[j]? = some x) : l.set j x = l := by
  apply List.ext_getElem?
  intro k
  rw [List.getElem?_set]
  split
  · rename_i hk
    subst hk
    have := (List.getElem?_eq_some_iff.1 h).1
    rw [if_pos this, h]
  · rfl
theorem St.swap2 {A B : OE} {i j : Nat} (h : St S w0 w (A :: os.set i B)) (hij : i ≠ j) (hi : i < os.length) (hj : j < os.length) : St S w0 w ((os.set i A).set j B) := by
  let f : Nat → Nat := fun k => if k = i then 0 else if k = j then i + 1 else k + 1
  refine h.pick ((List.range os.length).map f) ?_ ?_
  · refine List.pairwise_map.2 (List.pairwise_lt_range.imp fun {a b} hab => ?_)
    show f a ≠ f b
    simp only [f]
    split <;> split <;> (try split) <;> (try split) <;> omega
  · apply List.ext_getElem?
    intro k
    simp only [List.getElem?_map, List.map_map]
    by_cases hk : k < os.length
    · rw [List.getElem?_range hk]
      simp only [Option.map_some, Function.comp, f]
      by_cases h1 : k = i
      · subst h1
        rw [List.getElem?_set]
        rw [if_neg (by omega), List.getElem?_set, if_pos rfl, if_pos hi]
        simp
      · by_cases h2 : k = j
        · subst h2
          rw [List.getElem?_set, if_pos rfl, if_pos (by simpa using hj)]
          simp [h1, hi]
        · rw [List.getElem?_set, if_neg (by omega), List.getElem?_set, if_neg (by omega)]
          simp only [h1, h2, if_false, List.getElem?_cons_succ]
          rw [List.getElem?_set, if_neg (by omega)]
          simp [hk]
    · rw [List.getElem?_eq_none (by simp; omega), List.getElem?_eq_none (by simp; omega)]
      simp
theorem run_append_tw {T E ty : TypeId} {τ : Type} {e : Enc τ} {z : Value} {bytes : Nat} {v u : Value} {l m : List τ} {B : Nat} (hT : P.underlying T = some (.slice E)) (hE : TI P E z e.sz bytes) (hz : z.cells.size = e.sz) (hby : bytes ≤ 65536) (hby0 : 0 < bytes)
    (ho : (own e v l).ok S B w) (hu : RO w e u m) (hB : B ≤ w.heap.size) (hb : (l.length + m.length) * bytes ≤ 225000000000000) :
    ∃ v' w', (Builtin.append_ #[T, T] ty #[v, u]).run P w = .ok v' w' ∧ (own e v' (l ++ m)).ok S B w' ∧ ((∃ a c c', v = .slice a l.length c ∧ v' = .slice a (l ++ m).length c' ∧ Fr (own e v l).blk.toList w w' ∧ ∀ k, (own e v' (l ++ m)).blk = some k → (own e v l).blk = some k) ∨ (Fr [] w w' ∧ ∀ k, (own e v' (l ++ m)).blk = some k → w.heap.size ≤ k)) := by
  obtain ⟨inf, hi, hz', hs, hbb⟩ := hE.get
  obtain ⟨ua, c, rfl, hc, hr⟩ := hu
  by_cases hm : m = []
  · subst hm
    rcases ho.2 with ⟨rfl, hn⟩ | ⟨g, cap, cur, T', rfl, hfr, hg, hnc, hcm, hcs, htake⟩
    · have hl : l = [] := List.eq_nil_of_length_eq_zero hn
      subst hl
      refine ⟨_, w, run_append_none T ty E inf hT hi _ none 0 0 c rfl (Nat.le_refl _) ua, ?_, .inl ⟨none, 0, 0, rfl, by simp, Fr.refl _ _, fun k hk => by simpa using hk⟩⟩
      simpa using ho
    · refine ⟨_, w, run_append_none T ty E inf hT hi _ (some ⟨g, 0, none⟩) l.length cap c rfl hnc ua, ?_, .inl ⟨_, cap, cap, rfl, by simp, Fr.refl _ _, fun k hk => by simpa using hk⟩⟩
      simpa using ho
  · obtain ⟨b, off, rfl, hcell⟩ := hr hm
    have hcell' : ∀ j x, (e.fl m)[j]? = some x → w.cell? ((⟨b, off, none⟩ : Addr).add j) = some x := fun j x hj => by rw [add_none]; exact hcell j x hj
    have hml : (e.fl m).length = m.length * inf.size := by rw [hs]; exact e.fl_length m
    have hm0 : 0 < m.length := List.length_pos_iff.2 hm
    have h63 : l.length + m.length ≤ 225000000000000 := Nat.le_trans (Nat.le_mul_of_pos_right _ hby0) hb
    rcases ho.2 with ⟨rfl, hn⟩ | ⟨g, cap, cur, T', rfl, hfr, hg, hnc, hcm, hcs, htake⟩
    · have hl : l = [] := List.eq_nil_of_length_eq_zero hn
      subst hl
      simp only [List.length_nil, Nat.zero_add] at hb h63
      have hrun := run_append_nil (P := P) w T ty E inf z hT hi hz' ⟨b, off, none⟩ m.length c (e.fl m) hml hcell' hm0 (by omega) (by rw [hbb]; omega)
      refine ⟨_, _, hrun, ⟨e.fl_length _, .inr ⟨w.heap.size, grownCap w m.length 0 E, _, E, ?_, ?_, heap_alloc_new w.drew _, ?_, ?_, ?_, ?_⟩⟩, .inr ⟨?_, ?_⟩⟩
      · simp
      · exact .inl hB
      · simp; exact grownCap_ge w m.length 0 E
      · exact grownCap_le_maxLen w m.length 0 E (by simp [maxLen]; omega)
      · have := grownCap_ge w m.length 0 E
        simp only [Array.size_append, List.size_toArray, size_zeroCells, hz, e.fl_length, ← Nat.add_mul]
        exact Nat.mul_le_mul_right _ (by omega)
      · simp only [List.nil_append, Array.toList_append, List.toList_toArray]
        rw [← e.fl_length]
        exact List.take_left
      · exact (Fr.drew _ w).trans (Fr.alloc _ _ _)
      · intro k hk
        simp [OE.blk, Value.ownBlock] at hk
        omega
    · by_cases hroom : l.length + m.length ≤ cap
      · have hfit : l.length * inf.size + (e.fl m).length ≤ cur.size := by
          rw [hml, ← Nat.add_mul]
          exact Nat.le_trans (Nat.mul_le_mul_right _ hroom) (by rw [hs]; exact hcs)
        have hrun := run_append_room' (w := w) T ty E inf hT hi g l.length cap cur T' hg ⟨b, off, none⟩ m.length c (e.fl m) hml hcell' (e.fl_one m) hroom hfit
        refine ⟨_, _, hrun, ⟨e.fl_length _, .inr ⟨g, cap, _, T', ?_, hfr, setRow_heap w g cur _ T' _ hg, ?_, hcm, ?_, ?_⟩⟩, .inl ⟨_, cap, cap, rfl, by simp, ?_, ?_⟩⟩
        · simp
        · simpa using hroom
        · simp only [List.size_toArray, List.length_append, List.length_take, List.length_drop, Array.length_toList] at hfit ⊢
          omega
        · rw [hs, htake, List.length_append, Nat.add_mul]
          simp only [List.append_assoc]
          rw [← List.append_assoc, ← e.fl_append]
          have : l.length * e.sz + m.length * e.sz = (e.fl (l ++ m)).length := by rw [e.fl_length, List.length_append, Nat.add_mul]
          rw [this]
          exact List.take_left
        · exact Fr.setRow w g _
        · intro k hk
          simpa [OE.blk, Value.ownBlock] using hk
      · have holds : ∀ j x, (e.fl l)[j]? = some x → w.cell? ((⟨g, 0, none⟩ : Addr).add j) = some x := fun j x hj => by
          rw [add_none, Nat.zero_add, cell_of_row w g j cur T' (0, 0) hg]
          rw [← htake, List.getElem?_take] at hj
          split at hj
          · simpa using hj
          · cases hj
        have hll : (e.fl l).length = l.length * inf.size := by rw [hs]; exact e.fl_length l
        have hrun := run_append_grow (P := P) w T ty E inf z hT hi hz' ⟨g, 0, none⟩ l.length cap (e.fl l) hll holds ⟨b, off, none⟩ m.length c (e.fl m) hml hcell' (by omega) (by omega)
          (by rw [hbb]; exact grow_fits (by omega) hb hby)
        refine ⟨_, _, hrun, ⟨e.fl_length _, .inr ⟨w.heap.size, grownCap w (l.length + m.length) cap E, _, E, ?_, ?_, heap_alloc_new w.drew _, ?_, ?_, ?_, ?_⟩⟩, .inr ⟨?_, ?_⟩⟩
        · simp
        · exact .inl hB
        · simp; exact grownCap_ge w (l.length + m.length) cap E
        · exact grownCap_le_maxLen w (l.length + m.length) cap E (by simp [maxLen]; omega)
        · have := grownCap_ge w (l.length + m.length) cap E
          simp only [Array.size_append, List.size_toArray, size_zeroCells, hz, e.fl_length, ← Nat.add_mul]
          exact Nat.mul_le_mul_right _ (by omega)
        · simp only [Array.toList_append, List.append_assoc]
          rw [← List.append_assoc, ← e.fl_append, ← e.fl_length]
          exact List.take_left
        · exact (Fr.drew _ w).trans (Fr.alloc _ _ _)
        · intro k hk
          simp [OE.blk, Value.ownBlock] at hk
          omega
theorem OpX_append_tw {x y : Operand} {T E : TypeId} {τ : Type} {e : Enc τ} {z : Value} {bytes : Nat} {v u va : Value} {l m la : List τ} {i j q : Nat} (hT : P.underlying T = some (.slice E)) (hE : TI P E z e.sz bytes) (hz : z.cells.size = e.sz) (hby : bytes ≤ 65536) (hby0 : 0 < bytes)
    (hx : L.ev x = some v) (hy : L.ev y = some u) (hS : St S w0 w os) (hi : os[i]? = some (own e v l)) (hj : os[j]? = some (twE e va la q)) (hA : Tw va la v l q) (hu : RO w e u m) (hb : (l.length + m.length) * bytes ≤ 225000000000000) :
    OpX P n L w ⟨d, .call ⟨.builtin .append, #[x, y], #[T, T]⟩, ty, pos, after, none⟩ (fun v' w' => ∃ q', Tw va la v' (l ++ m) q' ∧ St S w0 w' ((os.set i (own e v' (l ++ m))).set j (twE e va la q'))) := by
  have hij : i ≠ j := by
    rintro rfl
    rw [hi] at hj
    unfold twE at hj
    split at hj <;> cases hj
  obtain ⟨v', w', hr, h1, h2⟩ := run_append_tw (ty := ty) hT hE hz hby hby0 (hS.ok _ (List.mem_of_getElem? hi)) hu hS.fr.size hb
  refine OpX_run v' w' (fun a ha => ?_) ?_
  · simp [execOp, resolve, invoke, builtin, ha.ev hx, ha.ev hy, hr]
  · have same : St S w0 w' (os.set i (own e v' (l ++ m))) → St S w0 w' ((os.set i (own e v' (l ++ m))).set j (twE e va la q)) := fun h => by
      rwa [set_same]
      rw [List.getElem?_set, if_neg hij]
      exact hj
    by_cases hq : q = 0
    · rcases h2 with ⟨a, c, c', e1, e2, hf, hk⟩ | ⟨hf, hk⟩
      · refine ⟨q, fun _ => ?_, same (hS.set hi hf h1 fun k hk' => .inl (hk k hk'))⟩
        obtain ⟨a', c1, c2, t, f1, f2, f3, f4⟩ := hA hq
        rw [e1] at f3
        injection f3 with g1 g2 g3
        subst g1
        exact ⟨a, c1, c', t ++ m, f1, f2, e2, by rw [f4, List.append_assoc]⟩
      · refine ⟨1, fun h => by omega, ?_⟩
        have hP := hS.push hf h1 hk
        obtain ⟨a', c1, c2, t, f1, f2, f3, f4⟩ := hA hq
        have hoi := hP.ok (own e v l) (List.mem_cons_of_mem _ (List.mem_of_getElem? hi))
        have hro : RO w' e va la := Tw.ro (S := S) (B := 0) hA (by unfold twE; rw [if_pos hq]; exact ⟨by simp, none, 0, rfl, Nat.le_refl _, fun h => absurd rfl h⟩) hoi.ro
        have hblk : ∀ k, (red e va la).blk = some k → (own e v l).blk = some k := by
          intro k hk
          simp only [OE.blk] at hk ⊢
          split at hk
          · cases hk
          · rw [f1] at hk; rw [f3]; cases a' <;> exact hk
        have hred : (red e va la).ok S w0.heap.size w' := by
          obtain ⟨a2, c3, g1, g2, g3⟩ := hro
          refine ⟨e.fl_length la, a2, c3, g1, g2, fun hn => ?_⟩
          obtain ⟨b, off, g4, g5⟩ := g3 (by intro h; rw [h] at hn; exact hn rfl)
          have := hoi.lt (hblk b (by simp only [OE.blk]; rw [if_neg hn, g1, g4]; rfl))
          exact ⟨b, off, g4, this.1, this.2, g5⟩
        have hP2 := hP.set (i := i + 1) (by simpa using hi) (Fr.refl _ _) hred (fun k hk => .inl (hblk k hk))
        rw [List.set_cons_succ] at hP2
        have := hP2.swap2 hij (List.getElem?_eq_some_iff.1 hi).1 (List.getElem?_eq_some_iff.1 hj).1
        unfold twE
        rw [if_neg (by omega)]
        exact this
    · refine ⟨q, fun h => absurd h hq, same ?_⟩
      rcases h2 with ⟨a, c, c', e1, e2, hf, hk⟩ | ⟨hf, hk⟩
      · exact hS.set hi hf h1 fun k hk' => .inl (hk k hk')
      · exact hS.set hi (hf.mono (by simp)) h1 fun k hk' => .inr (hk k hk')
theorem G_append_tw {x y : Operand} {T E : TypeId} {τ : Type} {e : Enc τ} {z : Value} {bytes : Nat} {v u va : Value} {l m la r : List τ} {i j q : Nat} (hT : P.underlying T = some (.slice E)) (hE : TI P E z e.sz bytes) (hz : (Nat.beq z.cells.size e.sz && Nat.ble bytes 65536 && Nat.blt 0 bytes) = true)
    (hx : L.ev x = some v) (hy : L.ev y = some u) (hS : St S w0 w os) (hi : os[i]? = some (own e v l)) (hj : os[j]? = some (twE e va la q)) (hA : Tw va la v l q) (hu : RO w e u m) (hg : apO bytes l m = some r) :
    OpX P n L w ⟨d, .call ⟨.builtin .append, #[x, y], #[T, T]⟩, ty, pos, after, none⟩ (fun v' w' => ∃ q', Tw va la v' r q' ∧ St S w0 w' ((os.set i (own e v' r)).set j (twE e va la q'))) := by
  obtain ⟨rfl, hb⟩ := apO_some hg
  simp only [Bool.and_eq_true, Nat.blt_eq] at hz
  exact OpX_append_tw hT hE (Nat.eq_of_beq_eq_true hz.1.1) (Nat.le_of_ble_eq_true hz.1.2) hz.2 hx hy hS hi hj hA hu hb
theorem eVc {v : Value} (h : (SV.of v).v = v) : eV.cells (SV.of v) = [v] := congrArg (fun z => [z]) h
theorem apO_v {l m : List SV} {bytes : Nat} (h : Nat.ble ((l.length + m.length) * bytes) 225000000000000 = true) : apO bytes l m = some (l ++ m) := if_pos (Nat.le_of_ble_eq_true h)
end
end Go.Gk
end
