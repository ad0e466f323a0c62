import Derived.Test.YtpbgncmffgnohaaGkI
set_option linter.unusedVariables false
set_option linter.unusedSimpArgs false

section
set_option linter.unusedSimpArgs false
set_option linter.unusedVariables false
set_option linter.unusedSectionVars false
namespace Go.Gk
open Go Go.RowKit
def Up (cs : List Value) (off : Nat) (xs cs' xs' : List Value) : Prop := ∃ A B, cs = A ++ (xs ++ B) ∧ cs' = A ++ (xs' ++ B) ∧ A.length = off
theorem Up.last {xs xs' : List Value} : Up xs 0 xs xs' xs' := ⟨[], [], by simp, by simp, rfl⟩
theorem Up.skip {cs cs' xs xs' A : List Value} {k off o : Nat} (hA : A.length = k) (h : Up cs off xs cs' xs') (ho : k + off = o) : Up (A ++ cs) o xs (A ++ cs') xs' := by
  obtain ⟨C, B, h1, h2, h3⟩ := h
  exact ⟨A ++ C, B, by rw [h1, List.append_assoc], by rw [h2, List.append_assoc], by rw [List.length_append, hA, h3, ho]⟩
theorem Up.get {cs cs' xs' : List Value} {off : Nat} {u : Value} (h : Up cs off [u] cs' xs') : cs[off]? = some u := by
  obtain ⟨A, B, rfl, _, rfl⟩ := h
  simp
theorem Up.gets {cs cs' xs xs' : List Value} {off : Nat} (h : Up cs off xs cs' xs') {j : Nat} {u : Value} (hj : xs[j]? = some u) : cs[off + j]? = some u := by
  obtain ⟨A, B, rfl, _, rfl⟩ := h
  rw [List.getElem?_append_right (by omega), Nat.add_sub_cancel_left, List.getElem?_append_left (List.getElem?_eq_some_iff.1 hj).1]
  exact hj
theorem Up.spl {cs cs' xs xs' : List Value} {off : Nat} (h : Up cs off xs cs' xs') (hl : xs'.length = xs.length) : spl cs off xs' = cs' := by
  obtain ⟨A, B, rfl, rfl, rfl⟩ := h
  unfold Go.Gk.spl
  rw [List.take_left, hl, ← List.append_assoc A xs B, List.drop_left' (by simp), List.append_assoc]
theorem Up.le {cs cs' xs xs' : List Value} {off : Nat} (h : Up cs off xs cs' xs') : off + xs.length ≤ cs.length := by
  obtain ⟨A, B, rfl, rfl, rfl⟩ := h
  simp only [List.length_append]; omega
section
variable {τ : Type} {e : Enc τ} {l : List τ}
theorem Up.sub {cs cs' ys ys' xs xs' : List Value} {off k : Nat} (h : Up cs off ys cs' ys') (g : Up ys k xs ys' xs') : Up cs (off + k) xs cs' xs' := by
  obtain ⟨A, B, rfl, rfl, rfl⟩ := h
  obtain ⟨C, D, rfl, rfl, rfl⟩ := g
  exact ⟨A ++ C, D ++ B, by simp, by simp, by simp⟩
theorem Up.elr {cs : List Value} {off : Nat} {j : Int} {t : τ} {u : Value} (h : Up cs off (e.fl l) cs (e.fl l)) (hy : getO l j = some t) (hu : e.cells t = [u]) : cs[off + j.toNat * 1]? = some u := by
  obtain ⟨h0, hlt, hg⟩ := getO_some hy
  have hsz : e.sz = 1 := by rw [← e.len t, hu]; rfl
  have := e.fl_get l j.toNat t hg 0 (by omega)
  rw [hsz, hu] at this
  exact h.gets (by simpa using this)
end
section
variable {P : Program} {n : Nat} {L : Env} {w w0 : World} {Q : Exit → Act → World → Prop} {S : List Nat} {os : List OE}
variable {d : Option Tmp} {ty : TypeId} {pos : String} {after : Array Edge}
def GA {τ : Type} (S : List Nat) (w0 : World) (g : Nat) (e : Enc τ) (l : List τ) : Prop := (∀ j u, (e.fl l)[j]? = some u → w0.cell? ⟨g, j, none⟩ = some u) ∧ g ∉ S
theorem GA.cells {τ : Type} {g : Nat} {e : Enc τ} {l : List τ} (h : GA S w0 g e l) (hf : Fr S w0 w) : ∀ j u, (e.fl l)[j]? = some u → w.cell? ⟨g, 0 + j, none⟩ = some u := fun j u hj => by
  have := h.1 j u hj
  rw [Nat.zero_add, hf.cell (cell_lt this) h.2]
  exact this
theorem GA.cell {τ : Type} {g : Nat} {e : Enc τ} {l : List τ} (h : GA S w0 g e l) (hf : Fr S w0 w) {j : Int} {t : τ} {u : Value} (hy : getO l j = some t) (hu : e.cells t = [u]) : w.cell? ⟨g, 0 + j.toNat * 1, none⟩ = some u :=
  h.cells hf _ u (by have := Up.elr (cs := e.fl l) (off := 0) Up.last hy hu; simpa using this)
theorem GA.now {τ : Type} {g : Nat} {e : Enc τ} {l : List τ} (h : GA S w0 g e l) (hf : Fr S w0 w) : GA [] w g e l := ⟨fun j u hj => by have := h.cells hf j u hj; simpa using this, by simp⟩
theorem GA.give {τ : Type} {g : Nat} {e : Enc τ} {l : List τ} {os0 : List OE} (h : GA S w0 g e l) (hne : 0 < (e.fl l).length) (hS : St S w0 w (os0 ++ os)) : GA (blks os0) w g e l := by
  refine ⟨fun j u hj => by have := h.cells hS.fr j u hj; simpa using this, fun hk => ?_⟩
  obtain ⟨o, ho, hob⟩ := mem_blks.1 hk
  have h1 := ((hS.ok o (List.mem_append_left _ ho)).lt hob).2
  rcases h1 with h1 | h1
  · have := cell_lt (h.1 0 _ (List.getElem?_eq_getElem hne))
    simp only at this
    omega
  · exact h.2 h1
theorem G_slh3 {x z u : Operand} {T E : TypeId} {k k' : IntKind} {hi m : Int} {τ : Type} {e : Enc τ} {v z0 : Value} {l : List τ} {bytes : Nat} (hT : P.underlying T = some (.slice E)) (hE : TI P E z0 e.sz bytes)
    (hx : L.ev x = some v) (hz : L.ev z = some (.int k hi)) (hu : L.ev u = some (.int k' m)) (h : RO w e v l) (hg : 0 ≤ hi ∧ hi.toNat ≤ l.length ∧ m = hi) :
    OpV P n L w ⟨d, .slice T x none (some z) (some u), ty, pos, after, none⟩ (slV3 v e.sz 0 hi.toNat hi.toNat) w := fun a ha => by
  obtain ⟨b, c, rfl, hc, _⟩ := h
  obtain ⟨inf, hi', _, hs, _⟩ := hE.get
  obtain ⟨h0, h1, rfl⟩ := hg
  have e2 : m ≤ (c : Int) := by omega
  have e3 : (m.toNat : Int) = m := Int.toNat_of_nonneg (by omega)
  simp [execOp, ha.ev hx, ha.ev hz, ha.ev hu, Instr.sliceAt, Instr.slice, run_underlying hT, Instr.sliceBounds, run_sliceBound, h0, e2, e3, sizeOf, typeInfo, hi', hs, slV3]
theorem OE.ok.cut3 {B : Nat} {τ : Type} {e : Enc τ} {v : Value} {l : List τ} {k : Nat} (h : (own e v l).ok S B w) (hk : k ≤ l.length) : (own e (slV3 v e.sz 0 k k) (l.take k)).ok S B w := by
  refine ⟨e.fl_length _, ?_⟩
  rcases h.2 with ⟨rfl, hn⟩ | ⟨g, cap, cur, T, rfl, hf, hg, hnc, hcm, hcs, htake⟩
  · have : k = 0 := by omega
    subst this
    exact .inl ⟨by simp [slV3], by simp⟩
  · have hv : slV3 (.slice (some ⟨g, 0, none⟩) l.length cap) e.sz 0 k k = .slice (some ⟨g, 0, none⟩) k k := by
      simp [slV3, add_none]
    have hkl : (l.take k).length = k := by simp; omega
    refine .inr ⟨g, k, cur, T, by rw [hv, hkl], hf, hg, by rw [hkl]; exact Nat.le_refl _, by omega, Nat.le_trans (Nat.mul_le_mul_right _ (by omega)) hcs, ?_⟩
    rw [hkl, e.fl_take, ← htake, List.take_take, Nat.min_eq_left (Nat.mul_le_mul_right _ hk)]
theorem St.trunc3 {τ : Type} {e : Enc τ} {v : Value} {l : List τ} {i k : Nat} (h : St S w0 w os) (hi : os[i]? = some (own e v l)) (hk : k ≤ l.length) : St S w0 w (os.set i (own e (slV3 v e.sz 0 k k) (l.take k))) := by
  refine h.set hi (Fr.refl _ _) ((h.ok _ (List.mem_of_getElem? hi)).cut3 hk) fun q hq => .inl ?_
  have hok := h.ok _ (List.mem_of_getElem? hi)
  rcases hok.2 with ⟨rfl, hn⟩ | ⟨g, cap, cur, T, rfl, _⟩
  · simp [OE.blk, slV3, Value.ownBlock] at hq
  · simpa [OE.blk, slV3, add_none, Value.ownBlock] using hq
end
end Go.Gk
end

section
set_option linter.unusedSimpArgs false
set_option linter.unusedVariables false
set_option linter.unusedSectionVars false
namespace Go.Gk
open Go Go.RowKit
section
variable {S : List Nat} {w0 w : World} {os os0 : List OE} {b : Nat} {cs : List Value}
def RB (S : List Nat) (w0 : World) (b : Nat) (cs : List Value) : Prop := (∀ j u, cs[j]? = some u → w0.cell? ⟨b, j, none⟩ = some u) ∧ b ∉ S ∧ b < w0.heap.size
theorem RB.cells (h : RB S w0 b cs) (hf : Fr S w0 w) : ∀ j u, cs[j]? = some u → w.cell? ⟨b, 0 + j, none⟩ = some u := fun j u hj => by
  have := h.1 j u hj
  rw [Nat.zero_add, hf.cell (cell_lt this) h.2.1]
  exact this
theorem RB.cell (h : RB S w0 b cs) (hf : Fr S w0 w) (j : Nat) {u : Value} (hj : cs[j]? = some u) : w.cell? ⟨b, 0 + j, none⟩ = some u := h.cells hf j u hj
theorem RB.now (h : RB S w0 b cs) (hf : Fr S w0 w) : RB [] w b cs :=
  ⟨fun j u hj => by have := h.cells hf j u hj; simpa using this, by simp, Nat.lt_of_lt_of_le h.2.2 hf.size⟩
theorem RB.give (h : RB S w0 b cs) (hS : St S w0 w (os0 ++ os)) : RB (blks os0) w b cs := by
  refine ⟨fun j u hj => by have := h.cells hS.fr j u hj; simpa using this, fun hk => ?_, Nat.lt_of_lt_of_le h.2.2 hS.fr.size⟩
  obtain ⟨o, ho, hob⟩ := mem_blks.1 hk
  have h1 := ((hS.ok o (List.mem_append_left _ ho)).lt hob).2
  rcases h1 with h1 | h1
  · have := h.2.2
    omega
  · exact h.2.1 h1
theorem St.rb (hS : St S w0 w os) (i : Nat) (hi : os[i]? = some (.bx b cs)) : RB [] w b cs := by
  obtain ⟨hf, T, cur, hg, hcs⟩ := hS.ok _ (List.mem_of_getElem? hi)
  exact ⟨fun j u hj => by rw [hS.bxc i hi]; exact hj, by simp, (Array.getElem?_eq_some_iff.1 hg).1⟩
theorem St.giveB (hS : St S w0 w (os0 ++ os)) (i : Nat) (hi : os[i]? = some (.bx b cs)) : RB (blks os0) w b cs := by
  have hm := List.mem_of_getElem? hi
  have hi' : (os0 ++ os)[os0.length + i]? = some (.bx b cs) := by rw [List.getElem?_append_right (by omega)]; simpa using hi
  obtain ⟨h1, _, h3⟩ := hS.rb _ hi'
  refine ⟨h1, fun hk => ?_, h3⟩
  obtain ⟨o, ho, hob⟩ := mem_blks.1 hk
  exact (List.pairwise_append.1 hS.dj).2.2 o ho _ hm b hob rfl
end
theorem len_take_le {τ : Type} (k : Nat) (l : List τ) : (l.take k).length ≤ l.length := by rw [List.length_take]; exact Nat.min_le_right _ _
theorem add_zero' (a : Addr) (k : Nat) : a.add (0 * k) = a := by
  rw [Nat.zero_mul]
  unfold Addr.add
  cases a with
  | mk b off sp => cases sp <;> simp
theorem map_add_zero (a : Option Addr) (k : Nat) : a.map (·.add (0 * k)) = a := by
  cases a with
  | none => rfl
  | some a => simp only [Option.map_some, add_zero']
theorem RO.full {w : World} {τ : Type} {e : Enc τ} {v : Value} {l : List τ} (h : RO w e v l) : v = slV v e.sz 0 l.length := by
  obtain ⟨a, c, rfl, hc, _⟩ := h
  simp only [slV, Nat.sub_zero, map_add_zero, ite_self]
theorem RO.cut3 {w : World} {τ : Type} {e : Enc τ} {v : Value} {l : List τ} (h : RO w e v l) (k m : Nat) : Go.Gk.slV3 (slV v e.sz 0 k) e.sz 0 m m = Go.Gk.slV3 v e.sz 0 m m := by
  obtain ⟨a, c, rfl, hc, _⟩ := h
  simp only [slV, Go.Gk.slV3, Nat.sub_zero, map_add_zero, ite_self]
theorem RO.tk3 {w : World} {τ : Type} {e : Enc τ} {v : Value} {l : List τ} (h : RO w e v l) {k : Nat} (hk : k ≤ l.length) : RO w e (slV3 v e.sz 0 k k) (l.take k) := by
  have := h.sub3 (lo := 0) (hi := k) (m := k) (Nat.zero_le _) hk (Nat.le_refl _)
  simpa using this
theorem RP.tk3 {S : List Nat} {w : World} {τ : Type} {e : Enc τ} {v : Value} {l : List τ} (h : RP S w e v l) {k : Nat} (hk : k ≤ l.length) : RP S w e (slV3 v e.sz 0 k k) (l.take k) := by
  refine ⟨h.1.tk3 hk, fun hl j hj hb => ?_⟩
  have hne : l ≠ [] := by rintro rfl; simp at hl
  refine h.2 hne j hj ?_
  obtain ⟨a, c, rfl, hc, _⟩ := h.1
  have hb' : blkV (.slice a k k) = some j := by simpa only [Go.Gk.slV3, Nat.sub_zero, map_add_zero, ite_self] using hb
  cases a <;> exact hb'
end Go.Gk
end

section
set_option linter.unusedSimpArgs false
set_option linter.unusedVariables false
set_option linter.unusedSectionVars false
namespace Go.Gk
open Go Go.RowKit
section
variable {S Sb : List Nat} {w0 wb w w' : World} {es es1 os os0 osF osK : List OE}
def OE.kept (S : List Nat) (w : World) : OE → Prop
 | .bx b cs => RB S w b cs
 | .rd v sz n cs => cs.length = n * sz ∧ ∃ a c, v = .slice a n c ∧ n ≤ c ∧
   (n ≠ 0 → ∃ b off, a = some ⟨b, off, none⟩ ∧ b < w.heap.size ∧ b ∉ S ∧ ∀ j u, cs[j]? = some u → w.cell? ⟨b, off + j, none⟩ = some u)
 | .sl .. => True
def OE.kp : OE → OE
 | .sl v sz n cs => .rd v sz n cs
 | o => o
theorem OE.kept.to {o : OE} {S' : List Nat} (h : o.kept S w) (hf : Fr S w w') (hS : ∀ k, k < w.heap.size → k ∉ S → k ∉ S') : o.kept S' w' := by
 cases o with
 | sl v sz n cs => trivial
 | bx b cs =>
  obtain ⟨h1, h2, h3⟩ := h
  refine ⟨fun j u hj => ?_, hS _ h3 h2, Nat.lt_of_lt_of_le h3 hf.size⟩
  rw [hf.cell h3 h2]
  exact h1 j u hj
 | rd v sz n cs =>
  obtain ⟨hl, a, c, rfl, hc, hx⟩ := h
  refine ⟨hl, a, c, rfl, hc, fun hn => ?_⟩
  obtain ⟨b, off, rfl, hb, hs, hcell⟩ := hx hn
  refine ⟨b, off, rfl, Nat.lt_of_lt_of_le hb hf.size, hS _ hb hs, fun j u hj => ?_⟩
  rw [hf.cell hb hs]
  exact hcell j u hj
theorem OE.kept.fr {o : OE} (h : o.kept S w) (hf : Fr S w w') : o.kept S w' := h.to hf fun _ _ h => h
theorem OE.kept.blk {o : OE} (h : o.kept S w) (ho : ∀ v sz n cs, o ≠ .sl v sz n cs) {k : Nat} (hk : o.blk = some k) : k < w.heap.size ∧ k ∉ S := by
 cases o with
 | sl v sz n cs => exact absurd rfl (ho v sz n cs)
 | bx b cs => simp [OE.blk] at hk; subst hk; exact ⟨h.2.2, h.2.1⟩
 | rd v sz n cs =>
  obtain ⟨hl, a, c, rfl, hc, hx⟩ := h
  simp only [OE.blk] at hk
  split at hk
  ·cases hk
  ·rename_i hn
   obtain ⟨b, off, rfl, hb, hs, _⟩ := hx hn
   simp [Value.ownBlock] at hk
   subst hk
   exact ⟨hb, hs⟩
theorem OE.ok.kept {o : OE} {B : Nat} (h : o.ok S B w) {S' : List Nat} (hd : ∀ k, o.blk = some k → k ∉ S') : o.kp.kept S' w := by
 cases o with
 | sl v sz n cs =>
  refine ⟨h.1, ?_⟩
  rcases h.2 with ⟨rfl, rfl⟩ | ⟨g, cap, cur, T, rfl, hf, hg, hnc, hcm, hcs, htake⟩
  ·exact ⟨none, 0, rfl, Nat.le_refl _, fun h => absurd rfl h⟩
  ·refine ⟨_, cap, rfl, hnc, fun _ => ⟨g, 0, rfl, hg.lt, hd g rfl, fun j u hj => ?_⟩⟩
   rw [← htake, List.getElem?_take] at hj
   split at hj
   ·rw [Nat.zero_add, hg.cell j]
    simpa using hj
   ·cases hj
 | rd v sz n cs =>
  obtain ⟨hl, a, c, rfl, hc, hx⟩ := h
  refine ⟨hl, a, c, rfl, hc, fun hn => ?_⟩
  obtain ⟨b, off, rfl, hb, _, hcell⟩ := hx hn
  exact ⟨b, off, rfl, hb, hd b (by simp [OE.blk, hn, Value.ownBlock]), hcell⟩
 | bx b cs =>
  obtain ⟨hf, T, cur, hg, hcs⟩ := h
  have hlt := (Array.getElem?_eq_some_iff.1 hg).1
  refine ⟨fun j u hj => ?_, hd b rfl, hlt⟩
  rw [cell_of_row w b j cur T _ hg, ← Array.getElem?_toList, hcs]
  exact hj
def Rds (S : List Nat) (w : World) (es : List OE) : Prop := ∀ o ∈ es, o.kept S w
structure Fz (S : List Nat) (w0 : World) (Sb : List Nat) (wb : World) : Prop where
 fr : Fr S w0 wb
 sb : ∀ b ∈ Sb, fre S w0.heap.size b
def Sf (S : List Nat) (w0 w : World) (es os : List OE) : Prop := ∃ Sb wb, Fz S w0 Sb wb ∧ Rds Sb wb es ∧ St Sb wb w os
theorem Rds.nil : Rds S w [] := fun o h => by cases h
theorem Rds.cons {o : OE} (h : o.kept S w) (hr : Rds S w es) : Rds S w (o :: es) := fun p hp => by
 rcases List.mem_cons.1 hp with rfl | hp
 ·exact h
 ·exact hr p hp
theorem Rds.app (h : Rds S w es) (h1 : Rds S w es1) : Rds S w (es ++ es1) := fun p hp => (List.mem_append.1 hp).elim (h p) (h1 p)
theorem RB.kept {b : Nat} {cs : List Value} (h : RB S w b cs) : (OE.bx b cs).kept S w := h
theorem RP.kept {τ : Type} {e : Enc τ} {v : Value} {l : List τ} (hz : 0 < e.sz) (h : RP S w e v l) : (red e v l).kept S w := by
 refine ⟨e.fl_length l, ?_⟩
 obtain ⟨a, c, rfl, hc, hr⟩ := h.1
 refine ⟨a, c, rfl, hc, fun hn => ?_⟩
 have hl : l ≠ [] := by rintro rfl; exact hn rfl
 obtain ⟨b, off, rfl, hcell⟩ := hr hl
 have hne : 0 < (e.fl l).length := by
  rw [e.fl_length]
  exact Nat.mul_pos (List.length_pos_iff.2 hl) hz
 exact ⟨b, off, rfl, cell_lt (hcell 0 _ (List.getElem?_eq_getElem hne)), fun hb => h.2 hl b hb rfl, hcell⟩
theorem OE.kept.rp {τ : Type} {e : Enc τ} {v : Value} {l : List τ} (h : (red e v l).kept S w) : RP S w e v l := by
 obtain ⟨_, a, c, rfl, hc, hcell⟩ := h
 refine ⟨⟨a, c, rfl, hc, fun hl => ?_⟩, fun hl k hk hb => ?_⟩
 ·obtain ⟨b, off, h1, _, _, h2⟩ := hcell (by simpa using hl)
  exact ⟨b, off, h1, h2⟩
 ·obtain ⟨b, off, rfl, _, hs, _⟩ := hcell (by simpa using hl)
  have : b = k := by simpa [Value.ownBlock] using hb
  exact hs (this ▸ hk)
def endAt (es : List OE) (k : Nat) : Option OE := es[es.length - 1 - k]?
theorem Rds.rp (h : Rds S w es) (k : Nat) {τ : Type} {e : Enc τ} {v : Value} {l : List τ} (hk : endAt es k = some (red e v l)) : RP S w e v l := (h _ (List.mem_of_getElem? hk)).rp
theorem Rds.rb (h : Rds S w es) (k : Nat) {b : Nat} {cs : List Value} (hk : endAt es k = some (.bx b cs)) : RB S w b cs := h _ (List.mem_of_getElem? hk)
theorem Rds.pick {es' : List OE} (h : Rds S w es) (ix : List Nat) (he : es'.map some = ix.map (fun i => endAt es i)) : Rds S w es' := fun o ho => by
 have h1 : some o ∈ es'.map some := List.mem_map_of_mem ho
 rw [he] at h1
 obtain ⟨i, _, hi⟩ := List.mem_map.1 h1
 exact h o (List.mem_of_getElem? hi)
theorem Sf.of (hA : Rds S w0 es) (hS : St S w0 w os) : Sf S w0 w es os := ⟨S, w0, ⟨Fr.refl _ _, fun b hb => .inr hb⟩, hA, hS⟩
theorem Fz.start : Fz S w0 S w0 := ⟨Fr.refl _ _, fun b hb => .inr hb⟩
theorem Fz.st (hF : Fz S w0 Sb wb) (hS : St Sb wb w os) : St S w0 w os := by
 have hfre : ∀ k, fre Sb wb.heap.size k → fre S w0.heap.size k := by
  intro k hk
  rcases hk with hk | hk
  ·exact .inl (Nat.le_trans hF.fr.size hk)
  ·exact hF.sb k hk
 refine ⟨hF.fr.step hS.fr hF.sb, fun o ho => (hS.ok o ho).re fun k _ hf => hfre k hf, hS.dj⟩
end
end Go.Gk
namespace Go.Gk
open Go Go.RowKit
theorem OE.kept.nil {S : List Nat} {w : World} {τ : Type} {e : Enc τ} : (red e (.slice none 0 0) ([] : List τ)).kept S w := ⟨by simp, none, 0, rfl, Nat.le_refl _, fun h => absurd rfl h⟩
theorem Rds.nth {S : List Nat} {w : World} {es : List OE} (h : Rds S w es) (k : Nat) {o : OE} (hk : endAt es k = some o) : o.kept S w := h _ (List.mem_of_getElem? hk)
def ocaseP {α : Type} (x : Option α) (p : Prop) (q : α → Prop) : Prop := match x with
 | none => p
 | some c => q c
theorem ocaseP_n {α : Type} {p : Prop} {q : α → Prop} (h : p) : ocaseP none p q := h
theorem ocaseP_s {α : Type} {c : α} {p : Prop} {q : α → Prop} (h : q c) : ocaseP (some c) p q := h
theorem ocaseP_n' {α : Type} {p : Prop} {q : α → Prop} (h : ocaseP none p q) : p := h
theorem ocaseP_s' {α : Type} {c : α} {p : Prop} {q : α → Prop} (h : ocaseP (some c) p q) : q c := h
end Go.Gk
namespace Go.Gk
open Go Go.RowKit
def OE.ns : OE → Bool
 | .sl .. => false
 | _ => true
def Off (T : List Nat) (es : List OE) : Prop := ∀ o ∈ es, ∀ b, o.blk = some b → b ∉ T
def TOk (S T : List Nat) (w0 : World) : Prop := ∀ b ∈ T, b < w0.heap.size ∧ b ∉ S
def SfT (S T : List Nat) (w0 w : World) (es os : List OE) : Prop := ∃ Sb wb, Fz S w0 Sb wb ∧ Rds Sb wb es ∧ Off T es ∧ St Sb wb w os
section
variable {S T Sb : List Nat} {w0 wb w w' : World} {es es1 os os0 osF osK : List OE}
theorem TOk.nil : TOk S [] w0 := fun b h => by cases h
theorem Off.nil : Off T [] := fun o h => by cases h
theorem Off.emp : Off [] es := fun o _ b _ h => by cases h
theorem Off.cons {o : OE} (h : ∀ b, o.blk = some b → b ∉ T) (hr : Off T es) : Off T (o :: es) := fun p hp => by
 rcases List.mem_cons.1 hp with rfl | hp
 ·exact h
 ·exact hr p hp
theorem Off.app (h : Off T es) (h1 : Off T es1) : Off T (es ++ es1) := fun p hp => (List.mem_append.1 hp).elim (h p) (h1 p)
theorem OE.kept.off {o : OE} (h : o.kept T w) (hn : o.ns = true) : ∀ b, o.blk = some b → b ∉ T := fun b hb => (h.blk (fun v sz n cs e => by rw [e] at hn; cases hn) hb).2
theorem OE.kept.all {o : OE} (h : o.kept T w) : o.kept [] w := h.to (Fr.refl _ _) fun _ _ _ => by simp
theorem OE.kept.more {o : OE} (h : o.kept Sb w) (hn : ∀ b, o.blk = some b → b ∉ T) : o.kept (T ++ Sb) w := by
 cases o with
 | sl v sz n cs => trivial
 | bx b cs =>
  obtain ⟨h1, h2, h3⟩ := h
  exact ⟨h1, fun hb => (List.mem_append.1 hb).elim (hn b rfl) h2, h3⟩
 | rd v sz n cs =>
  obtain ⟨hl, a, c, rfl, hc, hx⟩ := h
  refine ⟨hl, a, c, rfl, hc, fun hne => ?_⟩
  obtain ⟨b, off, rfl, hb, hs, hcell⟩ := hx hne
  exact ⟨b, off, rfl, hb, fun hbb => (List.mem_append.1 hbb).elim (hn b (by simp [OE.blk, hne, Value.ownBlock])) hs, hcell⟩
theorem Rds.off (h : Rds T w es) (hn : es.all OE.ns = true) : Off T es := fun o ho => (h o ho).off (List.all_eq_true.1 hn o ho)
theorem Rds.all (h : Rds T w es) : Rds [] w es := fun o ho => (h o ho).all
theorem Rds.rpT (h : Rds Sb w es) (hP : Off T es) (k : Nat) {τ : Type} {e : Enc τ} {v : Value} {l : List τ} (hk : endAt es k = some (red e v l)) : RP (T ++ Sb) w e v l :=
 ((h _ (List.mem_of_getElem? hk)).more (hP _ (List.mem_of_getElem? hk))).rp
theorem Rds.rbT (h : Rds Sb w es) (hP : Off T es) (k : Nat) {b : Nat} {cs : List Value} (hk : endAt es k = some (.bx b cs)) : RB (T ++ Sb) w b cs :=
 (h _ (List.mem_of_getElem? hk)).more (hP _ (List.mem_of_getElem? hk))
theorem OE.blk_kp (o : OE) : ∀ b, o.kp.blk = some b → o.blk = some b := fun b h => by
 cases o with
 | sl v sz n cs =>
  simp only [OE.kp, OE.blk] at h ⊢
  split at h
  ·cases h
  ·exact h
 | bx b cs => exact h
 | rd v sz n cs => exact h
theorem Fz.offF (hF : Fz S w0 Sb wb) (hT : TOk S T w0) (hP : Off T es) (hS : St Sb wb w (osF ++ osK)) : Off T (osF.map OE.kp ++ es) := by
 refine Off.app (fun o ho b hb hbT => ?_) hP
 obtain ⟨q, hq, rfl⟩ := List.mem_map.1 ho
 have h1 := (((hF.st hS).ok q (List.mem_append_left _ hq)).lt (OE.blk_kp q b hb)).2
 obtain ⟨h2, h3⟩ := hT b hbT
 rcases h1 with h1 | h1
 ·omega
 ·exact h3 h1
theorem Fz.frzK (hF : Fz S w0 Sb wb) (hT : TOk S T w0) (hA : Rds Sb wb es) (hP : Off T es) (hS : St Sb wb w (osF ++ osK)) :
  Fz S w0 (blks osK) w ∧ Rds (blks osK) w (osF.map OE.kp ++ es) ∧ Off T (osF.map OE.kp ++ es) ∧ St (blks osK) w w osK := by
 have hst := hF.st hS
 have hp := List.pairwise_append.1 hS.dj
 refine ⟨⟨hst.fr, fun b hb => ?_⟩, Rds.app ?_ ?_, hF.offF hT hP hS, ?_⟩
 ·obtain ⟨o, ho, hob⟩ := mem_blks.1 hb
  exact ((hst.ok o (List.mem_append_right _ ho)).lt hob).2
 ·intro p hp'
  obtain ⟨o, ho, rfl⟩ := List.mem_map.1 hp'
  refine (hS.ok o (List.mem_append_left _ ho)).kept fun k hk hx => ?_
  obtain ⟨q, hq, hqb⟩ := mem_blks.1 hx
  exact hp.2.2 o ho q hq k hk hqb
 ·intro o ho
  refine (hA o ho).to hS.fr fun k hk hs hx => ?_
  obtain ⟨q, hq, hqb⟩ := mem_blks.1 hx
  rcases ((hS.ok q (List.mem_append_right _ hq)).lt hqb).2 with h | h
  ·omega
  ·exact hs h
 ·exact ⟨Fr.refl _ _, fun o ho => (hS.ok o (List.mem_append_right _ ho)).re fun k hk _ => .inr (mem_blks.2 ⟨o, ho, hk⟩), hp.2.1⟩
theorem Fz.okT (hF : Fz S w0 (blks osK) w) (hT : TOk S T w0) (hS : St (blks osK) w w osK) : TOk [] (T ++ blks osK) w := fun b hb => by
 refine ⟨?_, by simp⟩
 rcases List.mem_append.1 hb with hb | hb
 ·exact Nat.lt_of_lt_of_le (hT b hb).1 hF.fr.size
 ·obtain ⟨o, ho, hob⟩ := mem_blks.1 hb
  exact ((hS.ok o ho).lt hob).1
theorem Fz.callK (hF : Fz S w0 (blks osK) w) (hA : Rds (blks osK) w es) (hP : Off T es) (hS : St (blks osK) w w osK) (hC : St [] w w' []) (hR : Rds (T ++ blks osK) w' es1) (hn : es1.all OE.ns = true) :
  ∃ Sb' wb', Fz S w0 Sb' wb' ∧ Rds Sb' wb' (es1 ++ es) ∧ Off T (es1 ++ es) ∧ St Sb' wb' w' osK := by
 have h4 : St (blks osK) w w' osK := by have := hS.call hC; rwa [List.nil_append] at this
 have hb : ∀ b ∈ blks osK, b < w.heap.size := fun b hb => by
  obtain ⟨o, ho, hob⟩ := mem_blks.1 hb
  exact ((hS.ok o ho).lt hob).1
 refine ⟨blks osK, w', ⟨(hF.st h4).fr, hF.sb⟩, Rds.app (fun o ho => (hR o ho).to (Fr.refl _ _) fun k _ hk hx => hk (List.mem_append_right _ hx)) (fun o ho => (hA o ho).fr h4.fr), ?_, ?_⟩
 ·refine Off.app (fun o ho b hb hx => ?_) hP
  exact (hR o ho).off (List.all_eq_true.1 hn o ho) b hb (List.mem_append_left _ hx)
 ·exact ⟨Fr.refl _ _, fun o ho => (h4.ok o ho).re fun k hk _ => .inr (mem_blks.2 ⟨o, ho, hk⟩), h4.dj⟩
theorem Fz.outT (hF : Fz [] w0 Sb wb) (hT : TOk [] T w0) (hA : Rds Sb wb es) (hP : Off T es) (hS : St Sb wb w os) : St [] w0 w [] ∧ Rds T w (os.map OE.kp ++ es) := by
 obtain ⟨h1, h2, h3, h4⟩ := Fz.frzK (osK := []) hF hT hA hP (by rw [List.append_nil]; exact hS)
 refine ⟨h1.st h4, fun o ho => ?_⟩
 have := (h2 o ho).more (h3 o ho)
 exact this.to (Fr.refl _ _) fun k _ hk hx => hk (List.mem_append_left _ hx)
theorem Off.pick {es' : List OE} (h : Off T es) (ix : List Nat) (he : es'.map some = ix.map (fun i => endAt es i)) : Off T es' := fun o ho => by
 have h1 : some o ∈ es'.map some := List.mem_map_of_mem ho
 rw [he] at h1
 obtain ⟨i, _, hi⟩ := List.mem_map.1 h1
 exact h o (List.mem_of_getElem? hi)
theorem Off.nth (h : Off T es) (k : Nat) {o : OE} (hk : endAt es k = some o) : ∀ b, o.blk = some b → b ∉ T := h _ (List.mem_of_getElem? hk)
end
end Go.Gk
namespace Go.Gk
open Go Go.RowKit
section
variable {P : Program} {n : Nat} {L : Env} {w : World}
theorem QE_rv3 {fn : Func} {r1 r2 r3 : ResultVar} {v1 v2 v3 : Value} {φ : Value → World → Prop} (hres : fn.results = #[r1, r2, r3]) (h1 : RV P L w r1 v1) (h2 : RV P L w r2 v2) (h3 : RV P L w r3 v3) (h : φ (.tuple #[v1, v2, v3]) w) : QE n (bodyPost P fn (Ret φ)) .ret L w := fun a ha => by
 refine ⟨ha.defers, .tuple #[v1, v2, v3], ?_, h⟩
 cases r1 <;> cases r2 <;> cases r3
 ·have g1 := ha.get _ _ h1
  have g2 := ha.get _ _ h2
  have g3 := ha.get _ _ h3
  simp [results, hres, g1, g2, g3]
 ·have g1 := ha.get _ _ h1
  have g2 := ha.get _ _ h2
  obtain ⟨b3, g3, k3⟩ := h3
  have g3 := ha.get _ _ g3
  simp [results, hres, g1, g2, g3, k3, run_asAddr]
 ·have g1 := ha.get _ _ h1
  obtain ⟨b2, g2, k2⟩ := h2
  have g2 := ha.get _ _ g2
  have g3 := ha.get _ _ h3
  simp [results, hres, g1, g2, k2, g3, run_asAddr]
 ·have g1 := ha.get _ _ h1
  obtain ⟨b2, g2, k2⟩ := h2
  have g2 := ha.get _ _ g2
  obtain ⟨b3, g3, k3⟩ := h3
  have g3 := ha.get _ _ g3
  simp [results, hres, g1, g2, k2, g3, k3, run_asAddr]
 ·obtain ⟨b1, g1, k1⟩ := h1
  have g1 := ha.get _ _ g1
  have g2 := ha.get _ _ h2
  have g3 := ha.get _ _ h3
  simp [results, hres, g1, k1, g2, g3, run_asAddr]
 ·obtain ⟨b1, g1, k1⟩ := h1
  have g1 := ha.get _ _ g1
  have g2 := ha.get _ _ h2
  obtain ⟨b3, g3, k3⟩ := h3
  have g3 := ha.get _ _ g3
  simp [results, hres, g1, k1, g2, g3, k3, run_asAddr]
 ·obtain ⟨b1, g1, k1⟩ := h1
  have g1 := ha.get _ _ g1
  obtain ⟨b2, g2, k2⟩ := h2
  have g2 := ha.get _ _ g2
  have g3 := ha.get _ _ h3
  simp [results, hres, g1, k1, g2, k2, g3, run_asAddr]
 ·obtain ⟨b1, g1, k1⟩ := h1
  have g1 := ha.get _ _ g1
  obtain ⟨b2, g2, k2⟩ := h2
  have g2 := ha.get _ _ g2
  obtain ⟨b3, g3, k3⟩ := h3
  have g3 := ha.get _ _ g3
  simp [results, hres, g1, k1, g2, k2, g3, k3, run_asAddr]
end
end Go.Gk
end
