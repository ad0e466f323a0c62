/- Memory: what a slice reads as, what a call owns, and how the operations on slices read on lists: lemmas only. -/
import Derived.Test.YtcdneplfgppapaaDoorGkB
import Derived.Laws.CopyOwn
import Derived.Laws.MakeOwn
import Derived.Laws.AppendOwn
import Derived.Great.BuildSlice
import Derived.Deep.Draws
namespace Go.Gk
open Go Go.RowKit

/-- How a Go element of one cell or more stands in memory. -/
structure Enc (τ : Type) where
  sz : Nat
  cells : τ → List Value
  len : ∀ t, (cells t).length = sz
  one : ∀ t, ∀ u ∈ cells t, u.oneCell' = true

def e8 : Enc UInt8 := ⟨1, fun x => [v8 x], fun _ => rfl, fun _ u h => by simp at h; subst h; rfl⟩
def e32 : Enc UInt32 := ⟨1, fun x => [v32 x], fun _ => rfl, fun _ u h => by simp at h; subst h; rfl⟩
def e64 : Enc UInt64 := ⟨1, fun x => [v64 x], fun _ => rfl, fun _ u h => by simp at h; subst h; rfl⟩
def eI : Enc Int := ⟨1, fun x => [vI x], fun _ => rfl, fun _ u h => by simp at h; subst h; rfl⟩
def eS : Enc (List UInt8) := ⟨1, fun x => [vS x], fun _ => rfl, fun _ u h => by simp at h; subst h; rfl⟩
/-- A slice value as an element. -/
structure SV where
  a : Option Addr
  n : Nat
  c : Nat
abbrev SV.v (s : SV) : Value := .slice s.a s.n s.c
def eV : Enc SV := ⟨1, fun x => [x.v], fun _ => rfl, fun _ u h => by simp at h; subst h; rfl⟩

abbrev Enc.fl {τ : Type} (e : Enc τ) (l : List τ) : List Value := l.flatMap e.cells

theorem Enc.fl_length {τ : Type} (e : Enc τ) (l : List τ) : (e.fl l).length = l.length * e.sz := by
  induction l with
  | nil => simp [Enc.fl]
  | cons a r ih =>
    simp only [Enc.fl, List.flatMap_cons, List.length_append, List.length_cons, e.len, Nat.add_mul] at ih ⊢
    omega

theorem Enc.fl_append {τ : Type} (e : Enc τ) (l m : List τ) : e.fl (l ++ m) = e.fl l ++ e.fl m := by simp [Enc.fl]

theorem Enc.fl_one {τ : Type} (e : Enc τ) (l : List τ) : ∀ u ∈ e.fl l, u.oneCell' = true := by
  intro u hu
  simp only [Enc.fl, List.mem_flatMap] at hu
  obtain ⟨t, _, ht⟩ := hu
  exact e.one t u ht

theorem Enc.fl_drop {τ : Type} (e : Enc τ) (l : List τ) (k : Nat) : e.fl (l.drop k) = (e.fl l).drop (k * e.sz) := by
  induction k generalizing l with
  | zero => simp
  | succ k ih =>
    cases l with
    | nil => simp [Enc.fl]
    | cons a r =>
      rw [List.drop_succ_cons, ih]
      simp only [Enc.fl, List.flatMap_cons, Nat.add_mul, Nat.one_mul]
      rw [Nat.add_comm, ← List.drop_drop, ← e.len a, List.drop_left]

theorem Enc.fl_take {τ : Type} (e : Enc τ) (l : List τ) (k : Nat) : e.fl (l.take k) = (e.fl l).take (k * e.sz) := by
  induction k generalizing l with
  | zero => simp [Enc.fl]
  | succ k ih =>
    cases l with
    | nil => simp [Enc.fl]
    | cons a r =>
      rw [List.take_succ_cons]
      simp only [Enc.fl, List.flatMap_cons, Nat.add_mul, Nat.one_mul] at ih ⊢
      rw [ih, Nat.add_comm (k * e.sz), List.take_append]
      simp [e.len, List.take_of_length_le]

theorem Enc.fl_get {τ : Type} (e : Enc τ) (l : List τ) (i : Nat) (t : τ) (h : l[i]? = some t) (j : Nat) (hj : j < e.sz) : (e.fl l)[i * e.sz + j]? = (e.cells t)[j]? := by
  have h1 : (e.fl l)[i * e.sz + j]? = ((e.fl l).drop (i * e.sz))[j]? := by rw [List.getElem?_drop]
  rw [h1, ← e.fl_drop]
  have h2 : l.drop i = t :: l.drop (i + 1) := by
    obtain ⟨hi, he⟩ := List.getElem?_eq_some_iff.1 h
    rw [List.drop_eq_getElem_cons hi, he]
  rw [h2]
  simp only [Enc.fl, List.flatMap_cons]
  rw [List.getElem?_append_left (by rw [e.len]; exact hj)]

/-- In the world w, the value v is a slice that reads as the list l. -/
def RO (w : World) {τ : Type} (e : Enc τ) (v : Value) (l : List τ) : Prop :=
  ∃ a c, v = .slice a l.length c ∧ l.length ≤ c ∧ (l ≠ [] → ∃ b off, a = some ⟨b, off, none⟩ ∧ ∀ j u, (e.fl l)[j]? = some u → w.cell? ⟨b, off + j, none⟩ = some u)

/-- Behind the call's beginning: blocks that were there, but those of S, are as they were. -/
structure Fr (S : List Nat) (w w' : World) : Prop where
  os : w'.os = w.os
  tape : w'.tape = w.tape
  output : w'.output = w.output
  size : w.heap.size ≤ w'.heap.size
  block : ∀ k, k < w.heap.size → k ∉ S → w'.heap[k]? = w.heap[k]?

theorem Fr.refl (S : List Nat) (w : World) : Fr S w w := ⟨rfl, rfl, rfl, Nat.le_refl _, fun _ _ _ => rfl⟩
theorem Fr.trans {S : List Nat} {a b c : World} (h : Fr S a b) (k : Fr S b c) : Fr S a c :=
  ⟨k.os.trans h.os, k.tape.trans h.tape, k.output.trans h.output, Nat.le_trans h.size k.size, fun i hi hn => (k.block i (Nat.lt_of_lt_of_le hi h.size) hn).trans (h.block i hi hn)⟩
/-- A step that writes at blocks of R at most, each of them of S or new since a. -/
theorem Fr.step {S R : List Nat} {a b c : World} (h : Fr S a b) (k : Fr R b c) (hr : ∀ x ∈ R, a.heap.size ≤ x ∨ x ∈ S) : Fr S a c :=
  ⟨k.os.trans h.os, k.tape.trans h.tape, k.output.trans h.output, Nat.le_trans h.size k.size, fun i hi hn => by
    refine (k.block i (Nat.lt_of_lt_of_le hi h.size) fun hx => ?_).trans (h.block i hi hn)
    rcases hr i hx with h1 | h1
    · omega
    · exact hn h1⟩
theorem Fr.mono {S R : List Nat} {a b : World} (h : Fr S a b) (hs : ∀ x ∈ S, x ∈ R) : Fr R a b :=
  ⟨h.os, h.tape, h.output, h.size, fun k hk hn => h.block k hk fun hx => hn (hs k hx)⟩
theorem Fr.below {w w' : World} (h : Fr [] w w') : Below w.heap.size w w' := ⟨h.os, h.tape, h.output, h.size, fun k hk => h.block k hk (by simp)⟩
theorem Fr.alloc (S : List Nat) (w : World) (o : Obj) : Fr S w (w.alloc o) := ⟨rfl, rfl, rfl, by simp, fun k hk _ => heap_alloc_old w o k hk⟩
theorem Fr.drew (S : List Nat) (w : World) : Fr S w w.drew := ⟨rfl, rfl, rfl, Nat.le_refl _, fun _ _ _ => rfl⟩
theorem Fr.drewN (S : List Nat) (w : World) (n : Nat) : Fr S w (w.drewN n) := ⟨rfl, rfl, rfl, Nat.le_refl _, fun _ _ _ => rfl⟩
theorem Fr.setRow (w : World) (g : Nat) (cs : Array Value) : Fr [g] w (w.setRow g cs) := by
  refine ⟨rfl, rfl, rfl, by simp [World.setRow], fun k _ hn => setRow_other w g k cs (by simpa using hn)⟩
theorem Fr.grown {w w' : World} {row : Option Nat} (h : w.grownBy w' row) : Fr row.toList w w' :=
  ⟨h.os, h.tape, h.output, h.size, fun k hk hn => h.block k hk (by cases row <;> simp_all)⟩
theorem Fr.cell {S : List Nat} {w w' : World} (h : Fr S w w') {p : Addr} (hp : p.block < w.heap.size) (hs : p.block ∉ S) : w'.cell? p = w.cell? p :=
  World.cell?_of_block (h.block p.block hp hs)

theorem cell_lt {w : World} {p : Addr} {u : Value} (h : w.cell? p = some u) : p.block < w.heap.size := World.block_lt_of_cell? w p h

/-- The block that a slice's value names. -/
abbrev blkV (v : Value) : Option Nat := v.ownBlock

theorem RO.fr {S : List Nat} {w w' : World} {τ : Type} {e : Enc τ} {v : Value} {l : List τ} (h : RO w e v l) (hf : Fr S w w') (hs : l ≠ [] → ∀ k ∈ S, blkV v ≠ some k) : RO w' e v l := by
  obtain ⟨a, c, rfl, hc, hr⟩ := h
  refine ⟨a, c, rfl, hc, fun hl => ?_⟩
  obtain ⟨b, off, rfl, hcell⟩ := hr hl
  refine ⟨b, off, rfl, fun j u hj => ?_⟩
  have h1 := hcell j u hj
  rw [hf.cell (cell_lt h1) (fun hx => hs hl _ hx rfl)]
  exact h1

/-- A list that is read only, as it was when the call began: its block is none of S. -/
def RP (S : List Nat) (w : World) {τ : Type} (e : Enc τ) (v : Value) (l : List τ) : Prop := RO w e v l ∧ (l ≠ [] → ∀ k ∈ S, blkV v ≠ some k)
theorem RP.now {S : List Nat} {w w' : World} {τ : Type} {e : Enc τ} {v : Value} {l : List τ} (h : RP S w e v l) (hf : Fr S w w') : RO w' e v l := h.1.fr hf h.2
theorem RO.rp {w : World} {τ : Type} {e : Enc τ} {v : Value} {l : List τ} (h : RO w e v l) : RP [] w e v l := ⟨h, by simp⟩

theorem RO.nil (w : World) {τ : Type} (e : Enc τ) : RO w e (.slice none 0 0) ([] : List τ) := ⟨none, 0, rfl, Nat.le_refl _, fun h => absurd rfl h⟩

/-- What a slice expression yields. -/
def slV (v : Value) (sz lo hi : Nat) : Value := match v with
  | .slice a _ c => .slice (if c = lo then a else a.map (·.add (lo * sz))) (hi - lo) (c - lo)
  | v => v
/-- .. one with three indexes. -/
def slV3 (v : Value) (sz lo hi m : Nat) : Value := match v with
  | .slice a _ _ => .slice (if m = lo then a else a.map (·.add (lo * sz))) (hi - lo) (m - lo)
  | v => v

theorem add_none (b off k : Nat) : (⟨b, off, none⟩ : Addr).add k = ⟨b, off + k, none⟩ := by
  unfold Addr.add; split <;> simp_all

theorem RO.sub {w : World} {τ : Type} {e : Enc τ} {v : Value} {l : List τ} (h : RO w e v l) {lo hi : Nat} (h1 : lo ≤ hi) (h2 : hi ≤ l.length) :
    RO w e (slV v e.sz lo hi) ((l.drop lo).take (hi - lo)) := by
  obtain ⟨a, c, rfl, hc, hr⟩ := h
  have hlen : ((l.drop lo).take (hi - lo)).length = hi - lo := by simp; omega
  refine ⟨if c = lo then a else a.map (·.add (lo * e.sz)), c - lo, by rw [hlen]; rfl, by rw [hlen]; omega, fun hne => ?_⟩
  have hl : l ≠ [] := by rintro rfl; simp at hne
  have hpos : 0 < hi - lo := by
    rcases Nat.eq_zero_or_pos (hi - lo) with h0 | h0
    · rw [h0] at hne; simp at hne
    · exact h0
  obtain ⟨b, off, rfl, hcell⟩ := hr hl
  have hcl : ¬ c = lo := by omega
  refine ⟨b, off + lo * e.sz, by simp [hcl, add_none], fun j u hj => ?_⟩
  rw [e.fl_take, e.fl_drop, List.getElem?_take] at hj
  split at hj
  · rw [List.getElem?_drop] at hj
    have := hcell _ _ hj
    rw [Nat.add_assoc]
    exact this
  · cases hj

theorem RO.sub3 {w : World} {τ : Type} {e : Enc τ} {v : Value} {l : List τ} (h : RO w e v l) {lo hi m : Nat} (h1 : lo ≤ hi) (h2 : hi ≤ l.length) (h3 : hi ≤ m) :
    RO w e (slV3 v e.sz lo hi m) ((l.drop lo).take (hi - lo)) := by
  obtain ⟨a, c, rfl, hc, hr⟩ := h
  have hlen : ((l.drop lo).take (hi - lo)).length = hi - lo := by simp; omega
  refine ⟨if m = lo then a else a.map (·.add (lo * e.sz)), m - lo, by rw [hlen]; rfl, by rw [hlen]; omega, fun hne => ?_⟩
  have hl : l ≠ [] := by rintro rfl; simp at hne
  have hpos : 0 < hi - lo := by
    rcases Nat.eq_zero_or_pos (hi - lo) with h0 | h0
    · rw [h0] at hne; simp at hne
    · exact h0
  obtain ⟨b, off, rfl, hcell⟩ := hr hl
  have hcl : ¬ m = lo := by omega
  refine ⟨b, off + lo * e.sz, by simp [hcl, add_none], fun j u hj => ?_⟩
  rw [e.fl_take, e.fl_drop, List.getElem?_take] at hj
  split at hj
  · rw [List.getElem?_drop] at hj
    have := hcell _ _ hj
    rw [Nat.add_assoc]
    exact this
  · cases hj

/-- The address of an element. -/
def ixA (v : Value) (sz i : Nat) : Addr := match v with
  | .slice (some a) _ _ => a.add (i * sz)
  | _ => default

theorem RO.cellAt {w : World} {τ : Type} {e : Enc τ} {v : Value} {l : List τ} (h : RO w e v l) {i : Nat} {t : τ} (hi : l[i]? = some t) {j : Nat} (hj : j < e.sz) {u : Value} (hu : (e.cells t)[j]? = some u) :
    w.cell? ((ixA v e.sz i).add j) = some u := by
  obtain ⟨a, c, rfl, hc, hr⟩ := h
  have hl : l ≠ [] := by rintro rfl; simp at hi
  obtain ⟨b, off, rfl, hcell⟩ := hr hl
  have := hcell (i * e.sz + j) u (by rw [e.fl_get l i t hi j hj]; exact hu)
  simp only [ixA, add_none]
  rw [Nat.add_assoc]
  exact this

theorem RO.cellAt0 {w : World} {τ : Type} {e : Enc τ} {v : Value} {l : List τ} (h : RO w e v l) {i : Nat} {t : τ} (hi : l[i]? = some t) {u : Value} (hu : e.cells t = [u]) :
    w.cell? (ixA v e.sz i) = some u := by
  have hsz : e.sz = 1 := by rw [← e.len t, hu]; rfl
  have := h.cellAt hi (j := 0) (by omega) (u := u) (by rw [hu]; rfl)
  simpa [Addr.add] using this

/-! What the call owns. -/
inductive OE where
  | sl (v : Value) (sz n : Nat) (cs : List Value)
  | rd (v : Value) (sz n : Nat) (cs : List Value)
  | bx (b : Nat) (cs : List Value)

def OE.blk : OE → Option Nat
  | .sl v _ _ _ => blkV v
  | .rd v _ n _ => if n = 0 then none else blkV v
  | .bx b _ => some b

def fre (S : List Nat) (B b : Nat) : Prop := B ≤ b ∨ b ∈ S

def OE.ok (S : List Nat) (B : Nat) (w : World) : OE → Prop
  | .sl v sz n cs => cs.length = n * sz ∧ ((v = .slice none 0 0 ∧ n = 0) ∨
      ∃ g cap cur T, v = .slice (some ⟨g, 0, none⟩) n cap ∧ fre S B g ∧ w.heap[g]? = some (.cells cur T (0, 0)) ∧ n ≤ cap ∧ cap ≤ maxLen ∧ cap * sz ≤ cur.size ∧ cur.toList.take (n * sz) = cs)
  | .rd v sz n cs => cs.length = n * sz ∧ ∃ a c, v = .slice a n c ∧ n ≤ c ∧
      (n ≠ 0 → ∃ b off, a = some ⟨b, off, none⟩ ∧ b < w.heap.size ∧ fre S B b ∧ ∀ j u, cs[j]? = some u → w.cell? ⟨b, off + j, none⟩ = some u)
  | .bx b cs => fre S B b ∧ ∃ T cur, w.heap[b]? = some (.cells cur T (0, 0)) ∧ cur.toList = cs

theorem OE.ok.lt {S : List Nat} {B : Nat} {w : World} {o : OE} (h : o.ok S B w) {k : Nat} (hk : o.blk = some k) : k < w.heap.size ∧ fre S B k := by
  cases o with
  | sl v sz n cs =>
    rcases h.2 with ⟨rfl, _⟩ | ⟨g, cap, cur, T, rfl, hf, hg, _⟩
    · simp [OE.blk, Value.ownBlock] at hk
    · simp [OE.blk, Value.ownBlock] at hk
      subst hk
      exact ⟨(Array.getElem?_eq_some_iff.1 hg).1, hf⟩
  | rd v sz n cs =>
    obtain ⟨_, a, c, rfl, _, hx⟩ := h
    simp only [OE.blk] at hk
    split at hk
    · cases hk
    · rename_i hn
      obtain ⟨b, off, rfl, hb, hf, _⟩ := hx hn
      simp [Value.ownBlock] at hk
      subst hk
      exact ⟨hb, hf⟩
  | bx b cs =>
    obtain ⟨hf, T, cur, hg, _⟩ := h
    simp [OE.blk] at hk
    subst hk
    exact ⟨(Array.getElem?_eq_some_iff.1 hg).1, hf⟩

theorem OE.ok.fr {S R : List Nat} {B : Nat} {w w' : World} {o : OE} (h : o.ok S B w) (hf : Fr R w w') (hr : ∀ k ∈ R, o.blk ≠ some k) : o.ok S B w' := by
  cases o with
  | sl v sz n cs =>
    refine ⟨h.1, ?_⟩
    rcases h.2 with hn | ⟨g, cap, cur, T, rfl, hfr, hg, rest⟩
    · exact .inl hn
    · refine .inr ⟨g, cap, cur, T, rfl, hfr, ?_, rest⟩
      rw [hf.block g (Array.getElem?_eq_some_iff.1 hg).1 (fun hx => hr g hx rfl)]
      exact hg
  | rd v sz n cs =>
    obtain ⟨hl, a, c, rfl, hc, hcell⟩ := h
    refine ⟨hl, a, c, rfl, hc, fun hne => ?_⟩
    obtain ⟨b, off, rfl, hbl, hfre, hh⟩ := hcell hne
    refine ⟨b, off, rfl, Nat.lt_of_lt_of_le hbl hf.size, hfre, fun j u hj => ?_⟩
    have h1 := hh j u hj
    rw [hf.cell (cell_lt h1) (fun hx => hr _ hx (by simp [OE.blk, hne, Value.ownBlock]))]
    exact h1
  | bx b cs =>
    obtain ⟨hfr, T, cur, hg, hcs⟩ := h
    refine ⟨hfr, T, cur, ?_, hcs⟩
    rw [hf.block b (Array.getElem?_eq_some_iff.1 hg).1 (fun hx => hr b hx rfl)]
    exact hg

def OE.dj (o p : OE) : Prop := ∀ k, o.blk = some k → p.blk ≠ some k
theorem OE.dj.symm {o p : OE} (h : o.dj p) : p.dj o := fun k hp ho => h k ho hp

/-- The state of a call's memory: as it began (w0), but what is of S; and what the call owns now. -/
structure St (S : List Nat) (w0 w : World) (os : List OE) : Prop where
  fr : Fr S w0 w
  ok : ∀ o ∈ os, o.ok S w0.heap.size w
  dj : os.Pairwise OE.dj

theorem St.start (w : World) : St [] w w [] := ⟨Fr.refl _ _, by simp, List.Pairwise.nil⟩

/-- A step that writes nowhere but in new blocks. -/
theorem St.step {S : List Nat} {w0 w w' : World} {os : List OE} (h : St S w0 w os) (hf : Fr [] w w') : St S w0 w' os :=
  ⟨h.fr.step hf (by simp), fun o ho => (h.ok o ho).fr hf (by simp), h.dj⟩

/-- .. and leaves one thing more. -/
theorem St.push {S : List Nat} {w0 w w' : World} {os : List OE} (h : St S w0 w os) (hf : Fr [] w w') {o : OE} (ho : o.ok S w0.heap.size w') (hn : ∀ k, o.blk = some k → w.heap.size ≤ k) : St S w0 w' (o :: os) := by
  refine ⟨h.fr.step hf (by simp), ?_, ?_⟩
  · intro p hp
    rcases List.mem_cons.1 hp with rfl | hp
    · exact ho
    · exact (h.ok p hp).fr hf (by simp)
  · refine List.Pairwise.cons (fun p hp k hk hk' => ?_) h.dj
    have := (h.ok p hp).lt hk'
    have := hn k hk
    omega

/-- A step that writes in one thing of the call's own, or puts another one in its place. -/
theorem St.set {S : List Nat} {w0 w w' : World} {os : List OE} (h : St S w0 w os) {i : Nat} {o o' : OE} (hi : os[i]? = some o) (hf : Fr o.blk.toList w w') (ho : o'.ok S w0.heap.size w')
    (hn : ∀ k, o'.blk = some k → o.blk = some k ∨ w.heap.size ≤ k) : St S w0 w' (os.set i o') := by
  have hio := List.mem_of_getElem? hi
  refine ⟨h.fr.step hf fun x hx => ?_, ?_, ?_⟩
  · cases hb : o.blk with
    | none => rw [hb] at hx; simp at hx
    | some k =>
      rw [hb] at hx
      simp at hx
      subst hx
      exact ((h.ok o hio).lt hb).2
  · intro p hp
    obtain ⟨j, hj⟩ := List.getElem?_of_mem hp
    rw [List.getElem?_set] at hj
    split at hj
    · split at hj
      · simp at hj; subst hj; exact ho
      · cases hj
    · rename_i hij
      refine (h.ok p (List.mem_of_getElem? hj)).fr hf fun k hk hb => ?_
      have hd : ∀ x y (hx : x < os.length) (hy : y < os.length), x < y → (os[x]).dj (os[y]) := List.pairwise_iff_getElem.1 h.dj
      obtain ⟨hil, hie⟩ := List.getElem?_eq_some_iff.1 hi
      obtain ⟨hjl, hje⟩ := List.getElem?_eq_some_iff.1 hj
      have hok : o.blk = some k := by
        cases hbk : o.blk with
        | none => rw [hbk] at hk; simp at hk
        | some q => rw [hbk] at hk; simp at hk; rw [hk]
      rcases Nat.lt_or_gt_of_ne hij with hlt | hlt
      · have := hd i j hil hjl hlt; rw [hie, hje] at this; exact this k hok hb
      · have := hd j i hjl hil hlt; rw [hie, hje] at this; exact this k hb hok
  · rw [List.pairwise_iff_getElem]
    intro x y hx hy hxy
    have hd : ∀ x y (hx : x < os.length) (hy : y < os.length), x < y → (os[x]).dj (os[y]) := List.pairwise_iff_getElem.1 h.dj
    obtain ⟨hil, hie⟩ := List.getElem?_eq_some_iff.1 hi
    simp only [List.length_set] at hx hy
    rw [List.getElem_set, List.getElem_set]
    split
    · split
      · omega
      · rename_i h1 h2
        subst h1
        intro k hk hk'
        rcases hn k hk with h3 | h3
        · have := hd i y hx hy hxy; rw [hie] at this; exact this k h3 hk'
        · have := ((h.ok _ (List.getElem_mem hy)).lt hk').1; omega
    · split
      · rename_i h1 h2
        subst h2
        intro k hk hk'
        rcases hn k hk' with h3 | h3
        · have := hd x i hx hy hxy; rw [hie] at this; exact this k hk h3
        · have := ((h.ok _ (List.getElem_mem hx)).lt hk).1; omega
      · exact hd x y hx hy hxy

/-- Things that are no longer wanted are left out. -/
theorem St.sub {S : List Nat} {w0 w : World} {os os' : List OE} (h : St S w0 w os) (hs : os'.Sublist os) : St S w0 w os' :=
  ⟨h.fr, fun o ho => h.ok o (hs.subset ho), h.dj.sublist hs⟩

/-- An own list, by its elements. -/
abbrev own {τ : Type} (e : Enc τ) (v : Value) (l : List τ) : OE := .sl v e.sz l.length (e.fl l)
abbrev red {τ : Type} (e : Enc τ) (v : Value) (l : List τ) : OE := .rd v e.sz l.length (e.fl l)

theorem OE.ok.ro {S : List Nat} {B : Nat} {w : World} {τ : Type} {e : Enc τ} {v : Value} {l : List τ} (h : (own e v l).ok S B w) : RO w e v l := by
  rcases h.2 with ⟨rfl, hn⟩ | ⟨g, cap, cur, T, rfl, hfr, hg, hnc, hcm, hcs, htake⟩
  · have : l = [] := List.eq_nil_of_length_eq_zero hn
    subst this
    exact RO.nil w e
  · refine ⟨_, cap, rfl, hnc, fun _ => ⟨g, 0, rfl, fun j u hj => ?_⟩⟩
    rw [← htake, List.getElem?_take] at hj
    split at hj
    · rw [Nat.zero_add, cell_of_row w g j cur T (0, 0) hg]
      simpa using hj
    · cases hj

theorem OE.ok.rro {S : List Nat} {B : Nat} {w : World} {τ : Type} {e : Enc τ} {v : Value} {l : List τ} (h : (red e v l).ok S B w) : RO w e v l := by
  obtain ⟨_, a, c, rfl, hc, hcell⟩ := h
  refine ⟨a, c, rfl, hc, fun hl => ?_⟩
  obtain ⟨b, off, h1, _, _, h2⟩ := hcell (by simpa using hl)
  exact ⟨b, off, h1, h2⟩

theorem St.ro {S : List Nat} {w0 w : World} {os : List OE} (h : St S w0 w os) (i : Nat) {τ : Type} {e : Enc τ} {v : Value} {l : List τ} (hi : os[i]? = some (own e v l)) : RO w e v l :=
  (h.ok _ (List.mem_of_getElem? hi)).ro
theorem St.rro {S : List Nat} {w0 w : World} {os : List OE} (h : St S w0 w os) (i : Nat) {τ : Type} {e : Enc τ} {v : Value} {l : List τ} (hi : os[i]? = some (red e v l)) : RO w e v l :=
  (h.ok _ (List.mem_of_getElem? hi)).rro
end Go.Gk
