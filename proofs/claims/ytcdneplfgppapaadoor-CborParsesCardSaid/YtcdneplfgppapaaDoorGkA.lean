/- Frames as association lists, and the rules of the walk over them: lemmas only. -/
import Derived.Tactics
import Derived.LoopN
import Derived.Below
import Derived.KernelRfl
namespace Go.Gk
open Go Go.RowKit

/-- What is known of a frame: slots and their values, the latest first. -/
abbrev Env := List (Nat × Value)

def Env.get : Env → Nat → Option Value
  | [], _ => none
  | (k, v) :: r, i => bif Nat.beq k i then some v else Env.get r i

def Env.ev (L : Env) : Operand → Option Value
  | .tmp t => L.get t
  | .const v => some v
  | .global g => some (.pointer (some ⟨g, 0, none⟩))
  | .func f => some (.func (.func f) #[] #[])

def Env.evs (L : Env) : List Operand → Option (List Value)
  | [] => some []
  | x :: r => match L.ev x, Env.evs L r with
    | some v, some vs => some (v :: vs)
    | _, _ => none

structure Rep (n : Nat) (L : Env) (a : Act) : Prop where
  defers : a.defers = []
  size : a.tmps.size = n
  get : ∀ i v, L.get i = some v → a.tmps[i]? = some v

theorem Rep.ev {n : Nat} {L : Env} {a : Act} {x : Operand} {v : Value} (h : Rep n L a) (hx : L.ev x = some v) : a.eval x = v := by
  cases x with
  | tmp t =>
    have := h.get t v hx
    simp [Act.eval, this]
  | const u => simpa [Env.ev, Act.eval] using hx
  | global g => simpa [Env.ev, Act.eval] using hx
  | func f => simpa [Env.ev, Act.eval] using hx

theorem Rep.evs {n : Nat} {L : Env} {a : Act} (h : Rep n L a) : ∀ {xs : List Operand} {vs : List Value}, L.evs xs = some vs → xs.map a.eval = vs
  | [], vs, hx => by simp [Env.evs] at hx; simp [hx]
  | x :: r, vs, hx => by
    simp only [Env.evs] at hx
    cases h1 : L.ev x with
    | none => simp [h1] at hx
    | some v =>
      cases h2 : L.evs r with
      | none => simp [h1, h2] at hx
      | some ws =>
        simp [h1, h2] at hx
        subst hx
        simp [h.ev h1, Rep.evs h h2]

theorem Rep.put {n : Nat} {L : Env} {a : Act} {d : Nat} {v : Value} (h : Rep n L a) (hd : Nat.blt d n = true) : Rep n ((d, v) :: L) (a.put (some d) v) := by
  have hdn : d < n := by simpa [Nat.blt_eq] using hd
  refine ⟨h.defers, by simp [Act.put, h.size], fun i u hi => ?_⟩
  simp only [Env.get] at hi
  by_cases hk : d = i
  · subst hk
    simp at hi
    simp [Act.put, h.size, hdn, hi]
  · have : Nat.beq d i = false := by
      cases hb : Nat.beq d i with
      | false => rfl
      | true => exact absurd (Nat.eq_of_beq_eq_true hb) hk
    rw [this] at hi
    simp only [cond_false] at hi
    have := h.get i u hi
    simp only [Act.put]
    rw [Array.getElem?_setIfInBounds_ne hk]
    exact this

def Env.Le : Env → Env → Prop
  | [], _ => True
  | (k, v) :: r, L => L.get k = some v ∧ Env.Le r L

theorem Env.Le.get {L : Env} : ∀ {L' : Env}, L'.Le L → ∀ i v, L'.get i = some v → L.get i = some v
  | [], _, i, v, h => by simp [Env.get] at h
  | (k, u) :: r, hle, i, v, h => by
    obtain ⟨h1, h2⟩ := hle
    simp only [Env.get] at h
    by_cases hk : Nat.beq k i = true
    · rw [hk] at h
      simp only [cond_true, Option.some.injEq] at h
      subst h
      rw [← Nat.eq_of_beq_eq_true hk]
      exact h1
    · simp only [hk] at h
      exact Env.Le.get h2 i v (by simpa using h)

theorem Rep.le {n : Nat} {L L' : Env} {a : Act} (h : Rep n L a) (hl : L'.Le L) : Rep n L' a :=
  ⟨h.defers, h.size, fun i v hi => h.get i v (hl.get i v hi)⟩

section
variable {P : Program} {n : Nat} {Q : Exit → Act → World → Prop} {L : Env} {w : World}

def wpC (P : Program) (n : Nat) (c : Code) (Q : Exit → Act → World → Prop) (L : Env) (w : World) : Prop := ∀ a, Rep n L a → c.wp P Q a w
def wpR (P : Program) (n : Nat) (ops : Array Oper) (Q : Exit → Act → World → Prop) (l : List Oper) (L : Env) (w : World) : Prop := ∀ a, Rep n L a → wpList P ops Q l a w
def QE (n : Nat) (Q : Exit → Act → World → Prop) (e : Exit) (L : Env) (w : World) : Prop := ∀ a, Rep n L a → Q e a w
def wpN (P : Program) (n : Nat) (c : Code) (Q : Exit → Act → World → Prop) (k : Nat) (L : Env) (w : World) : Prop := ∀ a, Rep n L a → Code.rounds P c Q k a w

theorem wpC_le {c : Code} (L' : Env) (hl : L'.Le L) (h : wpC P n c Q L' w) : wpC P n c Q L w := fun a ha => h a (ha.le hl)
theorem QE_le {e : Exit} (L' : Env) (hl : L'.Le L) (h : QE n Q e L' w) : QE n Q e L w := fun a ha => h a (ha.le hl)
theorem wpN_le {c : Code} {k : Nat} (L' : Env) (hl : L'.Le L) (h : wpN P n c Q k L' w) : wpN P n c Q k L w := fun a ha => h a (ha.le hl)

theorem wpC_seq {x y : Code} (h : wpC P n x (Exit.then (y.wp P Q) Q) L w) : wpC P n (.seq x y) Q L w := fun a ha => wp_seq (h a ha)
theorem wpC_skip (h : QE n Q .normal L w) : wpC P n .skip Q L w := fun a ha => wp_skip (h a ha)
theorem wpC_exit {id : Nat} (h : QE n Q (.exit id) L w) : wpC P n (.exit id) Q L w := fun a ha => wp_exit (h a ha)
theorem wpC_ret (h : QE n Q .ret L w) : wpC P n .ret Q L w := fun a ha => wp_ret (h a ha)
theorem wpC_cond {c : Operand} {x y : Code} {t : Bool} (hc : L.ev c = some (.bool t)) (ht : t = true → wpC P n x Q L w) (hf : t = false → wpC P n y Q L w) :
    wpC P n (.cond c x y) Q L w := fun a ha => wp_cond_split (ha.ev hc) (fun h => ht h a ha) (fun h => hf h a ha)
theorem wpC_condT {c : Operand} {x y : Code} (hc : L.ev c = some (.bool true)) (h : wpC P n x Q L w) : wpC P n (.cond c x y) Q L w := fun a ha => wp_cond_true (ha.ev hc) (h a ha)
theorem wpC_condF {c : Operand} {x y : Code} (hc : L.ev c = some (.bool false)) (h : wpC P n y Q L w) : wpC P n (.cond c x y) Q L w := fun a ha => wp_cond_false (ha.ev hc) (h a ha)
theorem wpC_block {id : Nat} {c : Code} (h : wpC P n c (Exit.inBlock id Q) L w) : wpC P n (.block id c) Q L w := fun a ha => wp_block (h a ha)
theorem wpC_loop {c : Code} (k : Nat) (h : wpN P n c Q k L w) : wpC P n (.loop c) Q L w := fun a ha => wp_loop_rounds k (h a ha)
theorem wpN_succ {c : Code} {k : Nat} (h : wpC P n c (Exit.then (Code.rounds P c Q k) Q) L w) : wpN P n c Q (k + 1) L w := fun a ha => by rw [rounds_succ]; exact h a ha
theorem wpC_region {id : Nat} {l : List Oper} (h : wpR P n l.toArray Q l L w) : wpC P n (.region id l.toArray false) Q L w := fun a ha => wp_region_lit (h a ha)

theorem QE_then_n {y : Code} (h : wpC P n y Q L w) : QE n (Exit.then (y.wp P Q) Q) .normal L w := h
theorem QE_then_x {K : Act → World → Prop} {id : Nat} (h : QE n Q (.exit id) L w) : QE n (Exit.then K Q) (.exit id) L w := h
theorem QE_then_r {K : Act → World → Prop} (h : QE n Q .ret L w) : QE n (Exit.then K Q) .ret L w := h
theorem QE_rnd {c : Code} {k : Nat} (h : wpN P n c Q k L w) : QE n (Exit.then (Code.rounds P c Q k) Q) .normal L w := h
theorem QE_blk_n {id : Nat} (h : QE n Q .normal L w) : QE n (Exit.inBlock id Q) .normal L w := h
theorem QE_blk_r {id : Nat} (h : QE n Q .ret L w) : QE n (Exit.inBlock id Q) .ret L w := h
theorem QE_blk_x {id : Nat} (h : QE n Q .normal L w) : QE n (Exit.inBlock id Q) (.exit id) L w := fun a ha => by
  show (if id = id then Q .normal a w else Q (.exit id) a w)
  rw [if_pos rfl]; exact h a ha
theorem QE_blk_o {id id' : Nat} (hne : Nat.beq id' id = false) (h : QE n Q (.exit id') L w) : QE n (Exit.inBlock id Q) (.exit id') L w := fun a ha => by
  show (if id' = id then Q .normal a w else Q (.exit id') a w)
  rw [if_neg (Nat.ne_of_beq_eq_false hne)]; exact h a ha

/-- The end of a region. -/
theorem wpR_nil {ops : Array Oper} (h : QE n Q .normal L w) : wpR P n ops Q [] L w := h

/-- One operation, unguarded, that yields a value. -/
def OpV (P : Program) (n : Nat) (L : Env) (w : World) (o : Oper) (v : Value) (w' : World) : Prop :=
  ∀ a, Rep n L a → (execOp a.eval o).run P w = .ok (.value v) w'

theorem wpR_v {ops : Array Oper} {rest : List Oper} {d : Nat} {op : Op} {ty : TypeId} {pos : String} {after : Array Edge} {v : Value} {w' : World}
    (hv : OpV P n L w ⟨some d, op, ty, pos, after, none⟩ v w') (hd : Nat.blt d n = true)
    (h : wpR P n ops Q rest ((d, v) :: L) w') : wpR P n ops Q (⟨some d, op, ty, pos, after, none⟩ :: rest) L w := fun a ha => by
  unfold wpList
  rw [if_pos (by simp [Region.wanted])]
  refine .inl ?_
  unfold Oper.wp
  rw [hv a ha]
  exact h _ (ha.put hd)

/-- One operation, unguarded, without a result. -/
def OpS (P : Program) (n : Nat) (L : Env) (w : World) (o : Oper) (w' : World) : Prop :=
  ∀ a, Rep n L a → (execOp a.eval o).run P w = .ok .skip w'

theorem wpR_s {ops : Array Oper} {rest : List Oper} {op : Op} {ty : TypeId} {pos : String} {after : Array Edge} {w' : World}
    (hv : OpS P n L w ⟨none, op, ty, pos, after, none⟩ w')
    (h : wpR P n ops Q rest L w') : wpR P n ops Q (⟨none, op, ty, pos, after, none⟩ :: rest) L w := fun a ha => by
  unfold wpList
  rw [if_pos (by simp [Region.wanted])]
  refine .inl ?_
  unfold Oper.wp
  rw [hv a ha]
  exact h _ ha

theorem OpV_move {w : World} {d : Option Tmp} {x : Operand} {v : Value} {ty : TypeId} {pos : String} {after : Array Edge} (hx : L.ev x = some v) :
    OpV P n L w ⟨d, .move x, ty, pos, after, none⟩ v w := fun a ha => by
  simp [execOp, ha.ev hx]
end
end Go.Gk
