/- Regions that draw their order: one walk in the order of the text serves all orders, if what may pass one another does so without a trace: lemmas only. -/
import Derived.Test.YtcdneplfgppapaaDoorGkD
import Derived.Deep.Quiet
namespace Go.Gk
open Go Go.RowKit

section
variable {P : Program} {ops : Array Oper} {C D : World → Prop} {Q : Exit → Act → World → Prop} {fl : Nat → Bool}

/-- A quiet operation: in every world of the class it yields v and turns nothing (or it is not wanted). -/
def Ins (P : Program) (ops : Array Oper) (C : World → Prop) (o : Oper) (v : Value) (a : Act) : Prop :=
  (Region.wanted o (yielded ops a.tmps) = true ∧ ∀ w, C w → (execOp a.eval o).run P w = .ok (.value v) w) ∨
  (Region.wanted o (yielded ops a.tmps) = false ∧ v = undef)

theorem Ins.of_same {o : Oper} {v : Value} {a a' : Act} (hy : Ins P ops C o v a) (he : execOp a'.eval o = execOp a.eval o)
    (hw : Region.wanted o (yielded ops a'.tmps) = Region.wanted o (yielded ops a.tmps)) : Ins P ops C o v a' := by
  unfold Ins at *
  rw [he, hw]
  exact hy

theorem Ins.unique {o : Oper} {u v : Value} {a : Act} {w : World} (hw : C w) (h : Ins P ops C o u a) (h' : Ins P ops C o v a) : u = v := by
  rcases h with ⟨h1, h2⟩ | ⟨h1, h2⟩ <;> rcases h' with ⟨h3, h4⟩ | ⟨h3, h4⟩
  · have e := (h2 w hw).symm.trans (h4 w hw)
    simpa using e
  · rw [h1] at h3; cases h3
  · rw [h1] at h3; cases h3
  · rw [h2, h4]

/-- The walk in the order of the list. -/
def lx (P : Program) (ops : Array Oper) (C D : World → Prop) (Q : Exit → Act → World → Prop) (fl : Nat → Bool) : List Nat → Act → World → Prop
  | [], a, w => D w ∧ Q .normal a w
  | i :: r, a, w => C w ∧ match ops[i]? with
    | none => lx P ops C D Q fl r a w
    | some o => if fl i then ∃ v, Ins P ops C o v a ∧ lx P ops C D Q fl r (a.put o.dst v) w else wpOp P ops Q i (lx P ops C D Q fl r) a w

theorem lx_C {l : List Nat} {a : Act} {w : World} (h : lx P ops C D Q fl l a w) (hl : l = [] → ∀ w, D w → C w) : C w := by
  cases l
  · exact hl rfl _ h.1
  · exact h.1

def noSel (ops : Array Oper) : Prop := ∀ (j : Nat) (o : Oper) cs b, ops[j]? = some o → o.op ≠ .select cs b

/-- An operation, done whether or not another one's value is in its place. -/
theorem wpOp_put (hp : ∀ c a w, ¬ Q (.panic c) a w) {j : Nat} {oi oj : Oper} {v : Value} (hj : ops[j]? = some oj) (hap : oi.apart ops oj = true)
    (hsi : ∀ cs b, oi.op ≠ .select cs b) (hsj : ∀ cs b, oj.op ≠ .select cs b) {K : Act → World → Prop} {a : Act} {w : World}
    (hy : Ins P ops C oi v a) (h : wpOp P ops Q j K (a.put oi.dst v) w) :
    wpOp P ops Q j (fun a' w' => Ins P ops C oi v a' ∧ K (a'.put oi.dst v) w') a w := by
  obtain ⟨h1, h2, h3⟩ := Oper.apart_spec hap
  have keep : ∀ u, Ins P ops C oi v (a.put oj.dst u) := fun u =>
    hy.of_same (execOp_put oi hsi a oj.dst u h3) (wanted_put oi a oj.dst u h3)
  unfold wpOp at *
  simp only [hj] at *
  rw [wanted_put oj a oi.dst v h1] at h
  have he := execOp_put oj hsj a oi.dst v h1
  split
  · rename_i hw
    simp only [hw, if_true] at h
    rcases h with h | h
    · left
      unfold Oper.wp at *
      rw [he] at h
      generalize (execOp a.eval oj).run P w = r at *
      cases r with
      | ok nx w' =>
        cases nx <;> simp only [Oper.upon] at h ⊢
        case value u => exact ⟨keep u, by rw [← Act.put_comm a v u h2]; exact h⟩
        case skip => exact ⟨keep undef, by rw [← Act.put_comm a v undef h2]; exact h⟩
        case defer dd =>
          refine ⟨?_, ?_⟩
          · have := keep undef
            refine this.of_same ?_ ?_
            · cases oj.dst <;> rfl
            · cases oj.dst <;> rfl
          · rw [Act.put_defers] at h
            rw [← Act.put_comm _ v undef h2]
            exact h
        case enter f args =>
          refine Calls.mono h fun e w'' hh => ?_
          cases e with
          | returned u => exact ⟨keep u, by rw [← Act.put_comm a v u h2]; exact hh⟩
          | panicked c => exact absurd hh (hp _ _ _)
          | outgrown => exact hh
        case row rw_ args =>
          exact Rows.mono h fun u w'' hh => ⟨keep u, by rw [← Act.put_comm a v u h2]; exact hh⟩
      | halt x w' =>
        cases x <;> simp only [Oper.upon] at h ⊢
        exact absurd h (hp _ _ _)
    · right
      refine ⟨?_, h.2⟩
      have := h.1
      unfold Oper.asks at *
      rw [he] at this
      exact this
  · rename_i hw
    simp only [hw] at h
    exact ⟨keep _, by rw [← Act.put_comm a v undef h2]; exact h⟩

/-- Behind an operation there is some end of it. -/
theorem wpOp_some (hp : ∀ c a w, ¬ Q (.panic c) a w) (ho : ∀ a w, ¬ Q .outgrown a w) {i : Nat} {oi : Oper} (hi : ops[i]? = some oi) {K : Act → World → Prop} {a : Act} {w : World}
    (h : wpOp P ops Q i K a w) : ∃ a' w' u df, K a' w' ∧ a' = ({ a with defers := df } : Act).put oi.dst u := by
  unfold wpOp at h
  simp only [hi] at h
  split at h
  · rcases h with h | ⟨_, a₀, w₀, h⟩
    · unfold Oper.wp at h
      generalize (execOp a.eval oi).run P w = r at *
      cases r with
      | ok nx w' =>
        cases nx <;> simp only [Oper.upon] at h
        case value u => exact ⟨_, _, u, a.defers, h, rfl⟩
        case skip => exact ⟨_, _, undef, a.defers, h, rfl⟩
        case defer dd => exact ⟨_, _, undef, dd :: a.defers, h, rfl⟩
        case enter f args =>
          obtain ⟨e, w'', fr, hR, _⟩ := h []
          cases e with
          | returned u => exact ⟨_, _, u, a.defers, hR, rfl⟩
          | panicked c => exact absurd hR (hp _ _ _)
          | outgrown => obtain ⟨a₀, w₀, hq⟩ := hR; exact absurd hq (ho _ _)
        case row rw_ args =>
          obtain ⟨u, w'', hR, _⟩ := h default []
          exact ⟨_, _, u, a.defers, hR, rfl⟩
      | halt x w' =>
        cases x <;> simp only [Oper.upon] at h
        exact absurd h (hp _ _ _)
    · exact absurd h (ho _ _)
  · exact ⟨_, _, undef, a.defers, h, rfl⟩

/-- Two neighbours change places. -/
theorem lx_swap (hp : ∀ c a w, ¬ Q (.panic c) a w) (ho : ∀ a w, ¬ Q .outgrown a w) (hs : noSel ops) {i j : Nat} {r : List Nat} {a : Act} {w : World}
    (hij : ∀ oi oj, ops[i]? = some oi → ops[j]? = some oj → oi.apart ops oj = true ∧ (fl i || fl j) = true) (_hne : i ≠ j) (hE : r = [] → ∀ w, D w → C w)
    (h : lx P ops C D Q fl (i :: j :: r) a w) : lx P ops C D Q fl (j :: i :: r) a w := by
  obtain ⟨hC, h⟩ := h
  refine ⟨hC, ?_⟩
  cases hi : ops[i]? with
  | none =>
    simp only [hi] at h
    obtain ⟨_, h⟩ := h
    cases hj : ops[j]? with
    | none => simp only [hj] at h; exact ⟨hC, by simp only [hi]; exact h⟩
    | some oj =>
      simp only [hj] at h ⊢
      split
      · rename_i hf
        simp only [hf, if_true] at h
        obtain ⟨v, h1, h2⟩ := h
        exact ⟨v, h1, hC, by simp only [hi]; exact h2⟩
      · rename_i hf
        rw [if_neg hf] at h
        exact wpOp_mono (fun a' w' h' => ⟨lx_C h' hE, by simp only [hi]; exact h'⟩) h
  | some oi =>
    simp only [hi] at h
    cases hj : ops[j]? with
    | none =>
      simp only []
      refine ⟨hC, ?_⟩
      simp only [hi]
      split
      · rename_i hf
        simp only [hf, if_true] at h
        obtain ⟨v, h1, _, h2⟩ := h
        simp only [hj] at h2
        exact ⟨v, h1, h2⟩
      · rename_i hf
        simp only [hf] at h
        exact wpOp_mono (fun a' w' h' => by have := h'.2; simp only [hj] at this; exact this) h
    | some oj =>
      obtain ⟨hap, hfl⟩ := hij oi oj hi hj
      obtain ⟨p1, p2, p3⟩ := Oper.apart_spec hap
      have hsi := fun cs b => hs i oi cs b hi
      have hsj := fun cs b => hs j oj cs b hj
      simp only []
      by_cases hfi : fl i = true
      · simp only [hfi, if_true] at h
        obtain ⟨v, hv, _, h2⟩ := h
        simp only [hj] at h2
        by_cases hfj : fl j = true
        · simp only [hfj, if_true] at h2 ⊢
          obtain ⟨u, hu, h3⟩ := h2
          refine ⟨u, hu.of_same (execOp_put oj hsj a oi.dst v p1).symm (wanted_put oj a oi.dst v p1).symm, hC, ?_⟩
          simp only [hi, hfi, if_true]
          refine ⟨v, hv.of_same (execOp_put oi hsi a oj.dst u p3) (wanted_put oi a oj.dst u p3), ?_⟩
          rw [← Act.put_comm a v u p2]; exact h3
        · simp only [hfj] at h2 ⊢
          refine wpOp_mono (fun a' w' h' => ?_) (wpOp_put hp hj hap hsi hsj hv h2)
          refine ⟨lx_C h'.2 hE, ?_⟩
          simp only [hi, hfi, if_true]
          exact ⟨v, h'.1, h'.2⟩
      · simp only [hfi] at h
        have hfj : fl j = true := by simpa [hfi] using hfl
        simp only [hfj, if_true]
        have hK : ∀ a' w', lx P ops C D Q fl (j :: r) a' w' → C w' ∧ ∃ u, Ins P ops C oj u a' ∧ lx P ops C D Q fl r (a'.put oj.dst u) w' := fun a' w' h' => by
          obtain ⟨c, h''⟩ := h'
          simp only [hj, hfj, if_true] at h''
          exact ⟨c, h''⟩
        obtain ⟨a', w', x, df, h1, rfl⟩ := wpOp_some hp ho hi h
        obtain ⟨c', u, hu, h2⟩ := hK _ _ h1
        have hua : Ins P ops C oj u a := by
          refine hu.of_same ?_ ?_
          · have := execOp_put oj hsj ({ a with defers := df } : Act) oi.dst x p1
            rw [this]; rfl
          · have := wanted_put (ops := ops) oj ({ a with defers := df } : Act) oi.dst x p1
            rw [this]
        refine ⟨u, hua, hC, ?_⟩
        simp only [hi, hfi]
        -- the operation, done with the other one's value in its place
        show wpOp P ops Q i (lx P ops C D Q fl r) (a.put oj.dst u) w
        have he := execOp_put oi hsi a oj.dst u p3
        have hwn := wanted_put (ops := ops) oi a oj.dst u p3
        have next : ∀ (y : Value) w', lx P ops C D Q fl (j :: r) (a.put oi.dst y) w' → lx P ops C D Q fl r ((a.put oj.dst u).put oi.dst y) w' := fun y w' h' => by
          obtain ⟨c, u', hu', h3⟩ := hK _ _ h'
          have : u' = u := by
            refine Ins.unique c (hu'.of_same ?_ ?_ : Ins P ops C oj u' a) hua
            · rw [execOp_put oj hsj a oi.dst y p1]
            · rw [wanted_put oj a oi.dst y p1]
          subst this
          rw [← Act.put_comm a y u' p2]; exact h3
        have nextd : ∀ (y : Value) (dd : Deferred) w', lx P ops C D Q fl (j :: r) (({ a with defers := dd :: a.defers } : Act).put oi.dst y) w' →
            lx P ops C D Q fl r (({ (a.put oj.dst u) with defers := dd :: (a.put oj.dst u).defers } : Act).put oi.dst y) w' := fun y dd w' h' => by
          obtain ⟨c, u', hu', h3⟩ := hK _ _ h'
          have : u' = u := by
            refine Ins.unique c (hu'.of_same ?_ ?_ : Ins P ops C oj u' a) hua
            · rw [execOp_put oj hsj _ oi.dst y p1]; rfl
            · rw [wanted_put oj _ oi.dst y p1]
          subst this
          rw [Act.put_defers, ← Act.put_comm _ y u' p2]; exact h3
        unfold wpOp at h ⊢
        simp only [hi] at h ⊢
        rw [hwn]
        split
        · rename_i hw
          simp only [hw, if_true] at h
          rcases h with h | h
          · left
            unfold Oper.wp at *
            rw [he]
            generalize (execOp a.eval oi).run P w = rr at *
            cases rr with
            | ok nx w' =>
              cases nx <;> simp only [Oper.upon] at h ⊢
              case value y => exact next y _ h
              case skip => exact next undef _ h
              case defer dd => exact nextd undef dd _ h
              case enter f args =>
                refine Calls.mono h fun e w'' hh => ?_
                cases e with
                | returned y => exact next y _ hh
                | panicked c => exact absurd hh (hp _ _ _)
                | outgrown => exact hh
              case row rw_ args => exact Rows.mono h fun y w'' hh => next y _ hh
            | halt x w' =>
              cases x <;> simp only [Oper.upon] at h ⊢
              exact absurd h (hp _ _ _)
          · right
            refine ⟨?_, h.2⟩
            have := h.1
            unfold Oper.asks at *
            rw [he]
            exact this
        · rename_i hw
          simp only [hw] at h
          exact next undef _ h

/-- j waits for i, at once or by way of others. -/
def reach (ops : Array Oper) : Nat → Nat → Nat → Bool
  | 0, _, _ => false
  | f + 1, j, i => match ops[j]? with
    | none => false
    | some o => o.after.toList.any fun e => Region.binds .any e && (Nat.beq e.on i || reach ops f e.on i)

def lowT (ops : Array Oper) : Bool :=
  (List.range ops.size).all fun j => match ops[j]? with
    | some o => o.after.toList.all fun e => !Region.binds .any e || Nat.blt e.on j
    | none => true

def chkT (ops : Array Oper) (fl : Nat → Bool) : Bool :=
  (List.range ops.size).all fun j => (List.range j).all fun i => reach ops ops.size j i || (match ops[i]?, ops[j]? with
    | some oi, some oj => oi.apart ops oj && (fl i || fl j)
    | _, _ => true)

def noSelB (ops : Array Oper) : Bool := ops.toList.all fun o => match o.op with | .select .. => false | _ => true
theorem noSelB_spec (h : noSelB ops = true) : noSel ops := by
  intro j o cs b hj he
  have := List.all_eq_true.1 h o (Array.mem_toList_iff.2 (Array.mem_of_getElem? hj))
  rw [he] at this
  cases this

def closed (ops : Array Oper) (listed : Array Bool) : Prop :=
  ∀ j oj, ops[j]? = some oj → listed.getD j false = true → ∀ e ∈ oj.after, Region.binds .any e = true → listed.getD e.on false = true

theorem reach_listed {listed : Array Bool} (hc : closed ops listed) : ∀ (f j i : Nat) (oj : Oper), ops[j]? = some oj → (∀ e ∈ oj.after, Region.binds .any e = true → listed.getD e.on false = true) →
    reach ops f j i = true → listed.getD i false = true
  | 0, _, _, _, _, _, h => by simp [reach] at h
  | f + 1, j, i, oj, hj, hall, h => by
    simp only [reach, hj, List.any_eq_true, Bool.and_eq_true, Bool.or_eq_true] at h
    obtain ⟨e, he, hb, h | h⟩ := h
    · rw [← Nat.eq_of_beq_eq_true h]; exact hall e (by simpa using he) hb
    · have hl := hall e (by simpa using he) hb
      cases ho : ops[e.on]? with
      | none => cases f <;> simp [reach, ho] at h
      | some oe => exact reach_listed hc f e.on i oe ho (fun e' he' hb' => hc e.on oe ho hl e' he' hb') h

theorem lx_front (hp : ∀ c a w, ¬ Q (.panic c) a w) (ho : ∀ a w, ¬ Q .outgrown a w) (hs : noSel ops) {j : Nat} :
    ∀ (l1 l2 : List Nat) (a : Act) (w : World), (∀ i ∈ l1, i ≠ j ∧ ∀ oi oj, ops[i]? = some oi → ops[j]? = some oj → oi.apart ops oj = true ∧ (fl i || fl j) = true) → (l1 ≠ [] → l2 = [] → ∀ w, D w → C w) →
      lx P ops C D Q fl (l1 ++ j :: l2) a w → lx P ops C D Q fl (j :: (l1 ++ l2)) a w
  | [], _, _, _, _, _, h => h
  | i :: l1, l2, a, w, hall, hE, h => by
    have ih : ∀ a w, lx P ops C D Q fl (l1 ++ j :: l2) a w → lx P ops C D Q fl (j :: (l1 ++ l2)) a w := fun a w h =>
      lx_front hp ho hs l1 l2 a w (fun k hk => hall k (by simp [hk])) (fun _ h2 => hE (by simp) h2) h
    have h1 : lx P ops C D Q fl (i :: j :: (l1 ++ l2)) a w := by
      obtain ⟨hC, h⟩ := h
      refine ⟨hC, ?_⟩
      cases hi : ops[i]? with
      | none => simp only [hi] at h ⊢; exact ih _ _ h
      | some oi =>
        simp only [hi] at h ⊢
        split
        · rename_i hf
          simp only [hf, if_true] at h
          obtain ⟨v, hv, h⟩ := h
          exact ⟨v, hv, ih _ _ h⟩
        · rename_i hf
          simp only [hf] at h
          exact wpOp_mono (fun a' w' h' => ih _ _ h') h
    have hi := hall i (by simp)
    exact lx_swap hp ho hs hi.2 hi.1 (fun h0 => hE (by simp) (List.append_eq_nil_iff.1 h0).2) h1

theorem getD_set_self {listed : Array Bool} {i : Nat} (h : i < listed.size) (d : Bool) : (listed.setIfInBounds i true).getD i d = true := by
  simp [h]

theorem wpAny_lx (hp : ∀ c a w, ¬ Q (.panic c) a w) (ho : ∀ a w, ¬ Q .outgrown a w) (hs : noSel ops)
    (hlow : ∀ j oj, ops[j]? = some oj → ∀ e ∈ oj.after, Region.binds .any e = true → e.on < j)
    (hchk : ∀ i j, i < j → j < ops.size → reach ops ops.size j i = false → ∀ oi oj, ops[i]? = some oi → ops[j]? = some oj → oi.apart ops oj = true ∧ (fl i || fl j) = true)
    :
    ∀ (m : Nat) (l : List Nat) (listed : Array Bool) (a : Act) (w : World), l.length = m → l.Pairwise (· < ·) → listed.size = ops.size → closed ops listed →
      (∀ i, i ∈ l ↔ i < ops.size ∧ listed.getD i true = false) → ((∀ w, D w → C w) ∨ ((∀ i, i < ops.size - 1 → reach ops ops.size (ops.size - 1) i = true) ∧ (l ≠ [] → ops.size - 1 ∈ l))) → lx P ops C D Q fl l a w → wpAny P .any ops Q m listed a w
  | 0, l, listed, a, w, hm, _, _, _, hmem, _, h => by
    have hl : l = [] := List.eq_nil_of_length_eq_zero hm
    subst hl
    refine ⟨?_, h.2⟩
    refine List.eq_nil_iff_forall_not_mem.2 fun i hi => ?_
    obtain ⟨hun, o, ho', _⟩ := mem_ready.1 hi
    have := (hmem i).2 ⟨(Array.getElem?_eq_some_iff.1 ho').1, hun⟩
    cases this
  | m + 1, l, listed, a, w, hm, hsort, hsz, hcl, hmem, hin, h => by
    refine ⟨fun hnil => ?_, fun j hj => ?_⟩
    · -- the least one that is not listed is ready, or nothing can be
      exfalso
      cases l with
      | nil => simp at hm
      | cons i r =>
        obtain ⟨his, hun⟩ := (hmem i).1 (by simp)
        have hi : i ∈ Region.ready .any ops listed := by
          refine mem_ready.2 ⟨hun, ops[i], by simp [his], fun e he hb => ?_⟩
          have hlt := hlow i ops[i] (by simp [his]) e he hb
          cases hl : listed.getD e.on false with
          | true => rfl
          | false =>
            have hes : e.on < listed.size := by rw [hsz]; omega
            have hl' : listed.getD e.on true = false := by simp [hes] at hl ⊢; exact hl
            have hm2 := (hmem e.on).2 ⟨by omega, hl'⟩
            rcases List.mem_cons.1 hm2 with h1 | h1
            · omega
            · have := (List.pairwise_cons.1 hsort).1 e.on h1
              omega
        rw [hnil] at hi
        cases hi
    · obtain ⟨hun, oj, hoj, hall⟩ := mem_ready.1 hj
      have hjs : j < ops.size := (Array.getElem?_eq_some_iff.1 hoj).1
      have hjl : j ∈ l := (hmem j).2 ⟨hjs, hun⟩
      obtain ⟨l1, l2, rfl⟩ := List.append_of_mem hjl
      have hlt : ∀ i ∈ l1, i < j := fun i hi => (List.pairwise_append.1 hsort).2.2 i hi j (by simp)
      have hun : ∀ i ∈ l1 ++ l2, reach ops ops.size j i = false := fun i hi => by
        cases hr : reach ops ops.size j i with
        | false => rfl
        | true =>
          have h2 := reach_listed hcl ops.size j i oj hoj hall hr
          have h3 := (hmem i).1 (by rcases List.mem_append.1 hi with h | h <;> simp [h])
          rw [Array.getD_eq_getD_getElem?] at h2
          have h4 := h3.2
          rw [Array.getD_eq_getD_getElem?] at h4
          have : i < listed.size := by rw [hsz]; exact h3.1
          simp [this] at h2 h4
          rw [h2] at h4; cases h4
      have hlast : (∀ i, i < ops.size - 1 → reach ops ops.size (ops.size - 1) i = true) → ops.size - 1 = j → l1 = [] := fun h3 hjn => by
        cases hl : l1 with
        | nil => rfl
        | cons i r =>
          exfalso
          have hi : i ∈ l1 := by rw [hl]; simp
          have := h3 i (by have := hlt i hi; omega)
          rw [hjn, hun i (by simp [hi])] at this
          cases this
      have hl2 : ops.size - 1 = j → l2 = [] := fun hjn => by
        cases l2 with
        | nil => rfl
        | cons k r =>
          have hk := ((hmem k).1 (by simp)).1
          have h5 := (List.pairwise_append.1 hsort).2.1
          have := (List.pairwise_cons.1 h5).1 k (by simp)
          omega
      have hfr : l1 ≠ [] → l2 = [] → ∀ w, D w → C w := fun h1 h2 => by
        rcases hin with h3 | ⟨h3, hin⟩
        · exact h3
        · exfalso
          subst h2
          have hn := hin (by simp)
          refine h1 (hlast h3 ?_)
          rcases List.mem_append.1 hn with h4 | h4
          · have := hlt _ h4; omega
          · simpa using h4
      have hin' : (∀ w, D w → C w) ∨ ((∀ i, i < ops.size - 1 → reach ops ops.size (ops.size - 1) i = true) ∧ (l1 ++ l2 ≠ [] → ops.size - 1 ∈ l1 ++ l2)) := by
        rcases hin with h3 | ⟨h3, hin⟩
        · exact .inl h3
        · refine .inr ⟨h3, fun hne => ?_⟩
          have hn := hin (by simp)
          rcases List.mem_append.1 hn with h4 | h4
          · exact List.mem_append_left _ h4
          · rcases List.mem_cons.1 h4 with h4 | h4
            · exfalso
              exact hne (by rw [hlast h3 h4, hl2 h4]; rfl)
            · exact List.mem_append_right _ h4
      have h1 := lx_front hp ho hs l1 l2 a w (fun i hi => ⟨Nat.ne_of_lt (hlt i hi), fun oi oj' hoi hoj' => by
        refine hchk i j (hlt i hi) hjs ?_ oi oj' hoi hoj'
        cases hr : reach ops ops.size j i with
        | false => rfl
        | true =>
          have h2 := reach_listed hcl ops.size j i oj hoj hall hr
          have h3 := ((hmem i).1 (by simp [hi])).2
          rw [Array.getD_eq_getD_getElem?] at h2 h3
          have : i < listed.size := by rw [hsz]; exact Nat.lt_trans (hlt i hi) hjs
          simp [this] at h2 h3
          rw [h2] at h3; cases h3⟩) hfr h
      have hsort' : (l1 ++ l2).Pairwise (· < ·) := by
        refine hsort.sublist ?_
        exact List.Sublist.append_left (List.sublist_cons_self j l2) l1
      have hlen : (l1 ++ l2).length = m := by simp at hm ⊢; omega
      have hcl' : closed ops (listed.setIfInBounds j true) := by
        intro k ok hk hl e he hb
        by_cases hkj : j = k
        · subst hkj
          have : ok = oj := Option.some.inj (hk.symm.trans hoj)
          subst this
          exact getD_set_true (hall e he hb)
        · rw [getD_set_ne false hkj] at hl
          exact getD_set_true (hcl k ok hk hl e he hb)
      have hnd : j ∉ l1 ++ l2 := by
        intro hx
        rcases List.mem_append.1 hx with hx | hx
        · exact absurd (hlt j hx) (Nat.lt_irrefl _)
        · have := (List.pairwise_append.1 hsort).2.1
          have := (List.pairwise_cons.1 this).1 j hx
          exact absurd this (Nat.lt_irrefl _)
      have hmem' : ∀ i, i ∈ l1 ++ l2 ↔ i < ops.size ∧ (listed.setIfInBounds j true).getD i true = false := by
        intro i
        by_cases hij : j = i
        · subst hij
          constructor
          · intro hx; exact absurd hx hnd
          · intro hx
            have := getD_set_self (listed := listed) (i := j) (by rw [hsz]; exact hjs) true
            rw [this] at hx; cases hx.2
        · rw [getD_set_ne true hij, ← hmem i]
          simp only [List.mem_append, List.mem_cons]
          constructor
          · rintro (hx | hx)
            · exact .inl hx
            · exact .inr (.inr hx)
          · rintro (hx | hx | hx)
            · exact .inl hx
            · exact absurd hx.symm hij
            · exact .inr hx
      have ih : ∀ a' w', lx P ops C D Q fl (l1 ++ l2) a' w' → wpAny P .any ops Q m (listed.setIfInBounds j true) a' w' := fun a' w' h' =>
        wpAny_lx hp ho hs hlow hchk m (l1 ++ l2) _ a' w' hlen hsort' (by simp [hsz]) hcl' hmem' hin' h'
      obtain ⟨hC, h1⟩ := h1
      simp only [hoj] at h1
      split at h1
      · obtain ⟨v, hv, h2⟩ := h1
        unfold wpOp
        simp only [hoj]
        rcases hv with ⟨hw, hv⟩ | ⟨hw, rfl⟩
        · rw [if_pos hw]
          left
          unfold Oper.wp
          rw [hv w hC]
          exact ih _ _ h2
        · rw [if_neg (by rw [hw]; simp)]
          exact ih _ _ h2
      · exact wpOp_mono (fun a' w' h' => ih a' w' h') h1

theorem chkT_spec (h : chkT ops fl = true) : ∀ i j, i < j → j < ops.size → reach ops ops.size j i = false → ∀ oi oj, ops[i]? = some oi → ops[j]? = some oj → oi.apart ops oj = true ∧ (fl i || fl j) = true := by
  intro i j hij hj hr oi oj hi hoj
  have h1 := List.all_eq_true.1 (List.all_eq_true.1 h j (List.mem_range.2 hj)) i (List.mem_range.2 hij)
  simp only [hr, Bool.false_or, hi, hoj, Bool.and_eq_true] at h1
  exact h1

theorem lowT_spec (h : lowT ops = true) : ∀ j oj, ops[j]? = some oj → ∀ e ∈ oj.after, Region.binds .any e = true → e.on < j := by
  intro j oj hj e he hb
  have h1 := List.all_eq_true.1 h j (List.mem_range.2 (Array.getElem?_eq_some_iff.1 hj).1)
  simp only [hj] at h1
  have h2 := List.all_eq_true.1 h1 e (by simpa using he)
  simp only [hb, Bool.not_true, Bool.false_or, Nat.blt_eq] at h2
  exact h2

def sinkT (ops : Array Oper) : Bool := (List.range (ops.size - 1)).all fun i => reach ops ops.size (ops.size - 1) i
/-- A region that draws its order, walked in the order of the text. -/
theorem wp_regionT {id : Nat} {l : List Oper} {a : Act} {w : World} (hm : P.follows .mixedOrders = true) (hp : ∀ c a w, ¬ Q (.panic c) a w) (ho : ∀ a w, ¬ Q .outgrown a w)
    (hB : (noSelB l.toArray && lowT l.toArray && chkT l.toArray fl) = true) (hD : (∀ w, D w → C w) ∨ (sinkT l.toArray = true ∧ l ≠ [])) (h : lx P l.toArray C D Q fl (List.range l.length) a w.drew) : (Code.region id l.toArray true).wp P Q a w := by
  simp only [Bool.and_eq_true] at hB
  refine wp_region_any hm ?_
  refine wpAny_lx hp ho (noSelB_spec hB.1.1) (lowT_spec hB.1.2) (chkT_spec hB.2) _ (List.range l.length) _ a _ (by simp) List.pairwise_lt_range (by simp) (fun j oj hj hl => ?_) (fun i => ?_) ?_ h
  · rw [Array.getD_eq_getD_getElem?, Array.getElem?_replicate] at hl
    split at hl <;> simp at hl
  · rw [Array.getD_eq_getD_getElem?, Array.getElem?_replicate]
    by_cases h1 : i < l.length
    · simp [h1]
    · simp [h1]
  · rcases hD with hD | ⟨hD, hl⟩
    · exact .inl hD
    · refine .inr ⟨fun i hi => ?_, fun _ => ?_⟩
      · exact List.all_eq_true.1 hD i (List.mem_range.2 hi)
      · have := List.length_pos_iff.2 hl
        simp; omega

variable {n : Nat} {L : Env} {w : World}
def lxE (P : Program) (n : Nat) (ops : Array Oper) (C D : World → Prop) (Q : Exit → Act → World → Prop) (fl : Nat → Bool) (l : List Nat) (L : Env) (w : World) : Prop := ∀ a, Rep n L a → lx P ops C D Q fl l a w

theorem wpC_regionT {id : Nat} {l : List Oper} (C : World → Prop) (fl : Nat → Bool) (hm : P.follows .mixedOrders = true) (hp : ∀ c a w, ¬ Q (.panic c) a w) (ho : ∀ a w, ¬ Q .outgrown a w)
    (hB : (noSelB l.toArray && lowT l.toArray && chkT l.toArray fl) = true) (h : lxE P n l.toArray C C Q fl (List.range l.length) L w.drew) : wpC P n (.region id l.toArray true) Q L w :=
  fun a ha => wp_regionT hm hp ho hB (.inl fun _ h => h) (h a ha)
/-- .. whose last operation waits for all others: what it writes the others may read. -/
theorem wpC_regionS {id : Nat} {l : List Oper} (C : World → Prop) (fl : Nat → Bool) (hm : P.follows .mixedOrders = true) (hp : ∀ c a w, ¬ Q (.panic c) a w) (ho : ∀ a w, ¬ Q .outgrown a w)
    (hB : (noSelB l.toArray && lowT l.toArray && chkT l.toArray fl && sinkT l.toArray && !l.isEmpty) = true) (h : lxE P n l.toArray C (fun _ => True) Q fl (List.range l.length) L w.drew) : wpC P n (.region id l.toArray true) Q L w :=
  fun a ha => by
    simp only [Bool.and_eq_true] at hB
    refine wp_regionT hm hp ho (by simp only [Bool.and_eq_true]; exact hB.1.1) (.inr ⟨hB.1.2, fun h0 => ?_⟩) (h a ha)
    have := hB.2
    rw [h0] at this
    cases this

theorem lxE_nil (hC : D w) (h : QE n Q .normal L w) : lxE P n ops C D Q fl [] L w := fun a ha => ⟨hC, h a ha⟩
theorem lxE_v {i : Nat} {r : List Nat} {d : Nat} {op : Op} {ty : TypeId} {pos : String} {after : Array Edge} {v : Value} (hC : C w) (ho : ops[i]? = some ⟨some d, op, ty, pos, after, none⟩) (hf : fl i = true)
    (hv : ∀ w, C w → OpV P n L w ⟨some d, op, ty, pos, after, none⟩ v w) (hd : Nat.blt d n = true) (h : lxE P n ops C D Q fl r ((d, v) :: L) w) : lxE P n ops C D Q fl (i :: r) L w := fun a ha => by
  refine ⟨hC, ?_⟩
  simp only [ho, hf, if_true]
  exact ⟨v, .inl ⟨by simp [Region.wanted], fun w' hw' => hv w' hw' a ha⟩, h _ (ha.put hd)⟩
theorem lxE_x {i : Nat} {r : List Nat} {d : Nat} {op : Op} {ty : TypeId} {pos : String} {after : Array Edge} {Φ : Value → World → Prop} (hC : C w) (ho : ops[i]? = some ⟨some d, op, ty, pos, after, none⟩) (hf : fl i = false)
    (hv : OpX P n L w ⟨some d, op, ty, pos, after, none⟩ Φ) (hd : Nat.blt d n = true) (h : ∀ v w', Φ v w' → lxE P n ops C D Q fl r ((d, v) :: L) w') : lxE P n ops C D Q fl (i :: r) L w := fun a ha => by
  refine ⟨hC, ?_⟩
  simp only [ho, hf, Bool.false_eq_true, if_false]
  obtain ⟨v, w', h1, h2⟩ := hv
  unfold wpOp
  simp only [ho]
  rw [if_pos (by simp [Region.wanted])]
  left
  unfold Oper.wp
  rw [h1 a ha]
  exact h v w' h2 _ (ha.put hd)
theorem lxE_y {i : Nat} {r : List Nat} {op : Op} {ty : TypeId} {pos : String} {after : Array Edge} {Φ : World → Prop} (hC : C w) (ho : ops[i]? = some ⟨none, op, ty, pos, after, none⟩) (hf : fl i = false)
    (hv : OpY P n L w ⟨none, op, ty, pos, after, none⟩ Φ) (h : ∀ w', Φ w' → lxE P n ops C D Q fl r L w') : lxE P n ops C D Q fl (i :: r) L w := fun a ha => by
  refine ⟨hC, ?_⟩
  simp only [ho, hf, Bool.false_eq_true, if_false]
  obtain ⟨w', h1, h2⟩ := hv
  unfold wpOp
  simp only [ho]
  rw [if_pos (by simp [Region.wanted])]
  left
  unfold Oper.wp
  rw [h1 a ha]
  exact h w' h2 _ ha
end
end Go.Gk
