import Derived.Test.YtldhmmipbogabaaGreatDoorGkP0
import Derived.Test.YtldhmmipbogabaaGreatDoorGkFsha
import Derived.Test.YtldhmmipbogabaaGreatDoorGkFref4
import Derived.Test.YtldhmmipbogabaaGreatDoorGkFhmac
import Derived.Test.YtldhmmipbogabaaGreatDoorGkFref5
set_option linter.unusedVariables false
set_option linter.unusedSimpArgs false

section
set_option linter.unusedSimpArgs false
set_option linter.unusedVariables false
namespace Go.Gk.Sh
open Go Go.Gk
theorem loop_fold {σ α ρ : Type} {f : σ → Option (σ ⊕ ρ)} (st : α → Nat → σ) (I : α → Prop) (g : α → Nat → α) (lo n : Nat) {X : α → Option ρ}
    (hstep : ∀ i x, lo ≤ i → i < n → I x → f (st x i) = some (.inl (st (g x i) (i + 1))) ∧ I (g x i)) (hend : ∀ x, I x → f (st x n) = oinr (X x)) :
    ∀ (r i : Nat) (x : α), lo ≤ i → i + r = n → I x → loop f (st x i) = X ((List.range' i r).foldl g x)
  | 0, i, x, hl, h, hx => by
    have : i = n := by omega
    subst this
    simp only [List.range'_zero, List.foldl_nil]
    exact loop_oinr' (hend x hx)
  | r + 1, i, x, hl, h, hx => by
    obtain ⟨h1, h2⟩ := hstep i x hl (by omega) hx
    rw [loop_inl h1, List.range'_succ, List.foldl_cons]
    exact loop_fold st I g lo n hstep hend r (i + 1) _ (by omega) (by omega) h2
theorem fold_inv {α : Type} (I : α → Prop) (g : α → Nat → α) (h : ∀ i x, I x → I (g x i)) : ∀ (r i : Nat) (x : α), I x → I ((List.range' i r).foldl g x)
  | 0, i, x, hx => by simpa using hx
  | r + 1, i, x, hx => by
    rw [List.range'_succ, List.foldl_cons]
    exact fold_inv I g h r (i + 1) _ (h i x hx)
theorem fold_congr {α : Type} {g g' : α → Nat → α} : ∀ (r i : Nat) (x : α), (∀ k y, i ≤ k → k < i + r → g y k = g' y k) → (List.range' i r).foldl g x = (List.range' i r).foldl g' x
  | 0, i, x, _ => rfl
  | r + 1, i, x, h => by
    rw [List.range'_succ, List.foldl_cons, List.foldl_cons, h i x (Nat.le_refl _) (by omega)]
    exact fold_congr r (i + 1) _ fun k y h1 h2 => h k y (by omega) (by omega)
theorem getO_D {τ : Type} [Inhabited τ] {l : List τ} {i : Nat} (h : i < l.length) (d : τ) : getO l (i : Int) = some (l.getD i d) := by
  rw [getO_lt h, List.getD_eq_getElem?_getD, List.getElem?_eq_getElem h]; rfl
theorem ch32 (e f g : UInt32) : g ^^^ (e &&& (f ^^^ g)) = (e &&& f) ^^^ (~~~e &&& g) := by
  apply UInt32.eq_of_toBitVec_eq
  simp only [UInt32.toBitVec_xor, UInt32.toBitVec_and, UInt32.toBitVec_not]
  ext i hi
  simp only [BitVec.getElem_xor, BitVec.getElem_and, BitVec.getElem_not]
  cases e.toBitVec[i] <;> cases f.toBitVec[i] <;> cases g.toBitVec[i] <;> rfl
theorem maj32 (a b c : UInt32) : (a &&& b) ||| (c &&& (a ||| b)) = ((a &&& b) ^^^ (a &&& c)) ^^^ (b &&& c) := by
  apply UInt32.eq_of_toBitVec_eq
  simp only [UInt32.toBitVec_xor, UInt32.toBitVec_and, UInt32.toBitVec_or]
  ext i hi
  simp only [BitVec.getElem_xor, BitVec.getElem_and, BitVec.getElem_or]
  cases a.toBitVec[i] <;> cases b.toBitVec[i] <;> cases c.toBitVec[i] <;> rfl
theorem ch64 (e f g : UInt64) : g ^^^ (e &&& (f ^^^ g)) = (e &&& f) ^^^ (~~~e &&& g) := by
  apply UInt64.eq_of_toBitVec_eq
  simp only [UInt64.toBitVec_xor, UInt64.toBitVec_and, UInt64.toBitVec_not]
  ext i hi
  simp only [BitVec.getElem_xor, BitVec.getElem_and, BitVec.getElem_not]
  cases e.toBitVec[i] <;> cases f.toBitVec[i] <;> cases g.toBitVec[i] <;> rfl
theorem maj64 (a b c : UInt64) : (a &&& b) ||| (c &&& (a ||| b)) = ((a &&& b) ^^^ (a &&& c)) ^^^ (b &&& c) := by
  apply UInt64.eq_of_toBitVec_eq
  simp only [UInt64.toBitVec_xor, UInt64.toBitVec_and, UInt64.toBitVec_or]
  ext i hi
  simp only [BitVec.getElem_xor, BitVec.getElem_and, BitVec.getElem_or]
  cases a.toBitVec[i] <;> cases b.toBitVec[i] <;> cases c.toBitVec[i] <;> rfl
def rr32 (x : UInt32) (k : Nat) : UInt32 := shr32 x k ||| shl32 x (32 - k)
def rr64 (x : UInt64) (k : Nat) : UInt64 := shr64 x k ||| shl64 x (64 - k)
theorem rot32 (x : UInt32) (k : Nat) (h : 0 < k) (h2 : k < 32) : F.math_bits_RotateLeft32 x (-(k : Int)) = some (rr32 x k) := by
  unfold F.math_bits_RotateLeft32 rr32
  have key : ∀ k : Fin 32, 0 < k.val → ((UInt64.ofInt (-(k.val : Int))) &&& 31).toNat = 32 - k.val ∧ ((32 : UInt64) - ((UInt64.ofInt (-(k.val : Int))) &&& 31)).toNat = k.val := by decide
  obtain ⟨h3, h4⟩ := key ⟨k, h2⟩ h
  simp only at h3 h4
  rw [h3, h4, UInt32.or_comm]
theorem rot64 (x : UInt64) (k : Nat) (h : 0 < k) (h2 : k < 64) : F.math_bits_RotateLeft64 x (-(k : Int)) = some (rr64 x k) := by
  unfold F.math_bits_RotateLeft64 rr64
  have key : ∀ k : Fin 64, 0 < k.val → ((UInt64.ofInt (-(k.val : Int))) &&& 63).toNat = 64 - k.val ∧ ((64 : UInt64) - ((UInt64.ofInt (-(k.val : Int))) &&& 63)).toNat = k.val := by decide
  obtain ⟨h3, h4⟩ := key ⟨k, h2⟩ h
  simp only at h3 h4
  rw [h3, h4, UInt64.or_comm]
theorem k256_eq : F.tab_sha_k256 = F.tab_ref4_k256 := rfl
theorem k512_eq : F.tab_sha_k512 = F.tab_ref4_k512 := rfl
end Go.Gk.Sh
end

section
set_option linter.unusedSimpArgs false
set_option linter.unusedVariables false
namespace Go.Gk.Sh
open Go Go.Gk
abbrev V8 (W : Type) := W × W × W × W × W × W × W × W
def toL {W : Type} (v : V8 W) : List W := [v.1, v.2.1, v.2.2.1, v.2.2.2.1, v.2.2.2.2.1, v.2.2.2.2.2.1, v.2.2.2.2.2.2.1, v.2.2.2.2.2.2.2]
def ofL {W : Type} (d : W) (l : List W) : V8 W := (l.getD 0 d, l.getD 1 d, l.getD 2 d, l.getD 3 d, l.getD 4 d, l.getD 5 d, l.getD 6 d, l.getD 7 d)
def word32 (b : List UInt8) (i : Nat) : UInt32 :=
  ((shl32 (b.getD (4 * i) 0).toUInt32 24 ||| shl32 (b.getD (4 * i + 1) 0).toUInt32 16) ||| shl32 (b.getD (4 * i + 2) 0).toUInt32 8) ||| (b.getD (4 * i + 3) 0).toUInt32
def sch32 (w : List UInt32) (i : Nat) : UInt32 :=
  ((w.getD (i - 16) 0 + w.getD (i - 7) 0) + ((rr32 (w.getD (i - 15) 0) 7 ^^^ rr32 (w.getD (i - 15) 0) 18) ^^^ shr32 (w.getD (i - 15) 0) 3)) +
    ((rr32 (w.getD (i - 2) 0) 17 ^^^ rr32 (w.getD (i - 2) 0) 19) ^^^ shr32 (w.getD (i - 2) 0) 10)
def stepW32 (b : List UInt8) (w : List UInt32) (i : Nat) : List UInt32 := if i < 16 then w.set i (word32 b i) else w.set i (sch32 w i)
def words32 (b : List UInt8) : List UInt32 := (List.range' 0 64).foldl (stepW32 b) (List.replicate 64 0)
def tt32 (v : V8 UInt32) (k w : UInt32) : UInt32 :=
  (((v.2.2.2.2.2.2.2 + ((rr32 v.2.2.2.2.1 6 ^^^ rr32 v.2.2.2.2.1 11) ^^^ rr32 v.2.2.2.2.1 25)) + ((v.2.2.2.2.1 &&& v.2.2.2.2.2.1) ^^^ (~~~v.2.2.2.2.1 &&& v.2.2.2.2.2.2.1))) + k) + w
def uu32 (v : V8 UInt32) : UInt32 := ((rr32 v.1 2 ^^^ rr32 v.1 13) ^^^ rr32 v.1 22) + (((v.1 &&& v.2.1) ^^^ (v.1 &&& v.2.2.1)) ^^^ (v.2.1 &&& v.2.2.1))
def rnd32 (ws : List UInt32) (v : V8 UInt32) (i : Nat) : V8 UInt32 :=
  (tt32 v (F.tab_ref4_k256.getD i 0) (ws.getD i 0) + uu32 v, v.1, v.2.1, v.2.2.1, v.2.2.2.1 + tt32 v (F.tab_ref4_k256.getD i 0) (ws.getD i 0), v.2.2.2.2.1, v.2.2.2.2.2.1, v.2.2.2.2.2.2.1)
def addS32 (v : List UInt32) (h : List UInt32) (i : Nat) : List UInt32 := h.set i (h.getD i 0 + v.getD i 0)
def comp32 (h : List UInt32) (b : List UInt8) : List UInt32 := (List.range' 0 8).foldl (addS32 (toL ((List.range' 0 64).foldl (rnd32 (words32 b)) (ofL 0 h)))) h
theorem stepW_len (b : List UInt8) (i : Nat) (w : List UInt32) (hw : w.length = 64) : (stepW32 b w i).length = 64 := by
  unfold stepW32; split <;> simpa using hw
theorem words_len (b : List UInt8) : (words32 b).length = 64 := fold_inv (fun w : List UInt32 => w.length = 64) (stepW32 b) (fun i x hx => stepW_len b i x hx) 64 0 _ (by simp)
theorem addS_len (v : List UInt32) (i : Nat) (h : List UInt32) (hh : h.length = 8) : (addS32 v h i).length = 8 := by unfold addS32; simpa using hh
theorem comp_len (h : List UInt32) (b : List UInt8) (hh : h.length = 8) : (comp32 h b).length = 8 := fold_inv (fun w : List UInt32 => w.length = 8) _ (fun i x hx => addS_len _ i x hx) 8 0 _ hh
theorem words_split (b : List UInt8) : words32 b = (List.range' 16 48).foldl (stepW32 b) ((List.range' 0 16).foldl (stepW32 b) (List.replicate 64 0)) := by
  unfold words32
  rw [← List.foldl_append]; rfl
theorem wI1 (i : Nat) (h : i < 1000000) : wI ((i : Int) + 1) = ((i + 1 : Nat) : Int) := by rw [wI_in (by omega) (by omega)]; rfl
theorem wIs (i k : Nat) (h : k ≤ i) (h2 : i < 1000000) : wI ((i : Int) - (k : Int)) = ((i - k : Nat) : Int) := by rw [wI_in (by omega) (by omega)]; omega
theorem sch_prog (i : Nat) (w : List UInt32) (h16 : 16 ≤ i) (hi : i < 64) (hw : w.length = 64) {ρ : Type} (K : UInt32 → UInt32 → UInt32 → UInt32 → Option ρ) :
    (obind (getO w (wI ((i : Int) - 15))) fun x23 => obind (getO w (wI ((i : Int) - 2))) fun x24 => obind (getO w (wI ((i : Int) - 16))) fun x25 => obind (getO w (wI ((i : Int) - 7))) fun x26 => K x23 x24 x25 x26) =
      K (w.getD (i - 15) 0) (w.getD (i - 2) 0) (w.getD (i - 16) 0) (w.getD (i - 7) 0) := by
  have m : ∀ k : Nat, k ≤ 16 → getO w (wI ((i : Int) - (k : Int))) = some (w.getD (i - k) 0) := fun k hk => by
    rw [wIs i k (by omega) (by omega), getO_D (by omega) 0]
  have m15 := m 15 (by omega); have m2 := m 2 (by omega); have m16 := m 16 (by omega); have m7 := m 7 (by omega)
  rw [show getO w (wI ((i : Int) - 15)) = _ from m15, bind_some', show getO w (wI ((i : Int) - 2)) = _ from m2, bind_some', show getO w (wI ((i : Int) - 16)) = _ from m16, bind_some', show getO w (wI ((i : Int) - 7)) = _ from m7, bind_some']
theorem block32_eq (a : Int) (h : List UInt32) (l : List UInt64) (rest : List UInt8) (n : UInt64) (hh : h.length = 8) (hr : rest.length = 128) :
    F.sha_State_block32 a h l rest n = some (a, comp32 h rest, l, rest, n) := by
  unfold F.sha_State_block32
  -- the first sixteen words
  have e1 := loop_fold (f := F.sha_State_block32_L1 rest h a l n) (fun w i => ((i : Int), w)) (fun w => w.length = 64) (stepW32 rest) 0 16
    (X := fun w => loop (F.sha_State_block32_L2 h a l rest n) (16, w))
    (fun i w _ hi hw => by
      have c1 : decide ((i : Int) < 16) = true := decide_eq_true (by omega)
      have m4 : wI (4 * (i : Int)) = ((4 * i : Nat) : Int) := by rw [wI_in (by omega) (by omega)]; omega
      have d : ∀ k : Nat, k < 4 → getO (rest.drop (4 * i)) (k : Int) = some (rest.getD (4 * i + k) 0) := fun k hk => by
        rw [getO_D (by simp; omega) 0, List.getD_eq_getElem?_getD, List.getElem?_drop, List.getD_eq_getElem?_getD]
      refine ⟨?_, stepW_len rest i w hw⟩
      simp only [F.sha_State_block32_L1, c1, if_true, m4, drO_ok (show 4 * i ≤ rest.length by omega), bind_some', olet_eq]
      have d0 := d 0 (by omega); have d1 := d 1 (by omega); have d2 := d 2 (by omega); have d3 := d 3 (by omega)
      simp only [show ((0 : Nat) : Int) = 0 from rfl, show ((1 : Nat) : Int) = 1 from rfl, show ((2 : Nat) : Int) = 2 from rfl, show ((3 : Nat) : Int) = 3 from rfl, Nat.add_zero] at d0 d1 d2 d3
      rw [d0, bind_some', d1, bind_some', d2, bind_some', d3, bind_some', getO_lt (show i < w.length by omega), bind_some', wI1 i (by omega), Int.toNat_natCast]
      simp only [stepW32, hi, if_true, word32]
      rfl)
    (fun w hw => rfl) 16 0 (List.replicate 64 0) (Nat.le_refl _) rfl (by simp)
  have e2 := fun (w : List UInt32) (hw : w.length = 64) => loop_fold (f := F.sha_State_block32_L2 h a l rest n) (fun w i => ((i : Int), w)) (fun w => w.length = 64) (stepW32 rest) 16 64
    (X := fun w => loop (F.sha_State_block32_L3 h w a l rest n) (h.getD 0 0, h.getD 1 0, h.getD 2 0, h.getD 3 0, h.getD 4 0, h.getD 5 0, h.getD 6 0, h.getD 7 0, 0))
    (fun i w h16 hi hw => by
      have c1 : decide ((i : Int) < 64) = true := decide_eq_true (by omega)
      refine ⟨?_, stepW_len rest i w hw⟩
      simp only [F.sha_State_block32_L2, c1, if_true, sch_prog i w h16 hi hw]
      rw [show F.math_bits_RotateLeft32 (w.getD (i - 15) 0) (-7) = _ from rot32 _ 7 (by omega) (by omega), bind_some', show F.math_bits_RotateLeft32 (w.getD (i - 15) 0) (-18) = _ from rot32 _ 18 (by omega) (by omega), bind_some',
        show F.math_bits_RotateLeft32 (w.getD (i - 2) 0) (-17) = _ from rot32 _ 17 (by omega) (by omega), bind_some', show F.math_bits_RotateLeft32 (w.getD (i - 2) 0) (-19) = _ from rot32 _ 19 (by omega) (by omega), bind_some',
        getO_lt (show i < w.length by omega), bind_some', olet_eq, wI1 i (by omega), Int.toNat_natCast]
      simp only [stepW32, show ¬ i < 16 by omega, if_false, sch32]
      rfl)
    (fun w hw => by
      have g : ∀ k : Nat, k < 8 → getO h (k : Int) = some (h.getD k 0) := fun k hk => getO_D (by omega) 0
      have g0 := g 0 (by omega); have g1 := g 1 (by omega); have g2 := g 2 (by omega); have g3 := g 3 (by omega); have g4 := g 4 (by omega); have g5 := g 5 (by omega); have g6 := g 6 (by omega); have g7 := g 7 (by omega)
      simp only [F.sha_State_block32_L2, show decide (((64 : Nat) : Int) < 64) = false from rfl, Bool.false_eq_true, if_false]
      rw [show getO h (0 : Int) = _ from g0, bind_some', show getO h (1 : Int) = _ from g1, bind_some', show getO h (2 : Int) = _ from g2, bind_some', show getO h (3 : Int) = _ from g3, bind_some', show getO h (4 : Int) = _ from g4, bind_some', show getO h (5 : Int) = _ from g5, bind_some', show getO h (6 : Int) = _ from g6, bind_some', show getO h (7 : Int) = _ from g7, bind_some'])
    48 16 w (Nat.le_refl _) rfl hw
  have e3 := fun (ws : List UInt32) (hw : ws.length = 64) => loop_fold (f := F.sha_State_block32_L3 h ws a l rest n) (fun (v : V8 UInt32) i => (v.1, v.2.1, v.2.2.1, v.2.2.2.1, v.2.2.2.2.1, v.2.2.2.2.2.1, v.2.2.2.2.2.2.1, v.2.2.2.2.2.2.2, (i : Int))) (fun _ => True) (rnd32 ws) 0 64
    (X := fun v => loop (F.sha_State_block32_L4 a l rest n v.1 v.2.1 v.2.2.1 v.2.2.2.1 v.2.2.2.2.1 v.2.2.2.2.2.1 v.2.2.2.2.2.2.1 v.2.2.2.2.2.2.2) (0, h))
    (fun i v _ hi _ => by
      have c1 : decide ((i : Int) < 64) = true := decide_eq_true (by omega)
      refine ⟨?_, trivial⟩
      simp only [F.sha_State_block32_L3, c1, if_true]
      rw [show F.math_bits_RotateLeft32 v.2.2.2.2.1 (-6) = _ from rot32 _ 6 (by omega) (by omega), bind_some', show F.math_bits_RotateLeft32 v.2.2.2.2.1 (-11) = _ from rot32 _ 11 (by omega) (by omega), bind_some', show F.math_bits_RotateLeft32 v.2.2.2.2.1 (-25) = _ from rot32 _ 25 (by omega) (by omega), bind_some',
        k256_eq, getO_D (show i < F.tab_ref4_k256.length from hi) 0, bind_some', getO_D (show i < ws.length by omega) 0, bind_some', olet_eq,
        show F.math_bits_RotateLeft32 v.1 (-2) = _ from rot32 _ 2 (by omega) (by omega), bind_some', show F.math_bits_RotateLeft32 v.1 (-13) = _ from rot32 _ 13 (by omega) (by omega), bind_some', show F.math_bits_RotateLeft32 v.1 (-22) = _ from rot32 _ 22 (by omega) (by omega), bind_some', olet_eq, ch32, maj32, wI1 i (by omega)]
      rfl)
    (fun v _ => rfl) 64 0 (ofL 0 h) (Nat.le_refl _) rfl trivial
  have e4 := fun (v : V8 UInt32) => loop_fold (f := F.sha_State_block32_L4 a l rest n v.1 v.2.1 v.2.2.1 v.2.2.2.1 v.2.2.2.2.1 v.2.2.2.2.2.1 v.2.2.2.2.2.2.1 v.2.2.2.2.2.2.2) (fun h i => ((i : Int), h)) (fun h => h.length = 8) (addS32 (toL v)) 0 8
    (X := fun h => some (a, h, l, rest, n))
    (fun i h _ hi hh => by
      have c1 : decide ((i : Int) < 8) = true := decide_eq_true (by omega)
      refine ⟨?_, addS_len _ i h hh⟩
      simp only [F.sha_State_block32_L4, c1, if_true]
      rw [getO_D (l := [v.1, v.2.1, v.2.2.1, v.2.2.2.1, v.2.2.2.2.1, v.2.2.2.2.2.1, v.2.2.2.2.2.2.1, v.2.2.2.2.2.2.2]) (show i < 8 from hi) 0, bind_some', getO_D (show i < h.length by omega) 0, bind_some', bind_some', olet_eq, wI1 i (by omega), Int.toNat_natCast]
      rfl)
    (fun h hh => rfl) 8 0 h (Nat.le_refl _) rfl hh
  refine e1.trans ?_
  refine (e2 _ (fold_inv (fun w : List UInt32 => w.length = 64) (stepW32 rest) (fun i x hx => stepW_len rest i x hx) 16 0 _ (by simp))).trans ?_
  rw [← words_split]
  refine (e3 _ (words_len rest)).trans ?_
  exact e4 _
end Go.Gk.Sh
end

section
set_option linter.unusedSimpArgs false
set_option linter.unusedVariables false
namespace Go.Gk.Sh
open Go Go.Gk
end Go.Gk.Sh
end

section
set_option linter.unusedSimpArgs false
set_option linter.unusedVariables false
namespace Go.Gk.Sh
open Go Go.Gk
theorem loop_foldI {σ α ρ : Type} {f : σ → Option (σ ⊕ ρ)} (st : α → Nat → σ) (I : Nat → α → Prop) (g : α → Nat → α) (lo n : Nat) {X : α → Option ρ}
    (hstep : ∀ i x, lo ≤ i → i < n → I i x → f (st x i) = some (.inl (st (g x i) (i + 1))) ∧ I (i + 1) (g x i)) (hend : ∀ x, I n x → f (st x n) = oinr (X x)) :
    ∀ (r i : Nat) (x : α), lo ≤ i → i + r = n → I i x → loop f (st x i) = X ((List.range' i r).foldl g x)
  | 0, i, x, hl, h, hx => by
    have : i = n := by omega
    subst this
    simp only [List.range'_zero, List.foldl_nil]
    exact loop_oinr' (hend x hx)
  | r + 1, i, x, hl, h, hx => by
    obtain ⟨h1, h2⟩ := hstep i x hl (by omega) hx
    rw [loop_inl h1, List.range'_succ, List.foldl_cons]
    exact loop_foldI st I g lo n hstep hend r (i + 1) _ (by omega) (by omega) h2
theorem fold_invI {α : Type} (I : Nat → α → Prop) (g : α → Nat → α) (h : ∀ i x, I i x → I (i + 1) (g x i)) : ∀ (r i : Nat) (x : α), I i x → I (i + r) ((List.range' i r).foldl g x)
  | 0, i, x, hx => by simpa using hx
  | r + 1, i, x, hx => by
    rw [List.range'_succ, List.foldl_cons, show i + (r + 1) = i + 1 + r by omega]
    exact fold_invI I g h r (i + 1) _ (h i x hx)
def byte64 (b : List UInt8) (i : Nat) (x : UInt64) (k : Nat) : UInt64 := shl64 x 8 ||| (b.getD (8 * i + k) 0).toUInt64
def word64 (b : List UInt8) (i : Nat) : UInt64 := (List.range' 0 8).foldl (byte64 b i) 0
def sch64 (w : List UInt64) (i : Nat) : UInt64 :=
  ((w.getD (i - 16) 0 + w.getD (i - 7) 0) + ((rr64 (w.getD (i - 15) 0) 1 ^^^ rr64 (w.getD (i - 15) 0) 8) ^^^ shr64 (w.getD (i - 15) 0) 7)) +
    ((rr64 (w.getD (i - 2) 0) 19 ^^^ rr64 (w.getD (i - 2) 0) 61) ^^^ shr64 (w.getD (i - 2) 0) 6)
def stepW64 (b : List UInt8) (w : List UInt64) (i : Nat) : List UInt64 := if i < 16 then w.set i (word64 b i) else w.set i (sch64 w i)
def words64 (b : List UInt8) : List UInt64 := (List.range' 0 80).foldl (stepW64 b) (List.replicate 80 0)
def tt64 (v : V8 UInt64) (k w : UInt64) : UInt64 :=
  (((v.2.2.2.2.2.2.2 + ((rr64 v.2.2.2.2.1 14 ^^^ rr64 v.2.2.2.2.1 18) ^^^ rr64 v.2.2.2.2.1 41)) + ((v.2.2.2.2.1 &&& v.2.2.2.2.2.1) ^^^ (~~~v.2.2.2.2.1 &&& v.2.2.2.2.2.2.1))) + k) + w
def uu64 (v : V8 UInt64) : UInt64 := ((rr64 v.1 28 ^^^ rr64 v.1 34) ^^^ rr64 v.1 39) + (((v.1 &&& v.2.1) ^^^ (v.1 &&& v.2.2.1)) ^^^ (v.2.1 &&& v.2.2.1))
def rnd64 (ws : List UInt64) (v : V8 UInt64) (i : Nat) : V8 UInt64 :=
  (tt64 v (F.tab_ref4_k512.getD i 0) (ws.getD i 0) + uu64 v, v.1, v.2.1, v.2.2.1, v.2.2.2.1 + tt64 v (F.tab_ref4_k512.getD i 0) (ws.getD i 0), v.2.2.2.2.1, v.2.2.2.2.2.1, v.2.2.2.2.2.2.1)
def addS64 (v : List UInt64) (h : List UInt64) (i : Nat) : List UInt64 := h.set i (h.getD i 0 + v.getD i 0)
def comp64 (h : List UInt64) (b : List UInt8) : List UInt64 := (List.range' 0 8).foldl (addS64 (toL ((List.range' 0 80).foldl (rnd64 (words64 b)) (ofL 0 h)))) h
def Nought (i : Nat) (w : List UInt64) : Prop := w.length = 80 ∧ ∀ k, i ≤ k → w.getD k 0 = 0
theorem stepW64_n (b : List UInt8) (i : Nat) (w : List UInt64) (hw : Nought i w) : Nought (i + 1) (stepW64 b w i) := by
  unfold stepW64
  refine ⟨by split <;> simpa using hw.1, fun k hk => ?_⟩
  have := hw.2 k (by omega)
  rw [List.getD_eq_getElem?_getD] at this ⊢
  split <;> (rw [List.getElem?_set]; rw [if_neg (by omega)]; exact this)
theorem nought0 : Nought 0 (List.replicate 80 0) := ⟨by simp, fun k _ => by
  rw [List.getD_eq_getElem?_getD, List.getElem?_replicate]; split <;> rfl⟩
theorem words64_n (b : List UInt8) : Nought 80 (words64 b) := fold_invI Nought (stepW64 b) (fun i x hx => stepW64_n b i x hx) 80 0 _ nought0
theorem addS64_len (v : List UInt64) (i : Nat) (h : List UInt64) (hh : h.length = 8) : (addS64 v h i).length = 8 := by unfold addS64; simpa using hh
theorem comp64_len (h : List UInt64) (b : List UInt8) (hh : h.length = 8) : (comp64 h b).length = 8 := fold_inv (fun w : List UInt64 => w.length = 8) _ (fun i x hx => addS64_len _ i x hx) 8 0 _ hh
theorem words64_split (b : List UInt8) : words64 b = (List.range' 16 64).foldl (stepW64 b) ((List.range' 0 16).foldl (stepW64 b) (List.replicate 80 0)) := by
  unfold words64
  rw [← List.foldl_append]; rfl
theorem set_D {w : List UInt64} {i : Nat} (h : i < w.length) : w.set i (w.getD i 0) = w := by
  apply List.ext_getElem?
  intro k
  rw [List.getElem?_set]
  split
  · rename_i e
    subst e
    rw [List.getD_eq_getElem?_getD, List.getElem?_eq_getElem h]; simp [h]
  · rfl
theorem getO_set {w : List UInt64} {i : Nat} (h : i < w.length) (x : UInt64) : getO (w.set i x) (i : Int) = some x := by
  rw [getO_nat, List.getElem?_set, if_pos rfl, if_pos h]
theorem sch_prog64 (i : Nat) (w : List UInt64) (h16 : 16 ≤ i) (hi : i < 80) (hw : w.length = 80) {ρ : Type} (K : UInt64 → UInt64 → UInt64 → UInt64 → Option ρ) :
    (obind (getO w (wI ((i : Int) - 15))) fun x23 => obind (getO w (wI ((i : Int) - 2))) fun x24 => obind (getO w (wI ((i : Int) - 16))) fun x25 => obind (getO w (wI ((i : Int) - 7))) fun x26 => K x23 x24 x25 x26) =
      K (w.getD (i - 15) 0) (w.getD (i - 2) 0) (w.getD (i - 16) 0) (w.getD (i - 7) 0) := by
  have m : ∀ k : Nat, k ≤ 16 → getO w (wI ((i : Int) - (k : Int))) = some (w.getD (i - k) 0) := fun k hk => by
    rw [wIs i k (by omega) (by omega), getO_D (by omega) 0]
  have m15 := m 15 (by omega); have m2 := m 2 (by omega); have m16 := m 16 (by omega); have m7 := m 7 (by omega)
  rw [show getO w (wI ((i : Int) - 15)) = _ from m15, bind_some', show getO w (wI ((i : Int) - 2)) = _ from m2, bind_some', show getO w (wI ((i : Int) - 16)) = _ from m16, bind_some', show getO w (wI ((i : Int) - 7)) = _ from m7, bind_some']
theorem block64_eq (a : Int) (h : List UInt64) (l : List UInt32) (rest : List UInt8) (n : UInt64) (hh : h.length = 8) (hr : rest.length = 128) :
    F.sha_State_block64 a l h rest n = some (a, l, comp64 h rest, rest, n) := by
  unfold F.sha_State_block64
  -- the first sixteen words
  have e0 := fun (i : Nat) (w : List UInt64) (hi : i < 16) (hw : Nought i w) => loop_fold (f := F.sha_State_block64_L2 (i : Int) ((rest.drop (8 * i)).take (8 * i + 8 - 8 * i))) (fun x j => ((j : Int), w.set i x)) (fun _ => True) (byte64 rest i) 0 8
    (X := fun x => (some (.inl (((i + 1 : Nat) : Int), w.set i x)) : Option ((Int × List UInt64) ⊕ (Int × List UInt32 × List UInt64 × List UInt8 × UInt64))))
    (fun j x _ hj _ => by
      have hl : ((rest.drop (8 * i)).take (8 * i + 8 - 8 * i)).length = 8 := by simp; omega
      have c1 : decide ((j : Int) < (((rest.drop (8 * i)).take (8 * i + 8 - 8 * i)).length : Int)) = true := decide_eq_true (by omega)
      have g : getO ((rest.drop (8 * i)).take (8 * i + 8 - 8 * i)) (j : Int) = some (rest.getD (8 * i + j) 0) := by
        rw [getO_D (by omega) 0, List.getD_eq_getElem?_getD, List.getElem?_take, if_pos (by omega), List.getElem?_drop, List.getD_eq_getElem?_getD]
      have hwl := hw.1
      refine ⟨?_, trivial⟩
      simp only [F.sha_State_block64_L2, c1, if_true]
      rw [g, bind_some', getO_set (by omega), bind_some', bind_some', olet_eq, wI1 j (by omega), Int.toNat_natCast, List.set_set]
      rfl)
    (fun x _ => by
      have hl : ((rest.drop (8 * i)).take (8 * i + 8 - 8 * i)).length = 8 := by simp; omega
      have c1 : decide (((8 : Nat) : Int) < (((rest.drop (8 * i)).take (8 * i + 8 - 8 * i)).length : Int)) = false := decide_eq_false (by omega)
      simp only [F.sha_State_block64_L2, c1, Bool.false_eq_true, if_false, wI1 i (by omega)]
      rfl)
    8 0 0 (Nat.le_refl _) rfl trivial
  have e1 := loop_foldI (f := F.sha_State_block64_L1 rest h a l n) (fun w i => ((i : Int), w)) Nought (stepW64 rest) 0 16
    (X := fun w => loop (F.sha_State_block64_L3 h a l rest n) (16, w))
    (fun i w _ hi hw => by
      have c1 : decide ((i : Int) < 16) = true := decide_eq_true (by omega)
      have m8 : wI (8 * (i : Int)) = ((8 * i : Nat) : Int) := by rw [wI_in (by omega) (by omega)]; omega
      have m9 : wI (((8 * i : Nat) : Int) + 8) = ((8 * i + 8 : Nat) : Int) := by rw [wI_in (by omega) (by omega)]; omega
      refine ⟨?_, stepW64_n rest i w hw⟩
      simp only [F.sha_State_block64_L1, c1, if_true, m8, m9]
      rw [slO_ok (by omega) (by omega), bind_some']
      have h0 := e0 i w hi hw
      have hz : w.set i 0 = w := by
        have := set_D (w := w) (i := i) (by have := hw.1; omega)
        rwa [hw.2 i (Nat.le_refl _)] at this
      rw [hz] at h0
      refine h0.trans ?_
      simp only [stepW64, hi, if_true, word64])
    (fun w hw => rfl) 16 0 (List.replicate 80 0) (Nat.le_refl _) rfl nought0
  have e2 := fun (w : List UInt64) (hw : w.length = 80) => loop_fold (f := F.sha_State_block64_L3 h a l rest n) (fun w i => ((i : Int), w)) (fun w => w.length = 80) (stepW64 rest) 16 80
    (X := fun w => loop (F.sha_State_block64_L4 h w a l rest n) (h.getD 0 0, h.getD 1 0, h.getD 2 0, h.getD 3 0, h.getD 4 0, h.getD 5 0, h.getD 6 0, h.getD 7 0, 0))
    (fun i w h16 hi hw => by
      have c1 : decide ((i : Int) < 80) = true := decide_eq_true (by omega)
      refine ⟨?_, (by unfold stepW64; split <;> simpa using hw)⟩
      simp only [F.sha_State_block64_L3, c1, if_true, sch_prog64 i w h16 hi hw]
      rw [show F.math_bits_RotateLeft64 (w.getD (i - 15) 0) (-1) = _ from rot64 _ 1 (by omega) (by omega), bind_some', show F.math_bits_RotateLeft64 (w.getD (i - 15) 0) (-8) = _ from rot64 _ 8 (by omega) (by omega), bind_some',
        show F.math_bits_RotateLeft64 (w.getD (i - 2) 0) (-19) = _ from rot64 _ 19 (by omega) (by omega), bind_some', show F.math_bits_RotateLeft64 (w.getD (i - 2) 0) (-61) = _ from rot64 _ 61 (by omega) (by omega), bind_some',
        getO_lt (show i < w.length by omega), bind_some', olet_eq, wI1 i (by omega), Int.toNat_natCast]
      simp only [stepW64, show ¬ i < 16 by omega, if_false, sch64]
      rfl)
    (fun w hw => by
      have g : ∀ k : Nat, k < 8 → getO h (k : Int) = some (h.getD k 0) := fun k hk => getO_D (by omega) 0
      have g0 := g 0 (by omega); have g1 := g 1 (by omega); have g2 := g 2 (by omega); have g3 := g 3 (by omega); have g4 := g 4 (by omega); have g5 := g 5 (by omega); have g6 := g 6 (by omega); have g7 := g 7 (by omega)
      simp only [F.sha_State_block64_L3, show decide (((80 : Nat) : Int) < 80) = false from rfl, Bool.false_eq_true, if_false]
      rw [show getO h (0 : Int) = _ from g0, bind_some', show getO h (1 : Int) = _ from g1, bind_some', show getO h (2 : Int) = _ from g2, bind_some', show getO h (3 : Int) = _ from g3, bind_some', show getO h (4 : Int) = _ from g4, bind_some', show getO h (5 : Int) = _ from g5, bind_some', show getO h (6 : Int) = _ from g6, bind_some', show getO h (7 : Int) = _ from g7, bind_some'])
    64 16 w (Nat.le_refl _) rfl hw
  have e3 := fun (ws : List UInt64) (hw : ws.length = 80) => loop_fold (f := F.sha_State_block64_L4 h ws a l rest n) (fun (v : V8 UInt64) i => (v.1, v.2.1, v.2.2.1, v.2.2.2.1, v.2.2.2.2.1, v.2.2.2.2.2.1, v.2.2.2.2.2.2.1, v.2.2.2.2.2.2.2, (i : Int))) (fun _ => True) (rnd64 ws) 0 80
    (X := fun v => loop (F.sha_State_block64_L5 a l rest n v.1 v.2.1 v.2.2.1 v.2.2.2.1 v.2.2.2.2.1 v.2.2.2.2.2.1 v.2.2.2.2.2.2.1 v.2.2.2.2.2.2.2) (0, h))
    (fun i v _ hi _ => by
      have c1 : decide ((i : Int) < 80) = true := decide_eq_true (by omega)
      refine ⟨?_, trivial⟩
      simp only [F.sha_State_block64_L4, c1, if_true]
      rw [show F.math_bits_RotateLeft64 v.2.2.2.2.1 (-14) = _ from rot64 _ 14 (by omega) (by omega), bind_some', show F.math_bits_RotateLeft64 v.2.2.2.2.1 (-18) = _ from rot64 _ 18 (by omega) (by omega), bind_some', show F.math_bits_RotateLeft64 v.2.2.2.2.1 (-41) = _ from rot64 _ 41 (by omega) (by omega), bind_some',
        k512_eq, getO_D (show i < F.tab_ref4_k512.length from hi) 0, bind_some', getO_D (show i < ws.length by omega) 0, bind_some', olet_eq,
        show F.math_bits_RotateLeft64 v.1 (-28) = _ from rot64 _ 28 (by omega) (by omega), bind_some', show F.math_bits_RotateLeft64 v.1 (-34) = _ from rot64 _ 34 (by omega) (by omega), bind_some', show F.math_bits_RotateLeft64 v.1 (-39) = _ from rot64 _ 39 (by omega) (by omega), bind_some', olet_eq, ch64, maj64, wI1 i (by omega)]
      rfl)
    (fun v _ => rfl) 80 0 (ofL 0 h) (Nat.le_refl _) rfl trivial
  have e4 := fun (v : V8 UInt64) => loop_fold (f := F.sha_State_block64_L5 a l rest n v.1 v.2.1 v.2.2.1 v.2.2.2.1 v.2.2.2.2.1 v.2.2.2.2.2.1 v.2.2.2.2.2.2.1 v.2.2.2.2.2.2.2) (fun h i => ((i : Int), h)) (fun h => h.length = 8) (addS64 (toL v)) 0 8
    (X := fun h => some (a, l, h, rest, n))
    (fun i h _ hi hh => by
      have c1 : decide ((i : Int) < 8) = true := decide_eq_true (by omega)
      refine ⟨?_, addS64_len _ i h hh⟩
      simp only [F.sha_State_block64_L5, c1, if_true]
      rw [getO_D (l := [v.1, v.2.1, v.2.2.1, v.2.2.2.1, v.2.2.2.2.1, v.2.2.2.2.2.1, v.2.2.2.2.2.2.1, v.2.2.2.2.2.2.2]) (show i < 8 from hi) 0, bind_some', getO_D (show i < h.length by omega) 0, bind_some', bind_some', olet_eq, wI1 i (by omega), Int.toNat_natCast]
      rfl)
    (fun h hh => rfl) 8 0 h (Nat.le_refl _) rfl hh
  refine e1.trans ?_
  refine (e2 _ (fold_invI Nought (stepW64 rest) (fun i x hx => stepW64_n rest i x hx) 16 0 _ nought0).1).trans ?_
  rw [← words64_split]
  refine (e3 _ ((words64_n rest).1)).trans ?_
  exact e4 _
end Go.Gk.Sh
end

section
set_option linter.unusedSimpArgs false
set_option linter.unusedVariables false
namespace Go.Gk.Sh
open Go Go.Gk
end Go.Gk.Sh
end

section
set_option linter.unusedSimpArgs false
set_option linter.unusedVariables false
namespace Go.Gk.Sh
open Go Go.Gk
theorem ofInt64n (m : Nat) (h : m < 18446744073709551616) : (UInt64.ofInt (m : Int)).toNat = m := by
  simp [UInt64.ofInt, UInt64.toNat_ofNat']
  omega
theorem getD_take {b : List UInt8} {k n : Nat} (h : k < n) : (b.take n).getD k 0 = b.getD k 0 := by
  rw [List.getD_eq_getElem?_getD, List.getElem?_take, if_pos h, List.getD_eq_getElem?_getD]
theorem comp32_take (h : List UInt32) (b : List UInt8) : comp32 h (b.take 64) = comp32 h b := by
  have : words32 (b.take 64) = words32 b := by
    unfold words32
    refine fold_congr 64 0 _ fun k y _ hk => ?_
    unfold stepW32
    split
    · rename_i h16
      simp only [word32]
      rw [getD_take (by omega), getD_take (by omega), getD_take (by omega), getD_take (by omega)]
    · rfl
  unfold comp32
  rw [this]
theorem comp64_take (h : List UInt64) (b : List UInt8) : comp64 h (b.take 128) = comp64 h b := by
  have : words64 (b.take 128) = words64 b := by
    unfold words64
    refine fold_congr 80 0 _ fun k y _ hk => ?_
    unfold stepW64
    split
    · rename_i h16
      have : word64 (b.take 128) k = word64 b k := fold_congr 8 0 _ fun j x _ hj => by
        simp only [byte64]
        rw [getD_take (by omega)]
      rw [this]
    · rfl
  unfold comp64
  rw [this]
abbrev HS := List UInt32 × List UInt64
def Bk (a : Int) : Nat := if a = 1 then 64 else 128
def mix (a : Int) (H : HS) (b : List UInt8) : HS := if a = 1 then (comp32 H.1 b, H.2) else (H.1, comp64 H.2 b)
theorem mix_take (a : Int) (H : HS) (b : List UInt8) : mix a H (b.take (Bk a)) = mix a H b := by
  unfold mix Bk
  split
  · rw [comp32_take]
  · rw [comp64_take]
theorem mix_len (a : Int) (H : HS) (b : List UInt8) (h : H.1.length = 8 ∧ H.2.length = 8) : (mix a H b).1.length = 8 ∧ (mix a H b).2.length = 8 := by
  unfold mix
  split
  · exact ⟨comp_len _ _ h.1, h.2⟩
  · exact ⟨h.1, comp64_len _ _ h.2⟩
def mixN (a : Int) (H : HS) (D : List UInt8) (k : Nat) : HS := (List.range' 0 k).foldl (fun H i => mix a H (D.drop (Bk a * i))) H
theorem mixN_len (a : Int) (H : HS) (D : List UInt8) (k : Nat) (h : H.1.length = 8 ∧ H.2.length = 8) : (mixN a H D k).1.length = 8 ∧ (mixN a H D k).2.length = 8 :=
  fold_inv (fun H : HS => H.1.length = 8 ∧ H.2.length = 8) _ (fun i x hx => mix_len a x _ hx) k 0 _ h
theorem mixN_succ (a : Int) (H : HS) (D : List UInt8) (k : Nat) : mixN a H D (k + 1) = mix a (mixN a H D k) (D.drop (Bk a * k)) := by
  unfold mixN
  rw [List.range'_concat, List.foldl_append]
  simp
theorem mixN_app (a : Int) (H : HS) (D E : List UInt8) (k : Nat) (h : Bk a * k ≤ D.length) : mixN a H (D ++ E) k = mixN a H D k := by
  unfold mixN
  refine fold_congr k 0 _ fun i x _ hi => ?_
  have hik : Bk a * (i + 1) ≤ Bk a * k := Nat.mul_le_mul_left _ (by omega)
  rw [Nat.mul_add, Nat.mul_one] at hik
  rw [← mix_take, ← mix_take a x (D.drop _), List.drop_append_of_le_length (by omega), List.take_append_of_le_length (by simp; omega)]
def Inv (a : Int) (H0 : HS) (D : List UInt8) (s : List UInt32) (l : List UInt64) (rest : List UInt8) (n : UInt64) : Prop :=
  (s, l) = mixN a H0 D (D.length / Bk a) ∧ rest.length = 128 ∧ rest.take (D.length % Bk a) = D.drop (Bk a * (D.length / Bk a)) ∧ n = UInt64.ofNat D.length
theorem block_eq (a : Int) (s : List UInt32) (l : List UInt64) (rest : List UInt8) (n : UInt64) (hs : s.length = 8) (hl : l.length = 8) (hr : rest.length = 128) :
    F.sha_State_block a s l rest n = some (a, (mix a (s, l) rest).1, (mix a (s, l) rest).2, rest, n) := by
  unfold F.sha_State_block mix
  by_cases h : a = 1
  · have e : (a == 1) = true := by simpa using h
    rw [e, if_pos rfl, if_pos h, block32_eq a s l rest n hs hr]; rfl
  · have e : (a == 1) = false := by simpa using h
    rw [e, if_neg (by simp), if_neg h, block64_eq a l s rest n hl hr]; rfl
theorem Write_loop (a : Int) (H0 : HS) (h0 : H0.1.length = 8 ∧ H0.2.length = 8) : ∀ (m : Nat) (b D : List UInt8) (s : List UInt32) (l : List UInt64) (rest : List UInt8) (n : UInt64), b.length = m → D.length + b.length ≤ 1000000000000000 → Inv a H0 D s l rest n →
    ∃ s' l' rest' n', loop (F.sha_State_Write_L1 ((Bk a : Nat) : Int)) (b, a, s, l, rest, n) = some (a, s', l', rest', n') ∧ Inv a H0 (D ++ b) s' l' rest' n' := by
  intro m
  induction m using Nat.strongRecOn with
  | ind m ih =>
    intro b D s l rest n hm hD hI
    obtain ⟨hH, hr, ht, hn⟩ := hI
    have hlen := mixN_len a H0 D (D.length / Bk a) h0
    rw [← hH] at hlen
    have hB : Bk a = 64 ∨ Bk a = 128 := by unfold Bk; split <;> simp
    by_cases hb : b = []
    · subst hb
      refine ⟨s, l, rest, n, loop_inr rfl, ?_⟩
      rw [List.append_nil]; exact ⟨hH, hr, ht, hn⟩
    · have hb0 : 0 < b.length := List.length_pos_iff.2 hb
      -- numbers
      obtain ⟨B, hBe⟩ : ∃ B, Bk a = B := ⟨_, rfl⟩
      rw [hBe] at hB ht hH
      have hat : D.length % B < B := Nat.mod_lt _ (by omega)
      have hdm := Nat.div_add_mod D.length B
      obtain ⟨q, hq⟩ : ∃ q, D.length / B = q := ⟨_, rfl⟩
      obtain ⟨t, htt⟩ : ∃ t, D.length % B = t := ⟨_, rfl⟩
      rw [hq, htt] at hdm
      rw [htt] at hat ht
      rw [hq] at ht hH
      have hnB : (UInt64.ofInt ((B : Nat) : Int)).toNat = B := by rcases hB with rfl | rfl <;> rfl
      have hne : ¬ (UInt64.ofInt ((B : Nat) : Int)) = 0 := by rcases hB with rfl | rfl <;> decide
      have hN : n.toNat = D.length := by rw [hn, UInt64.toNat_ofNat']; omega
      have hmod : (n % UInt64.ofInt ((B : Nat) : Int)).toNat = t := by rw [UInt64.toNat_mod, hN, hnB, htt]
      obtain ⟨k, hk⟩ : ∃ k, min b.length (B - t) = k := ⟨_, rfl⟩
      have hk1 : 0 < k ∧ k ≤ b.length ∧ k ≤ B - t := by omega
      have hcp : cpL rest b t B = rest.take t ++ b.take k ++ rest.drop (t + k) := by
        unfold cpL
        rw [hk]
        congr 2
        by_cases h : b.length ≤ B - t
        · rw [List.take_of_length_le h, List.take_of_length_le (by omega)]
        · congr 1; omega
      have hcl : (cpL rest b t B).length = 128 := by rw [cpL_length _ _ _ _ (by omega) (by omega), hr]
      have hDq : D.length = B * q + t := hdm.symm
      have hdrop : (D ++ b.take k).drop (B * q) = rest.take t ++ b.take k := by
        rw [List.drop_append_of_le_length (by omega), ht]
      have hctk : (cpL rest b t B).take (t + k) = rest.take t ++ b.take k := by
        rw [hcp, List.take_left' (by simp; omega)]
      have hn' : n + UInt64.ofInt ((k : Nat) : Int) = UInt64.ofNat (D ++ b.take k).length := by
        apply UInt64.toNat_inj.1
        rw [UInt64.toNat_add, hN, UInt64.toNat_ofNat', ofInt64n k (by omega)]
        simp; omega
      have hfin : ∀ s' l' : _, Inv a H0 (D ++ b.take k) s' l' (cpL rest b t B) (n + UInt64.ofInt ((k : Nat) : Int)) → ∃ s2 l2 rest2 n2, loop (F.sha_State_Write_L1 ((Bk a : Nat) : Int)) (b.drop k, a, s', l', cpL rest b t B, n + UInt64.ofInt ((k : Nat) : Int)) = some (a, s2, l2, rest2, n2) ∧ Inv a H0 (D ++ b) s2 l2 rest2 n2 := by
        intro s' l' hI'
        obtain ⟨s2, l2, r2, n2, h1, h2⟩ := ih (b.drop k).length (by simp; omega) (b.drop k) (D ++ b.take k) s' l' _ _ rfl (by simp; omega) hI'
        refine ⟨s2, l2, r2, n2, h1, ?_⟩
        rwa [List.append_assoc, List.take_append_drop] at h2
      rw [hBe] at hfin ⊢
      have c1 : decide ((0 : Int) < (b.length : Int)) = true := decide_eq_true (by omega)
      have w1 : wI ((t : Nat) : Int) = ((t : Nat) : Int) := wI_in (by omega) (by omega)
      have hstep : F.sha_State_Write_L1 ((B : Nat) : Int) (b, a, s, l, rest, n) =
          if (wI ((t : Int) + (k : Int)) == (B : Int)) = true then (obind (F.sha_State_block a s l (cpL rest b t B) (n + UInt64.ofInt ((k : Nat) : Int))) fun x => oinl (b.drop k, x.1, x.2.1, x.2.2.1, x.2.2.2.1, x.2.2.2.2))
          else oinl (b.drop k, a, s, l, cpL rest b t B, n + UInt64.ofInt ((k : Nat) : Int)) := by
        simp only [F.sha_State_Write_L1, c1, if_true, grd_true _ hne, olet_eq, hmod, w1]
        rw [slO_ok (by omega) (by omega), bind_some']
        simp only [Int.toNat_natCast, hk]
        rw [drO_ok (by omega), bind_some']
      have w2 : wI ((t : Int) + (k : Int)) = ((t + k : Nat) : Int) := by rw [wI_in (by omega) (by omega)]; simp
      rw [w2] at hstep
      by_cases hfull : t + k = B
      · have e : (((t + k : Nat) : Int) == (B : Int)) = true := by simp [hfull]
        rw [e, if_pos rfl, block_eq a s l _ _ hlen.1 hlen.2 hcl, bind_some'] at hstep
        obtain ⟨s2, l2, r2, n2, h1, h2⟩ := hfin (mix a (s, l) (cpL rest b t B)).1 (mix a (s, l) (cpL rest b t B)).2 (by
          have hN' : (D ++ b.take k).length = B * (q + 1) := by rw [List.length_append, List.length_take, Nat.min_eq_left hk1.2.1, Nat.mul_add]; omega
          have hd : (D ++ b.take k).length / B = q + 1 := by rw [hN', Nat.mul_div_cancel_left _ (by omega)]
          have hm2 : (D ++ b.take k).length % B = 0 := by rw [hN', Nat.mul_mod_right]
          refine ⟨?_, hcl, ?_, hn'⟩
          · rw [hBe, hd, mixN_succ, mixN_app a H0 D _ q (by rw [hBe]; omega), ← hH, hBe, hdrop, ← hctk, hfull, ← hBe, mix_take]
          · rw [hBe, hm2, hd, List.take_zero, List.drop_of_length_le (by rw [hN']; exact Nat.le_refl _)])
        exact ⟨s2, l2, r2, n2, (loop_inl hstep).trans h1, h2⟩
      · have e : (((t + k : Nat) : Int) == (B : Int)) = false := by simp; omega
        rw [e, if_neg (by simp)] at hstep
        obtain ⟨s2, l2, r2, n2, h1, h2⟩ := hfin s l (by
          have hlt : t + k < B := by omega
          have hN' : (D ++ b.take k).length = t + k + B * q := by rw [List.length_append, List.length_take, Nat.min_eq_left hk1.2.1]; omega
          have hd : (D ++ b.take k).length / B = q := by rw [hN', Nat.add_mul_div_left _ _ (by omega), Nat.div_eq_of_lt hlt]; simp
          have hm2 : (D ++ b.take k).length % B = t + k := by rw [hN', Nat.add_mul_mod_self_left, Nat.mod_eq_of_lt hlt]
          refine ⟨?_, hcl, ?_, hn'⟩
          · rw [hBe, hd, mixN_app a H0 D _ q (by rw [hBe]; omega), ← hH]
          · rw [hBe, hm2, hd, hctk, hdrop])
        exact ⟨s2, l2, r2, n2, (loop_inl hstep).trans h1, h2⟩
theorem Block_eq (a : Int) (h : a = 1 ∨ a = 2 ∨ a = 3) : F.sha_Block a = some ((Bk a : Nat) : Int) := by
  rcases h with rfl | rfl | rfl <;> rfl
theorem Write_eq (a : Int) (ha : a = 1 ∨ a = 2 ∨ a = 3) (H0 : HS) (h0 : H0.1.length = 8 ∧ H0.2.length = 8) (b D : List UInt8) (s : List UInt32) (l : List UInt64) (rest : List UInt8) (n : UInt64) (hD : D.length + b.length ≤ 1000000000000000) (hI : Inv a H0 D s l rest n) :
    ∃ s' l' rest' n', F.sha_State_Write a s l rest n b = some (a, s', l', rest', n') ∧ Inv a H0 (D ++ b) s' l' rest' n' := by
  unfold F.sha_State_Write
  rw [Block_eq a ha, bind_some']
  exact Write_loop a H0 h0 _ b D s l rest n rfl hD hI
end Go.Gk.Sh
end

section
set_option linter.unusedSimpArgs false
set_option linter.unusedVariables false
namespace Go.Gk.Sh
open Go Go.Gk
def zc (B r : Nat) : Nat := (2 * B - B / 8 - (r + 1)) % B
def lenB (n : UInt64) (i : Nat) : UInt8 := if i < 8 then (shr64 (shl64 n 3) (8 * i)).toUInt8 else if i = 8 then (shr64 n 61).toUInt8 else 0
def padD (B : Nat) (D : List UInt8) : List UInt8 := ([128] ++ List.replicate (zc B (D.length % B)) 0) ++ (List.range' 0 (B / 8)).map (fun i => lenB (UInt64.ofNat D.length) (B / 8 - 1 - i))
def q32 (v : UInt32) : List UInt8 := [(shr32 v 24).toUInt8, (shr32 v 16).toUInt8, (shr32 v 8).toUInt8, v.toUInt8]
def q64 (v : UInt64) : List UInt8 := (List.range' 0 8).map (fun j => (shr64 v (56 - 8 * j)).toUInt8)
def out32 (s : List UInt32) : List UInt8 := (List.range' 0 8).foldl (fun x i => x ++ q32 (s.getD i 0)) []
def out64 (s : List UInt64) : List UInt8 := (List.range' 0 8).foldl (fun x i => x ++ q64 (s.getD i 0)) []
def Sz (a : Int) : Nat := if a = 1 then 32 else if a = 2 then 48 else 64
def shaOut (a : Int) (H : HS) : List UInt8 := if a = 1 then out32 H.1 else (out64 H.2).take (Sz a)
def H0 (a : Int) : HS := if a = 1 then (F.tab_ref4_start256, List.replicate 8 0) else if a = 2 then (List.replicate 8 0, F.tab_ref4_start384) else (List.replicate 8 0, F.tab_ref4_start512)
theorem H0_len (a : Int) : (H0 a).1.length = 8 ∧ (H0 a).2.length = 8 := by
  unfold H0
  split
  · exact ⟨rfl, rfl⟩
  · split <;> exact ⟨rfl, rfl⟩
def shaD (a : Int) (D : List UInt8) : List UInt8 := shaOut a (mixN a (H0 a) (D ++ padD (Bk a) D) ((D ++ padD (Bk a) D).length / Bk a))
theorem fold_app {β : Type} (f : Nat → List β) : ∀ (r i : Nat) (x : List β), (List.range' i r).foldl (fun x i => x ++ f i) x = x ++ (List.range' i r).flatMap f
  | 0, i, x => by simp
  | r + 1, i, x => by
    rw [List.range'_succ, List.foldl_cons, fold_app f r (i + 1), List.flatMap_cons, List.append_assoc]
theorem q64_len (v : UInt64) : (q64 v).length = 8 := by simp [q64]
theorem out64_len (s : List UInt64) : (out64 s).length = 64 := by
  unfold out64
  have := fold_invI (fun i (x : List UInt8) => x.length = 8 * i) (fun x i => x ++ q64 (s.getD i 0)) (fun i x hx => by simp only [List.length_append, q64_len, hx]; omega) 8 0 [] rfl
  simpa using this
theorem padD_len (B : Nat) (D : List UInt8) : (padD B D).length = 1 + zc B (D.length % B) + B / 8 := by simp [padD]; omega
theorem pad_total (a : Int) (D : List UInt8) : (D ++ padD (Bk a) D).length % Bk a = 0 ∧ (padD (Bk a) D).length ≤ 300 := by
  rw [List.length_append, padD_len]
  have hB : Bk a = 64 ∨ Bk a = 128 := by unfold Bk; split <;> simp
  have hr := Nat.mod_lt D.length (show 0 < Bk a by omega)
  have hd := Nat.div_add_mod D.length (Bk a)
  rcases hB with h | h <;> rw [h] at hr hd ⊢ <;> unfold zc <;> omega
theorem Sum_L2 (a : Int) (ha : a = 1 ∨ a = 2 ∨ a = 3) (s : List UInt32) (l : List UInt64) (rest : List UInt8) (n : UInt64) (x : List UInt8) (hx : x.length ≤ 1000) :
    loop (F.sha_State_Sum_L2 a s l rest n) (x, (((Bk a / 8 - 1 : Nat)) : Int)) = (obind (F.sha_State_Write a s l rest n (x ++ (List.range' 0 (Bk a / 8)).map (fun i => lenB n (Bk a / 8 - 1 - i)))) fun x_39 =>
      if (x_39.1 == 1) = true then loop (F.sha_State_Sum_L3 a s l rest n x_39) ([], 0) else loop (F.sha_State_Sum_L4 a s l rest n x_39) ([], 0)) := by
  have hF : Bk a / 8 = 8 ∨ Bk a / 8 = 16 := by unfold Bk; split <;> simp
  obtain ⟨F_, hFe⟩ : ∃ q, Bk a / 8 = q := ⟨_, rfl⟩
  rw [hFe] at hF ⊢
  have := loop_foldI (f := F.sha_State_Sum_L2 a s l rest n) (fun (y : List UInt8) i => (y, (F_ : Int) - 1 - (i : Int))) (fun i y => y.length = x.length + i) (fun y i => y ++ [lenB n (F_ - 1 - i)]) 0 F_
    (X := fun y => (obind (F.sha_State_Write a s l rest n y) fun x_39 => if (x_39.1 == 1) = true then loop (F.sha_State_Sum_L3 a s l rest n x_39) ([], 0) else loop (F.sha_State_Sum_L4 a s l rest n x_39) ([], 0)))
    (fun i y _ hi hy => by
      have c1 : decide ((0 : Int) ≤ ((F_ - 1 - i : Nat) : Int)) = true := decide_eq_true (by omega)
      have e1 : (F_ : Int) - 1 - (i : Int) = ((F_ - 1 - i : Nat) : Int) := by omega
      have ap : ∀ c : UInt8, F.sha_State_Sum_K1 y ((F_ - 1 - i : Nat) : Int) c = some (.inl (y ++ [c], (F_ : Int) - 1 - ((i + 1 : Nat) : Int))) := fun c => by
        simp only [F.sha_State_Sum_K1]
        rw [apO_ok (by simp; omega), bind_some', wI_in (by omega) (by omega), show ((F_ - 1 - i : Nat) : Int) - 1 = (F_ : Int) - 1 - ((i + 1 : Nat) : Int) by omega]
        rfl
      refine ⟨?_, by simp [hy]; omega⟩
      simp only [F.sha_State_Sum_L2, e1, c1, if_true]
      by_cases h8 : F_ - 1 - i < 8
      · have c2 : decide (((F_ - 1 - i : Nat) : Int) < 8) = true := decide_eq_true (by omega)
        have m8 : wI (8 * ((F_ - 1 - i : Nat) : Int)) = ((8 * (F_ - 1 - i) : Nat) : Int) := by rw [wI_in (by omega) (by omega)]; omega
        simp only [c2, if_true, m8]
        rw [grd_true _ (by omega), olet_eq, Int.toNat_natCast, ap]
        simp only [lenB, h8, if_true]
      · have c2 : decide (((F_ - 1 - i : Nat) : Int) < 8) = false := decide_eq_false (by omega)
        simp only [c2, Bool.false_eq_true, if_false]
        by_cases h9 : F_ - 1 - i = 8
        · have c3 : (((F_ - 1 - i : Nat) : Int) == 8) = true := by rw [h9]; rfl
          have hb : lenB n (F_ - 1 - i) = (shr64 n 61).toUInt8 := by unfold lenB; rw [if_neg h8, if_pos h9]
          simp only [c3, if_true, ap, hb]
        · have c3 : (((F_ - 1 - i : Nat) : Int) == 8) = false := by simp; omega
          have hb : lenB n (F_ - 1 - i) = 0 := by unfold lenB; rw [if_neg h8, if_neg h9]
          simp only [c3, Bool.false_eq_true, if_false, ap, hb])
    (fun y hy => by
      have c1 : decide ((0 : Int) ≤ (F_ : Int) - 1 - ((F_ : Nat) : Int)) = false := decide_eq_false (by omega)
      simp only [F.sha_State_Sum_L2, c1, Bool.false_eq_true, if_false])
    F_ 0 x (Nat.le_refl _) (by omega) rfl
  have e : (F_ : Int) - 1 - ((0 : Nat) : Int) = ((F_ - 1 : Nat) : Int) := by omega
  rw [e] at this
  refine this.trans ?_
  have hf := fold_app (fun i => [lenB n (F_ - 1 - i)]) F_ 0 x
  simp only [hf]
  have hm : ∀ r : List Nat, r.flatMap (fun i => [lenB n (F_ - 1 - i)]) = r.map (fun i => lenB n (F_ - 1 - i)) := fun r => by
    induction r with
    | nil => rfl
    | cons p r ih => rw [List.flatMap_cons, ih]; rfl
  rw [hm]
theorem Sum_eq (a : Int) (ha : a = 1 ∨ a = 2 ∨ a = 3) (D : List UInt8) (s : List UInt32) (l : List UInt64) (rest : List UInt8) (n : UInt64) (hD : D.length ≤ 900000000000000) (hI : Inv a (H0 a) D s l rest n) :
    F.sha_State_Sum a s l rest n = some (shaD a D, a, s, l, rest, n) := by
  unfold F.sha_State_Sum
  rw [Block_eq a ha, bind_some']
  obtain ⟨B, hBe⟩ : ∃ B, Bk a = B := ⟨_, rfl⟩
  have hB : B = 64 ∨ B = 128 := by rw [← hBe]; unfold Bk; split <;> simp
  have hn := hI.2.2.2
  obtain ⟨t, ht⟩ : ∃ t, D.length % B = t := ⟨_, rfl⟩
  have htB : t < B := by rw [← ht]; exact Nat.mod_lt _ (by omega)
  have hnB : (UInt64.ofInt ((B : Nat) : Int)).toNat = B := by rcases hB with rfl | rfl <;> rfl
  have hne : ¬ (UInt64.ofInt ((B : Nat) : Int)) = 0 := by rcases hB with rfl | rfl <;> decide
  have hne2 : ¬ ((B : Nat) : Int) = 0 := by omega
  have hN : n.toNat = D.length := by rw [hn, UInt64.toNat_ofNat']; omega
  have hmod : (n % UInt64.ofInt ((B : Nat) : Int)).toNat = t := by rw [UInt64.toNat_mod, hN, hnB, ht]
  have hq : Int.tdiv ((B : Nat) : Int) 8 = ((B / 8 : Nat) : Int) := by rcases hB with rfl | rfl <;> rfl
  have w8 : wI ((B / 8 : Nat) : Int) = ((B / 8 : Nat) : Int) := wI_in (by omega) (by omega)
  have w9 : wI (((B : Nat) : Int) - ((B / 8 : Nat) : Int)) = ((B - B / 8 : Nat) : Int) := by rw [wI_in (by omega) (by omega)]; omega
  have wt : wI ((t : Nat) : Int) = ((t : Nat) : Int) := wI_in (by omega) (by omega)
  have cond : ∀ j : Nat, j ≤ zc B t → (Int.tmod (wI (wI ((n % UInt64.ofInt ((B : Nat) : Int)).toNat : Int) + ((([128] ++ List.replicate j 0 : List UInt8)).length : Int))) ((B : Nat) : Int) != wI (((B : Nat) : Int) - wI (Int.tdiv ((B : Nat) : Int) 8))) = decide (j ≠ zc B t) := by
    intro j hj
    have hz : zc B t < B := Nat.mod_lt _ (by omega)
    rw [hmod, wt, hq, w8, w9]
    have hl : ((([128] ++ List.replicate j 0 : List UInt8)).length : Int) = ((1 + j : Nat) : Int) := by simp; omega
    rw [hl, wI_in (by omega) (by omega), show ((t : Nat) : Int) + ((1 + j : Nat) : Int) = ((t + (1 + j) : Nat) : Int) by omega]
    have hm : Int.tmod ((t + (1 + j) : Nat) : Int) ((B : Nat) : Int) = (((t + (1 + j)) % B : Nat) : Int) := rfl
    rw [hm]
    have key : (t + (1 + j)) % B = B - B / 8 ↔ j = zc B t := by
      unfold zc at hj hz ⊢
      rcases hB with rfl | rfl <;> omega
    by_cases h : j = zc B t
    · have := key.2 h
      rw [this]; simp [h]
    · have : ¬ (t + (1 + j)) % B = B - B / 8 := fun h' => h (key.1 h')
      simp only [h, ne_eq, not_false_eq_true, decide_true, bne_iff_ne]
      omega
  have hzB : zc B t < B := Nat.mod_lt _ (by omega)
  have e1 := loop_fold (f := F.sha_State_Sum_L1 n ((B : Nat) : Int) a s l rest) (fun (_ : Unit) i => ([128] ++ List.replicate i 0 : List UInt8)) (fun _ => True) (fun _ _ => ()) 0 (zc B t)
    (X := fun _ => loop (F.sha_State_Sum_L2 a s l rest n) ([128] ++ List.replicate (zc B t) 0, ((B / 8 - 1 : Nat) : Int)))
    (fun i _ _ hi _ => by
      refine ⟨?_, trivial⟩
      unfold F.sha_State_Sum_L1
      simp only
      rw [grd_true _ hne, grd_true _ hne2, cond i (by omega), if_pos (decide_eq_true (by omega)), apO_ok (by simp; omega), bind_some']
      simp only [List.append_assoc, List.replicate_succ']
      rfl)
    (fun _ _ => by
      unfold F.sha_State_Sum_L1
      simp only
      rw [grd_true _ hne, grd_true _ hne2, cond _ (Nat.le_refl _), if_neg (by simp), olet_eq, hq, w8, wI_in (by omega) (by omega), show ((B / 8 : Nat) : Int) - 1 = ((B / 8 - 1 : Nat) : Int) by omega])
    (zc B t) 0 () (Nat.le_refl _) (by omega) trivial
  rw [hBe]
  refine e1.trans ?_
  have hl2 := Sum_L2 a ha s l rest n ([128] ++ List.replicate (zc B t) 0) (by simp; omega)
  rw [hBe] at hl2
  refine hl2.trans ?_
  have hpad : ([128] ++ List.replicate (zc B t) 0) ++ (List.range' 0 (B / 8)).map (fun i => lenB n (B / 8 - 1 - i)) = padD B D := by
    unfold padD
    rw [ht, hn]
  have hpl := (pad_total a D).2
  rw [hpad]
  rw [hBe] at hpl
  obtain ⟨s', l', r', n', hw, hI'⟩ := Write_eq a ha (H0 a) (H0_len a) (padD B D) D s l rest n (by omega) hI
  rw [hw, bind_some']
  have hHs := hI'.1
  rw [hBe] at hHs
  have hlen := mixN_len a (H0 a) (D ++ padD B D) ((D ++ padD B D).length / B) (H0_len a)
  rw [← hHs] at hlen
  by_cases h1 : a = 1
  · have c1 : (a == 1) = true := by simpa using h1
    simp only [c1, if_true]
    have e3 := loop_foldI (f := F.sha_State_Sum_L3 a s l rest n (a, s', l', r', n')) (fun (x : List UInt8) i => (x, (i : Int))) (fun i x => x.length = 4 * i) (fun x i => x ++ q32 (s'.getD i 0)) 0 8
      (X := fun x => some (x, a, s, l, rest, n))
      (fun i x _ hi hx => by
        have c2 : decide ((i : Int) < 8) = true := decide_eq_true (by omega)
        refine ⟨?_, by simp [hx, q32]; omega⟩
        simp only [F.sha_State_Sum_L3, c2, if_true]
        rw [getO_D (show i < s'.length by have := hlen.1; simp only at this; omega) 0, bind_some', apO_ok (by simp; omega), bind_some', wI1 i (by omega)]
        rfl)
      (fun x _ => rfl) 8 0 [] (Nat.le_refl _) rfl rfl
    refine e3.trans ?_
    unfold shaD shaOut
    rw [if_pos h1, hBe, ← hHs]
    rfl
  · have c1 : (a == 1) = false := by simpa using h1
    simp only [c1, Bool.false_eq_true, if_false]
    have e5 := fun (i : Nat) (x : List UInt8) (v : UInt64) (hi : i < 8) (hx : x.length = 8 * i) => loop_foldI (f := F.sha_State_Sum_L5 (i : Int) v) (fun (x : List UInt8) j => (x, (56 : Int) - 8 * (j : Int))) (fun j y => y.length = 8 * i + j) (fun y j => y ++ [(shr64 v (56 - 8 * j)).toUInt8]) 0 8
      (X := fun y => (some (.inl (y, ((i + 1 : Nat) : Int))) : Option ((List UInt8 × Int) ⊕ (List UInt8 × Int × List UInt32 × List UInt64 × List UInt8 × UInt64))))
      (fun j y _ hj hy => by
        have c2 : decide ((0 : Int) ≤ 56 - 8 * (j : Int)) = true := decide_eq_true (by omega)
        refine ⟨?_, by simp [hy]; omega⟩
        simp only [F.sha_State_Sum_L5, c2, if_true]
        rw [grd_true _ (by omega), apO_ok (by simp; omega), bind_some', show ((56 : Int) - 8 * (j : Int)).toNat = 56 - 8 * j by omega, wI_in (by omega) (by omega), show (56 : Int) - 8 * (j : Int) - 8 = 56 - 8 * ((j + 1 : Nat) : Int) by omega]
        rfl)
      (fun y _ => by
        simp only [F.sha_State_Sum_L5, show decide ((0 : Int) ≤ 56 - 8 * ((8 : Nat) : Int)) = false from rfl, Bool.false_eq_true, if_false, wI1 i (by omega)]
        rfl) 8 0 x (Nat.le_refl _) rfl (by omega)
    have hSz : F.sha_Size a = some ((Sz a : Nat) : Int) ∧ Sz a ≤ 64 := by
      rcases ha with rfl | rfl | rfl
      · exact absurd rfl h1
      · exact ⟨rfl, by decide⟩
      · exact ⟨rfl, by decide⟩
    have e4 := loop_foldI (f := F.sha_State_Sum_L4 a s l rest n (a, s', l', r', n')) (fun (x : List UInt8) i => (x, (i : Int))) (fun i x => x.length = 8 * i) (fun x i => x ++ q64 (l'.getD i 0)) 0 8
      (X := fun x => some (x.take (Sz a), a, s, l, rest, n))
      (fun i x _ hi hx => by
        have c2 : decide ((i : Int) < 8) = true := decide_eq_true (by omega)
        refine ⟨?_, by simp only [List.length_append, q64_len, hx]; omega⟩
        simp only [F.sha_State_Sum_L4, c2, if_true]
        rw [getO_D (show i < l'.length by have := hlen.2; simp only at this; omega) 0, bind_some']
        refine (e5 i x _ hi hx).trans ?_
        have hf := fold_app (fun j => [(shr64 (l'.getD i 0) (56 - 8 * j)).toUInt8]) 8 0 x
        simp only [hf]
        have : (List.range' 0 8).flatMap (fun j => [(shr64 (l'.getD i 0) (56 - 8 * j)).toUInt8]) = q64 (l'.getD i 0) := rfl
        rw [this])
      (fun x hx => by
        simp only [F.sha_State_Sum_L4, show decide (((8 : Nat) : Int) < 8) = false from rfl, Bool.false_eq_true, if_false]
        rw [hSz.1, bind_some', bind_some', grd_true _ ⟨by omega, by rw [Int.toNat_natCast]; omega, rfl⟩, Int.toNat_natCast])
      8 0 [] (Nat.le_refl _) rfl rfl
    refine e4.trans ?_
    unfold shaD shaOut
    rw [if_neg h1, hBe, ← hHs]
    rfl
theorem New_eq (a : Int) (ha : a = 1 ∨ a = 2 ∨ a = 3) : F.sha_New a = some (some (a, (H0 a).1, (H0 a).2, List.replicate 128 0, 0)) := by
  rcases ha with rfl | rfl | rfl <;> rfl
theorem Inv0 (a : Int) : Inv a (H0 a) [] (H0 a).1 (H0 a).2 (List.replicate 128 0) 0 := by
  refine ⟨?_, by simp, by simp, rfl⟩
  simp [mixN]
theorem sha_Sum_eq (a : Int) (ha : a = 1 ∨ a = 2 ∨ a = 3) (ps : List (List UInt8)) (hl : ps.length ≤ 1000) (hD : ps.flatten.length ≤ 900000000000000) : F.sha_Sum a ps = some (shaD a ps.flatten) := by
  unfold F.sha_Sum
  rw [New_eq a ha, bind_some']
  show loop (F.sha_Sum_L1 ps) (0, a, (H0 a).1, (H0 a).2, List.replicate 128 0, 0) = _
  have key : ∀ (r i : Nat) (s : List UInt32) (l : List UInt64) (rest : List UInt8) (n : UInt64), i + r = ps.length → Inv a (H0 a) (ps.take i).flatten s l rest n → loop (F.sha_Sum_L1 ps) ((i : Int), a, s, l, rest, n) = some (shaD a ps.flatten) := by
    intro r
    induction r with
    | zero =>
      intro i s l rest n hi hI
      have hd : decide ((i : Int) < (ps.length : Int)) = false := decide_eq_false (by omega)
      have hI2 : Inv a (H0 a) ps.flatten s l rest n := by rwa [List.take_of_length_le (by omega)] at hI
      refine loop_inr (r := shaD a ps.flatten) ?_
      simp only [F.sha_Sum_L1, hd, Bool.false_eq_true, if_false]
      rw [Sum_eq a ha _ s l rest n hD hI2, bind_some']
      rfl
    | succ r ih =>
      intro i s l rest n hi hI
      have hd : decide ((i : Int) < (ps.length : Int)) = true := decide_eq_true (by omega)
      have hlt : i < ps.length := by omega
      have hfl : (ps.take (i + 1)).flatten = (ps.take i).flatten ++ ps[i] := by rw [List.take_succ_eq_append_getElem hlt, List.flatten_append]; simp
      have hle : (ps.take (i + 1)).flatten.length ≤ ps.flatten.length := by
        have : ps.flatten = (ps.take (i + 1)).flatten ++ (ps.drop (i + 1)).flatten := by rw [← List.flatten_append, List.take_append_drop]
        rw [this, List.length_append]; omega
      rw [hfl, List.length_append] at hle
      obtain ⟨s', l', r', n', hw, hI'⟩ := Write_eq a ha (H0 a) (H0_len a) ps[i] _ s l rest n (by omega) hI
      rw [← hfl] at hI'
      have hs : F.sha_Sum_L1 ps ((i : Int), a, s, l, rest, n) = some (.inl (((i + 1 : Nat) : Int), a, s', l', r', n')) := by
        simp only [F.sha_Sum_L1, hd, if_true]
        rw [getO_lt hlt, bind_some', hw, bind_some', wI1 i (by omega)]
        rfl
      rw [loop_inl hs]
      exact ih (i + 1) s' l' r' n' (by omega) hI'
  exact key ps.length 0 _ _ _ _ (by omega) (by simpa using Inv0 a)
end Go.Gk.Sh
end

section
set_option linter.unusedSimpArgs false
set_option linter.unusedVariables false
namespace Go.Gk.Sh
open Go Go.Gk
def zr (B r : Nat) : Nat := (2 * B - 8 - (r + 1)) % B
def len8 (n : UInt64) : List UInt8 := (List.range' 0 8).map (fun i => lenB n (7 - i))
end Go.Gk.Sh
end

section
set_option linter.unusedSimpArgs false
set_option linter.unusedVariables false
namespace Go.Gk.Sh
open Go Go.Gk
theorem q32_len (v : UInt32) : (q32 v).length = 4 := by simp [q32]
theorem out32_len (s : List UInt32) : (out32 s).length = 32 := by
  unfold out32
  have := fold_invI (fun i (x : List UInt8) => x.length = 4 * i) (fun x i => x ++ q32 (s.getD i 0)) (fun i x hx => by simp only [List.length_append, q32_len, hx]; omega) 8 0 [] rfl
  simpa using this
theorem shaD_len (a : Int) (D : List UInt8) : (shaD a D).length = Sz a := by
  unfold shaD shaOut
  split
  · rename_i h; rw [out32_len]; unfold Sz; rw [if_pos h]
  · rename_i h
    rw [List.length_take, out64_len]; unfold Sz; rw [if_neg h]; split <;> rfl
theorem Sz_le (a : Int) : Sz a ≤ 64 := by unfold Sz; split; decide; split <;> decide
theorem Bk_le (a : Int) : 64 ≤ Bk a ∧ Bk a ≤ 128 := by unfold Bk; split <;> omega
def key' (a : Int) (key : List UInt8) : List UInt8 := if Bk a < key.length then shaD a key else key
def fillD (a : Int) (key : List UInt8) (w : UInt8) : List UInt8 := (List.range' 0 (Bk a)).map (fun i => (key' a key).getD i 0 ^^^ w)
theorem fillD_len (a : Int) (key : List UInt8) (w : UInt8) : (fillD a key w).length = Bk a := by simp [fillD]
theorem key'_len (a : Int) (key : List UInt8) : (key' a key).length ≤ Bk a := by
  unfold key'
  split
  · rw [shaD_len]; exact Nat.le_trans (Sz_le a) (Bk_le a).1
  · omega
theorem xor_loop {f : Int × List UInt8 → Option ((Int × List UInt8) ⊕ List UInt8)} (w : UInt8) (B : Nat) (hB : B ≤ 1000)
    (hf : ∀ i x, f (i, x) = if decide (i < (B : Int)) = true then (obind (getO x i) fun a => obind (getO x i) fun b => olet (x.set i.toNat (a ^^^ w)) fun y => oinl (wI (i + 1), y)) else oinr (some x))
    (l : List UInt8) (hl : l.length = B) : loop f (0, l) = some (l.map (· ^^^ w)) := by
  have key : ∀ (r i : Nat), i + r = B → loop f ((i : Int), (l.take i).map (· ^^^ w) ++ l.drop i) = some (l.map (· ^^^ w)) := by
    intro r
    induction r with
    | zero =>
      intro i h
      refine loop_oinr' ?_
      rw [hf, decide_eq_false (by omega), List.take_of_length_le (by omega), List.drop_of_length_le (by omega), List.append_nil]
      rfl
    | succ r ih =>
      intro i h
      have hi : i < l.length := by omega
      have hlen : ((l.take i).map (· ^^^ w) ++ l.drop i).length = B := by simp; omega
      have hg : getO ((l.take i).map (· ^^^ w) ++ l.drop i) (i : Int) = some l[i] := by
        rw [getO_lt (by omega), List.getElem_append_right (by simp; omega)]
        congr 1
        simp; congr 1; omega
      have hs : f ((i : Int), (l.take i).map (· ^^^ w) ++ l.drop i) = some (.inl (((i + 1 : Nat) : Int), (l.take (i + 1)).map (· ^^^ w) ++ l.drop (i + 1))) := by
        rw [hf, decide_eq_true (by omega), hg]
        simp only [if_true, bind_some', olet_eq, Int.toNat_natCast]
        rw [wI_in (by omega) (by omega), List.set_append_right _ _ (by simp; omega), List.drop_eq_getElem_cons hi, List.take_succ_eq_append_getElem hi]
        have e0 : i - ((l.take i).map (· ^^^ w)).length = 0 := by simp; omega
        rw [e0, List.set_cons_zero, List.map_append, List.append_assoc]
        rfl
      rw [loop_inl hs]
      exact ih (i + 1) (by omega)
  have := key B 0 (by omega)
  simpa using this
theorem filled_list (a : Int) (k : List UInt8) (B : Nat) (w : UInt8) (hk : k.length ≤ B) : (cpL (List.replicate B 0) k 0 B).map (· ^^^ w) = (List.range' 0 B).map (fun i => k.getD i 0 ^^^ w) := by
  have hl : (cpL (List.replicate B (0 : UInt8)) k 0 B).length = B := by rw [cpL_length _ _ _ _ (by omega) (by simp)]; simp
  refine List.ext_getElem (by simp [hl]) fun i h1 h2 => ?_
  simp only [List.getElem_map, List.getElem_range', Nat.zero_add, Nat.one_mul]
  congr 1
  unfold cpL
  rw [List.getD_eq_getElem?_getD]
  simp only [List.take_zero, List.nil_append, Nat.sub_zero, Nat.zero_add]
  have hi : i < B := by simpa [hl] using h1
  by_cases h : i < k.length
  · rw [List.getElem_append_left (by simp; omega), List.getElem_take, List.getElem?_eq_getElem h]; rfl
  · rw [List.getElem_append_right (by simp; omega), List.getElem_drop, List.getElem_replicate, List.getElem?_eq_none (by omega)]; rfl
section
variable (a : Int) (ha : a = 1 ∨ a = 2 ∨ a = 3)
include ha
theorem prog_filled (key : List UInt8) (w : UInt8) (hk : key.length ≤ 150000000000000) : F.hmac_filled a key w = some (fillD a key w) := by
  unfold F.hmac_filled fillD
  have hB := Bk_le a
  have hkl := key'_len a key
  have hfin : ∀ (f : Int × List UInt8 → Option ((Int × List UInt8) ⊕ List UInt8)), (∀ i x, f (i, x) = if decide (i < (Bk a : Int)) = true then (obind (getO x i) fun a => obind (getO x i) fun b => olet (x.set i.toNat (a ^^^ w)) fun y => oinl (wI (i + 1), y)) else oinr (some x)) →
      loop f (0, cpL (List.replicate (Bk a) 0) (key' a key) 0 (Bk a)) = some ((List.range' 0 (Bk a)).map (fun i => (key' a key).getD i 0 ^^^ w)) := by
    intro f hf
    rw [xor_loop w (Bk a) (by omega) hf _ (by rw [cpL_length _ _ _ _ (by omega) (by simp)]; simp), filled_list a _ _ w hkl]
  have hm : mkO 1 ((Bk a : Nat) : Int) ((Bk a : Nat) : Int) (0 : UInt8) = some (List.replicate (Bk a) 0) := by rw [mkO_ok (by omega)]; simp
  rw [Block_eq a ha, bind_some']
  by_cases h : Bk a < key.length
  · rw [if_pos (decide_eq_true (by omega)), sha_Sum_eq a ha [key] (by simp) (by simp; omega), bind_some', bind_some', hm, bind_some', olet_eq, bind_some', List.length_replicate]
    have := hfin (F.hmac_filled_L1 w ((Bk a : Nat) : Int)) (fun i x => rfl)
    rw [show key' a key = shaD a key from if_pos h] at this ⊢
    simpa using this
  · rw [if_neg (by simp; omega), bind_some', hm, bind_some', olet_eq, bind_some', List.length_replicate]
    have := hfin (F.hmac_filled_L2 w ((Bk a : Nat) : Int)) (fun i x => rfl)
    rw [show key' a key = key from if_neg h] at this ⊢
    exact this
def hmacD (a : Int) (key data : List UInt8) : List UInt8 := shaD a (fillD a key 92 ++ shaD a (fillD a key 54 ++ data))
theorem hmac_Sum_eq (key data : List UInt8) (hk : key.length ≤ 150000000000000) (hd : data.length ≤ 150000000000000) : F.hmac_Sum a key data = some (hmacD a key data) := by
  unfold F.hmac_Sum hmacD
  have hB := Bk_le a
  have hS := Sz_le a
  have hsz : F.sha_Size a = some ((Sz a : Nat) : Int) := by rcases ha with rfl | rfl | rfl <;> rfl
  have hne : (((Sz a : Nat) : Int) == 0) = false := by rcases ha with rfl | rfl | rfl <;> rfl
  rw [hsz, bind_some', hne, if_neg (by simp), prog_filled a ha key 92 hk, bind_some', prog_filled a ha key 54 hk, bind_some', sha_Sum_eq a ha _ (by simp) (by simp [fillD_len]; omega), bind_some',
    sha_Sum_eq a ha _ (by simp) (by simp [fillD_len, shaD_len]; omega), bind_some']
  simp
end
end Go.Gk.Sh
end

section
set_option linter.unusedSimpArgs false
set_option linter.unusedVariables false
namespace Go.Gk.Sh
open Go Go.Gk
def isMac (a : Int) : Prop := a = 1 ∨ a = 2 ∨ a = 3
instance (a : Int) : Decidable (isMac a) := by unfold isMac; infer_instance
def tagD (a : Int) (s t : List UInt8) : List UInt8 × Int :=
  if isMac a then (if s.length < Sz a ∨ 4096 < s.length then ([], 90) else (hmacD a s t, 0)) else ([], 111)
theorem kind_mac (a : Int) (h : isMac a) : F.jws_kind a = some (1, a, 0) := by
  rcases h with rfl | rfl | rfl <;> rfl
theorem kind_not (a : Int) (h : ¬ isMac a) : ∃ k, F.jws_kind a = some k ∧ k.1 ≠ 1 := by
  unfold isMac at h
  have h1 : a ≠ 1 := by omega
  have h2 : a ≠ 2 := by omega
  have h3 : a ≠ 3 := by omega
  unfold F.jws_kind
  rw [if_neg (by simpa using h1), if_neg (by simpa using h2), show (a == 3) = false by simpa using h3]
  unfold F.jws_kind_K1
  rw [if_neg (by simp)]
  by_cases h4 : a = 4; · subst h4; exact ⟨_, rfl, by decide⟩
  by_cases h5 : a = 5; · subst h5; exact ⟨_, rfl, by decide⟩
  rw [if_neg (by simpa using h4), if_neg (by simpa using h5)]
  by_cases h6 : a = 6; · subst h6; exact ⟨_, rfl, by decide⟩
  rw [show (a == 6) = false by simpa using h6]
  unfold F.jws_kind_K2
  rw [if_neg (by simp)]
  by_cases h7 : a = 7; · subst h7; exact ⟨_, rfl, by decide⟩
  by_cases h8 : a = 8; · subst h8; exact ⟨_, rfl, by decide⟩
  rw [if_neg (by simpa using h7), if_neg (by simpa using h8)]
  by_cases h9 : a = 9; · subst h9; exact ⟨_, rfl, by decide⟩
  rw [show (a == 9) = false by simpa using h9]
  unfold F.jws_kind_K3
  rw [if_neg (by simp)]
  by_cases h10 : a = 10; · subst h10; exact ⟨_, rfl, by decide⟩
  by_cases h11 : a = 11; · subst h11; exact ⟨_, rfl, by decide⟩
  by_cases h12 : a = 12; · subst h12; exact ⟨_, rfl, by decide⟩
  rw [if_neg (by simpa using h10), if_neg (by simpa using h11), if_neg (by simpa using h12)]
  exact ⟨_, rfl, by decide⟩
theorem jws_Tag_eq (a : Int) (s t : List UInt8) (ht : t.length ≤ 150000000000000) : F.jws_Tag a s t = some (tagD a s t) := by
  unfold F.jws_Tag tagD
  by_cases h : isMac a
  · rw [kind_mac a h, bind_some', if_neg (by simp), if_pos h]
    have hsz : F.sha_Size a = some ((Sz a : Nat) : Int) := by rcases h with rfl | rfl | rfl <;> rfl
    dsimp only
    rw [hsz, bind_some']
    by_cases h1 : s.length < Sz a
    · rw [if_pos (decide_eq_true (by omega)), if_pos (.inl h1)]
      unfold F.jws_Tag_K1
      rw [if_pos rfl]
    · rw [if_neg (by simp; omega)]
      unfold F.jws_Tag_K1
      by_cases h2 : 4096 < s.length
      · rw [if_pos (decide_eq_true (by omega)), if_pos (.inr h2)]
      · rw [if_neg (by simp; omega), if_neg (by omega), hmac_Sum_eq a h s t (by omega) ht]; rfl
  · obtain ⟨k, h1, h2⟩ := kind_not a h
    rw [h1, bind_some', if_pos (by simpa using h2), if_neg h]
end Go.Gk.Sh
end

section
set_option linter.unusedSimpArgs false
set_option linter.unusedVariables false
namespace Go.Gk.Sh
open Go Go.Gk
end Go.Gk.Sh
end

section
set_option linter.unusedSimpArgs false
set_option linter.unusedVariables false
namespace Go.Gk.Sh
open Go Go.Gk
theorem or8_zero (a b : UInt8) : a ||| b = 0 ↔ a = 0 ∧ b = 0 := by
  constructor
  · intro h
    have h1 := congrArg UInt8.toNat h
    rw [UInt8.toNat_or] at h1
    have h2 : a.toNat ≤ a.toNat ||| b.toNat := Nat.left_le_or
    have h3 : b.toNat ≤ a.toNat ||| b.toNat := Nat.right_le_or
    have h4 : (0 : UInt8).toNat = 0 := rfl
    exact ⟨UInt8.toNat_inj.1 (by omega), UInt8.toNat_inj.1 (by omega)⟩
  · rintro ⟨rfl, rfl⟩; rfl
theorem xor8_zero (a b : UInt8) : a ^^^ b = 0 ↔ a = b := by
  constructor
  · intro h
    have h1 : (a ^^^ b) ^^^ b = 0 ^^^ b := by rw [h]
    rwa [UInt8.xor_assoc, UInt8.xor_self, UInt8.xor_zero, UInt8.zero_xor] at h1
  · rintro rfl; exact UInt8.xor_self
theorem equal_loop (x y : List UInt8) (hl : x.length = y.length) (hx : x.length ≤ 1000) : ∀ (r i : Nat) (acc : UInt8), i + r = x.length → loop (F.hmac_Equal_L1 x y) (acc, (i : Int)) = some (decide (acc = 0 ∧ x.drop i = y.drop i)) := by
  intro r
  induction r with
  | zero =>
    intro i acc h
    refine loop_inr ?_
    unfold F.hmac_Equal_L1
    dsimp only
    rw [if_neg (by simp; omega), List.drop_of_length_le (by omega), List.drop_of_length_le (by omega)]
    simp only [oinr, Option.map_some, and_true]
    congr 2
  | succ r ih =>
    intro i acc h
    have hi : i < x.length := by omega
    have hi2 : i < y.length := by omega
    have hs : F.hmac_Equal_L1 x y (acc, (i : Int)) = some (.inl (acc ||| (x[i] ^^^ y[i]), ((i + 1 : Nat) : Int))) := by
      unfold F.hmac_Equal_L1
      dsimp only
      rw [if_pos (decide_eq_true (by omega)), getO_lt hi, bind_some', getO_lt hi2, bind_some', wI_in (by omega) (by omega)]; rfl
    rw [loop_inl hs, ih (i + 1) _ (by omega)]
    congr 1
    rw [decide_eq_decide, or8_zero, xor8_zero, List.drop_eq_getElem_cons hi, List.drop_eq_getElem_cons hi2, List.cons.injEq, and_assoc]
theorem Equal_eq (x y : List UInt8) (hx : x.length ≤ 1000) : F.hmac_Equal x y = some (decide (x = y)) := by
  unfold F.hmac_Equal
  by_cases h : x.length = y.length
  · rw [if_neg (by simp [h])]
    have := equal_loop x y h hx x.length 0 0 (by omega)
    simpa using this
  · rw [if_pos (by simpa using (fun h2 => h (by omega))), decide_eq_false (fun h2 => h (by rw [h2]))]
theorem hmac_Check_eq (a : Int) (ha : isMac a) (s t g : List UInt8) (hs : s.length ≤ 150000000000000) (ht : t.length ≤ 150000000000000) : F.hmac_Check a s t g = some (decide (hmacD a s t = g)) := by
  unfold F.hmac_Check
  have hsz : F.sha_Size a = some ((Sz a : Nat) : Int) := by rcases ha with rfl | rfl | rfl <;> rfl
  have hne : decide ((0 : Int) < ((Sz a : Nat) : Int)) = true := by rcases ha with rfl | rfl | rfl <;> rfl
  have hl : (hmacD a s t).length ≤ 1000 := by simp only [hmacD, shaD_len]; exact Nat.le_trans (Sz_le a) (by decide)
  rw [hsz, bind_some', hne, if_pos rfl, hmac_Sum_eq a ha s t hs ht, bind_some', Equal_eq _ _ hl, bind_some']
theorem unused0 : F.spki_unused [[], [], [], []] = some true := by
  have : iter (F.spki_unused_L1 [[], [], [], []]) 5 (0, 0) = some true := rfl
  exact loop_iter this
theorem spki_oct (s : List UInt8) : F.spki_Check 1 0 s [] [] [] [] = some (if 32 ≤ s.length ∧ s.length ≤ 4096 then 0 else 90) := by
  unfold F.spki_Check F.spki_good
  rw [if_pos (by decide), if_pos (by decide)]
  by_cases h1 : 32 ≤ s.length
  · rw [if_pos (decide_eq_true (by omega))]
    by_cases h2 : s.length ≤ 4096
    · rw [if_pos (decide_eq_true (by omega)), unused0, bind_some', bind_some', if_pos rfl, if_pos ⟨h1, h2⟩]
    · rw [if_neg (by simp only [decide_eq_true_eq]; omega), bind_some', if_neg (by simp), if_neg (by omega)]
  · rw [if_neg (by simp only [decide_eq_true_eq]; omega), bind_some', if_neg (by simp), if_neg (by omega)]
theorem check_mac (a : Int) (ha : isMac a) (s t g : List UInt8) (ht : t.length ≤ 150000000000000) :
    F.jws_Check a 1 0 s [] [] [] [] t g = some (if s.length < Sz a ∨ 4096 < s.length then 90 else if hmacD a s t = g then 0 else 91) := by
  unfold F.jws_Check F.jws_Fits
  have hSz : 32 ≤ Sz a := by rcases ha with rfl | rfl | rfl <;> decide
  have hsz : F.sha_Size a = some ((Sz a : Nat) : Int) := by rcases ha with rfl | rfl | rfl <;> rfl
  rw [kind_mac a ha, bind_some', bind_some', if_neg (by simp), if_pos (by simp), bind_some', if_neg (by decide), spki_oct, bind_some']
  by_cases h : 32 ≤ s.length ∧ s.length ≤ 4096
  · rw [if_pos h, if_neg (by decide), if_pos (by simp)]
    dsimp only
    rw [hsz, bind_some']
    unfold F.jws_Check_K1
    by_cases h2 : s.length < Sz a
    · rw [if_pos (decide_eq_true (by omega)), if_pos (.inl h2)]
    · rw [if_neg (by simp only [decide_eq_true_eq]; omega), if_pos (by simp), if_neg (by omega)]
      dsimp only
      rw [hmac_Check_eq a ha s t g (by omega) ht, bind_some']
      by_cases h3 : hmacD a s t = g
      · rw [if_pos h3, decide_eq_true h3]; rfl
      · rw [if_neg h3, decide_eq_false h3]; rfl
  · rw [if_neg h, if_pos (by decide)]
    unfold F.jws_Check_K1
    rw [if_pos (by decide), if_pos (by omega)]
theorem split_ex : F.jws_Split [89, 81, 46, 89, 103, 46] = some ([89, 81], [89, 103], [], 0) := by
  unfold F.jws_Split
  rw [if_neg (by decide)]
  have hc : F.strings_Count [89, 81, 46, 89, 103, 46] = some 2 := rfl
  have h1 := cut_eq (p := [89, 81]) (t := [89, 103, 46]) (by decide) (by decide)
  have h2 := cut_eq (p := [89, 103]) (t := []) (by decide) (by decide)
  simp only [List.cons_append, List.nil_append] at h1 h2
  rw [hc, bind_some', if_neg (by decide), h1, bind_some', h2, bind_some']
theorem decode_ex : F.jws_Decode [89, 81, 46, 89, 103, 46] = some ([97], [98], [], 0) := by
  unfold F.jws_Decode
  have e1 : F.b64_Decode [89, 81] = some ([97], 0, 0) := by
    rw [b64_Decode_eq _ (by decide), ← decU_spell]; rfl
  have e2 : F.b64_Decode [89, 103] = some ([98], 0, 0) := by
    rw [b64_Decode_eq _ (by decide), ← decU_spell]; rfl
  have e3 : F.b64_Decode [] = some ([], 0, 0) := by
    rw [b64_Decode_eq _ (by decide), ← decU_spell]; rfl
  rw [split_ex, bind_some', if_neg (by decide)]
  dsimp only
  rw [e1, bind_some', if_neg (by decide), e2, bind_some', if_neg (by decide), e3, bind_some', if_neg (by decide)]
theorem alive_eq : F.law18_alive = some true := by
  unfold F.law18_alive
  have hc : F.jws_Compact [97] [98] [] = some ([89, 81, 46, 89, 103, 46], 0) := by
    rw [jws_Compact_eq _ _ _ (by decide) (by decide) (by decide)]; rfl
  have hm : mkO 1 (32 : Int) (32 : Int) (0 : UInt8) = some (List.replicate 32 0) := rfl
  have ha : isMac 1 := .inl rfl
  have ht : tagD 1 (List.replicate 32 0) [89, 81, 46, 89, 103] = (hmacD 1 (List.replicate 32 0) [89, 81, 46, 89, 103], 0) := by
    unfold tagD
    rw [if_pos ha, if_neg (by decide)]
  have hl : (hmacD 1 (List.replicate 32 0) [89, 81, 46, 89, 103]).length = 32 := by simp only [hmacD, shaD_len]; rfl
  have hck : F.jws_Check 1 1 0 (List.replicate 32 0) [] [] [] [] [89, 81, 46, 89, 103] (hmacD 1 (List.replicate 32 0) [89, 81, 46, 89, 103]) = some 0 := by
    rw [check_mac 1 ha _ _ _ (by decide), if_neg (by decide), if_pos rfl]
  rw [split_ex, bind_some', decode_ex, bind_some', hc, bind_some', hm, bind_some', jws_Tag_eq 1 _ _ (by decide), bind_some', ht]
  dsimp only
  rw [hck, bind_some', hl]
  rfl
end Go.Gk.Sh
end

section
set_option linter.unusedSimpArgs false
set_option linter.unusedVariables false
namespace Go.Gk.Sh
open Go Go.Gk
theorem split_spec (l : List UInt8) (hl : l.length ≤ 140737488355328) :
    (65536 < l.length ∧ F.jws_Split l = some ([], [], [], 10)) ∨ (l.length ≤ 65536 ∧ l.count 46 ≠ 2 ∧ F.jws_Split l = some ([], [], [], 120)) ∨
    ∃ p q r, l = p ++ 46 :: (q ++ 46 :: r) ∧ (46 : UInt8) ∉ p ∧ (46 : UInt8) ∉ q ∧ (46 : UInt8) ∉ r ∧ l.length ≤ 65536 ∧ l.count 46 = 2 ∧ F.jws_Split l = some (p, q, r, 0) := by
  unfold F.jws_Split
  by_cases hb : 65536 < l.length
  · left
    exact ⟨hb, by rw [if_pos (by simp; omega)]⟩
  · right
    rw [if_neg (by simp; omega)]
    have hc : F.strings_Count l = some ((l.count 46 : Nat) : Int) := rfl
    rw [hc, bind_some']
    by_cases h2 : l.count 46 = 2
    · right
      obtain ⟨p, q, r, rfl, hp, hq, hr⟩ := split_two l h2
      have hlen : (p ++ 46 :: (q ++ 46 :: r)).length = p.length + 1 + q.length + 1 + r.length := by simp; omega
      refine ⟨p, q, r, rfl, hp, hq, hr, by omega, h2, ?_⟩
      rw [if_neg (by rw [h2]; simp), cut_eq hp (by omega), bind_some', cut_eq hq (by omega), bind_some']
    · left
      exact ⟨by omega, h2, by rw [if_pos (by simp; omega)]⟩
def joinD (a b c : List UInt8) : List UInt8 := spellL urlS a ++ 46 :: (spellL urlS b ++ 46 :: spellL urlS c)
theorem joinD_len (a b c : List UInt8) : (joinD a b c).length = 2 + (4 * a.length + 2) / 3 + (4 * b.length + 2) / 3 + (4 * c.length + 2) / 3 := by
  unfold joinD
  have s1 := spellL_length urlS a; have s2 := spellL_length urlS b; have s3 := spellL_length urlS c
  rw [third_six] at s1 s2 s3
  simp; omega
theorem decU_codes (l : List UInt8) : (decU l).2.1 = 0 ∨ (decU l).2.1 = 20 ∨ (decU l).2.1 = 21 ∨ (decU l).2.1 = 22 := by
  unfold decU
  split
  · simp
  · split
    · simp
    · split <;> simp
theorem decode_spec (t : List UInt8) (ht : t.length ≤ 140737488355328) : (∃ a b c, F.jws_Decode t = some (a, b, c, 0) ∧ t = joinD a b c ∧ t.length ≤ 65536) ∨
    ∃ e : Int, F.jws_Decode t = some ([], [], [], e) ∧ (e = 10 ∨ e = 20 ∨ e = 21 ∨ e = 22 ∨ e = 120) := by
  unfold F.jws_Decode
  rcases split_spec t ht with ⟨_, h⟩ | ⟨_, _, h⟩ | ⟨p, q, r, he, hp, hq, hr, hb, _, h⟩
  · rw [h, bind_some', if_pos (by decide)]; exact .inr ⟨10, rfl, .inl rfl⟩
  · rw [h, bind_some', if_pos (by decide)]; exact .inr ⟨120, rfl, by simp⟩
  · have hlen : t.length = p.length + 1 + q.length + 1 + r.length := by rw [he]; simp; omega
    rw [h, bind_some', if_neg (by simp)]
    dsimp only
    rw [b64_Decode_eq p (by omega), bind_some']
    by_cases d1 : (decU p).2.1 = 0
    · rw [if_neg (by simpa using d1), b64_Decode_eq q (by omega), bind_some']
      by_cases d2 : (decU q).2.1 = 0
      · rw [if_neg (by simpa using d2), b64_Decode_eq r (by omega), bind_some']
        by_cases d3 : (decU r).2.1 = 0
        · rw [if_neg (by simpa using d3)]
          left
          have hd : ∀ x : List UInt8, (decU x).2.1 = 0 → spellL urlS (decU x).1 = x := fun x hx => (decU_back x (decU x).1 (decU x).2.2 (by rw [← hx])).1
          refine ⟨_, _, _, rfl, ?_, hb⟩
          unfold joinD
          rw [hd p d1, hd q d2, hd r d3, he]
        · rw [if_pos (by simpa using d3)]
          refine .inr ⟨_, rfl, ?_⟩
          rcases decU_codes r with h | h | h | h <;> simp_all
      · rw [if_pos (by simpa using d2)]
        refine .inr ⟨_, rfl, ?_⟩
        rcases decU_codes q with h | h | h | h <;> simp_all
    · rw [if_pos (by simpa using d1)]
      refine .inr ⟨_, rfl, ?_⟩
      rcases decU_codes p with h | h | h | h <;> simp_all
end Go.Gk.Sh
end

section
set_option linter.unusedSimpArgs false
set_option linter.unusedVariables false
namespace Go.Gk.Sh
open Go Go.Gk
theorem all_to {f : Int → Option (Int ⊕ Bool)} {τ : Type} {X r : Option Bool} (n : Nat) (c : τ) (pc : τ → Bool) (hc : pc c = false) (hn : n ≤ 4611686018427387904)
    (hf : ∀ i, f i = if decide (i < ((List.replicate n c).length : Int)) = true then (obind (getO (List.replicate n c) i) fun x => if pc x = true then oinr (some false) else oinl (wI (i + 1))) else oinr X) (hX : X = r) : loop f 0 = r := by
  subst hX
  have key : ∀ (r i : Nat), i + r = n → loop f (i : Int) = X := by
    intro r
    induction r with
    | zero =>
      intro i h1
      refine loop_oinr' ?_
      rw [hf, if_neg (by simp; omega)]
    | succ r ih =>
      intro i h1
      have g1 : getO (List.replicate n c) (i : Int) = some c := by rw [getO_lt (by simp; omega)]; simp
      have hs : f (i : Int) = some (.inl (((i + 1 : Nat) : Int))) := by
        rw [hf, if_pos (decide_eq_true (by simp; omega)), g1, bind_some', hc, if_neg (by simp), wI_in (by omega) (by omega)]; rfl
      rw [loop_inl hs]
      exact ih (i + 1) (by omega)
  exact key n 0 (by omega)
theorem decode_len (t : List UInt8) (ht : t.length ≤ 140737488355328) : ∃ a b c : List UInt8, ∃ e : Int, F.jws_Decode t = some (a, b, c, e) ∧ a.length ≤ 65536 ∧ b.length ≤ 65536 ∧ c.length ≤ 65536 := by
  rcases decode_spec t ht with ⟨a, b, c, h, he, hl⟩ | ⟨e, h, _⟩
  · have := joinD_len a b c
    rw [he] at hl
    exact ⟨a, b, c, 0, h, by omega, by omega, by omega⟩
  · exact ⟨[], [], [], e, h, by simp, by simp, by simp⟩
theorem law18_JwsFresh_eq (t : List UInt8) (ht : t.length ≤ 140737488355328) : F.law18_JwsFresh t = some true := by
  obtain ⟨a, b, c, e, hd, la, lb, lc⟩ := decode_len t ht
  have hsm : ∀ y : List UInt8, y.length ≤ 65536 → F.law18_same y y = some true := fun y hy => by rw [law18_same_eq y y (by omega)]; simp
  unfold F.law18_JwsFresh
  rw [alive_eq, bind_some', if_neg (by decide), hd, bind_some', bind_some', if_neg (by simp), hsm _ la, bind_some', if_neg (by decide), hsm _ lb, bind_some', if_neg (by decide), hsm _ lc, bind_some']
  unfold F.law18_JwsFresh_K1
  dsimp only
  rw [if_neg (by decide), apO1_ok (by simp; omega), bind_some', apO1_ok (by simp; omega), bind_some', apO1_ok (by simp; omega), bind_some']
  simp only [List.nil_append]
  rw [fill_loop (c := UInt8.ofInt 1) (fun i l => rfl) a (by omega), fill_loop (c := UInt8.ofInt 2) (fun i l => rfl) b (by omega), fill_loop (c := UInt8.ofInt 3) (fun i l => rfl) c (by omega)]
  rw [more_loop (c := UInt8.ofInt 11) (bytes := 1) (fun l k => rfl) _ (by simp; omega), more_loop (c := UInt8.ofInt 12) (bytes := 1) (fun l k => rfl) _ (by simp; omega), more_loop (c := UInt8.ofInt 13) (bytes := 1) (fun l k => rfl) _ (by simp; omega)]
  refine look_to4 a.length (UInt8.ofInt 1) (UInt8.ofInt 11) (fun x => x != UInt8.ofInt 1) (fun x => x != UInt8.ofInt 11) rfl rfl (by omega) (fun i => rfl) ?_
  refine look_to4 b.length (UInt8.ofInt 2) (UInt8.ofInt 12) (fun x => x != UInt8.ofInt 2) (fun x => x != UInt8.ofInt 12) rfl rfl (by omega) (fun i => rfl) ?_
  refine look_to4 c.length (UInt8.ofInt 3) (UInt8.ofInt 13) (fun x => x != UInt8.ofInt 3) (fun x => x != UInt8.ofInt 13) rfl rfl (by omega) (fun i => rfl) ?_
  rw [hsm _ la, bind_some', if_neg (by decide), hsm _ lb, bind_some', if_neg (by decide), hsm _ lc, bind_some']
  unfold F.law18_JwsFresh_K5
  dsimp only
  rw [if_neg (by decide), hd, bind_some']
  refine all_to a.length (UInt8.ofInt 1) (fun x => x != UInt8.ofInt 1) rfl (by omega) (fun i => rfl) ?_
  refine all_to b.length (UInt8.ofInt 2) (fun x => x != UInt8.ofInt 2) rfl (by omega) (fun i => rfl) ?_
  refine all_to c.length (UInt8.ofInt 3) (fun x => x != UInt8.ofInt 3) rfl (by omega) (fun i => rfl) ?_
  rw [if_pos (by simp), hsm _ la, bind_some', if_pos rfl, hsm _ lb, bind_some', if_pos rfl, hsm _ lc, bind_some', if_pos rfl]
  rfl
end Go.Gk.Sh
end
