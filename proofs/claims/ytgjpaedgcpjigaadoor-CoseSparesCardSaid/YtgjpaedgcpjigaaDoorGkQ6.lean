import Derived.Test.YtgjpaedgcpjigaaDoorGkQ0
import Derived.Test.YtgjpaedgcpjigaaDoorGkFlaw30
import Derived.Test.YtgjpaedgcpjigaaDoorGkP0
import Derived.Test.YtgjpaedgcpjigaaDoorGkQU
set_option linter.unusedVariables false
set_option linter.unusedSimpArgs false

section
set_option linter.unusedSimpArgs false
namespace Go.Gk.Cb
open Go Go.Gk
theorem be_len : ∀ (k : Nat) (n : UInt64), (be k n).length = k
  | 0, _ => rfl
  | k + 1, n => by simp [be, be_len k n]
theorem wd_cases (n : UInt64) : wd n = 0 ∨ wd n = 1 ∨ wd n = 2 ∨ wd n = 4 ∨ wd n = 8 := by
  unfold wd
  repeat' split
  all_goals simp
theorem wd0 {n : UInt64} (h : wd n = 0) : n.toNat < 24 := by
  unfold wd at h
  repeat' split at h
  all_goals first | omega | (rename_i h0; simpa [UInt64.lt_iff_toNat_lt] using h0)
theorem hd_len (m : Nat) (n : UInt64) : (hd m n).length = 1 + wd n := by
  unfold hd; split
  · simp; omega
  · simp [be_len]; omega
theorem hd_len9 (m : Nat) (n : UInt64) : (hd m n).length ≤ 9 := by have := hd_len m n; have := wd_le n; omega
theorem small64 {n : UInt64} (h : n.toNat < 24) : ∃ k : Fin 24, n = UInt64.ofNat k.val := ⟨⟨n.toNat, h⟩, by simp⟩
theorem and255 (x : UInt64) : (x &&& 255).toUInt8 = x.toUInt8 := by
  apply UInt8.toNat_inj.1
  have := and_mask x.toNat 8
  simp only [UInt64.toNat_toUInt8, UInt64.toNat_and]
  simp at this
  simp [this]
theorem mul8 (k : Nat) (h : k ≤ 8) : (UInt64.ofInt (wI (8 * (k : Int)))).toNat = 8 * k := by
  rw [wI_in (by omega) (by omega), show (8 * (k : Int)) = ((8 * k : Nat) : Int) by simp, ofInt64]
  simp; omega
theorem headL2 (f : List UInt8 × Int → Option ((List UInt8 × Int) ⊕ (List UInt8))) (n : UInt64) (hf0 : ∀ acc (x : Int), x < 0 → f (acc, x) = some (.inr acc))
    (hf1 : ∀ acc (k : Nat), k ≤ 8 → acc.length ≤ 20 → f (acc, (k : Int)) = some (.inl (acc ++ [(shr64 n (8 * k)).toUInt8], (k : Int) - 1))) :
    ∀ (k : Nat) (acc : List UInt8), k ≤ 8 → acc.length + k ≤ 20 → loop f (acc, (k : Int) - 1) = some (acc ++ be k n)
  | 0, acc, _, _ => by
    rw [loop_inr (hf0 acc _ (by simp))]; simp [be]
  | k + 1, acc, h, h2 => by
    have e : ((k + 1 : Nat) : Int) - 1 = (k : Int) := by simp
    rw [e, loop_inl (hf1 acc k (by omega) (by omega)), headL2 f n hf0 hf1 k _ (by omega) (by simp; omega)]
    simp [be]
theorem refL2 (n : UInt64) (k : Nat) (acc : List UInt8) (h : k ≤ 8) (h2 : acc.length + k ≤ 20) : loop (F.ref30_Head_L2 n) (acc, (k : Int) - 1) = some (acc ++ be k n) := by
  refine headL2 _ n (fun acc x hx => ?_) (fun acc k hk ha => ?_) k acc h h2
  · have : decide ((0 : Int) ≤ x) = false := by simp; omega
    simp only [F.ref30_Head_L2, this, Bool.false_eq_true, if_false]; rfl
  · have : decide ((0 : Int) ≤ (k : Int)) = true := by simp
    simp only [F.ref30_Head_L2, this, if_true, mul8 k hk, and255]
    rw [apO_ok (by simp; omega), bind_some', wI_in (by omega) (by omega)]; rfl
theorem first_add : ∀ (m : Fin 8) (k : Fin 24), UInt8.ofInt (wI (32 * (m.val : Int))) + (UInt64.ofNat k.val).toUInt8 = UInt8.ofNat (32 * m.val) + (UInt64.ofNat k.val).toUInt8 := by decide
theorem first_or : ∀ (m : Fin 8) (k : Fin 24), (UInt8.ofInt (iShl (m.val : Int) 5)) ||| (UInt64.ofNat k.val).toUInt8 = UInt8.ofNat (32 * m.val) + (UInt64.ofNat k.val).toUInt8 := by decide
theorem first_ref : ∀ (m : Fin 8) (g : Fin 4), UInt8.ofInt (wI (wI (32 * (m.val : Int)) + (24 + (g.val : Int)))) = UInt8.ofNat (32 * m.val + 24 + g.val) := by decide
theorem first_c0 : ∀ (m : Fin 8), (UInt8.ofInt (iShl (m.val : Int) 5)) ||| 24 = UInt8.ofNat (32 * m.val + 24 + 0) := by decide
theorem first_c1 : ∀ (m : Fin 8), (UInt8.ofInt (iShl (m.val : Int) 5) + 1) ||| 24 = UInt8.ofNat (32 * m.val + 24 + 1) := by decide
theorem first_c2 : ∀ (m : Fin 8), (UInt8.ofInt (iShl (m.val : Int) 5) + 1 + 1) ||| 24 = UInt8.ofNat (32 * m.val + 24 + 2) := by decide
theorem first_c3 : ∀ (m : Fin 8), (UInt8.ofInt (iShl (m.val : Int) 5) + 1 + 1 + 1) ||| 24 = UInt8.ofNat (32 * m.val + 24 + 3) := by decide
theorem refHead_eq (m : Nat) (hm : m < 8) (n : UInt64) : F.ref30_Head (m : Int) n = some (hd m n) := by
  unfold F.ref30_Head hd
  rw [wide_eq, bind_some']
  rcases wd_cases n with h | h | h | h | h
  · obtain ⟨k, rfl⟩ := small64 (wd0 h)
    rw [h]
    simp only [show ((0 : Nat) : Int) = 0 from rfl, beq_self_eq_true, if_true]
    rw [show ((m : Int)) = (((⟨m, hm⟩ : Fin 8).val : Nat) : Int) from rfl, first_add]
  · rw [h]
    simp only [show ((1 : Nat) : Int) = 1 from rfl, show ((1 : Int) == 0) = false from rfl, Bool.false_eq_true, if_false, show ¬ (1 = 0) by omega]
    have s0 : F.ref30_Head_L1 (m : Int) 1 n (24, 1) = some (.inr (UInt8.ofNat (32 * m + 24 + 0) :: be 1 n)) := by
      have := refL2 n 1 [UInt8.ofInt (wI (wI (32 * (m : Int)) + 24))] (by omega) (by simp)
      have e := first_ref ⟨m, hm⟩ 0
      simp only [F.ref30_Head_L1, Int.lt_irrefl, decide_false, Bool.false_eq_true, if_false]
      rw [show wI (1 - 1) = ((1 : Nat) : Int) - 1 from rfl, this]
      simp only [show (24 + (((0 : Fin 4).val : Nat) : Int)) = 24 from rfl] at e
      simp only [oinr, e]; rfl
    rw [loop_inr s0]; rfl
  · rw [h]
    simp only [show ((2 : Nat) : Int) = 2 from rfl, show ((2 : Int) == 0) = false from rfl, Bool.false_eq_true, if_false, show ¬ (2 = 0) by omega]
    have s0 : F.ref30_Head_L1 (m : Int) 2 n (24, 1) = some (.inl (25, 2)) := rfl
    have s1 : F.ref30_Head_L1 (m : Int) 2 n (25, 2) = some (.inr (UInt8.ofNat (32 * m + 24 + 1) :: be 2 n)) := by
      have := refL2 n 2 [UInt8.ofInt (wI (wI (32 * (m : Int)) + 25))] (by omega) (by simp)
      have e := first_ref ⟨m, hm⟩ 1
      simp only [F.ref30_Head_L1, Int.lt_irrefl, decide_false, Bool.false_eq_true, if_false]
      rw [show wI (2 - 1) = ((2 : Nat) : Int) - 1 from rfl, this]
      simp only [show (24 + (((1 : Fin 4).val : Nat) : Int)) = 25 from rfl] at e
      simp only [oinr, e]; rfl
    rw [loop_inl s0, loop_inr s1]; rfl
  · rw [h]
    simp only [show ((4 : Nat) : Int) = 4 from rfl, show ((4 : Int) == 0) = false from rfl, Bool.false_eq_true, if_false, show ¬ (4 = 0) by omega]
    have s0 : F.ref30_Head_L1 (m : Int) 4 n (24, 1) = some (.inl (25, 2)) := rfl
    have s1 : F.ref30_Head_L1 (m : Int) 4 n (25, 2) = some (.inl (26, 4)) := rfl
    have s2 : F.ref30_Head_L1 (m : Int) 4 n (26, 4) = some (.inr (UInt8.ofNat (32 * m + 24 + 2) :: be 4 n)) := by
      have := refL2 n 4 [UInt8.ofInt (wI (wI (32 * (m : Int)) + 26))] (by omega) (by simp)
      have e := first_ref ⟨m, hm⟩ 2
      simp only [F.ref30_Head_L1, Int.lt_irrefl, decide_false, Bool.false_eq_true, if_false]
      rw [show wI (4 - 1) = ((4 : Nat) : Int) - 1 from rfl, this]
      simp only [show (24 + (((2 : Fin 4).val : Nat) : Int)) = 26 from rfl] at e
      simp only [oinr, e]; rfl
    rw [loop_inl s0, loop_inl s1, loop_inr s2]; rfl
  · rw [h]
    simp only [show ((8 : Nat) : Int) = 8 from rfl, show ((8 : Int) == 0) = false from rfl, Bool.false_eq_true, if_false, show ¬ (8 = 0) by omega]
    have s0 : F.ref30_Head_L1 (m : Int) 8 n (24, 1) = some (.inl (25, 2)) := rfl
    have s1 : F.ref30_Head_L1 (m : Int) 8 n (25, 2) = some (.inl (26, 4)) := rfl
    have s2 : F.ref30_Head_L1 (m : Int) 8 n (26, 4) = some (.inl (27, 8)) := rfl
    have s3 : F.ref30_Head_L1 (m : Int) 8 n (27, 8) = some (.inr (UInt8.ofNat (32 * m + 24 + 3) :: be 8 n)) := by
      have := refL2 n 8 [UInt8.ofInt (wI (wI (32 * (m : Int)) + 27))] (by omega) (by simp)
      have e := first_ref ⟨m, hm⟩ 3
      simp only [F.ref30_Head_L1, Int.lt_irrefl, decide_false, Bool.false_eq_true, if_false]
      rw [show wI (8 - 1) = ((8 : Nat) : Int) - 1 from rfl, this]
      simp only [show (24 + (((3 : Fin 4).val : Nat) : Int)) = 27 from rfl] at e
      simp only [oinr, e]; rfl
    rw [loop_inl s0, loop_inl s1, loop_inl s2, loop_inr s3]; rfl
theorem drO_nat {τ : Type} {l : List τ} {i : Nat} (h : i ≤ l.length) : drO l (i : Int) = some (l.drop i) := by
  unfold drO; rw [if_pos (by constructor <;> simp; exact h)]; simp
theorem cborL_2 (out : List UInt8) (n : UInt64) (x : UInt8) : F.cbor_head_L1 out n 2 (x, 2) = oinr (obind (apO 1 out ((x ||| 24) :: be 2 n)) fun x => some x) := by
  simp only [F.cbor_head_L1, Int.lt_irrefl, decide_false, Bool.false_eq_true, if_false]
  rw [show wI (1 + 2) = 3 from rfl]
  rw [show mkO 1 (3) (3) (0 : UInt8) = some [0, 0, 0] from by simp [mkO, List.replicate]]
  rw [bind_some', getO_lit0, bind_some', olet_eq, show (0 : Int).toNat = 0 from rfl, List.set_cons_zero]
  rw [show drO ((x ||| 24) :: [0, 0]) (1 : Int) = some [0, 0] from by simp [drO], bind_some']
  rw [show wI (8 - 2) = ((6 : Nat) : Int) from rfl, drO_nat (by simp), bind_some', olet_eq]
  rfl
theorem cborL_4 (out : List UInt8) (n : UInt64) (x : UInt8) : F.cbor_head_L1 out n 4 (x, 4) = oinr (obind (apO 1 out ((x ||| 24) :: be 4 n)) fun x => some x) := by
  simp only [F.cbor_head_L1, Int.lt_irrefl, decide_false, Bool.false_eq_true, if_false]
  rw [show wI (1 + 4) = 5 from rfl]
  rw [show mkO 1 (5) (5) (0 : UInt8) = some [0, 0, 0, 0, 0] from by simp [mkO, List.replicate]]
  rw [bind_some', getO_lit0, bind_some', olet_eq, show (0 : Int).toNat = 0 from rfl, List.set_cons_zero]
  rw [show drO ((x ||| 24) :: [0, 0, 0, 0]) (1 : Int) = some [0, 0, 0, 0] from by simp [drO], bind_some']
  rw [show wI (8 - 4) = ((4 : Nat) : Int) from rfl, drO_nat (by simp), bind_some', olet_eq]
  rfl
theorem cborL_8 (out : List UInt8) (n : UInt64) (x : UInt8) : F.cbor_head_L1 out n 8 (x, 8) = oinr (obind (apO 1 out ((x ||| 24) :: be 8 n)) fun x => some x) := by
  simp only [F.cbor_head_L1, Int.lt_irrefl, decide_false, Bool.false_eq_true, if_false]
  rw [show wI (1 + 8) = 9 from rfl]
  rw [show mkO 1 (9) (9) (0 : UInt8) = some [0, 0, 0, 0, 0, 0, 0, 0, 0] from by simp [mkO, List.replicate]]
  rw [bind_some', getO_lit0, bind_some', olet_eq, show (0 : Int).toNat = 0 from rfl, List.set_cons_zero]
  rw [show drO ((x ||| 24) :: [0, 0, 0, 0, 0, 0, 0, 0]) (1 : Int) = some [0, 0, 0, 0, 0, 0, 0, 0] from by simp [drO], bind_some']
  rw [show wI (8 - 8) = ((0 : Nat) : Int) from rfl, drO_nat (by simp), bind_some', olet_eq]
  rfl
theorem cborHead_eq (out : List UInt8) (m : Nat) (hm : m < 8) (n : UInt64) (ho : out.length ≤ 200000000000000) : F.cbor_head out (m : Int) n = some (out ++ hd m n) := by
  unfold F.cbor_head hd
  rw [width_eq, bind_some']
  rcases wd_cases n with h | h | h | h | h
  · obtain ⟨k, rfl⟩ := small64 (wd0 h)
    rw [h]
    simp only [show ((0 : Nat) : Int) = 0 from rfl, beq_self_eq_true, if_true]
    rw [apO_ok (by simp; omega), bind_some', show ((m : Int)) = (((⟨m, hm⟩ : Fin 8).val : Nat) : Int) from rfl, first_or]
  · rw [h]
    have e := first_c0 ⟨m, hm⟩
    simp only at e
    simp only [show ((1 : Nat) : Int) = 1 from rfl, show ((1 : Int) == 0) = false from rfl, beq_self_eq_true, if_true, Bool.false_eq_true, if_false, show ¬ (1 = 0) by omega, olet_eq, e]
    rw [apO_ok (by simp; omega), bind_some']
    simp [be, lg, shr64]
  · rw [h]
    simp only [show ((2 : Nat) : Int) = 2 from rfl, show ((2 : Int) == 0) = false from rfl, show ((2 : Int) == 1) = false from rfl, Bool.false_eq_true, if_false, show ¬ (2 = 0) by omega]
    have s0 : F.cbor_head_L1 out n 2 (UInt8.ofInt (iShl (m : Int) 5), 1) = some (.inl (UInt8.ofInt (iShl (m : Int) 5) + 1, 2)) := rfl
    have s1 : F.cbor_head_L1 out n 2 (UInt8.ofInt (iShl (m : Int) 5) + 1, 2) = some (.inr (out ++ UInt8.ofNat (32 * m + 24 + 1) :: be 2 n)) := by
      have e := first_c1 ⟨m, hm⟩
      simp only at e
      rw [cborL_2, e, apO_ok (by simp [be_len]; omega)]; rfl
    rw [loop_inl s0, loop_inr s1]; rfl
  · rw [h]
    simp only [show ((4 : Nat) : Int) = 4 from rfl, show ((4 : Int) == 0) = false from rfl, show ((4 : Int) == 1) = false from rfl, Bool.false_eq_true, if_false, show ¬ (4 = 0) by omega]
    have s0 : F.cbor_head_L1 out n 4 (UInt8.ofInt (iShl (m : Int) 5), 1) = some (.inl (UInt8.ofInt (iShl (m : Int) 5) + 1, 2)) := rfl
    have s1 : F.cbor_head_L1 out n 4 (UInt8.ofInt (iShl (m : Int) 5) + 1, 2) = some (.inl (UInt8.ofInt (iShl (m : Int) 5) + 1 + 1, 4)) := rfl
    have s2 : F.cbor_head_L1 out n 4 (UInt8.ofInt (iShl (m : Int) 5) + 1 + 1, 4) = some (.inr (out ++ UInt8.ofNat (32 * m + 24 + 2) :: be 4 n)) := by
      have e := first_c2 ⟨m, hm⟩
      simp only at e
      rw [cborL_4, e, apO_ok (by simp [be_len]; omega)]; rfl
    rw [loop_inl s0, loop_inl s1, loop_inr s2]; rfl
  · rw [h]
    simp only [show ((8 : Nat) : Int) = 8 from rfl, show ((8 : Int) == 0) = false from rfl, show ((8 : Int) == 1) = false from rfl, Bool.false_eq_true, if_false, show ¬ (8 = 0) by omega]
    have s0 : F.cbor_head_L1 out n 8 (UInt8.ofInt (iShl (m : Int) 5), 1) = some (.inl (UInt8.ofInt (iShl (m : Int) 5) + 1, 2)) := rfl
    have s1 : F.cbor_head_L1 out n 8 (UInt8.ofInt (iShl (m : Int) 5) + 1, 2) = some (.inl (UInt8.ofInt (iShl (m : Int) 5) + 1 + 1, 4)) := rfl
    have s2 : F.cbor_head_L1 out n 8 (UInt8.ofInt (iShl (m : Int) 5) + 1 + 1, 4) = some (.inl (UInt8.ofInt (iShl (m : Int) 5) + 1 + 1 + 1, 8)) := rfl
    have s3 : F.cbor_head_L1 out n 8 (UInt8.ofInt (iShl (m : Int) 5) + 1 + 1 + 1, 8) = some (.inr (out ++ UInt8.ofNat (32 * m + 24 + 3) :: be 8 n)) := by
      have e := first_c3 ⟨m, hm⟩
      simp only at e
      rw [cborL_8, e, apO_ok (by simp [be_len]; omega)]; rfl
    rw [loop_inl s0, loop_inl s1, loop_inl s2, loop_inr s3]; rfl
end Go.Gk.Cb
end

section
set_option linter.unusedSimpArgs false
namespace Go.Gk.Cb
open Go Go.Gk
abbrev Wr := Nat → Option (List UInt8 × Nat)
def kidsE (rec : Wr) (pr : Bool) : Nat → Bool → Option (List UInt8) → Wr
  | 0, _, _, i => some ([], i)
  | r + 1, key, last, i => match rec i with
    | none => none
    | some (t, j) =>
      if (pr && key && !keyOk last t) = true then none
      else match kidsE rec pr r (!key) (if (pr && key) = true then some t else last) j with
        | none => none
        | some (u, k) => some (t ++ u, k)
def fitE (x : It) : Prop :=
  if x.1 = 0 ∨ x.1 = 1 then x.2.2.1 = [] ∧ x.2.2.2 = 0
  else if x.1 = 2 then x.2.1 = 0 ∧ x.2.2.2 = 0
  else if x.1 = 3 then x.2.1 = 0 ∧ x.2.2.2 = 0 ∧ Lib.validD x.2.2.1 = true
  else if x.1 = 4 then x.2.1 = 0 ∧ x.2.2.1 = [] ∧ 0 ≤ x.2.2.2
  else if x.1 = 5 then x.2.1 = 0 ∧ x.2.2.1 = [] ∧ 0 ≤ x.2.2.2 ∧ x.2.2.2 % 2 = 0
  else if x.1 = 6 then x.2.2.1 = [] ∧ x.2.2.2 = 1
  else if x.1 = 7 then x.2.2.1 = [] ∧ x.2.2.2 = 0 ∧ 20 ≤ x.2.1.toNat ∧ x.2.1.toNat ≤ 22
  else False
instance (x : It) : Decidable (fitE x) := by unfold fitE; infer_instance
def argE (x : It) : UInt64 :=
  if x.1 = 2 ∨ x.1 = 3 then UInt64.ofNat x.2.2.1.length else if x.1 = 4 then UInt64.ofInt x.2.2.2 else if x.1 = 5 then UInt64.ofInt (x.2.2.2 / 2) else x.2.1
def itemE (v : List It) (sub : Option Wr) : Wr := fun i => match v[i]? with
  | none => none
  | some x =>
    if ¬ fitE x then none
    else if x.1 = 4 ∨ x.1 = 5 ∨ x.1 = 6 then match sub with
      | none => none
      | some rec => match kidsE rec (x.1 == 5) x.2.2.2.toNat true none (i + 1) with
        | none => none
        | some (t, j) => some (hd x.1.toNat (argE x) ++ t, j)
    else some (hd x.1.toNat (argE x) ++ x.2.2.1, i + 1)
def encD : Nat → List It → Wr
  | 0, v => itemE v none
  | d + 1, v => itemE v (some (encD d v))
def wt : List It → Nat
  | [] => 0
  | x :: r => 9 + x.2.2.1.length + wt r
theorem wt_drop {v : List It} {i : Nat} (h : i < v.length) : wt (v.drop i) = 9 + v[i].2.2.1.length + wt (v.drop (i + 1)) := by
  rw [List.drop_eq_getElem_cons h]; rfl
def Put (v : List It) (rec : Wr) : Prop := ∀ i t j, rec i = some (t, j) → i < j ∧ j ≤ v.length ∧ t.length + wt (v.drop j) ≤ wt (v.drop i)
theorem kidsE_put {v : List It} {rec : Wr} (h : Put v rec) (pr : Bool) : ∀ (r : Nat) (key : Bool) (last : Option (List UInt8)) (i : Nat) (t : List UInt8) (j : Nat), i ≤ v.length →
    kidsE rec pr r key last i = some (t, j) → i + r ≤ j ∧ j ≤ v.length ∧ t.length + wt (v.drop j) ≤ wt (v.drop i)
  | 0, key, last, i, t, j, hi, h1 => by
    simp only [kidsE] at h1; cases h1; simp; exact hi
  | r + 1, key, last, i, t, j, hi, h1 => by
    simp only [kidsE] at h1
    cases h2 : rec i with
    | none => rw [h2] at h1; cases h1
    | some a =>
      obtain ⟨t1, j1⟩ := a
      rw [h2] at h1
      simp only at h1
      obtain ⟨h3, h4, h5⟩ := h i t1 j1 h2
      split at h1
      · cases h1
      · cases h6 : kidsE rec pr r (!key) (if (pr && key) = true then some t1 else last) j1 with
        | none => rw [h6] at h1; cases h1
        | some b =>
          obtain ⟨u, k⟩ := b
          rw [h6] at h1
          simp only at h1
          cases h1
          have := kidsE_put h pr r _ _ j1 u j h4 h6
          simp only [List.length_append]; omega
theorem itemE_put {v : List It} {sub : Option Wr} (h : ∀ rec, sub = some rec → Put v rec) : Put v (itemE v sub) := by
  intro i t j h1
  unfold itemE at h1
  split at h1
  · cases h1
  · rename_i x hx
    obtain ⟨hi, rfl⟩ := List.getElem?_eq_some_iff.1 hx
    have hw := wt_drop hi
    have h9 := hd_len9 v[i].1.toNat (argE v[i])
    split at h1
    · cases h1
    · split at h1
      · cases sub with
        | none => cases h1
        | some rec =>
          simp only at h1
          split at h1
          · cases h1
          · rename_i t1 j1 hk
            cases h1
            have := kidsE_put (h rec rfl) _ _ _ _ _ _ _ (by omega) hk
            simp only [List.length_append]; omega
      · cases h1
        simp only [List.length_append]; omega
theorem encD_put (v : List It) : ∀ d, Put v (encD d v)
  | 0 => itemE_put (by simp)
  | d + 1 => itemE_put (by intro rec h; cases h; exact encD_put v d)
def outE (out : List UInt8) : Option (List UInt8 × Nat) → List UInt8 × Int
  | none => ([], -1)
  | some (t, j) => (out ++ t, (j : Int))
def Puts (v : List It) (rc : List UInt8 → List It → Int → Int → Option (List UInt8 × Int)) (w : Int) (rec : Wr) : Prop :=
  ∀ (out : List UInt8) (i : Nat), i ≤ v.length → out.length + wt (v.drop i) ≤ 4000000000000 → rc out v (i : Int) w = some (outE out (rec i))
theorem clone_eq (l : List UInt8) (h : l.length ≤ 4000000000000) : F.slices_Clone_byte_byte l = some l := by
  unfold F.slices_Clone_byte_byte
  rw [apO_ok (by simp; omega)]; rfl
theorem tmod2 (i : Nat) : (Int.tmod (i : Int) 2 == 0) = decide (i % 2 = 0) := by
  have : Int.tmod (i : Int) 2 = ((i % 2 : Nat) : Int) := by
    rw [Int.tmod_eq_emod_of_nonneg (by omega)]; simp
  rw [this]
  rcases Nat.mod_two_eq_zero_or_one i with h | h <;> simp [h]
section
variable {v : List It} {rc : List UInt8 → List It → Int → Int → Option (List UInt8 × Int)} {w : Int} {rec : Wr}
theorem kids_eq (hv : v.length ≤ 4000000000000) (hm : Put v rec) (hw1 : Puts v rc (wI (w + 1)) rec) (x : It) (hx : x.2.2.2 ≤ 9223372036854775807) :
    ∀ (r i : Nat) (out last : List UInt8) (L : Option (List UInt8)) (a : Nat), ((i + r : Nat) : Int) = x.2.2.2 → a ≤ v.length → out.length + wt (v.drop a) ≤ 4000000000000 → last.length ≤ out.length →
      ((x.1 == 5) = true → (i = 0 ∧ L = none ∨ 0 < i ∧ L = some last)) →
      loop (F.cbor_write_s_L1 v w rc x) (out, (a : Int), last, (i : Int)) = some (outE out (kidsE rec (x.1 == 5) r (decide (i % 2 = 0)) L a)) := by
  intro r
  induction r with
  | zero =>
    intro i out last L a h1 h2 h3 h4 h5
    refine loop_inr ?_
    have : decide ((i : Int) < x.2.2.2) = false := by simp; omega
    simp only [F.cbor_write_s_L1, this, Bool.false_eq_true, if_false, kidsE, outE, List.append_nil]
    rfl
  | succ r ih =>
    intro i out last L a h1 h2 h3 h4 h5
    have hlt : decide ((i : Int) < x.2.2.2) = true := by simp; omega
    have hi1 : wI ((i : Int) + 1) = ((i + 1 : Nat) : Int) := by rw [wI_in (by omega) (by omega)]; simp
    have hpar : (!decide (i % 2 = 0)) = decide ((i + 1) % 2 = 0) := by
      rcases Nat.mod_two_eq_zero_or_one i with h | h
      · have : (i + 1) % 2 = 1 := by omega
        simp [h, this]
      · have : (i + 1) % 2 = 0 := by omega
        simp [h, this]
    simp only [kidsE]
    have hr := hw1 out a h2 h3
    cases hx1 : rec a with
    | none =>
      rw [hx1] at hr
      refine loop_inr ?_
      simp only [F.cbor_write_s_L1, hlt, if_true, hr, bind_some', outE]
      rfl
    | some y =>
      obtain ⟨t, j⟩ := y
      rw [hx1] at hr
      simp only [outE] at hr
      obtain ⟨h6, h7, h8⟩ := hm a t j hx1
      have hj : decide ((j : Int) < 0) = false := by simp
      simp only
      have hT : t.length ≤ 4000000000000 := by omega
      have hLast : last.length ≤ 4000000000000 := by omega
      have step : (x.1 == 5 && decide (i % 2 = 0)) = false → F.cbor_write_s_L1 v w rc x (out, (a : Int), last, (i : Int)) = some (.inl (out ++ t, (j : Int), last, ((i + 1 : Nat) : Int))) := by
        intro hk
        rw [Bool.and_eq_false_iff] at hk
        simp only [F.cbor_write_s_L1, hlt, if_true, hr, bind_some', hj, Bool.false_eq_true, if_false]
        rcases hk with hk | hk
        · simp only [hk, Bool.false_eq_true, if_false, F.cbor_write_s_K6, F.cbor_write_s_K5, hi1]; rfl
        · split
          · simp only [tmod2, hk, Bool.false_eq_true, if_false, F.cbor_write_s_K6, F.cbor_write_s_K5, hi1]; rfl
          · simp only [Bool.false_eq_true, if_false, F.cbor_write_s_K6, F.cbor_write_s_K5, hi1]; rfl
      by_cases hpk : (x.1 == 5 && decide (i % 2 = 0)) = true
      · rw [Bool.and_eq_true] at hpk
        obtain ⟨hp5, hk0⟩ := hpk
        simp only [hp5, hk0, Bool.and_self, Bool.true_and, if_true]
        have hdr : drO (out ++ t) ((out.length : Int)) = some t := by rw [drO_nat (by simp)]; simp
        have hend : ∀ q, (q = true → keyOk L t = false) → (q = false → keyOk L t = true) → F.cbor_write_s_K7 (out ++ t, (j : Int)) t (i : Int) q =
            some (if q = true then .inr ([], -1) else .inl (out ++ t, (j : Int), t, ((i + 1 : Nat) : Int))) := by
          intro q _ _
          cases q
          · simp only [F.cbor_write_s_K7, Bool.false_eq_true, if_false, clone_eq t hT, bind_some', F.cbor_write_s_K5, hi1]; rfl
          · simp only [F.cbor_write_s_K7, if_true]; rfl
        have hst : F.cbor_write_s_L1 v w rc x (out, (a : Int), last, (i : Int)) = some (if keyOk L t = false then .inr ([], -1) else .inl (out ++ t, (j : Int), t, ((i + 1 : Nat) : Int))) := by
          simp only [F.cbor_write_s_L1, hlt, if_true, hr, bind_some', hj, Bool.false_eq_true, if_false, hp5, tmod2, hk0, F.cbor_write_s_K6, hdr]
          rcases h5 hp5 with ⟨rfl, rfl⟩ | ⟨hpos, rfl⟩
          · simp only [show (decide ((0 : Int) < ((0 : Nat) : Int))) = false from rfl, Bool.false_eq_true, if_false]
            rw [hend false (by simp) (by simp [keyOk])]
            simp [keyOk]
          · have : decide ((0 : Int) < (i : Int)) = true := by simp; omega
            simp only [this, if_true, compare_eq last t (by omega), bind_some', cmp3_nonneg]
            rw [hend _ (by simp [keyOk]) (by simp [keyOk])]
            cases hlx : lexLt last t <;> simp [keyOk, hlx]
        cases hko : keyOk L t
        · rw [hko] at hst
          simp only [if_true] at hst
          rw [loop_inr hst]
          simp [outE]
        · rw [hko] at hst
          simp only [Bool.true_eq_false, if_false] at hst
          rw [loop_inl hst]
          simp only [Bool.not_true, Bool.false_eq_true, if_false]
          rw [ih (i + 1) (out ++ t) t (some t) j (by omega) h7 (by simp; omega) (by simp) (fun _ => .inr ⟨by omega, rfl⟩), ← hpar, hk0]
          simp only [hp5, Bool.not_true]
          cases kidsE rec true r false (some t) j with
          | none => rfl
          | some z => obtain ⟨u, k⟩ := z; simp [outE]
      · have hpk' : (x.1 == 5 && decide (i % 2 = 0)) = false := by simpa using hpk
        rw [loop_inl (step hpk')]
        simp only [hpk', Bool.false_and, Bool.false_eq_true, if_false]
        rw [ih (i + 1) (out ++ t) last L j (by omega) h7 (by simp; omega) (by simp; omega) ?_, ← hpar]
        · cases kidsE rec (x.1 == 5) r (!decide (i % 2 = 0)) L j with
          | none => rfl
          | some z => obtain ⟨u, k⟩ := z; simp [outE]
        · intro h5'
          rcases h5 h5' with ⟨rfl, rfl⟩ | ⟨hpos, rfl⟩
          · exfalso; rw [h5'] at hpk'; simp at hpk'
          · exact .inr ⟨by omega, rfl⟩
theorem write_K4 (hv : v.length ≤ 4000000000000) (x : It) (m : Nat) (hm8 : m < 8) (hxm : x.1 = (m : Int)) (n : UInt64) (out : List UInt8) (a : Nat) (ha : a < v.length) (hva : v[a] = x) (hout : out.length + wt (v.drop a) ≤ 4000000000000)
    (hx : x.2.2.2 ≤ 9223372036854775807) (h0 : 0 ≤ x.2.2.2) (hk : x.2.2.2 = 0 ∨ Put v rec ∧ Puts v rc (wI (w + 1)) rec) :
    F.cbor_write_s_K4 out (a : Int) x n v w rc false = some (outE out (match kidsE rec (x.1 == 5) x.2.2.2.toNat true none (a + 1) with
      | none => none
      | some (t, j) => some (hd m n ++ x.2.2.1 ++ t, j))) := by
  have hw := wt_drop ha
  have hh := hd_len9 m n
  rw [hva] at hw
  unfold F.cbor_write_s_K4
  simp only [Bool.false_eq_true, if_false]
  rw [hxm, cborHead_eq out m hm8 n (by omega), bind_some', apO_ok (by simp; omega), bind_some', wI_in (by omega) (by omega)]
  rcases hk with hk | ⟨hp, hq⟩
  · rw [hk]
    refine loop_inr ?_
    simp only [F.cbor_write_s_L1, hk, Int.lt_irrefl, decide_false, Bool.false_eq_true, if_false, Int.toNat_zero, kidsE, outE]
    simp only [oinr, Option.map_some, List.append_assoc, List.append_nil]
    rfl
  · have := kids_eq hv hp hq x hx x.2.2.2.toNat 0 (out ++ hd m n ++ x.2.2.1) [] none (a + 1) (by omega) (by omega) (by simp; omega) (by simp) (fun _ => .inl ⟨rfl, rfl⟩)
    rw [show ((a : Int) + 1) = ((a + 1 : Nat) : Int) by simp, show (0 : Int) = ((0 : Nat) : Int) from rfl, this, ← hxm]
    simp only [Nat.zero_mod, decide_true]
    cases kidsE rec (x.1 == 5) x.2.2.2.toNat true none (a + 1) with
    | none => rfl
    | some z => obtain ⟨t, j⟩ := z; simp [outE]
theorem major_cases (m : Int) : m < 0 ∨ 7 < m ∨ m = 0 ∨ m = 1 ∨ m = 2 ∨ m = 3 ∨ m = 4 ∨ m = 5 ∨ m = 6 ∨ m = 7 := by omega
end
theorem write_s_eq {v : List It} {rc : List UInt8 → List It → Int → Int → Option (List UInt8 × Int)} {w : Nat} {sub : Option Wr} (hv : v.length ≤ 4000000000000) (hI : ∀ x ∈ v, x.2.2.2 ≤ 9223372036854775807)
    (hwd : w ≤ 32) (hs0 : sub = none ↔ w = 32) (hsub : ∀ rec, sub = some rec → Put v rec ∧ Puts v rc ((w + 1 : Nat) : Int) rec) :
    Puts v (F.cbor_write_s rc) (w : Int) (itemE v sub) := by
  intro out a h1 h2
  unfold F.cbor_write_s itemE
  rcases Nat.lt_or_ge a v.length with hlt | hge
  · have d1 : decide ((v.length : Int) ≤ (a : Int)) = false := by simp; omega
    simp only [d1, Bool.false_eq_true, if_false, getO_lt hlt, bind_some', List.getElem?_eq_getElem hlt]
    have hx := hI v[a] (List.getElem_mem hlt)
    have hva : v[a] = v[a] := rfl
    generalize hgx : v[a] = x at hx
    obtain ⟨m, n, d, k⟩ := x
    simp only at hx
    have hdw : d.length ≤ 4000000000000 := by have := wt_drop hlt; rw [hgx] at this; simp only at this; omega
    have hwi : wI ((w : Int) + 1) = ((w + 1 : Nat) : Int) := by rw [wI_in (by omega) (by omega)]; simp
    have kA : ∀ (rec : Wr) (mm : Nat) (hm8 : mm < 8) (hxm : m = (mm : Int)) (nn : UInt64) (hk : k = 0), F.cbor_write_s_K4 out (a : Int) (m, n, d, k) nn v (w : Int) rc false = some (outE out (some (hd mm nn ++ d, a + 1))) := by
      intro rec mm hm8 hxm nn hk
      have := write_K4 (w := (w : Int)) (rc := rc) (rec := rec) hv (m, n, d, k) mm hm8 hxm nn out a hlt hgx h2 hx (by simp only; omega) (.inl hk)
      simpa [hk, kidsE] using this
    have dummy : Wr := fun _ => none
    have hm5 : ∀ {m : Int}, (m = 5) = ((m == 5) = true) := by simp
    rcases major_cases m with hm | hm | rfl | rfl | rfl | rfl | rfl | rfl | rfl | rfl
    · have e2 : (m == 2) = false := by simp; omega
      have e3 : (m == 3) = false := by simp; omega
      have l0 : decide (m < 0) = true := by simp; omega
      have l2 : decide (m < 2) = true := by simp; omega
      have l7 : decide ((7 : Int) < m) = false := by simp; omega
      have hf : ¬ fitE (m, n, d, k) := by
        unfold fitE
        simp only
        rw [if_neg (by omega), if_neg (by omega), if_neg (by omega), if_neg (by omega), if_neg (by omega), if_neg (by omega), if_neg (by omega)]; simp
      rw [if_pos hf]
      simp only [e2, e3, l0, l2, l7, Bool.false_eq_true, if_false, if_true, F.cbor_write_s_K1, F.cbor_write_s_K2, olet_eq, ite_self, outE]
    · have e2 : (m == 2) = false := by simp; omega
      have e3 : (m == 3) = false := by simp; omega
      have l0 : decide (m < 0) = false := by simp; omega
      have l2 : decide (m < 2) = false := by simp; omega
      have l7 : decide ((7 : Int) < m) = true := by simp; omega
      have hf : ¬ fitE (m, n, d, k) := by
        unfold fitE
        simp only
        rw [if_neg (by omega), if_neg (by omega), if_neg (by omega), if_neg (by omega), if_neg (by omega), if_neg (by omega), if_neg (by omega)]; simp
      rw [if_pos hf]
      simp only [e2, e3, l0, l2, l7, Bool.false_eq_true, if_false, if_true, F.cbor_write_s_K1, F.cbor_write_s_K2, olet_eq, ite_self, outE]
    · rw [if_neg (show ¬ (((0 : Int) = 4) ∨ ((0 : Int) = 5) ∨ ((0 : Int) = 6)) by decide)]
      by_cases hg : d = [] ∧ k = 0
      · obtain ⟨rfl, rfl⟩ := hg
        have K := kA dummy 0 (by omega) rfl n rfl
        simp [F.cbor_write_s_K1, F.cbor_write_s_K2, F.cbor_write_s_K3, F.cbor_write_s_K8, F.cbor_write_s_K9, F.unicode_utf8_ValidString, fitE, argE, olet_eq, K]
      · by_cases hd : d = [] <;> by_cases hn : n = 0 <;> by_cases hk : k = 0 <;> by_cases hk0 : k < 0 <;> (try omega) <;>  simp_all [F.cbor_write_s_K1, F.cbor_write_s_K2, F.cbor_write_s_K3, F.cbor_write_s_K8, F.cbor_write_s_K9, F.unicode_utf8_ValidString, fitE, argE, olet_eq, outE]
    · rw [if_neg (show ¬ (((1 : Int) = 4) ∨ ((1 : Int) = 5) ∨ ((1 : Int) = 6)) by decide)]
      by_cases hg : d = [] ∧ k = 0
      · obtain ⟨rfl, rfl⟩ := hg
        have K := kA dummy 1 (by omega) rfl n rfl
        simp [F.cbor_write_s_K1, F.cbor_write_s_K2, F.cbor_write_s_K3, F.cbor_write_s_K8, F.cbor_write_s_K9, F.unicode_utf8_ValidString, fitE, argE, olet_eq, K]
      · by_cases hd : d = [] <;> by_cases hn : n = 0 <;> by_cases hk : k = 0 <;> by_cases hk0 : k < 0 <;> (try omega) <;>  simp_all [F.cbor_write_s_K1, F.cbor_write_s_K2, F.cbor_write_s_K3, F.cbor_write_s_K8, F.cbor_write_s_K9, F.unicode_utf8_ValidString, fitE, argE, olet_eq, outE]
    · rw [if_neg (show ¬ (((2 : Int) = 4) ∨ ((2 : Int) = 5) ∨ ((2 : Int) = 6)) by decide)]
      by_cases hg : n = 0 ∧ k = 0
      · obtain ⟨rfl, rfl⟩ := hg
        have K := kA dummy 2 (by omega) rfl (UInt64.ofNat d.length) rfl
        simp [F.cbor_write_s_K1, F.cbor_write_s_K2, F.cbor_write_s_K3, F.cbor_write_s_K8, F.cbor_write_s_K9, fitE, argE, olet_eq, ofInt64, K]
      · by_cases hd : d = [] <;> by_cases hn : n = 0 <;> by_cases hk : k = 0 <;> by_cases hk0 : k < 0 <;> (try omega) <;>  simp_all [F.cbor_write_s_K1, F.cbor_write_s_K2, F.cbor_write_s_K3, F.cbor_write_s_K8, F.cbor_write_s_K9, F.unicode_utf8_ValidString, fitE, argE, olet_eq, outE]
    · rw [if_neg (show ¬ (((3 : Int) = 4) ∨ ((3 : Int) = 5) ∨ ((3 : Int) = 6)) by decide)]
      by_cases hg : n = 0 ∧ k = 0 ∧ Lib.validD d = true
      · obtain ⟨rfl, rfl, hu⟩ := hg
        have hvs : F.unicode_utf8_ValidString d = some true := by unfold F.unicode_utf8_ValidString; rw [if_pos (by omega), hu]
        have K := kA dummy 3 (by omega) rfl (UInt64.ofNat d.length) rfl
        simp [F.cbor_write_s_K1, F.cbor_write_s_K2, F.cbor_write_s_K3, F.cbor_write_s_K8, F.cbor_write_s_K9, fitE, argE, olet_eq, ofInt64, hvs, bind_some', hu, K]
      · have hvs : F.unicode_utf8_ValidString d = some (Lib.validD d) := by unfold F.unicode_utf8_ValidString; rw [if_pos (by omega)]
        by_cases hu : Lib.validD d = true <;> by_cases hd : d = [] <;> by_cases hn : n = 0 <;> by_cases hk : k = 0 <;> by_cases hk0 : k < 0 <;> (try omega) <;>  simp_all [F.cbor_write_s_K1, F.cbor_write_s_K2, F.cbor_write_s_K3, F.cbor_write_s_K8, F.cbor_write_s_K9, hvs, bind_some', fitE, argE, olet_eq, outE]
    · by_cases hg : n = 0 ∧ d = [] ∧ 0 ≤ k
      · obtain ⟨rfl, rfl, h0⟩ := hg
        have hk0 : ¬ k < 0 := by omega
        have hf : fitE (4, 0, [], k) := by simp [fitE, h0]
        rw [if_neg (show ¬ ¬ fitE (4, 0, [], k) from fun h => h hf), if_pos (show (4 : Int) = 4 ∨ (4 : Int) = 5 ∨ (4 : Int) = 6 by decide)]
        have e1 : argE (4, 0, [], k) = (UInt64.ofInt k) := by simp [argE]
        rw [e1]
        cases hs : sub with
        | none =>
          have hw := hs0.1 hs
          subst hw
          simp [F.cbor_write_s_K1, F.cbor_write_s_K2, F.cbor_write_s_K3, F.cbor_write_s_K4, olet_eq, hk0, outE]
        | some rec =>
          have hw : w ≠ 32 := fun h => by have := hs0.2 h; rw [hs] at this; cases this
          have hw3 : ((w : Int) == 32) = false := by simp; omega
          have K := write_K4 (w := (w : Int)) (rc := rc) (rec := rec) hv (4, 0, [], k) 4 (by omega) rfl (UInt64.ofInt k) out a hlt hgx h2 hx h0 (.inr ⟨(hsub rec hs).1, by rw [hwi]; exact (hsub rec hs).2⟩)
          simp only [List.append_nil] at K
          simp [F.cbor_write_s_K1, F.cbor_write_s_K2, F.cbor_write_s_K3, olet_eq, hk0, hw3]
          exact K
      · have hf : ¬ fitE (4, n, d, k) := by simpa [fitE] using hg
        rw [if_pos hf]
        by_cases hd : d = [] <;> by_cases hn : n = 0 <;> by_cases hk : k = 0 <;> by_cases hk0 : k < 0 <;> (try omega) <;>  simp_all [F.cbor_write_s_K1, F.cbor_write_s_K2, F.cbor_write_s_K3, F.cbor_write_s_K8, F.cbor_write_s_K9, F.unicode_utf8_ValidString, fitE, argE, olet_eq, outE]
    · by_cases hg : n = 0 ∧ d = [] ∧ 0 ≤ k ∧ k % 2 = 0
      · obtain ⟨rfl, rfl, h0, h2m⟩ := hg
        have hmod : Int.tmod k 2 = 0 := by rw [Int.tmod_eq_emod_of_nonneg h0]; exact h2m
        have hdiv : wI (Int.tdiv k 2) = k / 2 := by rw [Int.tdiv_eq_ediv_of_nonneg h0, wI_in (by omega) (by omega)]
        have hk0 : ¬ k < 0 := by omega
        have hf : fitE (5, 0, [], k) := by simp [fitE, h0, h2m]
        rw [if_neg (show ¬ ¬ fitE (5, 0, [], k) from fun h => h hf), if_pos (show (5 : Int) = 4 ∨ (5 : Int) = 5 ∨ (5 : Int) = 6 by decide)]
        have e1 : argE (5, 0, [], k) = (UInt64.ofInt (k / 2)) := by simp [argE]
        rw [e1]
        cases hs : sub with
        | none =>
          have hw := hs0.1 hs
          subst hw
          simp [F.cbor_write_s_K1, F.cbor_write_s_K2, F.cbor_write_s_K3, F.cbor_write_s_K4, olet_eq, hk0, outE, hmod, hdiv]
        | some rec =>
          have hw : w ≠ 32 := fun h => by have := hs0.2 h; rw [hs] at this; cases this
          have hw3 : ((w : Int) == 32) = false := by simp; omega
          have K := write_K4 (w := (w : Int)) (rc := rc) (rec := rec) hv (5, 0, [], k) 5 (by omega) rfl (UInt64.ofInt (k / 2)) out a hlt hgx h2 hx h0 (.inr ⟨(hsub rec hs).1, by rw [hwi]; exact (hsub rec hs).2⟩)
          simp only [List.append_nil] at K
          simp [F.cbor_write_s_K1, F.cbor_write_s_K2, F.cbor_write_s_K3, olet_eq, hk0, hw3, hmod, hdiv]
          exact K
      · have hf : ¬ fitE (5, n, d, k) := by simpa [fitE] using hg
        rw [if_pos hf]
        have hq : 0 ≤ k → Int.tmod k 2 = k % 2 := fun h => Int.tmod_eq_emod_of_nonneg h
        by_cases hd : d = [] <;> by_cases hn : n = 0 <;> by_cases hk : k = 0 <;> by_cases hk0 : k < 0 <;> (try omega) <;>  simp_all [F.cbor_write_s_K1, F.cbor_write_s_K2, F.cbor_write_s_K3, F.cbor_write_s_K8, F.cbor_write_s_K9, F.unicode_utf8_ValidString, fitE, argE, olet_eq, outE]
    · by_cases hg : d = [] ∧ k = 1
      · obtain ⟨rfl, rfl⟩ := hg
        have h0 : (0 : Int) ≤ 1 := by omega
        have hf : fitE (6, n, [], 1) := by simp [fitE]
        rw [if_neg (show ¬ ¬ fitE (6, n, [], 1) from fun h => h hf), if_pos (show (6 : Int) = 4 ∨ (6 : Int) = 5 ∨ (6 : Int) = 6 by decide)]
        have e1 : argE (6, n, [], 1) = n := by simp [argE]
        rw [e1]
        cases hs : sub with
        | none =>
          have hw := hs0.1 hs
          subst hw
          simp [F.cbor_write_s_K1, F.cbor_write_s_K2, F.cbor_write_s_K3, F.cbor_write_s_K4, olet_eq, outE]
        | some rec =>
          have hw : w ≠ 32 := fun h => by have := hs0.2 h; rw [hs] at this; cases this
          have hw3 : ((w : Int) == 32) = false := by simp; omega
          have K := write_K4 (w := (w : Int)) (rc := rc) (rec := rec) hv (6, n, [], 1) 6 (by omega) rfl n out a hlt hgx h2 hx h0 (.inr ⟨(hsub rec hs).1, by rw [hwi]; exact (hsub rec hs).2⟩)
          simp only [List.append_nil] at K
          simp [F.cbor_write_s_K1, F.cbor_write_s_K2, F.cbor_write_s_K3, olet_eq, hw3]
          exact K
      · have hf : ¬ fitE (6, n, d, k) := by simpa [fitE] using hg
        rw [if_pos hf]
        by_cases hd : d = [] <;> by_cases hn : n = 0 <;> by_cases hk : k = 0 <;> by_cases hk0 : k < 0 <;> (try omega) <;>  simp_all [F.cbor_write_s_K1, F.cbor_write_s_K2, F.cbor_write_s_K3, F.cbor_write_s_K8, F.cbor_write_s_K9, F.unicode_utf8_ValidString, fitE, argE, olet_eq, outE]
    · rw [if_neg (show ¬ (((7 : Int) = 4) ∨ ((7 : Int) = 5) ∨ ((7 : Int) = 6)) by decide)]
      by_cases hg : d = [] ∧ k = 0 ∧ 20 ≤ n.toNat ∧ n.toNat ≤ 22
      · obtain ⟨rfl, rfl, h20, h22⟩ := hg
        have K := kA dummy 7 (by omega) rfl n rfl
        have l1 : ¬ n < 20 := by simp only [UInt64.lt_iff_toNat_lt]; simpa using h20
        have l2 : ¬ 22 < n := by simp only [UInt64.lt_iff_toNat_lt]; simpa using h22
        simp [F.cbor_write_s_K1, F.cbor_write_s_K2, F.cbor_write_s_K3, F.cbor_write_s_K8, F.cbor_write_s_K9, F.unicode_utf8_ValidString, fitE, argE, olet_eq, K, l1, l2, h20, h22]
      · have hf : ¬ fitE (7, n, d, k) := by simpa [fitE] using hg
        rw [if_pos hf]
        have l3 : ¬ n < 20 → 20 ≤ n.toNat := by simp only [UInt64.lt_iff_toNat_lt]; simp
        have l4 : ¬ 22 < n → n.toNat ≤ 22 := by simp only [UInt64.lt_iff_toNat_lt]; simp
        by_cases l1 : n < 20 <;> by_cases l2 : 22 < n <;> by_cases hd : d = [] <;> by_cases hn : n = 0 <;> by_cases hk : k = 0 <;> by_cases hk0 : k < 0 <;> (try omega) <;>  simp_all [F.cbor_write_s_K1, F.cbor_write_s_K2, F.cbor_write_s_K3, F.cbor_write_s_K8, F.cbor_write_s_K9, F.unicode_utf8_ValidString, fitE, argE, olet_eq, outE]
  · have d1 : decide ((v.length : Int) ≤ (a : Int)) = true := by simp; omega
    simp only [d1, if_true, List.getElem?_eq_none hge, outE]
end Go.Gk.Cb
end

section
set_option linter.unusedSimpArgs false
set_option linter.unusedVariables false
namespace Go.Gk.Cb
open Go Go.Gk
def Kd (v : List It) : Prop := ∀ x ∈ v, x.2.2.2 ≤ 9223372036854775807
theorem wt_len (v : List It) : 9 * v.length ≤ wt v := by
  induction v with
  | nil => simp [wt]
  | cons x r ih => simp only [wt, List.length_cons]; omega
theorem wt_drop_le (v : List It) (i : Nat) : wt (v.drop i) ≤ wt v := by
  induction v generalizing i with
  | nil => simp
  | cons x r ih => cases i with
    | zero => simp
    | succ i => simp only [List.drop_succ_cons, wt]; have := ih i; omega
theorem write_n_eq {v : List It} (hv : v.length ≤ 4000000000000) (hI : Kd v) : ∀ (d k : Nat), d ≤ 32 → d < k → Puts v (F.cbor_write_n k) ((32 - d : Nat) : Int) (encD d v)
  | 0, k + 1, _, _ => by
    simp only [F.cbor_write_n, encD]
    exact write_s_eq hv hI (by omega) (by simp) (by simp)
  | d + 1, k + 1, h1, h2 => by
    simp only [F.cbor_write_n, encD]
    refine write_s_eq hv hI (by omega) (by simp; omega) (fun rec hr => ?_)
    cases hr
    rw [show 32 - (d + 1) + 1 = 32 - d by omega]
    exact ⟨encD_put v d, write_n_eq hv hI d k (by omega) (by omega)⟩
  | 0, 0, _, h => by omega
  | _ + 1, 0, _, h => by omega
theorem write_eq {v : List It} (hw : wt v ≤ 4000000000000) (hI : Kd v) : F.cbor_write [] v 0 0 = some (outE [] (encD 32 v 0)) := by
  have := wt_len v
  exact write_n_eq (by omega) hI 32 64 (by omega) (by omega) [] 0 (by omega) (by simp; exact hw)
def shapedD (v : List It) : Bool := match encD 32 v 0 with
  | none => false
  | some (_, j) => decide (j = v.length)
def printD (v : List It) : List UInt8 × Int := match encD 32 v 0 with
  | none => ([], 220)
  | some (t, j) => if j = v.length then (if 65536 < t.length then ([], 10) else (t, 0)) else ([], 220)
theorem shaped_eq {v : List It} (hw : wt v ≤ 4000000000000) (hI : Kd v) : F.cbor_Shaped v = some (shapedD v) := by
  unfold F.cbor_Shaped shapedD
  rw [write_eq hw hI, bind_some']
  cases h : encD 32 v 0 with
  | none =>
    have : ((-1 : Int) == (v.length : Int)) = false := by simp
    simp only [outE, this, Bool.false_eq_true, if_false]
  | some a =>
    obtain ⟨t, j⟩ := a
    obtain ⟨h1, h2, _⟩ := encD_put v 32 0 t j h
    simp only [outE]
    by_cases hj : j = v.length
    · have : decide ((0 : Int) < (j : Int)) = true := by simp; omega
      simp only [hj, beq_self_eq_true, if_true, decide_true]
      simp; omega
    · have : ((j : Int) == (v.length : Int)) = false := by simp; omega
      simp [this, hj]
def Says (v : List It) (rc : List It → Int → Int → Option (List UInt8 × Int)) (w : Int) (rec : Wr) : Prop :=
  ∀ (i : Nat), i ≤ v.length → rc v (i : Int) w = some (outE [] (rec i))
theorem none_eq : F.ref30_none = some ([], -1) := rfl
section
variable {v : List It} {rc : List It → Int → Int → Option (List UInt8 × Int)} {w : Int} {rec : Wr}
theorem kids_ref (hv : wt v ≤ 4000000000000) (hm : Put v rec) (hw1 : Says v rc (wI (w + 1)) rec) (x : It) (hx : x.2.2.2 ≤ 9223372036854775807) :
    ∀ (r i : Nat) (out last : List UInt8) (L : Option (List UInt8)) (a : Nat), ((i + r : Nat) : Int) = x.2.2.2 → a ≤ v.length → out.length + wt (v.drop a) ≤ 4000000000100 → last.length ≤ out.length →
      ((x.1 == 5) = true → (i = 0 ∧ L = none ∨ 0 < i ∧ L = some last)) →
      loop (F.ref30_said_s_L1 v w rc x) (last, (i : Int), out, (a : Int)) = some (outE out (kidsE rec (x.1 == 5) r (decide (i % 2 = 0)) L a)) := by
  intro r
  induction r with
  | zero =>
    intro i out last L a h1 h2 h3 h4 h5
    refine loop_inr ?_
    have : decide ((i : Int) < x.2.2.2) = false := by simp; omega
    simp only [F.ref30_said_s_L1, this, Bool.false_eq_true, if_false, kidsE, outE, List.append_nil]
    rfl
  | succ r ih =>
    intro i out last L a h1 h2 h3 h4 h5
    have hlt : decide ((i : Int) < x.2.2.2) = true := by simp; omega
    have hi1 : wI ((i : Int) + 1) = ((i + 1 : Nat) : Int) := by rw [wI_in (by omega) (by omega)]; simp
    have hpar : (!decide (i % 2 = 0)) = decide ((i + 1) % 2 = 0) := by
      rcases Nat.mod_two_eq_zero_or_one i with h | h
      · have : (i + 1) % 2 = 1 := by omega
        simp [h, this]
      · have : (i + 1) % 2 = 0 := by omega
        simp [h, this]
    simp only [kidsE]
    have hr := hw1 a h2
    cases hx1 : rec a with
    | none =>
      rw [hx1] at hr
      refine loop_inr ?_
      simp only [F.ref30_said_s_L1, hlt, if_true, hr, bind_some', outE, none_eq]
      rfl
    | some y =>
      obtain ⟨t, j⟩ := y
      rw [hx1] at hr
      simp only [outE, List.nil_append] at hr
      obtain ⟨h6, h7, h8⟩ := hm a t j hx1
      have hj : decide ((j : Int) < 0) = false := by simp
      simp only
      have hsad : sadO out t = some (out ++ t) := by unfold sadO; rw [if_pos (by omega)]
      have k10 : ∀ l, F.ref30_said_s_K10 (i : Int) out (t, (j : Int)) l = some (.inl (l, ((i + 1 : Nat) : Int), out ++ t, (j : Int))) := by
        intro l
        simp only [F.ref30_said_s_K10, hsad, bind_some', hi1]; rfl
      have step : (x.1 == 5 && decide (i % 2 = 0)) = false → F.ref30_said_s_L1 v w rc x (last, (i : Int), out, (a : Int)) = some (.inl (last, ((i + 1 : Nat) : Int), out ++ t, (j : Int))) := by
        intro hk
        rw [Bool.and_eq_false_iff] at hk
        simp only [F.ref30_said_s_L1, hlt, if_true, hr, bind_some', hj, Bool.false_eq_true, if_false]
        rcases hk with hk | hk
        · simp only [hk, Bool.false_eq_true, if_false, F.ref30_said_s_K11, k10]
        · split
          · simp only [tmod2, hk, Bool.false_eq_true, if_false, F.ref30_said_s_K11, k10]
          · simp only [Bool.false_eq_true, if_false, F.ref30_said_s_K11, k10]
      by_cases hpk : (x.1 == 5 && decide (i % 2 = 0)) = true
      · rw [Bool.and_eq_true] at hpk
        obtain ⟨hp5, hk0⟩ := hpk
        simp only [hp5, hk0, Bool.and_self, Bool.true_and, if_true]
        have hend : ∀ q, F.ref30_said_s_K12 (t, (j : Int)) (i : Int) out q = some (if q = true then .inr ([], -1) else .inl (t, ((i + 1 : Nat) : Int), out ++ t, (j : Int))) := by
          intro q
          cases q
          · simp only [F.ref30_said_s_K12, Bool.false_eq_true, if_false, k10]
          · simp only [F.ref30_said_s_K12, if_true, none_eq, bind_some']; rfl
        have hst : F.ref30_said_s_L1 v w rc x (last, (i : Int), out, (a : Int)) = some (if keyOk L t = false then .inr ([], -1) else .inl (t, ((i + 1 : Nat) : Int), out ++ t, (j : Int))) := by
          simp only [F.ref30_said_s_L1, hlt, if_true, hr, bind_some', hj, Bool.false_eq_true, if_false, hp5, tmod2, hk0, F.ref30_said_s_K11]
          rcases h5 hp5 with ⟨rfl, rfl⟩ | ⟨hpos, rfl⟩
          · simp only [show (decide ((0 : Int) < ((0 : Nat) : Int))) = false from rfl, Bool.false_eq_true, if_false]
            rw [hend false]
            simp [keyOk]
          · have : decide ((0 : Int) < (i : Int)) = true := by simp; omega
            simp only [this, if_true, less_eq last t (by omega), bind_some']
            rw [hend _]
            cases hlx : lexLt last t <;> simp [keyOk, hlx]
        cases hko : keyOk L t
        · rw [hko] at hst
          simp only [if_true] at hst
          rw [loop_inr hst]
          simp [outE]
        · rw [hko] at hst
          simp only [Bool.true_eq_false, if_false] at hst
          rw [loop_inl hst]
          simp only [Bool.not_true, Bool.false_eq_true, if_false]
          rw [ih (i + 1) (out ++ t) t (some t) j (by omega) h7 (by simp; omega) (by simp) (fun _ => .inr ⟨by omega, rfl⟩), ← hpar, hk0]
          simp only [hp5, Bool.not_true]
          cases kidsE rec true r false (some t) j with
          | none => rfl
          | some z => obtain ⟨u, k⟩ := z; simp [outE]
      · have hpk' : (x.1 == 5 && decide (i % 2 = 0)) = false := by simpa using hpk
        rw [loop_inl (step hpk')]
        simp only [hpk', Bool.false_and, Bool.false_eq_true, if_false]
        rw [ih (i + 1) (out ++ t) last L j (by omega) h7 (by simp; omega) (by simp; omega) ?_, ← hpar]
        · cases kidsE rec (x.1 == 5) r (!decide (i % 2 = 0)) L j with
          | none => rfl
          | some z => obtain ⟨u, k⟩ := z; simp [outE]
        · intro h5'
          rcases h5 h5' with ⟨rfl, rfl⟩ | ⟨hpos, rfl⟩
          · exfalso; rw [h5'] at hpk'; simp at hpk'
          · exact .inr ⟨by omega, rfl⟩
theorem said_K9 (hv : wt v ≤ 4000000000000) (x : It) (m : Nat) (hm8 : m < 8) (hxm : x.1 = (m : Int)) (n : UInt64) (a : Nat) (ha : a < v.length)
    (hx : x.2.2.2 ≤ 9223372036854775807) (h0 : 0 ≤ x.2.2.2) (hp : Put v rec) (hq : Says v rc (wI (w + 1)) rec) :
    F.ref30_said_s_K9 (a : Int) x v w rc n = some (outE [] (match kidsE rec (x.1 == 5) x.2.2.2.toNat true none (a + 1) with
      | none => none
      | some (t, j) => some (hd m n ++ t, j))) := by
  have hl := wt_len v
  have hh := hd_len9 m n
  have hw := wt_drop_le v (a + 1)
  simp only [F.ref30_said_s_K9]
  rw [hxm, refHead_eq m hm8 n, bind_some', wI_in (by omega) (by omega)]
  have := kids_ref hv hp hq x hx x.2.2.2.toNat 0 (hd m n) [] none (a + 1) (by omega) (by omega) (by omega) (by simp) (fun _ => .inl ⟨rfl, rfl⟩)
  rw [show ((a : Int) + 1) = ((a + 1 : Nat) : Int) by simp, show (0 : Int) = ((0 : Nat) : Int) from rfl, this, ← hxm]
  simp only [Nat.zero_mod, decide_true]
  cases kidsE rec (x.1 == 5) x.2.2.2.toNat true none (a + 1) with
  | none => rfl
  | some z => obtain ⟨t, j⟩ := z; simp [outE]
end
theorem half64 (k : Int) (h0 : 0 ≤ k) (hx : k ≤ 9223372036854775807) : UInt64.ofInt k / 2 = UInt64.ofInt (k / 2) := by
  obtain ⟨j, rfl⟩ := Int.eq_ofNat_of_zero_le h0
  rw [show ((j : Int) / 2) = ((j / 2 : Nat) : Int) by simp, ofInt64, ofInt64]
  apply UInt64.toNat_inj.1
  rw [UInt64.toNat_div]
  simp
  omega
theorem said_s_eq {v : List It} {rc : List It → Int → Int → Option (List UInt8 × Int)} {w : Nat} {sub : Option Wr} (hv : wt v ≤ 4000000000000) (hI : Kd v) (hU : ∀ x ∈ v, x.2.2.1.length ≤ 2000000)
    (hwd : w ≤ 32) (hs0 : sub = none ↔ w = 32) (hsub : ∀ rec, sub = some rec → Put v rec ∧ Says v rc ((w + 1 : Nat) : Int) rec) :
    Says v (F.ref30_said_s rc) (w : Int) (itemE v sub) := by
  intro a h1
  have hvl := wt_len v
  unfold F.ref30_said_s itemE
  rcases Nat.lt_or_ge a v.length with hlt | hge
  · have d1 : decide ((v.length : Int) ≤ (a : Int)) = false := by simp; omega
    simp only [d1, Bool.false_eq_true, if_false, getO_lt hlt, bind_some', List.getElem?_eq_getElem hlt]
    have hx := hI v[a] (List.getElem_mem hlt)
    have hdU := hU v[a] (List.getElem_mem hlt)
    generalize hgx : v[a] = x at hx hdU
    obtain ⟨m, n, d, k⟩ := x
    simp only at hx hdU
    have hwi : wI ((w : Int) + 1) = ((w + 1 : Nat) : Int) := by rw [wI_in (by omega) (by omega)]; simp
    have hw1 : wI ((a : Int) + 1) = (a : Int) + 1 := by rw [wI_in (by omega) (by omega)]
    rcases major_cases m with hm | hm | rfl | rfl | rfl | rfl | rfl | rfl | rfl | rfl
    · have e0 : (m == 0) = false := by simp; omega
      have e1 : (m == 1) = false := by simp; omega
      have e2 : (m == 2) = false := by simp; omega
      have e3 : (m == 3) = false := by simp; omega
      have l0 : decide (m < 0) = true := by simp; omega
      have l7 : decide ((7 : Int) < m) = false := by simp; omega
      have hf : ¬ fitE (m, n, d, k) := by
        unfold fitE
        simp only
        rw [if_neg (by omega), if_neg (by omega), if_neg (by omega), if_neg (by omega), if_neg (by omega), if_neg (by omega), if_neg (by omega)]; simp
      rw [if_pos hf]
      simp only [e2, e3, l0, l7, Bool.false_eq_true, if_false, if_true, F.ref30_said_s_K1, F.ref30_said_s_K2, olet_eq, ite_self, outE, none_eq, bind_some']
    · have e0 : (m == 0) = false := by simp; omega
      have e1 : (m == 1) = false := by simp; omega
      have e2 : (m == 2) = false := by simp; omega
      have e3 : (m == 3) = false := by simp; omega
      have l0 : decide (m < 0) = false := by simp; omega
      have l7 : decide ((7 : Int) < m) = true := by simp; omega
      have hf : ¬ fitE (m, n, d, k) := by
        unfold fitE
        simp only
        rw [if_neg (by omega), if_neg (by omega), if_neg (by omega), if_neg (by omega), if_neg (by omega), if_neg (by omega), if_neg (by omega)]; simp
      rw [if_pos hf]
      simp only [e2, e3, l0, l7, Bool.false_eq_true, if_false, if_true, F.ref30_said_s_K1, F.ref30_said_s_K2, olet_eq, ite_self, outE, none_eq, bind_some']
    · rw [if_neg (show ¬ (((0 : Int) = 4) ∨ ((0 : Int) = 5) ∨ ((0 : Int) = 6)) by decide)]
      have K := refHead_eq 0 (by omega) n
      by_cases hg : d = [] ∧ k = 0
      · obtain ⟨rfl, rfl⟩ := hg
        simp only [show ((0 : Nat) : Int) = 0 from rfl] at K
        simp [F.ref30_said_s_K1, F.ref30_said_s_K2, F.ref30_said_s_K3, F.ref30_said_s_K4, F.ref30_said_s_K5, F.ref30_said_s_K6, F.ref30_said_s_K7, F.ref30_said_s_K8, none_eq, bind_some', fitE, argE, olet_eq, ofInt64, K, hw1, outE]
      · by_cases hd : d = [] <;> by_cases hn : n = 0 <;> by_cases hk : k = 0 <;> by_cases hk0 : k < 0 <;> (try omega) <;>  simp_all [F.ref30_said_s_K1, F.ref30_said_s_K2, F.ref30_said_s_K3, F.ref30_said_s_K4, F.ref30_said_s_K5, F.ref30_said_s_K6, F.ref30_said_s_K7, F.ref30_said_s_K8, none_eq, bind_some', fitE, argE, olet_eq, ofInt64, outE]
    · rw [if_neg (show ¬ (((1 : Int) = 4) ∨ ((1 : Int) = 5) ∨ ((1 : Int) = 6)) by decide)]
      have K := refHead_eq 1 (by omega) n
      by_cases hg : d = [] ∧ k = 0
      · obtain ⟨rfl, rfl⟩ := hg
        simp only [show ((1 : Nat) : Int) = 1 from rfl] at K
        simp [F.ref30_said_s_K1, F.ref30_said_s_K2, F.ref30_said_s_K3, F.ref30_said_s_K4, F.ref30_said_s_K5, F.ref30_said_s_K6, F.ref30_said_s_K7, F.ref30_said_s_K8, none_eq, bind_some', fitE, argE, olet_eq, ofInt64, K, hw1, outE]
      · by_cases hd : d = [] <;> by_cases hn : n = 0 <;> by_cases hk : k = 0 <;> by_cases hk0 : k < 0 <;> (try omega) <;>  simp_all [F.ref30_said_s_K1, F.ref30_said_s_K2, F.ref30_said_s_K3, F.ref30_said_s_K4, F.ref30_said_s_K5, F.ref30_said_s_K6, F.ref30_said_s_K7, F.ref30_said_s_K8, none_eq, bind_some', fitE, argE, olet_eq, ofInt64, outE]
    · rw [if_neg (show ¬ (((2 : Int) = 4) ∨ ((2 : Int) = 5) ∨ ((2 : Int) = 6)) by decide)]
      have K := refHead_eq 2 (by omega) (UInt64.ofNat d.length)
      by_cases hg : n = 0 ∧ k = 0
      · obtain ⟨rfl, rfl⟩ := hg
        have hsad : sadO (hd 2 (UInt64.ofNat d.length)) d = some (hd 2 (UInt64.ofNat d.length) ++ d) := by unfold sadO; rw [if_pos (by have := hd_len9 2 (UInt64.ofNat d.length); omega)]
        simp only [show ((2 : Nat) : Int) = 2 from rfl] at K
        simp [F.ref30_said_s_K1, F.ref30_said_s_K2, F.ref30_said_s_K3, F.ref30_said_s_K4, F.ref30_said_s_K5, F.ref30_said_s_K6, F.ref30_said_s_K7, F.ref30_said_s_K8, none_eq, bind_some', fitE, argE, olet_eq, ofInt64, K, hw1, outE, hsad]
      · by_cases hd : d = [] <;> by_cases hn : n = 0 <;> by_cases hk : k = 0 <;> by_cases hk0 : k < 0 <;> (try omega) <;>  simp_all [F.ref30_said_s_K1, F.ref30_said_s_K2, F.ref30_said_s_K3, F.ref30_said_s_K4, F.ref30_said_s_K5, F.ref30_said_s_K6, F.ref30_said_s_K7, F.ref30_said_s_K8, none_eq, bind_some', fitE, argE, olet_eq, ofInt64, outE]
    · rw [if_neg (show ¬ (((3 : Int) = 4) ∨ ((3 : Int) = 5) ∨ ((3 : Int) = 6)) by decide)]
      have K := refHead_eq 3 (by omega) (UInt64.ofNat d.length)
      have hvs : F.ref30_utf8 d = some (Lib.validD d) := utf8_eq hdU
      by_cases hg : n = 0 ∧ k = 0 ∧ Lib.validD d = true
      · obtain ⟨rfl, rfl, hu⟩ := hg
        have hsad : sadO (hd 3 (UInt64.ofNat d.length)) d = some (hd 3 (UInt64.ofNat d.length) ++ d) := by unfold sadO; rw [if_pos (by have := hd_len9 3 (UInt64.ofNat d.length); omega)]
        simp only [show ((3 : Nat) : Int) = 3 from rfl] at K
        simp [F.ref30_said_s_K1, F.ref30_said_s_K2, F.ref30_said_s_K3, F.ref30_said_s_K4, F.ref30_said_s_K5, F.ref30_said_s_K6, F.ref30_said_s_K7, F.ref30_said_s_K8, none_eq, bind_some', fitE, argE, olet_eq, ofInt64, K, hw1, outE, hsad, hvs, hu]
      · by_cases hu : Lib.validD d = true <;> by_cases hd : d = [] <;> by_cases hn : n = 0 <;> by_cases hk : k = 0 <;> by_cases hk0 : k < 0 <;> (try omega) <;>  simp_all [F.ref30_said_s_K1, F.ref30_said_s_K2, F.ref30_said_s_K3, F.ref30_said_s_K4, F.ref30_said_s_K5, F.ref30_said_s_K6, F.ref30_said_s_K7, F.ref30_said_s_K8, none_eq, bind_some', fitE, argE, olet_eq, ofInt64, hvs, outE]
    · by_cases hg : n = 0 ∧ d = [] ∧ 0 ≤ k
      · obtain ⟨rfl, rfl, h0⟩ := hg
        have hk0 : ¬ k < 0 := by omega
        have hf : fitE (4, 0, [], k) := by simp [fitE, h0]
        rw [if_neg (show ¬ ¬ fitE (4, 0, [], k) from fun h => h hf), if_pos (show (4 : Int) = 4 ∨ (4 : Int) = 5 ∨ (4 : Int) = 6 by decide)]
        have e1 : argE (4, 0, [], k) = (UInt64.ofInt k) := by simp [argE]
        rw [e1]
        cases hs : sub with
        | none =>
          have hw := hs0.1 hs
          subst hw
          simp [F.ref30_said_s_K1, F.ref30_said_s_K2, F.ref30_said_s_K3, F.ref30_said_s_K5, F.ref30_said_s_K7, F.ref30_said_s_K8, none_eq, bind_some', olet_eq, hk0, outE]
        | some rec =>
          have hw : w ≠ 32 := fun h => by have := hs0.2 h; rw [hs] at this; cases this
          have hw3 : ((w : Int) == 32) = false := by simp; omega
          have K := said_K9 (w := (w : Int)) (rc := rc) (rec := rec) hv (4, 0, [], k) 4 (by omega) rfl (UInt64.ofInt k) a hlt hx h0 (hsub rec hs).1 (by rw [hwi]; exact (hsub rec hs).2)
          simp [F.ref30_said_s_K1, F.ref30_said_s_K2, F.ref30_said_s_K3, F.ref30_said_s_K5, F.ref30_said_s_K7, F.ref30_said_s_K8, none_eq, bind_some', olet_eq, hk0, hw3]
          exact K
      · have hf : ¬ fitE (4, n, d, k) := by simpa [fitE] using hg
        rw [if_pos hf]
        have hq : 0 ≤ k → Int.tmod k 2 = k % 2 := fun h => Int.tmod_eq_emod_of_nonneg h
        have hq2 : ¬ k % 2 = 0 → k % 2 = 1 := by omega
        by_cases hd : d = [] <;> by_cases hn : n = 0 <;> by_cases hk : k = 0 <;> by_cases hk0 : k < 0 <;> (try omega) <;>  (try rw [hq (by omega)]) <;> simp_all [F.ref30_said_s_K1, F.ref30_said_s_K2, F.ref30_said_s_K3, F.ref30_said_s_K4, F.ref30_said_s_K5, F.ref30_said_s_K6, F.ref30_said_s_K7, F.ref30_said_s_K8, none_eq, bind_some', fitE, argE, olet_eq, ofInt64, outE]
    · by_cases hg : n = 0 ∧ d = [] ∧ 0 ≤ k ∧ k % 2 = 0
      · obtain ⟨rfl, rfl, h0, h2m⟩ := hg
        have hmod : Int.tmod k 2 = 0 := by rw [Int.tmod_eq_emod_of_nonneg h0]; exact h2m
        have hdiv : UInt64.ofInt k / 2 = UInt64.ofInt (k / 2) := half64 k h0 hx
        have hk0 : ¬ k < 0 := by omega
        have hf : fitE (5, 0, [], k) := by simp [fitE, h0, h2m]
        rw [if_neg (show ¬ ¬ fitE (5, 0, [], k) from fun h => h hf), if_pos (show (5 : Int) = 4 ∨ (5 : Int) = 5 ∨ (5 : Int) = 6 by decide)]
        have e1 : argE (5, 0, [], k) = (UInt64.ofInt (k / 2)) := by simp [argE]
        rw [e1]
        cases hs : sub with
        | none =>
          have hw := hs0.1 hs
          subst hw
          simp [F.ref30_said_s_K1, F.ref30_said_s_K2, F.ref30_said_s_K3, F.ref30_said_s_K5, F.ref30_said_s_K7, F.ref30_said_s_K8, none_eq, bind_some', olet_eq, hk0, outE, hmod, hdiv]
        | some rec =>
          have hw : w ≠ 32 := fun h => by have := hs0.2 h; rw [hs] at this; cases this
          have hw3 : ((w : Int) == 32) = false := by simp; omega
          have K := said_K9 (w := (w : Int)) (rc := rc) (rec := rec) hv (5, 0, [], k) 5 (by omega) rfl (UInt64.ofInt (k / 2)) a hlt hx h0 (hsub rec hs).1 (by rw [hwi]; exact (hsub rec hs).2)
          simp [F.ref30_said_s_K1, F.ref30_said_s_K2, F.ref30_said_s_K3, F.ref30_said_s_K5, F.ref30_said_s_K7, F.ref30_said_s_K8, none_eq, bind_some', olet_eq, hk0, hw3, hmod, hdiv]
          exact K
      · have hf : ¬ fitE (5, n, d, k) := by simpa [fitE] using hg
        rw [if_pos hf]
        have hq : 0 ≤ k → Int.tmod k 2 = k % 2 := fun h => Int.tmod_eq_emod_of_nonneg h
        have hq2 : ¬ k % 2 = 0 → k % 2 = 1 := by omega
        by_cases hd : d = [] <;> by_cases hn : n = 0 <;> by_cases hk : k = 0 <;> by_cases hk0 : k < 0 <;> (try omega) <;>  (try rw [hq (by omega)]) <;> simp_all [F.ref30_said_s_K1, F.ref30_said_s_K2, F.ref30_said_s_K3, F.ref30_said_s_K4, F.ref30_said_s_K5, F.ref30_said_s_K6, F.ref30_said_s_K7, F.ref30_said_s_K8, none_eq, bind_some', fitE, argE, olet_eq, ofInt64, outE]
    · by_cases hg : d = [] ∧ k = 1
      · obtain ⟨rfl, rfl⟩ := hg
        have h0 : (0 : Int) ≤ 1 := by omega
        have hf : fitE (6, n, [], 1) := by simp [fitE]
        rw [if_neg (show ¬ ¬ fitE (6, n, [], 1) from fun h => h hf), if_pos (show (6 : Int) = 4 ∨ (6 : Int) = 5 ∨ (6 : Int) = 6 by decide)]
        have e1 : argE (6, n, [], 1) = n := by simp [argE]
        rw [e1]
        cases hs : sub with
        | none =>
          have hw := hs0.1 hs
          subst hw
          simp [F.ref30_said_s_K1, F.ref30_said_s_K2, F.ref30_said_s_K3, F.ref30_said_s_K5, F.ref30_said_s_K7, F.ref30_said_s_K8, none_eq, bind_some', olet_eq, outE]
        | some rec =>
          have hw : w ≠ 32 := fun h => by have := hs0.2 h; rw [hs] at this; cases this
          have hw3 : ((w : Int) == 32) = false := by simp; omega
          have K := said_K9 (w := (w : Int)) (rc := rc) (rec := rec) hv (6, n, [], 1) 6 (by omega) rfl n a hlt hx h0 (hsub rec hs).1 (by rw [hwi]; exact (hsub rec hs).2)
          simp [F.ref30_said_s_K1, F.ref30_said_s_K2, F.ref30_said_s_K3, F.ref30_said_s_K5, F.ref30_said_s_K7, F.ref30_said_s_K8, none_eq, bind_some', olet_eq, hw3]
          exact K
      · have hf : ¬ fitE (6, n, d, k) := by simpa [fitE] using hg
        rw [if_pos hf]
        have hq : 0 ≤ k → Int.tmod k 2 = k % 2 := fun h => Int.tmod_eq_emod_of_nonneg h
        have hq2 : ¬ k % 2 = 0 → k % 2 = 1 := by omega
        by_cases hd : d = [] <;> by_cases hn : n = 0 <;> by_cases hk : k = 0 <;> by_cases hk0 : k < 0 <;> (try omega) <;>  (try rw [hq (by omega)]) <;> simp_all [F.ref30_said_s_K1, F.ref30_said_s_K2, F.ref30_said_s_K3, F.ref30_said_s_K4, F.ref30_said_s_K5, F.ref30_said_s_K6, F.ref30_said_s_K7, F.ref30_said_s_K8, none_eq, bind_some', fitE, argE, olet_eq, ofInt64, outE]
    · rw [if_neg (show ¬ (((7 : Int) = 4) ∨ ((7 : Int) = 5) ∨ ((7 : Int) = 6)) by decide)]
      have K := refHead_eq 7 (by omega) n
      simp only [show ((7 : Nat) : Int) = 7 from rfl] at K
      by_cases hg : d = [] ∧ k = 0 ∧ 20 ≤ n.toNat ∧ n.toNat ≤ 22
      · obtain ⟨rfl, rfl, h20, h22⟩ := hg
        have l1 : ¬ n < 20 := by simp only [UInt64.lt_iff_toNat_lt]; simpa using h20
        have l2 : ¬ 22 < n := by simp only [UInt64.lt_iff_toNat_lt]; simpa using h22
        simp [F.ref30_said_s_K1, F.ref30_said_s_K2, F.ref30_said_s_K3, F.ref30_said_s_K4, F.ref30_said_s_K5, F.ref30_said_s_K6, F.ref30_said_s_K7, F.ref30_said_s_K8, none_eq, bind_some', fitE, argE, olet_eq, ofInt64, K, hw1, outE, l1, l2, h20, h22]
      · have hf : ¬ fitE (7, n, d, k) := by simpa [fitE] using hg
        rw [if_pos hf]
        have l3 : ¬ n < 20 → 20 ≤ n.toNat := by simp only [UInt64.lt_iff_toNat_lt]; simp
        have l4 : ¬ 22 < n → n.toNat ≤ 22 := by simp only [UInt64.lt_iff_toNat_lt]; simp
        by_cases l1 : n < 20 <;> by_cases l2 : 22 < n <;> by_cases hd : d = [] <;> by_cases hn : n = 0 <;> by_cases hk : k = 0 <;> by_cases hk0 : k < 0 <;> (try omega) <;>  simp_all [F.ref30_said_s_K1, F.ref30_said_s_K2, F.ref30_said_s_K3, F.ref30_said_s_K4, F.ref30_said_s_K5, F.ref30_said_s_K6, F.ref30_said_s_K7, F.ref30_said_s_K8, none_eq, bind_some', fitE, argE, olet_eq, ofInt64, outE]
  · have d1 : decide ((v.length : Int) ≤ (a : Int)) = true := by simp; omega
    simp only [d1, if_true, List.getElem?_eq_none hge, outE, none_eq, bind_some']
theorem said_n_eq {v : List It} (hv : wt v ≤ 4000000000000) (hI : Kd v) (hU : ∀ x ∈ v, x.2.2.1.length ≤ 2000000) : ∀ (d k : Nat), d ≤ 32 → d < k → Says v (F.ref30_said_n k) ((32 - d : Nat) : Int) (encD d v)
  | 0, k + 1, _, _ => by
    simp only [F.ref30_said_n, encD]
    exact said_s_eq hv hI hU (by omega) (by simp) (by simp)
  | d + 1, k + 1, h1, h2 => by
    simp only [F.ref30_said_n, encD]
    refine said_s_eq hv hI hU (by omega) (by simp; omega) (fun rec hr => ?_)
    cases hr
    rw [show 32 - (d + 1) + 1 = 32 - d by omega]
    exact ⟨encD_put v d, said_n_eq hv hI hU d k (by omega) (by omega)⟩
  | 0, 0, _, h => by omega
  | _ + 1, 0, _, h => by omega
theorem said_eq {v : List It} (hv : wt v ≤ 4000000000000) (hI : Kd v) (hU : ∀ x ∈ v, x.2.2.1.length ≤ 2000000) : F.ref30_said v 0 0 = some (outE [] (encD 32 v 0)) :=
  said_n_eq hv hI hU 32 64 (by omega) (by omega) 0 (by omega)
theorem refShaped_eq {v : List It} (hv : wt v ≤ 4000000000000) (hI : Kd v) (hU : ∀ x ∈ v, x.2.2.1.length ≤ 2000000) : F.ref30_Shaped v = some (shapedD v) := by
  rw [← shaped_eq hv hI]
  unfold F.ref30_Shaped F.cbor_Shaped
  rw [said_eq hv hI hU, write_eq hv hI]
end Go.Gk.Cb
end

section
set_option linter.unusedSimpArgs false
set_option linter.unusedVariables false
namespace Go.Gk.Cb
open Go Go.Gk
def nbN (l : List UInt8) : Nat := l.foldl (fun a c => 256 * a + c.toNat) 0
theorem nbe_acc (l : List UInt8) : ∀ (N : Nat), l.foldl (fun a c => 256 * a + c.toUInt64) (UInt64.ofNat N) = UInt64.ofNat (l.foldl (fun a c => 256 * a + c.toNat) N) := by
  induction l with
  | nil => intro N; rfl
  | cons c r ih =>
    intro N
    simp only [List.foldl_cons]
    rw [← ih]
    congr 1
    apply UInt64.toNat_inj.1
    rw [UInt64.toNat_add, UInt64.toNat_mul]
    simp
theorem nbe_nbN (l : List UInt8) : nbe l = UInt64.ofNat (nbN l) := nbe_acc l 0
theorem nbN_acc (l : List UInt8) : ∀ a, l.foldl (fun a c => 256 * a + c.toNat) a = a * 256 ^ l.length + nbN l := by
  induction l with
  | nil => intro a; simp [nbN]
  | cons c r ih =>
    intro a
    simp only [nbN, List.foldl_cons, List.length_cons]
    rw [ih, ih (256 * 0 + c.toNat), Nat.pow_succ]
    simp only [Nat.mul_zero, Nat.zero_add, Nat.add_mul]
    have : 256 * a * 256 ^ r.length = a * (256 ^ r.length * 256) := by rw [Nat.mul_comm 256 a, Nat.mul_assoc, Nat.mul_comm 256]
    omega
theorem nbN_cons (c : UInt8) (r : List UInt8) : nbN (c :: r) = c.toNat * 256 ^ r.length + nbN r := by
  have := nbN_acc r (256 * 0 + c.toNat)
  simp only [nbN, List.foldl_cons]
  simpa [nbN] using this
theorem nbN_lt (l : List UInt8) : nbN l < 256 ^ l.length := by
  induction l with
  | nil => simp [nbN]
  | cons c r ih =>
    rw [nbN_cons, List.length_cons, Nat.pow_succ]
    have := c.toNat_lt
    calc c.toNat * 256 ^ r.length + nbN r < c.toNat * 256 ^ r.length + 256 ^ r.length := by omega
      _ = (c.toNat + 1) * 256 ^ r.length := by rw [Nat.add_mul]; simp
      _ ≤ 256 * 256 ^ r.length := Nat.mul_le_mul_right _ (by omega)
      _ = 256 ^ r.length * 256 := Nat.mul_comm _ _
theorem nbN_inj : ∀ (a b : List UInt8), a.length = b.length → nbN a = nbN b → a = b
  | [], [], _, _ => rfl
  | [], _ :: _, h, _ => by simp at h
  | _ :: _, [], h, _ => by simp at h
  | x :: r, y :: s, h, h2 => by
    simp only [List.length_cons, Nat.add_right_cancel_iff] at h
    rw [nbN_cons, nbN_cons, h] at h2
    have h3 := nbN_lt r
    have h4 := nbN_lt s
    rw [h] at h3
    have hp : 0 < 256 ^ s.length := Nat.pow_pos (by omega)
    have e1 : x.toNat = y.toNat := by
      have a1 : (x.toNat * 256 ^ s.length + nbN r) / 256 ^ s.length = x.toNat := by
        rw [Nat.mul_comm, Nat.mul_add_div hp, Nat.div_eq_of_lt h3, Nat.add_zero]
      have a2 : (y.toNat * 256 ^ s.length + nbN s) / 256 ^ s.length = y.toNat := by
        rw [Nat.mul_comm, Nat.mul_add_div hp, Nat.div_eq_of_lt h4, Nat.add_zero]
      rw [← a1, h2, a2]
    rw [e1] at h2
    rw [UInt8.toNat_inj.1 e1, nbN_inj r s h (by omega)]
theorem nbN_be : ∀ (k : Nat) (n : UInt64), k ≤ 8 → nbN (be k n) = n.toNat % 256 ^ k
  | 0, n, _ => by simp [be, nbN, Nat.mod_one]
  | k + 1, n, h => by
    rw [be, nbN_cons, be_len, nbN_be k n (by omega)]
    have e : ((shr64 n (8 * k)).toUInt8).toNat = n.toNat / 256 ^ k % 256 := by
      have : min (8 * k) 64 = 8 * k := by omega
      rw [UInt64.toNat_toUInt8, shr64_toNat, this, Nat.pow_mul]
    rw [e, Nat.pow_succ, Nat.mod_mul, Nat.mul_comm (256 ^ k), Nat.add_comm]
theorem be_nbe (l : List UInt8) (h : l.length ≤ 8) : be l.length (nbe l) = l := by
  refine nbN_inj _ _ (be_len _ _) ?_
  rw [nbN_be _ _ h, nbe_nbN]
  have h1 := nbN_lt l
  have h2 : 256 ^ l.length ≤ 256 ^ 8 := Nat.pow_le_pow_right (by omega) h
  have h3 : (256 : Nat) ^ 8 = 18446744073709551616 := by decide
  have h4 : (UInt64.ofNat (nbN l)).toNat = nbN l := by simp; omega
  rw [h4, Nat.mod_eq_of_lt h1]
theorem lg_two {g : Nat} (h : g ≤ 3) : lg (2 ^ g) = g ∧ (2 ^ g = 1 ∨ 2 ^ g = 2 ∨ 2 ^ g = 4 ∨ 2 ^ g = 8) := by
  have : g = 0 ∨ g = 1 ∨ g = 2 ∨ g = 3 := by omega
  rcases this with rfl | rfl | rfl | rfl <;> simp [lg]
theorem headD_inv {b : List UInt8} {i m j : Nat} {n : UInt64} (h : headD b i = .ok (m, n, j)) : part b i j = hd m n ∧ (m = 7 → 20 ≤ n.toNat ∧ n.toNat ≤ 22) := by
  unfold headD at h
  split at h
  · cases h
  · rename_i c hc
    obtain ⟨hi, hbi⟩ := List.getElem?_eq_some_iff.1 hc
    have hcl := c.toNat_lt
    have hdrop : b.drop i = c :: b.drop (i + 1) := by rw [List.drop_eq_getElem_cons hi, hbi]
    split at h
    · cases h
    · rename_i hbad
      split at h
      · rename_i h24
        cases h
        have hn : (UInt64.ofNat (c.toNat % 32)).toNat = c.toNat % 32 := by simp; omega
        refine ⟨?_, fun h7 => by omega⟩
        unfold part hd
        have hw : wd (UInt64.ofNat (c.toNat % 32)) = 0 := by
          unfold wd
          rw [if_pos (by simp only [UInt64.lt_iff_toNat_lt, hn]; simpa using h24)]
        rw [if_pos hw, hdrop, show i + 1 - i = 1 by omega]
        simp only [List.take_succ_cons, List.take_zero, List.cons.injEq, and_true]
        apply UInt8.toNat_inj.1
        rw [UInt8.toNat_add]; simp; omega
      · rename_i h24
        split at h
        · cases h
        · rename_i hlen
          split at h
          · cases h
          · rename_i hwd
            cases h
            have hwd' := Classical.not_not.1 hwd
            obtain ⟨hl1, hl2⟩ := lg_two (g := c.toNat % 32 - 24) (by omega)
            refine ⟨?_, fun h7 => by omega⟩
            have hL : ((b.drop (i + 1)).take (2 ^ (c.toNat % 32 - 24))).length = 2 ^ (c.toNat % 32 - 24) := by simp; omega
            unfold part hd
            rw [hwd', if_neg (by omega), hl1, hdrop, show i + 1 + 2 ^ (c.toNat % 32 - 24) - i = 2 ^ (c.toNat % 32 - 24) + 1 by omega, List.take_succ_cons]
            have hbe := be_nbe ((b.drop (i + 1)).take (2 ^ (c.toNat % 32 - 24))) (by omega)
            rw [hL] at hbe
            rw [hbe]
            congr 1
            apply UInt8.toNat_inj.1
            simp; omega
end Go.Gk.Cb
end

section
set_option linter.unusedSimpArgs false
set_option linter.unusedVariables false
namespace Go.Gk.Cb
open Go Go.Gk
theorem part_app {b : List UInt8} {i j k : Nat} (h : i ≤ j) (h2 : j ≤ k) : part b i j ++ part b j k = part b i k := by
  unfold part
  rw [show k - i = (j - i) + (k - j) by omega, List.take_add, List.drop_drop, show i + (j - i) = j by omega]
theorem part_len {b : List UInt8} {i j : Nat} (h : i ≤ j) (h2 : j ≤ b.length) : (part b i j).length = j - i := by simp [part]; omega
theorem part_self (b : List UInt8) (i : Nat) : part b i i = [] := by simp [part]
theorem drop_of_app {τ : Type} {v : List τ} {i : Nat} {a r : List τ} (h : v.drop i = a ++ r) : v.drop (i + a.length) = r := by
  rw [← List.drop_drop, h, List.drop_left]
def RT (b : List UInt8) (v : List It) (rd : Rd) (rw_ : Wr) : Prop :=
  ∀ (i j : Nat) (is : List It) (at_ : Nat) (rest : List It), i ≤ b.length → rd i = .ok (j, is) → v.drop at_ = is ++ rest → rw_ at_ = some (part b i j, at_ + is.length)
theorem list_rt {b : List UInt8} {v : List It} {rd : Rd} {wr : Wr} (hm : Moves b rd) (h : RT b v rd wr) (key : Bool) (last : Option (List UInt8)) : ∀ (f n i j : Nat) (is : List It) (at_ : Nat) (rest : List It) (key : Bool), i ≤ b.length →
    listD rd f n i = .ok (j, is) → v.drop at_ = is ++ rest → kidsE wr false n key last at_ = some (part b i j, at_ + is.length)
  | f, 0, i, j, is, a, rest, key, hi, h1, h2 => by
    have : (i, ([] : List It)) = (j, is) := by cases f <;> (simp only [listD] at h1; cases h1; rfl)
    cases this
    simp [kidsE, part_self]
  | 0, n + 1, i, j, is, a, rest, key, hi, h1, h2 => by simp only [listD] at h1; cases h1
  | f + 1, n + 1, i, j, is, a, rest, key, hi, h1, h2 => by
    simp only [listD] at h1
    cases h3 : rd i with
    | error e => rw [h3] at h1; cases h1
    | ok p =>
      obtain ⟨j1, is1⟩ := p
      rw [h3] at h1
      simp only at h1
      obtain ⟨m1, m2, m3, m4⟩ := hm.1 i j1 is1 h3
      cases h4 : listD rd f n j1 with
      | error e => rw [h4] at h1; cases h1
      | ok q =>
        obtain ⟨k, js⟩ := q
        rw [h4] at h1
        simp only at h1
        cases h1
        rw [List.append_assoc] at h2
        have e1 := h i j1 is1 a (js ++ rest) hi h3 h2
        have e2 := list_rt hm h key last f n j1 j js (a + is1.length) rest (!key) m2 h4 (drop_of_app h2)
        have m5 := (listD_moves hm f n j1 m2).1 j js h4
        simp only [kidsE, e1, Bool.false_and, Bool.false_eq_true, if_false, e2]
        rw [part_app (by omega) (by omega)]
        simp; omega
theorem pairs_rt {b : List UInt8} {v : List It} {rd : Rd} {wr : Wr} (hm : Moves b rd) (h : RT b v rd wr) : ∀ (f n : Nat) (last : Option (List UInt8)) (i j : Nat) (is : List It) (at_ : Nat) (rest : List It), i ≤ b.length →
    pairsD rd b f n last i = .ok (j, is) → v.drop at_ = is ++ rest → kidsE wr true (2 * n) true last at_ = some (part b i j, at_ + is.length)
  | f, 0, last, i, j, is, a, rest, hi, h1, h2 => by
    have : (i, ([] : List It)) = (j, is) := by cases f <;> (simp only [pairsD] at h1; cases h1; rfl)
    cases this
    simp [kidsE, part_self]
  | 0, n + 1, last, i, j, is, a, rest, hi, h1, h2 => by simp only [pairsD] at h1; cases h1
  | f + 1, n + 1, last, i, j, is, a, rest, hi, h1, h2 => by
    simp only [pairsD] at h1
    cases h3 : rd i with
    | error e => rw [h3] at h1; cases h1
    | ok p =>
      obtain ⟨j1, is1⟩ := p
      rw [h3] at h1
      simp only at h1
      obtain ⟨m1, m2, m3, m4⟩ := hm.1 i j1 is1 h3
      split at h1
      · cases h1
      · rename_i hko
        cases h4 : rd j1 with
        | error e => rw [h4] at h1; cases h1
        | ok q =>
          obtain ⟨k, js⟩ := q
          rw [h4] at h1
          simp only at h1
          obtain ⟨n1, n2, n3, n4⟩ := hm.1 j1 k js h4
          cases h5 : pairsD rd b f n (some (part b i j1)) k with
          | error e => rw [h5] at h1; cases h1
          | ok r =>
            obtain ⟨l, ks⟩ := r
            rw [h5] at h1
            simp only at h1
            cases h1
            rw [List.append_assoc, List.append_assoc] at h2
            have e1 := h i j1 is1 a (js ++ (ks ++ rest)) hi h3 h2
            have h6 := drop_of_app h2
            have e2 := h j1 k js (a + is1.length) (ks ++ rest) m2 h4 h6
            have e3 := pairs_rt hm h f n (some (part b i j1)) k j ks (a + is1.length + js.length) rest n2 h5 (drop_of_app h6)
            have m5 := (pairsD_moves hm f n (some (part b i j1)) k n2).1 j ks h5
            have hko' : keyOk last (part b i j1) = true := by simpa using hko
            rw [show 2 * (n + 1) = 2 * n + 1 + 1 by omega]
            simp only [kidsE, e1, Bool.true_and, hko', Bool.not_true, Bool.and_false, Bool.false_eq_true, if_false, if_true, e2, Bool.not_false, e3]
            rw [part_app (by omega) (by omega)]
            simp only [Bool.false_and, Bool.false_eq_true, if_false]
            rw [part_app (by omega) (by omega)]
            simp; omega
theorem toInt64 (n : UInt64) : UInt64.ofInt (n.toNat : Int) = n := by rw [ofInt64]; simp
theorem item_rt {b : List UInt8} {v : List It} {sd : Option Rd} {sw : Option Wr} (h : ∀ rd, sd = some rd → ∃ wr, sw = some wr ∧ Moves b rd ∧ RT b v rd wr) : RT b v (itemS b sd) (itemE v sw) := by
  intro i j is a rest hi h1 h2
  unfold itemS at h1
  cases h3 : headD b i with
  | error e => rw [h3] at h1; cases h1
  | ok p =>
    obtain ⟨m, n, j1⟩ := p
    rw [h3] at h1
    simp only at h1
    obtain ⟨q1, q2, q3⟩ := headD_ok h3
    obtain ⟨q4, q5⟩ := headD_inv h3
    have hn := n.toNat_lt
    have hget : ∀ x r, is = x :: r → v[a]? = some x ∧ v.drop (a + 1) = r ++ rest := by
      intro x r hx
      subst hx
      have ha : a < v.length := by
        rcases Nat.lt_or_ge a v.length with h | h
        · exact h
        · rw [List.drop_eq_nil_of_le h] at h2; cases h2
      rw [List.drop_eq_getElem_cons ha] at h2
      simp only [List.cons_append, List.cons.injEq] at h2
      exact ⟨by rw [List.getElem?_eq_getElem ha, h2.1], h2.2⟩
    split at h1
    · rename_i hk
      cases sd with
      | none => cases h1
      | some rd =>
        obtain ⟨wr, rfl, hm, hrt⟩ := h rd rfl
        simp only [insD] at h1
        unfold itemE
        split at h1
        · rename_i h4
          subst h4
          cases h5 : listD rd (b.length + 1) n.toNat j1 with
          | error e => rw [h5] at h1; cases h1
          | ok r =>
            obtain ⟨k, js⟩ := r
            rw [h5] at h1
            simp only at h1
            cases h1
            obtain ⟨g1, g2⟩ := hget _ _ rfl
            have e1 := list_rt hm hrt true none _ _ _ _ _ _ _ true q2 h5 g2
            have m5 := (listD_moves hm _ _ _ q2).1 _ _ h5
            have hf : fitE ((4 : Int), (0 : UInt64), ([] : List UInt8), (n.toNat : Int)) := by simp [fitE]
            simp only [g1]
            rw [if_neg (show ¬ ¬ fitE _ from fun h => h hf), if_pos (by simp)]
            simp only [argE, show ((4 : Int) == 5) = false from rfl, Int.toNat_natCast, e1]
            simp only [show ¬ ((4 : Int) = 2 ∨ (4 : Int) = 3) by decide, if_false, if_true, toInt64]
            rw [show (4 : Int).toNat = 4 from rfl, ← q4, part_app (by omega) (by omega)]
            simp; omega
        · split at h1
          · rename_i h4 h5
            subst h5
            cases h5 : pairsD rd b (b.length + 1) n.toNat none j1 with
            | error e => rw [h5] at h1; cases h1
            | ok r =>
              obtain ⟨k, js⟩ := r
              rw [h5] at h1
              simp only at h1
              cases h1
              obtain ⟨g1, g2⟩ := hget _ _ rfl
              have e1 := pairs_rt hm hrt _ _ _ _ _ _ _ _ q2 h5 g2
              have m5 := (pairsD_moves hm _ _ _ _ q2).1 _ _ h5
              have hf : fitE ((5 : Int), (0 : UInt64), ([] : List UInt8), 2 * (n.toNat : Int)) := by simp [fitE]; omega
              simp only [g1]
              rw [if_neg (show ¬ ¬ fitE _ from fun h => h hf), if_pos (by simp)]
              have e2 : (2 * (n.toNat : Int)).toNat = 2 * n.toNat := by omega
              have e3 : (2 * (n.toNat : Int)) / 2 = (n.toNat : Int) := by omega
              simp only [argE, beq_self_eq_true, e2, e1, e3]
              simp only [show ¬ ((5 : Int) = 2 ∨ (5 : Int) = 3) by decide, show ¬ ((5 : Int) = 4) by decide, if_false, if_true, toInt64]
              rw [show (5 : Int).toNat = 5 from rfl, ← q4, part_app (by omega) (by omega)]
              simp; omega
          · rename_i h4 h5
            have h6 : m = 6 := by omega
            subst h6
            cases h5 : rd j1 with
            | error e => rw [h5] at h1; cases h1
            | ok r =>
              obtain ⟨k, js⟩ := r
              rw [h5] at h1
              simp only at h1
              cases h1
              obtain ⟨g1, g2⟩ := hget _ _ rfl
              have e1 := hrt _ _ _ _ _ q2 h5 g2
              have m5 := hm.1 _ _ _ h5
              have hf : fitE ((6 : Int), n, ([] : List UInt8), 1) := by simp [fitE]
              simp only [g1]
              rw [if_neg (show ¬ ¬ fitE _ from fun h => h hf), if_pos (by simp)]
              simp only [argE, show ((6 : Int) == 5) = false from rfl, show (1 : Int).toNat = 1 from rfl, kidsE, e1, Bool.false_and, Bool.false_eq_true, if_false]
              simp only [show ¬ ((6 : Int) = 2 ∨ (6 : Int) = 3) by decide, show ¬ ((6 : Int) = 4) by decide, show ¬ ((6 : Int) = 5) by decide, if_false]
              rw [show (6 : Int).toNat = 6 from rfl, ← q4, List.append_nil, part_app (by omega) (by omega)]
              simp; omega
    · rename_i hk
      split at h1
      · rename_i h23
        split at h1
        · cases h1
        · rename_i hlen
          split at h1
          · cases h1
          · rename_i hval
            cases h1
            obtain ⟨g1, g2⟩ := hget _ _ rfl
            have hL : (part b j1 (j1 + n.toNat)).length = n.toNat := by rw [part_len (by omega) (by omega)]; omega
            have hf : fitE ((m : Int), (0 : UInt64), part b j1 (j1 + n.toNat), 0) := by
              rcases h23 with rfl | rfl
              · simp [fitE]
              · have : Lib.validD (part b j1 (j1 + n.toNat)) = true := by simpa using hval
                simp [fitE, this]
            unfold itemE
            simp only [g1]
            rw [if_neg (show ¬ ¬ fitE _ from fun h => h hf), if_neg (show ¬ ((m : Int) = 4 ∨ (m : Int) = 5 ∨ (m : Int) = 6) by omega)]
            have ea : argE ((m : Int), (0 : UInt64), part b j1 (j1 + n.toNat), 0) = n := by
              simp only [argE]
              rw [if_pos (show (m : Int) = 2 ∨ (m : Int) = 3 by omega), hL]; simp
            rw [ea]
            simp only [Int.toNat_natCast]
            rw [← q4, part_app (by omega) (by omega)]
            simp
      · rename_i h23
        cases h1
        obtain ⟨g1, g2⟩ := hget _ _ rfl
        have hm' : m = 0 ∨ m = 1 ∨ m = 7 := by omega
        have hf : fitE ((m : Int), n, ([] : List UInt8), 0) := by
          rcases hm' with rfl | rfl | rfl
          · simp [fitE]
          · simp [fitE]
          · simpa [fitE] using q5 rfl
        unfold itemE
        simp only [g1]
        rw [if_neg (show ¬ ¬ fitE _ from fun h => h hf), if_neg (show ¬ ((m : Int) = 4 ∨ (m : Int) = 5 ∨ (m : Int) = 6) by omega)]
        have ea : argE ((m : Int), n, ([] : List UInt8), 0) = n := by
          simp only [argE]
          rw [if_neg (show ¬ ((m : Int) = 2 ∨ (m : Int) = 3) by omega), if_neg (show ¬ ((m : Int) = 4) by omega), if_neg (show ¬ ((m : Int) = 5) by omega)]
        rw [ea]
        simp only [Int.toNat_natCast, List.append_nil]
        rw [← q4]
        simp
theorem itemD_rt (b : List UInt8) (v : List It) : ∀ d, RT b v (itemD d b) (encD d v)
  | 0 => item_rt (by simp)
  | d + 1 => item_rt (by intro rd h; cases h; exact ⟨_, rfl, itemD_moves b d, itemD_rt b v d⟩)
end Go.Gk.Cb
end

section
set_option linter.unusedSimpArgs false
set_option linter.unusedVariables false
namespace Go.Gk.Cb
open Go Go.Gk
def seg (v : List It) (i j : Nat) : List It := (v.drop i).take (j - i)
def Pos (wr : Wr) : Prop := ∀ i t j, wr i = some (t, j) → 1 ≤ t.length
def WT (v : List It) (wr : Wr) (rd : List UInt8 → Rd) : Prop :=
  ∀ (i : Nat) (t : List UInt8) (j : Nat) (p q : List UInt8), wr i = some (t, j) → rd (p ++ t ++ q) p.length = .ok (p.length + t.length, seg v i j)
end Go.Gk.Cb
end

section
set_option linter.unusedSimpArgs false
set_option linter.unusedVariables false
namespace Go.Gk.Cb
open Go Go.Gk
def Ext (rdC rdB : Rd) : Prop := ∀ i j is, rdC i = .ok (j, is) → rdB i = .ok (j, is)
def Cut (c : List UInt8) (rdC rdB : Rd) : Prop := ∀ i j is, i ≤ c.length → rdB i = .ok (j, is) → (j ≤ c.length → rdC i = .ok (j, is)) ∧ (c.length < j → rdC i = .error (220, (c.length : Int)))
end Go.Gk.Cb
end
