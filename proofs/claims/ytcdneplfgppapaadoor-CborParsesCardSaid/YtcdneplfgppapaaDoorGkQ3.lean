/- CBOR: the program's reader computes what 'itemD' says. No program. -/
import Derived.Test.YtcdneplfgppapaaDoorGkQ2
set_option linter.unusedSimpArgs false
set_option linter.unusedVariables false
namespace Go.Gk.Cb
open Go Go.Gk

abbrev PR := List It × Int × Int
abbrev Sg := Int × List It × List Fr_

/-- an item has been read to its end -/
noncomputable def Dn (b : List UInt8) (i : Int) (out : List It) (op : List Fr_) : Option (Sg ⊕ PR) :=
  obind (F.cbor_reader_done b i out op) fun x => ocase x.1 (loop (F.cbor_Parse_L2 b) (x.2.1, x.2.2.1, x.2.2.2)) (fun f => oinr (some ([], f.1, f.2)))
noncomputable def run (b : List UInt8) (x : Option (Sg ⊕ PR)) : Option PR := match x with
  | none => none
  | some (.inl s) => loop (F.cbor_Parse_L1 b) s
  | some (.inr r) => some r
theorem loop_run (b : List UInt8) (s : Sg) : loop (F.cbor_Parse_L1 b) s = run b (F.cbor_Parse_L1 b s) := by
  rw [loop_eq]
  unfold run
  cases F.cbor_Parse_L1 b s with
  | none => rfl
  | some x => cases x <;> rfl

section
variable {b : List UInt8}

theorem get_last (op : List Fr_) (g : Fr_) (_h : op.length < 1000) : getO (op ++ [g]) (op.length : Int) = some g := by
  rw [getO_nat]; simp
theorem last_ix (op : List Fr_) (g : Fr_) (h : op.length < 1000) : wI (((op ++ [g]).length : Int) - 1) = (op.length : Int) := by
  simp; rw [wI_in (by omega) (by omega)]
theorem set_last (op : List Fr_) (g g' : Fr_) : (op ++ [g]).set op.length g' = op ++ [g'] := by simp

/-- nothing more is missing in what is open: it is at its end -/
theorem L2_zero (i : Int) (out : List It) (op : List Fr_) (g : Fr_) (h : op.length < 1000) (hg : g.2.2.1 = 0) : loop (F.cbor_Parse_L2 b) (i, out, op ++ [g]) = Dn b i out op := by
  rw [loop_eq]
  have d1 : decide ((0 : Int) < ((op ++ [g]).length : Int)) = true := by simp
  have hq : (g.2.2.1 == 0) = true := by rw [hg]; rfl
  have ht : (op ++ [g]).take ((op.length : Int)).toNat = op := by simp
  simp only [F.cbor_Parse_L2, d1, if_true, get_last op g h, bind_some', hq, F.cbor_Parse_K1, last_ix op g h]
  rw [grd_true _ (by simp), ht]
  unfold Dn
  cases hd : F.cbor_reader_done b i out op with
  | none => rfl
  | some x =>
    simp only [bind_some']
    cases hx : x.1 with
    | none => simp only [ocase, oinl]
    | some f => simp only [ocase, oinr, Option.map_some]
theorem L2_more (i : Int) (out : List It) (op : List Fr_) (g : Fr_) (h : op.length < 1000) (hg : g.2.2.1 ≠ 0) : run b (loop (F.cbor_Parse_L2 b) (i, out, op ++ [g])) = loop (F.cbor_Parse_L1 b) (i, out, op ++ [g]) := by
  have d1 : decide ((0 : Int) < ((op ++ [g]).length : Int)) = true := by simp
  have hq : (g.2.2.1 == 0) = false := by simpa using hg
  have h0 : (((op ++ [g]).length : Int) == 0) = false := by simp; omega
  have : F.cbor_Parse_L2 b (i, out, op ++ [g]) = some (.inr (.inl (i, out, op ++ [g]))) := by
    simp only [F.cbor_Parse_L2, d1, if_true, last_ix op g h, get_last op g h, bind_some', hq, F.cbor_Parse_K1, Bool.false_eq_true, if_false, h0]
    rfl
  rw [loop_inr this]
  rfl
theorem L2_end (i : Nat) (out : List It) : run b (loop (F.cbor_Parse_L2 b) ((i : Int), out, [])) = some (if i < b.length then ([], 220, (i : Int)) else (out, 0, 0)) := by
  have : F.cbor_Parse_L2 b ((i : Int), out, []) = some (.inr (.inr (if i < b.length then ([], 220, (i : Int)) else (out, 0, 0)))) := by
    have d1 : decide ((0 : Int) < ((([] : List Fr_)).length : Int)) = false := by simp
    have d0 : (((([] : List Fr_)).length : Int) == 0) = true := by simp
    simp only [F.cbor_Parse_L2, d1, Bool.false_eq_true, if_false, F.cbor_Parse_K1, d0, if_true]
    by_cases h : i < b.length
    · have d2 : decide ((i : Int) < (b.length : Int)) = true := by simp; omega
      simp only [d2, if_true, h]; rfl
    · have d2 : decide ((i : Int) < (b.length : Int)) = false := by simp; omega
      simp only [d2, Bool.false_eq_true, if_false, h]; rfl
  rw [loop_inr this]
  rfl
theorem done_nil (i : Int) (out : List It) : Dn b i out [] = loop (F.cbor_Parse_L2 b) (i, out, []) := by
  unfold Dn F.cbor_reader_done
  simp [ocase]

/-- a list's or a tag's item has been read -/
theorem done_one (i : Int) (out ks : List It) (op : List Fr_) (x : It) (g : Fr_) (h : op.length < 1000) (hat : g.1 = (out.length : Int)) (hm : g.2.1 ≠ 5) (hk : wI (x.2.2.2 + 1) = x.2.2.2 + 1) :
    Dn b i (out ++ x :: ks) (op ++ [g]) = loop (F.cbor_Parse_L2 b) (i, out ++ (x.1, x.2.1, x.2.2.1, x.2.2.2 + 1) :: ks, op ++ [(g.1, g.2.1, g.2.2.1 - 1, g.2.2.2.1, g.2.2.2.2.1, g.2.2.2.2.2)]) := by
  have h0 : (((op ++ [g]).length : Int) == 0) = false := by simp; omega
  have hgo : getO (out ++ x :: ks) (g.1 : Int) = some x := by rw [hat, getO_nat, nth_at]
  have hm5 : (g.2.1 != 5) = true := by simpa using hm
  unfold Dn F.cbor_reader_done
  simp only [h0, Bool.false_eq_true, if_false, get_last op g h, bind_some', hgo, olet_eq, hm5, if_true, last_ix op g h, Int.toNat_natCast, set_last, F.cbor_reader_done_K1, ocase]
  rw [hat, Int.toNat_natCast, set_at, hk]
theorem done_val (i : Int) (out ks : List It) (op : List Fr_) (x : It) (g : Fr_) (h : op.length < 1000) (hat : g.1 = (out.length : Int)) (hm : g.2.1 = 5) (ho : g.2.2.2.1 = true) (hk : wI (x.2.2.2 + 1) = x.2.2.2 + 1) :
    Dn b i (out ++ x :: ks) (op ++ [g]) = loop (F.cbor_Parse_L2 b) (i, out ++ (x.1, x.2.1, x.2.2.1, x.2.2.2 + 1) :: ks, op ++ [(g.1, g.2.1, g.2.2.1 - 1, false, i, g.2.2.2.2.2)]) := by
  have h0 : (((op ++ [g]).length : Int) == 0) = false := by simp; omega
  have hgo : getO (out ++ x :: ks) (g.1 : Int) = some x := by rw [hat, getO_nat, nth_at]
  have hm5 : (g.2.1 != 5) = false := by simp [hm]
  unfold Dn F.cbor_reader_done
  simp only [h0, Bool.false_eq_true, if_false, get_last op g h, bind_some', hgo, olet_eq, hm5, if_true, ho, last_ix op g h, Int.toNat_natCast, set_last, F.cbor_reader_done_K1, ocase]
  rw [hat, Int.toNat_natCast, set_at, hk]
def vlast (b : List UInt8) (l : Option (Nat × Nat)) : Option (List UInt8) := l.map fun p => vwL b p
theorem done_key (i : Nat) (out ks : List It) (op : List Fr_) (x : It) (g : Fr_) (k : Nat) (hb : b.length ≤ 65536) (hne : b ≠ []) (h : op.length < 1000) (hat : g.1 = (out.length : Int)) (hm : g.2.1 = 5) (ho : g.2.2.2.1 = false) (hk : wI (x.2.2.2 + 1) = x.2.2.2 + 1)
    (hkey : g.2.2.2.2.1 = (k : Int)) (hki : k ≤ i) (hi : i ≤ b.length) (hl : ∀ p, g.2.2.2.2.2 = some p → p.1 ≤ p.2 ∧ p.2 ≤ b.length) :
    Dn b (i : Int) (out ++ x :: ks) (op ++ [g]) = if keyOk (vlast b g.2.2.2.2.2) (part b k i) = false then some (.inr ([], 220, (k : Int))) else
      loop (F.cbor_Parse_L2 b) ((i : Int), out ++ (x.1, x.2.1, x.2.2.1, x.2.2.2 + 1) :: ks, op ++ [(g.1, g.2.1, g.2.2.1, true, (k : Int), some (k, i))]) := by
  have h0 : (((op ++ [g]).length : Int) == 0) = false := by simp; omega
  have hgo : getO (out ++ x :: ks) (g.1 : Int) = some x := by rw [hat, getO_nat, nth_at]
  have hm5 : (g.2.1 != 5) = false := by simp [hm]
  have hsl : slO b (k : Int) (i : Int) = some (part b k i) := slO_ok hki hi
  unfold Dn F.cbor_reader_done
  simp only [h0, Bool.false_eq_true, if_false, get_last op g h, bind_some', hgo, olet_eq, hm5, ho, last_ix op g h, Int.toNat_natCast, hkey, hsl]
  rw [grd_true _ hne]
  have hK2 : ∀ t, F.cbor_reader_done_K2 (i : Int) (op ++ [g]) g ((out ++ x :: ks).set (g.1).toNat (x.1, x.2.1, x.2.2.1, wI (x.2.2.2 + 1))) t =
      some (if t = true then (some (220, (k : Int)), (i : Int), out ++ (x.1, x.2.1, x.2.2.1, x.2.2.2 + 1) :: ks, op ++ [g]) else (none, (i : Int), out ++ (x.1, x.2.1, x.2.2.1, x.2.2.2 + 1) :: ks, op ++ [(g.1, g.2.1, g.2.2.1, true, (k : Int), some (k, i))])) := by
    intro t
    rw [hat, Int.toNat_natCast, set_at, hk]
    cases t
    · simp only [F.cbor_reader_done_K2, Bool.false_eq_true, if_false, olet_eq, last_ix op g h, Int.toNat_natCast, set_last, hkey, F.cbor_reader_done_K1]
      rw [hat]
    · simp only [F.cbor_reader_done_K2, if_true, hkey]
  cases hla : g.2.2.2.2.2 with
  | none =>
    simp only [Option.isSome_none, Bool.false_eq_true, if_false, vlast, Option.map_none, keyOk, hK2, bind_some', ocase]
    rfl
  | some p =>
    obtain ⟨hp1, hp2⟩ := hl p hla
    have hvl : (vwL b p).length < 9223372036854775807 := by simp [vwL]; omega
    simp only [Option.isSome_some, if_true, bind_some', vlast, Option.map_some, keyOk]
    rw [grd_true _ ⟨hp1, hp2⟩, compare_eq _ _ hvl, bind_some', cmp3_nonneg, hK2, bind_some']
    by_cases hlx : lexLt (vwL b p) (part b k i) = false
    · simp [hlx, ocase, oinr]
    · have hlx : lexLt (vwL b p) (part b k i) = true := by simpa using hlx
      simp [hlx, ocase, oinr]

theorem ocase_nn {α ρ : Type} (x : Option ρ) (y : α → Option ρ) : ocase none x y = x := rfl
theorem ocase_ss {α ρ : Type} (a : α) (x : Option ρ) (y : α → Option ρ) : ocase (some a) x y = y a := rfl
/-- Every item that is read within 'op' does what 'rec' says. -/
def Act (b : List UInt8) (len : Nat) (rec : Rd) : Prop := ∀ (i : Nat) (out : List It) (op : List Fr_), i ≤ b.length → out.length ≤ i → op.length = len →
  loop (F.cbor_Parse_L1 b) ((i : Int), out, op) = match rec i with
    | .error e => some ([], e.1, e.2)
    | .ok (j, is) => run b (Dn b (j : Int) (out ++ is) op)

theorem kids_list {rec : Rd} (hb : b.length ≤ 65536) (hm : Moves b rec) {len : Nat} (hA : Act b (len + 1) rec) (hlen : len < 100) (m : Int) (hm5 : m ≠ 5) (x : It) (odd : Bool) (key : Int) (last : Option (Nat × Nat)) :
    ∀ (f k n : Nat) (i : Nat) (out ks : List It) (op : List Fr_), i ≤ b.length → out.length + 1 + ks.length ≤ i → b.length + 1 ≤ f + i → op.length = len → n < 18446744073709551616 → k ≤ b.length → n = 0 ∨ k + 1 ≤ i →
      run b (loop (F.cbor_Parse_L2 b) ((i : Int), out ++ (x.1, x.2.1, x.2.2.1, (k : Int)) :: ks, op ++ [((out.length : Int), m, UInt64.ofNat n, odd, key, last)])) =
        match listD rec f n i with
        | .error e => some ([], e.1, e.2)
        | .ok (j, is) => run b (Dn b (j : Int) (out ++ (x.1, x.2.1, x.2.2.1, ((k + n : Nat) : Int)) :: (ks ++ is)) op) := by
  intro f
  induction f with
  | zero => intro k n i out ks op h1 h2 h3; omega
  | succ f ih =>
    intro k n i out ks op h1 h2 h3 h4 h5 h6 h6'
    cases n with
    | zero =>
      rw [L2_zero _ _ _ _ (by omega) (by rfl)]
      simp [listD]
    | succ n =>
      have hn0 : UInt64.ofNat (n + 1) ≠ 0 := by
        intro h
        have := congrArg UInt64.toNat h
        simp at this
        omega
      rw [L2_more _ _ _ _ (by omega) hn0]
      rw [hA i _ _ h1 (by simp; omega) (by simp [h4]), listD]
      cases hx : rec i with
      | error e => rfl
      | ok a =>
        obtain ⟨j, is⟩ := a
        obtain ⟨h7, h8, h9, h10⟩ := hm.1 i j is hx
        simp only
        have hk1 : wI ((k : Int) + 1) = (k : Int) + 1 := wI_in (by omega) (by omega)
        rw [List.append_assoc, List.cons_append, done_one _ _ _ _ _ _ (by omega) rfl hm5 hk1]
        have e1 : UInt64.ofNat (n + 1) - 1 = UInt64.ofNat n := by
          apply UInt64.toNat_inj.1
          rw [UInt64.toNat_sub_of_le _ _ (by rw [UInt64.le_iff_toNat_le]; simp; omega)]
          simp; omega
        have := ih (k + 1) n j out (ks ++ is) op h8 (by simp; omega) (by omega) h4 (by omega) (by omega) (by omega)
        simp only [e1]
        have e2 : ((k + 1 : Nat) : Int) = (k : Int) + 1 := by simp
        rw [e2] at this
        rw [this]
        cases hz : listD rec f n j with
        | error e => rfl
        | ok y =>
          obtain ⟨z, js⟩ := y
          simp only
          rw [show k + 1 + n = k + (n + 1) by omega, List.append_assoc]

theorem kids_pairs {rec : Rd} (hb : b.length ≤ 65536) (hm : Moves b rec) {len : Nat} (hA : Act b (len + 1) rec) (hlen : len < 100) (x : It) :
    ∀ (f k n : Nat) (i : Nat) (out ks : List It) (op : List Fr_) (last : Option (Nat × Nat)), i ≤ b.length → out.length + 1 + ks.length ≤ i → b.length + 1 ≤ f + i → op.length = len → n < 18446744073709551616 → 2 * k ≤ i →
      (∀ p, last = some p → p.1 ≤ p.2 ∧ p.2 ≤ b.length) →
      run b (loop (F.cbor_Parse_L2 b) ((i : Int), out ++ (x.1, x.2.1, x.2.2.1, ((2 * k : Nat) : Int)) :: ks, op ++ [((out.length : Int), 5, UInt64.ofNat n, false, (i : Int), last)])) =
        match pairsD rec b f n (vlast b last) i with
        | .error e => some ([], e.1, e.2)
        | .ok (j, is) => run b (Dn b (j : Int) (out ++ (x.1, x.2.1, x.2.2.1, ((2 * (k + n) : Nat) : Int)) :: (ks ++ is)) op) := by
  intro f
  induction f with
  | zero => intro k n i out ks op last h1 h2 h3; omega
  | succ f ih =>
    intro k n i out ks op last h1 h2 h3 h4 h5 h6 h7
    cases n with
    | zero =>
      rw [L2_zero _ _ _ _ (by omega) (by rfl)]
      simp [pairsD]
    | succ n =>
      have hn0 : UInt64.ofNat (n + 1) ≠ 0 := by
        intro h
        have := congrArg UInt64.toNat h
        simp at this
        omega
      rw [L2_more _ _ _ _ (by omega) hn0]
      rw [hA i _ _ h1 (by simp; omega) (by simp [h4]), pairsD]
      cases hx : rec i with
      | error e => rfl
      | ok a =>
        obtain ⟨j, is⟩ := a
        obtain ⟨h8, h9, h10, h11⟩ := hm.1 i j is hx
        have hne : b ≠ [] := by rintro rfl; simp at h9; omega
        simp only
        have hk1 : wI (((2 * k : Nat) : Int) + 1) = ((2 * k : Nat) : Int) + 1 := wI_in (by omega) (by omega)
        rw [List.append_assoc, List.cons_append, done_key j _ _ _ _ _ i hb hne (by omega) rfl rfl rfl hk1 rfl (by omega) h9 h7]
        by_cases hko : keyOk (vlast b last) (part b i j) = false
        · rw [if_pos hko, if_pos hko]
          rfl
        · rw [if_neg hko, if_neg hko]
          rw [L2_more _ _ _ _ (by omega) hn0]
          rw [hA j _ _ h9 (by simp; omega) (by simp [h4])]
          cases hy : rec j with
          | error e => rfl
          | ok c =>
            obtain ⟨l, js⟩ := c
            obtain ⟨h12, h13, h14, h15⟩ := hm.1 j l js hy
            simp only
            have hk2 : wI (((2 * k : Nat) : Int) + 1 + 1) = ((2 * k : Nat) : Int) + 1 + 1 := wI_in (by omega) (by omega)
            rw [List.append_assoc, List.cons_append, done_val _ _ _ _ _ _ (by omega) rfl rfl rfl hk2]
            have e1 : UInt64.ofNat (n + 1) - 1 = UInt64.ofNat n := by
              apply UInt64.toNat_inj.1
              rw [UInt64.toNat_sub_of_le _ _ (by rw [UInt64.le_iff_toNat_le]; simp; omega)]
              simp; omega
            have := ih (k + 1) n l out (ks ++ is ++ js) op (some (i, j)) h13 (by simp; omega) (by omega) h4 (by omega) (by omega) (by intro p hp; cases hp; simp; omega)
            simp only [e1]
            have e2 : ((2 * (k + 1) : Nat) : Int) = ((2 * k : Nat) : Int) + 1 + 1 := by simp; omega
            rw [e2] at this
            rw [this]
            have hv : vlast b (some (i, j)) = some (part b i j) := rfl
            rw [hv]
            cases hz : pairsD rec b f n (some (part b i j)) l with
            | error e => rfl
            | ok y =>
              obtain ⟨z, ls⟩ := y
              simp only
              rw [show 2 * (k + 1 + n) = 2 * (k + (n + 1)) by omega]
              simp only [List.append_assoc]

theorem act_item (hb : b.length ≤ 65536) (d : Nat) (hd : d ≤ 32) (sub : Option Rd) (hsub : ∀ rec, sub = some rec → Moves b rec) (hd0 : sub = none ↔ d = 0)
    (hA : ∀ rec, sub = some rec → Act b (32 - d + 1) rec) : Act b (32 - d) (itemS b sub) := by
  intro i out op h1 h2 h3
  rw [loop_run]
  obtain ⟨jj, hh⟩ := argument_eq b i out op hb h1
  unfold itemS
  simp only [F.cbor_Parse_L1, F.cbor_reader_item, hh, bind_some']
  cases hx : headD b i with
  | error e =>
    simp only [ocase_ss, bind_some']
    rfl
  | ok a =>
    obtain ⟨m, n, j⟩ := a
    obtain ⟨h4, h5, h6⟩ := headD_ok hx
    simp only [ocase_nn]
    -- what a leaf comes to
    have leaf : ∀ (k : Int) (n' : UInt64) (s : List UInt8), run b (obind (F.cbor_reader_item_K1 b ((m : Int), n, (none : Option (Int × Int)), (j : Int), out, op) (k, n', s)) fun x_13 =>
        ocase x_13.1 (loop (F.cbor_Parse_L2 b) (x_13.2.1, x_13.2.2.1, x_13.2.2.2)) (fun x_21 => oinr (some ([], x_21.1, x_21.2)))) = run b (Dn b k (out ++ [((m : Int), n', s, 0)]) op) := by
      intro k n' s
      simp only [F.cbor_reader_item_K1]
      rw [apO40 _ _ (by simp; omega), bind_some']
      unfold Dn
      cases hq : F.cbor_reader_done b k (out ++ [((m : Int), n', s, 0)]) op with
      | none => rfl
      | some x =>
        simp only [bind_some']
        cases hy : x.1 with
        | none => simp only [ocase_nn, bind_some']
        | some f => simp only [ocase_ss, bind_some']
    by_cases hcon : m = 4 ∨ m = 5 ∨ m = 6
    · rw [if_pos hcon]
      have n0 : ((m : Int) == 0) = false := by simp; omega
      have n1 : ((m : Int) == 1) = false := by simp; omega
      have n2 : ((m : Int) == 2) = false := by simp; omega
      have n3 : ((m : Int) == 3) = false := by simp; omega
      have n7 : ((m : Int) == 7) = false := by simp; omega
      simp only [n0, n1, n2, n3, n7, Bool.false_eq_true, if_false, F.cbor_reader_item_K2, F.cbor_reader_item_K3]
      cases hs : sub with
      | none =>
        have hd00 : d = 0 := hd0.1 hs
        have : (((op.length : Nat) : Int) == 32) = true := by simp; omega
        simp only [this, if_true, bind_some', ocase_ss]
        rfl
      | some rec =>
        have hd1 : d ≠ 0 := fun h => by rw [hd0.2 h] at hs; cases hs
        have hmv := hsub rec hs
        have hac := hA rec hs
        have : (((op.length : Nat) : Int) == 32) = false := by simp; omega
        simp only [this, Bool.false_eq_true, if_false]
        have hop : apO 64 op [(((out.length : Nat) : Int), (m : Int), n, false, (j : Int), (none : Option (Nat × Nat)))] = some (op ++ [(((out.length : Nat) : Int), (m : Int), n, false, (j : Int), none)]) := apO_ok (by simp; omega)
        have hop1 : apO 64 op [(((out.length : Nat) : Int), (m : Int), (1 : UInt64), false, (j : Int), (none : Option (Nat × Nat)))] = some (op ++ [(((out.length : Nat) : Int), (m : Int), (1 : UInt64), false, (j : Int), none)]) := apO_ok (by simp; omega)
        have hn := n.toNat_lt
        have hnn : UInt64.ofNat n.toNat = n := by simp
        unfold insD
        by_cases hm4 : m = 4
        · subst hm4
          have e6 : (((4 : Nat) : Int) == 6) = false := by decide
          simp only [e6, Bool.false_eq_true, if_false, F.cbor_reader_item_K5, if_true]
          rw [apO40 _ _ (by simp; omega), bind_some', hop, bind_some', bind_some']
          simp only [ocase_nn]
          have := kids_list hb hmv hac (by omega) ((4 : Nat) : Int) (by decide) (((4 : Nat) : Int), 0, [], 0) false (j : Int) none (b.length + 1) 0 n.toNat j out [] op h5 (by simp; omega) (by omega) h3 hn (by omega) (by omega)
          rw [hnn] at this
          have this : run b (loop (F.cbor_Parse_L2 b) ((j : Int), out ++ [(((4 : Nat) : Int), 0, [], 0)], op ++ [((out.length : Int), ((4 : Nat) : Int), n, false, (j : Int), none)])) = _ := this
          rw [this]
          cases hl : listD rec (b.length + 1) n.toNat j with
          | error e => rfl
          | ok y =>
            obtain ⟨k, is⟩ := y
            simp only [Nat.zero_add, List.nil_append]
            rfl
        · by_cases hm5 : m = 5
          · subst hm5
            have e6 : (((5 : Nat) : Int) == 6) = false := by decide
            simp only [e6, Bool.false_eq_true, if_false, F.cbor_reader_item_K5, if_true, hm4]
            rw [apO40 _ _ (by simp; omega), bind_some', hop, bind_some', bind_some']
            simp only [ocase_nn]
            have := kids_pairs hb hmv hac (by omega) (((5 : Nat) : Int), 0, [], 0) (b.length + 1) 0 n.toNat j out [] op none h5 (by simp; omega) (by omega) h3 hn (by omega) (by simp)
            rw [hnn] at this
            have this : run b (loop (F.cbor_Parse_L2 b) ((j : Int), out ++ [(((5 : Nat) : Int), 0, [], 0)], op ++ [((out.length : Int), ((5 : Nat) : Int), n, false, (j : Int), none)])) = _ := this
            rw [this]
            have hv : vlast b none = none := rfl
            rw [hv]
            cases hl : pairsD rec b (b.length + 1) n.toNat none j with
            | error e => rfl
            | ok y =>
              obtain ⟨k, is⟩ := y
              simp only [Nat.zero_add, List.nil_append]
              rw [show ((2 * n.toNat : Nat) : Int) = 2 * (n.toNat : Int) by simp]
              rfl
          · have hm6 : m = 6 := by omega
            subst hm6
            have e6 : (((6 : Nat) : Int) == 6) = true := by decide
            simp only [e6, if_true, F.cbor_reader_item_K5, hm4, hm5, if_false]
            rw [apO40 _ _ (by simp; omega), bind_some', hop1, bind_some', bind_some']
            simp only [ocase_nn]
            have := kids_list hb hmv hac (by omega) ((6 : Nat) : Int) (by decide) (((6 : Nat) : Int), n, [], 0) false (j : Int) none (b.length + 1) 0 1 j out [] op h5 (by simp; omega) (by omega) h3 (by omega) (by omega) (by omega)
            have this : run b (loop (F.cbor_Parse_L2 b) ((j : Int), out ++ [(((6 : Nat) : Int), n, [], 0)], op ++ [((out.length : Int), ((6 : Nat) : Int), (1 : UInt64), false, (j : Int), none)])) = _ := this
            rw [this, listD]
            cases hl : rec j with
            | error e => rfl
            | ok y =>
              obtain ⟨k, is⟩ := y
              simp only
              cases hbl : b.length with
              | zero => simp only [listD, List.append_nil, List.nil_append]; rfl
              | succ q => simp only [listD, List.append_nil, List.nil_append]; rfl
    · rw [if_neg hcon]
      by_cases hstr : m = 2 ∨ m = 3
      · rw [if_pos hstr]
        have n0 : ((m : Int) == 0) = false := by simp; omega
        have n1 : ((m : Int) == 1) = false := by simp; omega
        have n7 : ((m : Int) == 7) = false := by simp; omega
        have hK3 : (if ((m : Int) == 2) = true then F.cbor_reader_item_K3 b (i : Int) ((m : Int), n, none, (j : Int), out, op) ((m : Int) == 2) else F.cbor_reader_item_K3 b (i : Int) ((m : Int), n, none, (j : Int), out, op) ((m : Int) == 3)) =
            F.cbor_reader_item_K3 b (i : Int) ((m : Int), n, none, (j : Int), out, op) true := by
          rcases hstr with h | h <;> subst h <;> rfl
        simp only [n0, n1, n7, Bool.false_eq_true, if_false, F.cbor_reader_item_K2, hK3]
        simp only [F.cbor_reader_item_K3, if_true]
        have e1 : wI ((b.length : Int) - (j : Int)) = ((b.length - j : Nat) : Int) := by rw [wI_in (by omega) (by omega)]; omega
        have e2 : (UInt64.ofNat (b.length - j)).toNat = b.length - j := by simp; omega
        rw [e1, ofInt64]
        by_cases hlen : b.length - j < n.toNat
        · have d1 : decide (UInt64.ofNat (b.length - j) < n) = true := by simp only [decide_eq_true_eq, UInt64.lt_iff_toNat_lt, e2]; exact hlen
          simp only [d1, if_true, hlen, bind_some', ocase_ss]
          rfl
        · have d1 : decide (UInt64.ofNat (b.length - j) < n) = false := by simp only [decide_eq_false_iff_not, UInt64.lt_iff_toNat_lt, e2]; omega
          have e3 : wI (n.toNat : Int) = (n.toNat : Int) := wI_in (by omega) (by omega)
          have e4 : wI ((j : Int) + (n.toNat : Int)) = ((j + n.toNat : Nat) : Int) := by rw [wI_in (by omega) (by omega)]; simp
          simp only [d1, Bool.false_eq_true, if_false, hlen, e3, e4]
          rw [slO_ok (by omega) (by omega), bind_some']
          have hpt : (b.drop j).take (j + n.toNat - j) = part b j (j + n.toNat) := rfl
          rw [hpt]
          have hpl : (part b j (j + n.toNat)).length ≤ b.length := by simp [part]; omega
          have hK4 : F.cbor_reader_item_K4 (i : Int) ((m : Int), n, none, (j : Int), out, op) (part b j (j + n.toNat)) b false = F.cbor_reader_item_K1 b ((m : Int), n, none, (j : Int), out, op) (((j + n.toNat : Nat) : Int), 0, part b j (j + n.toNat)) := by
            simp only [F.cbor_reader_item_K4, Bool.false_eq_true, if_false, e3, e4]
          by_cases hm3 : m = 3
          · subst hm3
            have e5 : (((3 : Nat) : Int) == 3) = true := by decide
            have hv : F.unicode_utf8_ValidString (part b j (j + n.toNat)) = some (Lib.validD (part b j (j + n.toNat))) := if_pos (by omega)
            simp only [e5, if_true, hv, bind_some', true_and]
            cases Lib.validD (part b j (j + n.toNat)) with
            | false =>
              simp only [Bool.not_false, F.cbor_reader_item_K4, if_true, bind_some', ocase_ss]
              rfl
            | true =>
              simp only [Bool.not_true, hK4, Bool.true_eq_false, if_false]
              exact leaf _ _ _
          · have e5 : ((m : Int) == 3) = false := by simp; omega
            simp only [e5, Bool.false_eq_true, if_false, hK4, leaf, hm3, false_and]
      · rw [if_neg hstr]
        have hm017 : m = 0 ∨ m = 1 ∨ m = 7 := by omega
        have hK2 : (if ((m : Int) == 0) = true then F.cbor_reader_item_K2 ((m : Int), n, none, (j : Int), out, op) b (i : Int) ((m : Int) == 0) else if ((m : Int) == 1) = true then F.cbor_reader_item_K2 ((m : Int), n, none, (j : Int), out, op) b (i : Int) ((m : Int) == 1) else F.cbor_reader_item_K2 ((m : Int), n, none, (j : Int), out, op) b (i : Int) ((m : Int) == 7)) =
            F.cbor_reader_item_K2 ((m : Int), n, none, (j : Int), out, op) b (i : Int) true := by
          rcases hm017 with h | h | h <;> subst h <;> rfl
        rw [hK2]
        simp only [F.cbor_reader_item_K2, if_true, leaf]

theorem act_itemD (hb : b.length ≤ 65536) : ∀ d, d ≤ 32 → Act b (32 - d) (itemD d b)
  | 0, hd => act_item hb 0 hd none (by simp) (by simp) (by simp)
  | d + 1, hd => by
    refine act_item hb (d + 1) hd (some (itemD d b)) (by intro rec h; cases h; exact itemD_moves b d) (by simp) ?_
    intro rec h
    cases h
    have := act_itemD hb d (by omega)
    rw [show 32 - (d + 1) + 1 = 32 - d by omega]
    exact this

/-- The program's Parse. -/
theorem parse_eq (b : List UInt8) : F.cbor_Parse b = some (parseD b) := by
  unfold F.cbor_Parse parseD
  by_cases hb : 65536 < b.length
  · have : decide ((65536 : Int) < (b.length : Int)) = true := by simp; omega
    simp only [this, if_true, hb]
  · have d1 : decide ((65536 : Int) < (b.length : Int)) = false := by simp; omega
    simp only [d1, Bool.false_eq_true, if_false, hb]
    have := act_itemD (b := b) (by omega) 32 (by omega) 0 [] [] (by omega) (by simp) (by simp)
    have this : loop (F.cbor_Parse_L1 b) (0, [], []) = _ := this
    rw [this]
    cases hx : itemD 32 b 0 with
    | error e => rfl
    | ok y =>
      obtain ⟨j, is⟩ := y
      simp only [List.nil_append]
      rw [done_nil, L2_end]
end
end Go.Gk.Cb
