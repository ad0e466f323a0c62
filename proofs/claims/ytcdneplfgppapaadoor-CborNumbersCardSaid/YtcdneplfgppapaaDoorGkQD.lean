import Derived.Test.YtcdneplfgppapaaDoorGkQ6
import Derived.Test.YtcdneplfgppapaaDoorGkQ5
import Derived.KernelRfl
set_option linter.unusedVariables false
set_option linter.unusedSimpArgs false

section
set_option linter.unusedSimpArgs false
set_option linter.unusedVariables false
namespace Go.Gk.Cb
open Go Go.Gk
def Small (b : List UInt8) (rd : Rd) : Prop := ∀ i j is, i ≤ b.length → rd i = .ok (j, is) → ∀ x ∈ is, x.2.2.1.length ≤ b.length ∧ x.2.2.2 ≤ 2 * (b.length : Int)
def Neat (v : List It) : Prop := wt v ≤ 5000000000 ∧ (∀ x ∈ v, x.2.2.2 ≤ 131072) ∧ (∀ x ∈ v, x.2.2.1.length ≤ 65536)
theorem Neat.wt {v : List It} (h : Neat v) : wt v ≤ 4000000000000 := by have := h.1; omega
theorem item_of_enc {v : List It} {d j : Nat} {t : List UInt8} (hK : Kd v) (hB : ∀ x ∈ v, x.2.2.1.length < 18446744073709551616) (h : encD d v 0 = some (t, j)) : itemD d t 0 = .ok (t.length, v.take j) := by
  have := encD_wt v hK hB d 0 t j [] [] h
  simpa [seg] using this
theorem parse_printed {v : List It} {t : List UInt8} (hK : Kd v) (hB : ∀ x ∈ v, x.2.2.1.length < 18446744073709551616) (h : printD v = (t, 0)) : parseD t = (v, 0, 0) ∧ t.length ≤ 65536 := by
  unfold printD at h
  cases h1 : encD 32 v 0 with
  | none => rw [h1] at h; cases h
  | some a =>
    obtain ⟨u, j⟩ := a
    rw [h1] at h
    simp only at h
    split at h
    · rename_i hj
      split at h
      · cases h
      · cases h
        have h2 := item_of_enc hK hB h1
        rw [hj, List.take_length] at h2
        refine ⟨?_, by omega⟩
        unfold parseD
        rw [if_neg (by omega), h2]
        simp
    · cases h
end Go.Gk.Cb
end

section
set_option linter.unusedSimpArgs false
set_option linter.unusedVariables false
namespace Go.Gk.Cb
open Go Go.Gk
def Beh (v : List It) (f : Int × Int → Option ((Int × Int) ⊕ Int)) (wr : Wr) (N : Nat) : Prop :=
  ∀ i t j (n : Nat), wr i = some (t, j) → n ≤ N → loop f ((i : Int), ((n + 1 : Nat) : Int)) = loop f ((j : Int), (n : Int))
def StepB (v : List It) (f : Int × Int → Option ((Int × Int) ⊕ Int)) : Prop :=
  ∀ (i n k : Nat) (hi : i < v.length), v[i].2.2.2 = (k : Int) → n + k ≤ 1000000000000000000 → i ≤ 1000000000000000000 → f ((i : Int), ((n + 1 : Nat) : Int)) = some (.inl (((i + 1 : Nat) : Int), ((n + k : Nat) : Int)))
theorem step_cbor (v : List It) : StepB v (F.cbor_behind_L1 v) := by
  intro i n k hi hk h1 h2
  have hd : decide ((0 : Int) < ((n + 1 : Nat) : Int)) = true := by simp only [decide_eq_true_eq]; omega
  simp only [F.cbor_behind_L1, hd, if_true, getO_lt hi, bind_some', olet_eq, hk]
  have e1 : wI ((k : Int) - 1) = (k : Int) - 1 := wI_in (by omega) (by omega)
  have e2 : wI (((n + 1 : Nat) : Int) + ((k : Int) - 1)) = ((n + k : Nat) : Int) := by rw [wI_in (by omega) (by omega)]; omega
  have e3 : wI ((i : Int) + 1) = ((i + 1 : Nat) : Int) := by rw [wI_in (by omega) (by omega)]; simp
  rw [e1, e2, e3]; rfl
theorem kids_beh {v : List It} {f : Int × Int → Option ((Int × Int) ⊕ Int)} {wr : Wr} {N : Nat} (hp : Put v wr) (h : Beh v f wr N) (pr : Bool) : ∀ (r : Nat) (key : Bool) (last : Option (List UInt8)) (i : Nat) (t : List UInt8) (j n : Nat),
    kidsE wr pr r key last i = some (t, j) → n + r ≤ N → loop f ((i : Int), ((n + r : Nat) : Int)) = loop f ((j : Int), (n : Int))
  | 0, key, last, i, t, j, n, h1, h2 => by
    simp only [kidsE] at h1; cases h1; rfl
  | r + 1, key, last, i, t, j, n, h1, h2 => by
    simp only [kidsE] at h1
    cases h3 : wr i with
    | none => rw [h3] at h1; cases h1
    | some a =>
      obtain ⟨t1, j1⟩ := a
      rw [h3] at h1
      simp only at h1
      split at h1
      · cases h1
      · cases h4 : kidsE wr pr r (!key) (if (pr && key) = true then some t1 else last) j1 with
        | none => rw [h4] at h1; cases h1
        | some b =>
          obtain ⟨u, k⟩ := b
          rw [h4] at h1
          cases h1
          rw [show n + (r + 1) = (n + r) + 1 by omega, h i t1 j1 (n + r) h3 (by omega)]
          exact kids_beh hp h pr r _ _ j1 u j n h4 (by omega)
theorem fit_kids {x : It} (h : fitE x) : 0 ≤ x.2.2.2 ∧ (¬ (x.1 = 4 ∨ x.1 = 5 ∨ x.1 = 6) → x.2.2.2 = 0) := by
  obtain ⟨m, n, d, k⟩ := x
  simp only
  rcases major_cases m with hm | hm | rfl | rfl | rfl | rfl | rfl | rfl | rfl | rfl <;> first
    | (exfalso; revert h; unfold fitE; simp only; rw [if_neg (by omega), if_neg (by omega), if_neg (by omega), if_neg (by omega), if_neg (by omega), if_neg (by omega), if_neg (by omega)]; simp; done)
    | (simp [fitE] at h; omega)
theorem item_beh {v : List It} {f : Int × Int → Option ((Int × Int) ⊕ Int)} {sub : Option Wr} {N : Nat} (hs : StepB v f) (hv : v.length ≤ 1000000000000000) (hN : N + v.length ≤ 1000000000000000000)
    (h : ∀ wr, sub = some wr → Put v wr ∧ Beh v f wr (N + v.length)) : Beh v f (itemE v sub) N := by
  intro i t j n h1 hn
  unfold itemE at h1
  cases hx : v[i]? with
  | none => rw [hx] at h1; cases h1
  | some x =>
    rw [hx] at h1
    obtain ⟨hi, hvx⟩ := List.getElem?_eq_some_iff.1 hx
    simp only at h1
    split at h1
    · cases h1
    · rename_i hf
      obtain ⟨k0, kz⟩ := fit_kids (Classical.not_not.1 hf)
      obtain ⟨k, hk⟩ := Int.eq_ofNat_of_zero_le k0
      split at h1
      · cases sub with
        | none => cases h1
        | some wr =>
          obtain ⟨hp, hb⟩ := h wr rfl
          simp only at h1
          cases h2 : kidsE wr (x.1 == 5) x.2.2.2.toNat true none (i + 1) with
          | none => rw [h2] at h1; cases h1
          | some a =>
            obtain ⟨u, j1⟩ := a
            rw [h2] at h1
            cases h1
            rw [hk, Int.toNat_natCast] at h2
            have m5 := kidsE_put hp _ _ _ _ _ _ _ (by omega) h2
            rw [loop_inl (hs i n k hi (by rw [hvx]; exact hk) (by omega) (by omega))]
            exact kids_beh hp hb _ k true none (i + 1) u j n h2 (by omega)
      · rename_i hkind
        cases h1
        have : k = 0 := by have := kz hkind; omega
        subst this
        rw [loop_inl (hs i n 0 hi (by rw [hvx]; exact hk) (by omega) (by omega))]
        rfl
theorem encD_beh {v : List It} {f : Int × Int → Option ((Int × Int) ⊕ Int)} (hs : StepB v f) (hv : v.length ≤ 1000000000000000) : ∀ (d N : Nat), N + (d + 1) * v.length ≤ 1000000000000000000 → Beh v f (encD d v) N
  | 0, N, h => item_beh hs hv (by omega) (by simp)
  | d + 1, N, h => by
    rw [Nat.add_mul] at h
    refine item_beh hs hv (by omega) (fun wr hw => ?_)
    cases hw
    exact ⟨encD_put v d, encD_beh hs hv d (N + v.length) (by omega)⟩
theorem behind_cbor {v : List It} {d i j : Nat} {t : List UInt8} (hv : v.length ≤ 1000000000000000) (hd : d ≤ 32) (h : encD d v i = some (t, j)) : F.cbor_behind v (i : Int) = some (j : Int) := by
  have hm : (d + 1) * v.length ≤ 33 * v.length := Nat.mul_le_mul_right _ (by omega)
  have := encD_beh (step_cbor v) hv d 0 (by omega) i t j 0 h (by omega)
  unfold F.cbor_behind
  rw [show ((1 : Int)) = ((0 + 1 : Nat) : Int) from rfl, this]
  exact loop_inr rfl
def Inn (v : List It) (D : Nat) (wr : Wr) : Prop := ∀ i t j a, wr i = some (t, j) → i ≤ a → a < j → ∃ d t' k, d ≤ D ∧ encD d v a = some (t', k) ∧ k ≤ j
def memE (v : List It) (wr : Wr) (key : List It) : Nat → Nat → Int
  | 0, _ => -1
  | r + 1, i => match wr i with
    | none => -1
    | some (_, j) => if seg v i j = key then (j : Int) else match wr j with
      | none => -1
      | some (_, k) => memE v wr key r k
theorem same_gen {τ : Type} [DecidableEq τ] {f : Int → Option (Int ⊕ Bool)} {a b : List τ} {m : Nat} (hm : m ≤ a.length) (hm2 : m ≤ b.length) (hb : m < 9223372036854775807) (R : Bool)
    (hend : f (m : Int) = some (.inr R)) (hstep : ∀ i : Nat, (h : i < m) → f (i : Int) = some (if a[i] = b[i] then .inl (((i + 1 : Nat)) : Int) else .inr false)) :
    loop f 0 = some (if a.take m = b.take m then R else false) := by
  have key : ∀ k i, m - i = k → i ≤ m → a.take i = b.take i → loop f (i : Int) = some (if a.take m = b.take m then R else false) := by
    intro k
    induction k with
    | zero =>
      intro i h1 h2 h3
      have : i = m := by omega
      subst this
      rw [loop_inr hend, if_pos h3]
    | succ k ih =>
      intro i h1 h2 h3
      have hi : i < m := by omega
      have hs := hstep i hi
      by_cases he : a[i] = b[i]
      · rw [if_pos he] at hs
        rw [loop_inl hs]
        refine ih (i + 1) (by omega) (by omega) ?_
        rw [List.take_succ_eq_append_getElem (by omega), List.take_succ_eq_append_getElem (by omega), h3, he]
      · rw [if_neg he] at hs
        rw [loop_inr hs, if_neg]
        intro h4
        apply he
        have := congrArg (fun l => l[i]?) h4
        simp only [List.getElem?_take, if_pos hi] at this
        rw [List.getElem?_eq_getElem (by omega), List.getElem?_eq_getElem (by omega)] at this
        exact Option.some.inj this
  exact key m 0 (by omega) (by omega) (by simp)
theorem same_cbor (a b : List It) (ha : a.length < 9223372036854775807) : F.cbor_same a b = some (a == b) := by
  unfold F.cbor_same
  have hmin : (min (a.length : Int) (b.length : Int)) = ((min a.length b.length : Nat) : Int) := by omega
  rw [same_gen (a := a) (b := b) (m := min a.length b.length) (by omega) (by omega) (by omega) ((a.length : Int) == (b.length : Int))]
  · congr 1
    by_cases hl : a.length = b.length
    · rw [hl]
      simp only [Nat.min_self, beq_self_eq_true]
      rw [List.take_of_length_le (by omega), List.take_of_length_le (by omega)]
      by_cases h : a = b <;> simp [h]
    · have h1 : ((a.length : Int) == (b.length : Int)) = false := by simp; omega
      have h2 : a ≠ b := fun h => hl (by rw [h])
      simp [h1, h2]
  · simp only [F.cbor_same_L1, hmin]
    simp only [Int.lt_irrefl, decide_false, Bool.false_eq_true, if_false]; rfl
  · intro i hi
    have hd : decide ((i : Int) < ((min a.length b.length : Nat) : Int)) = true := by simp; omega
    have e3 : wI ((i : Int) + 1) = ((i + 1 : Nat) : Int) := by rw [wI_in (by omega) (by omega)]; simp
    have hia : i < a.length := by omega
    have hib : i < b.length := by omega
    simp only [F.cbor_same_L1, hmin, hd, if_true, getO_lt hia, getO_lt hib, bind_some', e3]
    by_cases he : a[i] = b[i]
    · rw [if_pos he, he]; simp only [bne_self_eq_false, Bool.false_eq_true, if_false]; rfl
    · have : (a[i] != b[i]) = true := by simpa using he
      simp only [this, if_true, if_neg he]; rfl
section
variable {v : List It} {d : Nat}
theorem slO_seg {i j : Nat} (h : i ≤ j) (h2 : j ≤ v.length) : slO v (i : Int) (j : Int) = some (seg v i j) := slO_ok h h2
theorem member_cbor (hv : v.length ≤ 1000000000000000) (hd : d ≤ 32) (key : List It) (x : It) (K : Nat) (hx : wI (Int.tdiv x.2.2.2 2) = (K : Int)) (hK9 : K ≤ 4611686018427387904) : ∀ (r c i : Nat) (last : Option (List UInt8)) (t : List UInt8) (j : Nat),
    kidsE (encD d v) true (2 * r) true last i = some (t, j) → c + r = K → i ≤ v.length → loop (F.cbor_Member_L1 v key x) ((i : Int), (c : Int)) = some (memE v (encD d v) key r i)
  | 0, c, i, last, t, j, h1, h2, h3 => by
    refine loop_inr ?_
    have : decide ((c : Int) < (K : Int)) = false := by simp; omega
    simp only [F.cbor_Member_L1, hx, this, Bool.false_eq_true, if_false, memE]; rfl
  | r + 1, c, i, last, t, j, h1, h2, h3 => by
    rw [show 2 * (r + 1) = 2 * r + 1 + 1 by omega] at h1
    simp only [kidsE] at h1
    cases h4 : encD d v i with
    | none => rw [h4] at h1; cases h1
    | some a =>
      obtain ⟨t1, j1⟩ := a
      rw [h4] at h1
      obtain ⟨m1, m2, m3⟩ := encD_put v d i t1 j1 h4
      simp only [Bool.true_and, Bool.not_true, Bool.false_and, Bool.and_false, Bool.false_eq_true, if_false, if_true] at h1
      split at h1
      · cases h1
      · cases h5 : encD d v j1 with
        | none => rw [h5] at h1; cases h1
        | some b =>
          obtain ⟨t2, j2⟩ := b
          rw [h5] at h1
          obtain ⟨m4, m5, m6⟩ := encD_put v d j1 t2 j2 h5
          simp only [Bool.not_false] at h1
          cases h6 : kidsE (encD d v) true (2 * r) true (some t1) j2 with
          | none => rw [h6] at h1; cases h1
          | some e =>
            obtain ⟨u, k⟩ := e
            have hlt : decide ((c : Int) < (K : Int)) = true := by simp; omega
            have e1 := behind_cbor hv hd h4
            have e2 := behind_cbor hv hd h5
            have hsl := slO_seg (v := v) (i := i) (j := j1) (by omega) (by omega)
            have hlen : (seg v i j1).length < 9223372036854775807 := by simp [seg]; omega
            have hc1 : wI ((c : Int) + 1) = ((c + 1 : Nat) : Int) := by rw [wI_in (by omega) (by omega)]; simp
            simp only [memE, h4, h5]
            by_cases hk : seg v i j1 = key
            · refine loop_inr ?_
              have hb : (seg v i j1 == key) = true := by simpa using hk
              simp only [F.cbor_Member_L1, hx, hlt, if_true, e1, bind_some', hsl, same_cbor _ _ hlen, hb, if_pos hk]; rfl
            · have hb : (seg v i j1 == key) = false := by simpa using hk
              have hs : F.cbor_Member_L1 v key x ((i : Int), (c : Int)) = some (.inl ((j2 : Int), ((c + 1 : Nat) : Int))) := by
                simp only [F.cbor_Member_L1, hx, hlt, if_true, e1, bind_some', hsl, same_cbor _ _ hlen, hb, Bool.false_eq_true, if_false, e2, hc1]; rfl
              rw [loop_inl hs, if_neg hk]
              exact member_cbor hv hd key x K hx hK9 r (c + 1) j2 _ u k h6 (by omega) m5
end
end Go.Gk.Cb
end

section
set_option linter.unusedSimpArgs false
set_option linter.unusedVariables false
namespace Go.Gk.Cb
open Go Go.Gk
theorem p1 : parseD [161, 97, 97, 130, 1, 245] = ([(5, 0, [], 2), (3, 0, [97], 0), (4, 0, [], 2), (0, 1, [], 0), (7, 21, [], 0)], 0, 0) := by kernel_rfl
theorem p2 : printD [(4, 0, [], 2), (1, 99, [], 0), (2, 0, [120, 121], 0)] = ([130, 56, 99, 66, 120, 121], 0) := by kernel_rfl
theorem p3 : parseD [130, 24, 23, 0] = ([], 220, 1) := by kernel_rfl
theorem p4 : shapedD [(5, 0, [], 2), (3, 0, [97], 0), (4, 0, [], 2), (0, 1, [], 0), (7, 21, [], 0)] = true := by kernel_rfl
theorem p5 : encD 31 [(5, 0, [], 2), (3, 0, [97], 0), (4, 0, [], 2), (0, 1, [], 0), (7, 21, [], 0)] 1 = some ([97, 97], 2) := by kernel_rfl
theorem p6 : encD 31 [(5, 0, [], 2), (3, 0, [97], 0), (4, 0, [], 2), (0, 1, [], 0), (7, 21, [], 0)] 2 = some ([130, 1, 245], 5) := by kernel_rfl
theorem awake_eq : F.law30_awake = some true := by
  have hm : F.cbor_Member [(5, 0, [], 2), (3, 0, [97], 0), (4, 0, [], 2), (0, 1, [], 0), (7, 21, [], 0)] 0 ([(3, 0, [97], 0)] : List It) = some 2 := by
    have hK : Kd [(5, 0, [], 2), (3, 0, [97], 0), (4, 0, [], 2), (0, 1, [], 0), (7, 21, [], 0)] := by intro x hx; simp at hx; rcases hx with rfl | rfl | rfl | rfl | rfl <;> simp
    have hw : wt [(5, 0, [], 2), (3, 0, [97], 0), (4, 0, [], 2), (0, 1, [], 0), (7, 21, [], 0)] ≤ 4000000000000 := by simp [wt]
    have hkids : ∃ u, kidsE (encD 31 [(5, 0, [], 2), (3, 0, [97], 0), (4, 0, [], 2), (0, 1, [], 0), (7, 21, [], 0)]) true (2 * 1) true none 1 = some (u, 5) := by
      refine ⟨[97, 97] ++ ([130, 1, 245] ++ []), ?_⟩
      simp [kidsE, p5, p6, keyOk]
    obtain ⟨u, hu⟩ := hkids
    have hmem := member_cbor (v := [(5, 0, [], 2), (3, 0, [97], 0), (4, 0, [], 2), (0, 1, [], 0), (7, 21, [], 0)]) (d := 31) (by simp) (by omega) [(3, 0, [97], 0)] (5, 0, [], 2) 1 rfl (by omega) 1 0 1 none u 5 hu rfl (by simp)
    have hval : memE [(5, 0, [], 2), (3, 0, [97], 0), (4, 0, [], 2), (0, 1, [], 0), (7, 21, [], 0)] (encD 31 [(5, 0, [], 2), (3, 0, [97], 0), (4, 0, [], 2), (0, 1, [], 0), (7, 21, [], 0)]) [(3, 0, [97], 0)] 1 1 = 2 := by
      simp [memE, p5, seg]
    rw [hval] at hmem
    unfold F.cbor_Member
    rw [shaped_eq hw hK, p4]
    simp only [getO_lit0, bind_some', Bool.not_true]
    simp only [show decide ((0 : Int) < 0) = false from rfl, Bool.false_eq_true, if_false, F.cbor_Member_K1, getO_lit0, bind_some']
    rw [if_neg (by simp), if_neg (by simp)]
    exact hmem
  have hw2 : wt [(4, 0, [], 2), (1, 99, [], 0), (2, 0, [120, 121], 0)] ≤ 4000000000000 := by simp [wt]
  have hK2 : Kd [(4, 0, [], 2), (1, 99, [], 0), (2, 0, [120, 121], 0)] := by intro x hx; simp at hx; rcases hx with rfl | rfl | rfl <;> simp
  unfold F.law30_awake
  rw [parse_eq, parse_eq, print_eq hw2 hK2, p1, p2, p3]
  simp only [bind_some', bne_self_eq_false, Bool.false_eq_true, if_false, F.law30_awake_K1, getO_lit1]
  rw [if_neg (by simp)]
  rw [show getO ([(5, 0, [], 2), (3, 0, [97], 0), (4, 0, [], 2), (0, 1, [], 0), (7, 21, [], 0)] : List It) (4 : Int) = some (7, 21, [], 0) from rfl]
  simp only [bind_some', bne_self_eq_false, Bool.false_eq_true, if_false, hm]
  rw [sameB_eq _ _ (by simp)]
  simp [bind_some']
theorem not_true_f : (!true) = false := rfl
end Go.Gk.Cb
end

section
set_option linter.unusedSimpArgs false
set_option linter.unusedVariables false
namespace Go.Gk.Cb
open Go Go.Gk
theorem mod24 (n : UInt64) (h : wd n = 0) : n % 24 = n := by
  apply UInt64.toNat_inj.1
  rw [UInt64.toNat_mod]
  exact Nat.mod_eq_of_lt (wd0 h)
def headedD (m : Nat) (n : UInt64) (k : Nat) : List UInt8 := if k = 0 then [UInt8.ofNat (32 * m) + (n % 24).toUInt8] else UInt8.ofNat (32 * m + 24 + lg k) :: be k n
theorem first_law : ∀ (m : Fin 8) (k : Fin 24), UInt8.ofInt (wI (32 * (m.val : Int))) = UInt8.ofNat (32 * m.val) := by decide
theorem headed_eq (m : Nat) (hm : m < 8) (n : UInt64) (k : Nat) (hk : k = 0 ∨ k = 1 ∨ k = 2 ∨ k = 4 ∨ k = 8) : F.law30_headed (m : Int) n (k : Int) = some (headedD m n k) := by
  unfold F.law30_headed headedD
  rcases hk with rfl | rfl | rfl | rfl | rfl
  · have := first_law ⟨m, hm⟩ 0
    simp only at this
    simp [this]
  · simp only [show (((1 : Nat) : Int) == 0) = false from rfl, Bool.false_eq_true, if_false, show ¬ (1 = 0) by omega]
    have s0 : F.law30_headed_L1 (m : Int) ((1 : Nat) : Int) n (24, 1) = some (.inr (UInt8.ofNat (32 * m + 24 + 0) :: be 1 n)) := by
      have := lawL2 n 1 [UInt8.ofInt (wI (wI (32 * (m : Int)) + 24))] (by omega) (by simp)
      have e := first_ref ⟨m, hm⟩ 0
      simp only [F.law30_headed_L1, show decide ((1 : Int) < ((1 : Nat) : Int)) = false from rfl, Bool.false_eq_true, if_false]
      rw [show wI (((1 : Nat) : Int) - 1) = ((1 : Nat) : Int) - 1 from rfl, this]
      simp only [show (24 + (((0 : Fin 4).val : Nat) : Int)) = 24 from rfl] at e
      simp only [oinr, e]; rfl
    rw [loop_inr s0]; rfl
  · simp only [show (((2 : Nat) : Int) == 0) = false from rfl, Bool.false_eq_true, if_false, show ¬ (2 = 0) by omega]
    have s0 : F.law30_headed_L1 (m : Int) ((2 : Nat) : Int) n (24, 1) = some (.inl (25, 2)) := rfl
    have s1 : F.law30_headed_L1 (m : Int) ((2 : Nat) : Int) n (25, 2) = some (.inr (UInt8.ofNat (32 * m + 24 + 1) :: be 2 n)) := by
      have := lawL2 n 2 [UInt8.ofInt (wI (wI (32 * (m : Int)) + 25))] (by omega) (by simp)
      have e := first_ref ⟨m, hm⟩ 1
      simp only [F.law30_headed_L1, show decide ((2 : Int) < ((2 : Nat) : Int)) = false from rfl, Bool.false_eq_true, if_false]
      rw [show wI (((2 : Nat) : Int) - 1) = ((2 : Nat) : Int) - 1 from rfl, this]
      simp only [show (24 + (((1 : Fin 4).val : Nat) : Int)) = 25 from rfl] at e
      simp only [oinr, e]; rfl
    rw [loop_inl s0, loop_inr s1]; rfl
  · simp only [show (((4 : Nat) : Int) == 0) = false from rfl, Bool.false_eq_true, if_false, show ¬ (4 = 0) by omega]
    have s0 : F.law30_headed_L1 (m : Int) ((4 : Nat) : Int) n (24, 1) = some (.inl (25, 2)) := rfl
    have s1 : F.law30_headed_L1 (m : Int) ((4 : Nat) : Int) n (25, 2) = some (.inl (26, 4)) := rfl
    have s2 : F.law30_headed_L1 (m : Int) ((4 : Nat) : Int) n (26, 4) = some (.inr (UInt8.ofNat (32 * m + 24 + 2) :: be 4 n)) := by
      have := lawL2 n 4 [UInt8.ofInt (wI (wI (32 * (m : Int)) + 26))] (by omega) (by simp)
      have e := first_ref ⟨m, hm⟩ 2
      simp only [F.law30_headed_L1, show decide ((4 : Int) < ((4 : Nat) : Int)) = false from rfl, Bool.false_eq_true, if_false]
      rw [show wI (((4 : Nat) : Int) - 1) = ((4 : Nat) : Int) - 1 from rfl, this]
      simp only [show (24 + (((2 : Fin 4).val : Nat) : Int)) = 26 from rfl] at e
      simp only [oinr, e]; rfl
    rw [loop_inl s0, loop_inl s1, loop_inr s2]; rfl
  · simp only [show (((8 : Nat) : Int) == 0) = false from rfl, Bool.false_eq_true, if_false, show ¬ (8 = 0) by omega]
    have s0 : F.law30_headed_L1 (m : Int) ((8 : Nat) : Int) n (24, 1) = some (.inl (25, 2)) := rfl
    have s1 : F.law30_headed_L1 (m : Int) ((8 : Nat) : Int) n (25, 2) = some (.inl (26, 4)) := rfl
    have s2 : F.law30_headed_L1 (m : Int) ((8 : Nat) : Int) n (26, 4) = some (.inl (27, 8)) := rfl
    have s3 : F.law30_headed_L1 (m : Int) ((8 : Nat) : Int) n (27, 8) = some (.inr (UInt8.ofNat (32 * m + 24 + 3) :: be 8 n)) := by
      have := lawL2 n 8 [UInt8.ofInt (wI (wI (32 * (m : Int)) + 27))] (by omega) (by simp)
      have e := first_ref ⟨m, hm⟩ 3
      simp only [F.law30_headed_L1, show decide ((8 : Int) < ((8 : Nat) : Int)) = false from rfl, Bool.false_eq_true, if_false]
      rw [show wI (((8 : Nat) : Int) - 1) = ((8 : Nat) : Int) - 1 from rfl, this]
      simp only [show (24 + (((3 : Fin 4).val : Nat) : Int)) = 27 from rfl] at e
      simp only [oinr, e]; rfl
    rw [loop_inl s0, loop_inl s1, loop_inl s2, loop_inr s3]; rfl
theorem headedD_wd (m : Nat) (n : UInt64) : headedD m n (wd n) = hd m n := by
  unfold headedD hd
  split
  · rename_i h; rw [mod24 n h]
  · rfl
theorem parse_long (m : Nat) (hm : m < 2) (n : UInt64) (k : Nat) (hk : k = 1 ∨ k = 2 ∨ k = 4 ∨ k = 8) (hw : wd n < k) : parseD (headedD m n k) = ([], 220, 0) := by
  obtain ⟨hlg, hlg3⟩ := two_lg hk
  have hn : n.toNat < 256 ^ k := by
    rcases wd_lt n with h | h
    · have := wd0 h
      have h2 : 256 ^ 1 ≤ 256 ^ k := Nat.pow_le_pow_right (by omega) (by omega)
      omega
    · exact Nat.lt_of_lt_of_le h (Nat.pow_le_pow_right (by omega) (by omega))
  have hh : headedD m n k = UInt8.ofNat (32 * m + 24 + lg k) :: be k n := by unfold headedD; rw [if_neg (by omega)]
  have hc : (UInt8.ofNat (32 * m + 24 + lg k)).toNat = 32 * m + 24 + lg k := by simp; omega
  have h1 : headD (headedD m n k) 0 = .error (220, 0) := by
    rw [hh]
    unfold headD
    simp only [List.getElem?_cons_zero]
    generalize UInt8.ofNat (32 * m + 24 + lg k) = c at hc
    rw [hc, show (32 * m + 24 + lg k) % 32 = 24 + lg k by omega, show (32 * m + 24 + lg k) / 32 = m by omega, if_neg (by omega), if_neg (by omega), show 24 + lg k - 24 = lg k by omega, hlg]
    rw [if_neg (by simp [be_len])]
    have : ((c :: be k n).drop (0 + 1)).take k = be k n := by
      rw [Nat.zero_add, List.drop_succ_cons, List.drop_zero, List.take_of_length_le (by rw [be_len]; omega)]
    rw [this, nbe_be k n (by omega) hn, if_pos (by omega)]
    rfl
  unfold parseD
  rw [if_neg (by rw [hh]; simp [be_len]; omega)]
  have h2 : itemD 32 (headedD m n k) 0 = .error (220, 0) := by
    show itemS _ _ 0 = _
    unfold itemS
    rw [h1]
  rw [h2]
theorem enc_num (m : Nat) (hm : m < 2) (n : UInt64) : encD 32 [((m : Int), n, [], 0)] 0 = some (hd m n, 1) := by
  show itemE _ _ 0 = _
  unfold itemE
  have hf : fitE ((m : Int), n, ([] : List UInt8), 0) := by
    have : m = 0 ∨ m = 1 := by omega
    rcases this with rfl | rfl <;> simp [fitE]
  simp only [List.getElem?_cons_zero]
  rw [if_neg (show ¬ ¬ fitE _ from fun h => h hf), if_neg (show ¬ ((m : Int) = 4 ∨ (m : Int) = 5 ∨ (m : Int) = 6) by omega)]
  have ea : argE ((m : Int), n, ([] : List UInt8), 0) = n := by
    simp only [argE]
    rw [if_neg (show ¬ ((m : Int) = 2 ∨ (m : Int) = 3) by omega), if_neg (show ¬ ((m : Int) = 4) by omega), if_neg (show ¬ ((m : Int) = 5) by omega)]
  rw [ea]
  simp
theorem print_num (m : Nat) (hm : m < 2) (n : UInt64) : printD [((m : Int), n, [], 0)] = (hd m n, 0) := by
  unfold printD
  rw [enc_num m hm n]
  have := hd_len9 m n
  simp only [List.length_singleton, if_true]
  rw [if_neg (by omega)]
theorem kd_one (x : It) (h : x.2.2.2 ≤ 9223372036854775807) : Kd [x] := by intro y hy; obtain rfl := List.mem_singleton.1 hy; exact h
theorem shr_gt (n : UInt64) (k : Nat) (hk : k ≤ 7) : decide ((0 : UInt64) < shr64 n ((UInt64.ofInt (wI (8 * (k : Int)))).toNat)) = decide (256 ^ k ≤ n.toNat) := by
  rw [mul8 k (by omega)]
  have hmin : min (8 * k) 64 = 8 * k := by omega
  have h1 : (shr64 n (8 * k)).toNat = n.toNat / 256 ^ k := by rw [shr64_toNat, hmin, Nat.pow_mul]
  have hp : 0 < 256 ^ k := Nat.pow_pos (by omega)
  congr 1
  rw [UInt64.lt_iff_toNat_lt, h1]
  simp [Nat.div_pos_iff, hp]
theorem CborNumbers_true (n : UInt64) (minus : Bool) : F.law30_CborNumbers n minus = some true := by
  unfold F.law30_CborNumbers
  rw [awake_eq]
  simp only [bind_some', not_true_f, Bool.false_eq_true, if_false]
  have key : ∀ m : Nat, m < 2 → F.law30_CborNumbers_K1 n (m : Int) = some true := by
    intro m hm
    have hpr := print_num m hm n
    have hwl := hd_len m n
    have hK : Kd [((m : Int), n, [], 0)] := kd_one _ (by simp)
    have hw : wt [((m : Int), n, [], 0)] ≤ 4000000000000 := by simp [wt]
    simp only [F.law30_CborNumbers_K1]
    rw [print_eq hw hK, hpr, bind_some']
    -- the lengths, one by one
    have hpp := (parse_printed hK (by intro x hx; obtain rfl := List.mem_singleton.1 hx; simp) hpr).1
    have step : ∀ k : Nat, k = 0 ∨ k = 1 ∨ k = 2 ∨ k = 4 ∨ k = 8 → F.law30_CborNumbers_L2 n (m : Int) (hd m n, 0) (wd n : Int) (k : Int) = some (.inl (if k = 0 then 1 else 2 * (k : Int))) := by
      intro k hk
      have hlong : F.law30_longer (k : Int) = some (if k = 0 then 1 else 2 * (k : Int)) := by
        rcases hk with rfl | rfl | rfl | rfl | rfl <;> rfl
      have hle : decide ((k : Int) ≤ 8) = true := by simp; omega
      have hk5 : ∀ u, F.law30_CborNumbers_K5 (k : Int) u = some (.inl (if k = 0 then 1 else 2 * (k : Int))) := by
        intro u; simp only [F.law30_CborNumbers_K5, hlong, bind_some']; rfl
      simp only [F.law30_CborNumbers_L2, hle, if_true]
      rw [headed_eq m (by omega) n k hk, bind_some', parse_eq, bind_some']
      by_cases h1 : k < wd n
      · have : decide ((k : Int) < (wd n : Int)) = true := by simp; omega
        simp only [this, if_true, hk5]
      · have e1 : decide ((k : Int) < (wd n : Int)) = false := by simp; omega
        simp only [e1, Bool.false_eq_true, if_false]
        by_cases h2 : k = wd n
        · have e2 : ((k : Int) == (wd n : Int)) = true := by simp; omega
          simp only [e2, if_true]
          rw [h2, headedD_wd, sameB_eq _ _ (by have := hd_len9 m n; omega), hpp]
          simp only [bind_some', beq_self_eq_true, not_true_f, Bool.false_eq_true, if_false, bne_self_eq_false]
          rw [sameI_eq _ _ (by simp)]
          simp only [bind_some', beq_self_eq_true, not_true_f, F.law30_CborNumbers_K6, Bool.false_eq_true, if_false]
          rw [← h2]; exact hk5 ()
        · have e2 : ((k : Int) == (wd n : Int)) = false := by simp; omega
          simp only [e2, Bool.false_eq_true, if_false]
          rw [parse_long m hm n k (by omega) (by omega)]
          simp [F.law30_CborNumbers_K7, hk5]
    have hend : F.law30_CborNumbers_K4 n (m : Int) (hd m n, 0) (wd n : Int) false = some true := by
      simp only [F.law30_CborNumbers_K4, Bool.false_eq_true, if_false]
      have s0 := step 0 (by omega)
      have s1 := step 1 (by omega)
      have s2 := step 2 (by omega)
      have s4 := step 4 (by omega)
      have s8 := step 8 (by omega)
      simp only [show ((0 : Nat) : Int) = 0 from rfl, show ((1 : Nat) : Int) = 1 from rfl, show ((2 : Nat) : Int) = 2 from rfl, show ((4 : Nat) : Int) = 4 from rfl, show ((8 : Nat) : Int) = 8 from rfl,
        if_true, show ¬ (1 = 0) by omega, show ¬ (2 = 0) by omega, show ¬ (4 = 0) by omega, show ¬ (8 = 0) by omega, if_false, show (2 * (1 : Int)) = 2 from rfl, show (2 * (2 : Int)) = 4 from rfl, show (2 * (4 : Int)) = 8 from rfl, show (2 * (8 : Int)) = 16 from rfl] at s0 s1 s2 s4 s8
      rw [loop_inl s0, loop_inl s1, loop_inl s2, loop_inl s4, loop_inl s8]
      exact loop_inr rfl
    have hK3f : F.law30_CborNumbers_K3 (hd m n, 0) (wd n : Int) n (m : Int) false = some (.inr true) := by
      simp only [F.law30_CborNumbers_K3, Bool.false_eq_true, if_false, bne_self_eq_false]
      have : (((hd m n).length : Int) != wI (1 + (wd n : Int))) = false := by
        rw [wI_in (by omega) (by have := wd_le n; omega), hwl]; simp
      rw [this, hend]; rfl
    have hK3t : ∀ k : Int, F.law30_CborNumbers_K3 (hd m n, 0) k n (m : Int) true = some (.inl (wI (2 * k))) := by
      intro k; simp only [F.law30_CborNumbers_K3, if_true]; rfl
    have hL1 : ∀ k : Nat, 0 < k → k < 8 → F.law30_CborNumbers_L1 n (hd m n, 0) (m : Int) (k : Int) = F.law30_CborNumbers_K3 (hd m n, 0) (k : Int) n (m : Int) (decide (256 ^ k ≤ n.toNat)) := by
      intro k h1 h2
      have e1 : decide ((0 : Int) < (k : Int)) = true := by simp; omega
      have e2 : decide ((k : Int) < 8) = true := by simp; omega
      simp only [F.law30_CborNumbers_L1, e1, e2, if_true, shr_gt n k (by omega)]
    by_cases h24 : n.toNat < 24
    · have e1 : decide ((24 : UInt64) ≤ n) = false := by
        simp only [decide_eq_false_iff_not, UInt64.le_iff_toNat_le]; simpa using h24
      have hw0 : wd n = 0 := by unfold wd; rw [if_pos (by simp only [UInt64.lt_iff_toNat_lt]; simpa using h24)]
      rw [e1, if_neg (by simp)]
      simp only [F.law30_CborNumbers_K2]
      refine loop_inr ?_
      rw [hw0] at hK3f
      simpa [F.law30_CborNumbers_L1] using hK3f
    · have e1 : decide ((24 : UInt64) ≤ n) = true := by
        simp only [decide_eq_true_eq, UInt64.le_iff_toNat_le]; simpa using h24
      rw [e1, if_pos rfl]
      simp only [F.law30_CborNumbers_K2]
      have l1 := hL1 1 (by omega) (by omega)
      have l2 := hL1 2 (by omega) (by omega)
      have l4 := hL1 4 (by omega) (by omega)
      have hlt := n.toNat_lt
      have c24 : ¬ n < 24 := by simp only [UInt64.lt_iff_toNat_lt]; simpa using h24
      simp only [show ((1 : Nat) : Int) = 1 from rfl, show ((2 : Nat) : Int) = 2 from rfl, show ((4 : Nat) : Int) = 4 from rfl] at l1 l2 l4
      have d1 : n < 256 ↔ n.toNat < 256 := by simp [UInt64.lt_iff_toNat_lt]
      have d2 : n < 65536 ↔ n.toNat < 65536 := by simp [UInt64.lt_iff_toNat_lt]
      have d4 : n < 4294967296 ↔ n.toNat < 4294967296 := by simp [UInt64.lt_iff_toNat_lt]
      by_cases b1 : n.toNat < 256
      · have hw1 : wd n = 1 := by unfold wd; rw [if_neg c24, if_pos (d1.2 b1)]
        rw [hw1] at hK3f
        rw [show decide (256 ^ 1 ≤ n.toNat) = false by simp; omega] at l1
        exact loop_inr (l1.trans hK3f)
      · rw [show decide (256 ^ 1 ≤ n.toNat) = true by simp; omega] at l1
        rw [loop_inl (l1.trans (hK3t 1)), show wI (2 * 1) = 2 from rfl]
        by_cases b2 : n.toNat < 65536
        · have hw1 : wd n = 2 := by unfold wd; rw [if_neg c24, if_neg (fun h => b1 (d1.1 h)), if_pos (d2.2 b2)]
          rw [hw1] at hK3f
          rw [show decide (256 ^ 2 ≤ n.toNat) = false by simp; omega] at l2
          exact loop_inr (l2.trans hK3f)
        · rw [show decide (256 ^ 2 ≤ n.toNat) = true by simp; omega] at l2
          rw [loop_inl (l2.trans (hK3t 2)), show wI (2 * 2) = 4 from rfl]
          by_cases b4 : n.toNat < 4294967296
          · have hw1 : wd n = 4 := by unfold wd; rw [if_neg c24, if_neg (fun h => b1 (d1.1 h)), if_neg (fun h => b2 (d2.1 h)), if_pos (d4.2 b4)]
            rw [hw1] at hK3f
            rw [show decide (256 ^ 4 ≤ n.toNat) = false by simp; omega] at l4
            exact loop_inr (l4.trans hK3f)
          · rw [show decide (256 ^ 4 ≤ n.toNat) = true by simp; omega] at l4
            rw [loop_inl (l4.trans (hK3t 4)), show wI (2 * 4) = 8 from rfl]
            have hw1 : wd n = 8 := by unfold wd; rw [if_neg c24, if_neg (fun h => b1 (d1.1 h)), if_neg (fun h => b2 (d2.1 h)), if_neg (fun h => b4 (d4.1 h))]
            rw [hw1] at hK3f
            refine loop_inr ?_
            simpa [F.law30_CborNumbers_L1] using hK3f
  cases minus
  · exact key 0 (by omega)
  · exact key 1 (by omega)
end Go.Gk.Cb
end
