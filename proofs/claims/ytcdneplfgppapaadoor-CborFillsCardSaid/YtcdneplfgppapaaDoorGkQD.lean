import Derived.Test.YtcdneplfgppapaaDoorGkQ6
import Derived.Test.YtcdneplfgppapaaDoorGkQ5
import Derived.KernelRfl
set_option linter.unusedVariables false
set_option linter.unusedSimpArgs false

section
set_option linter.unusedSimpArgs false
set_option linter.unusedVariables false
namespace Go.Gk.Cb
open Go Go.Gk
def Small (b : List UInt8) (rd : Rd) : Prop := ∀ i j is, i ≤ b.length → rd i = .ok (j, is) → ∀ x ∈ is, x.2.2.1.length ≤ b.length ∧ x.2.2.2 ≤ 2 * (b.length : Int)
def Neat (v : List It) : Prop := wt v ≤ 5000000000 ∧ (∀ x ∈ v, x.2.2.2 ≤ 131072) ∧ (∀ x ∈ v, x.2.2.1.length ≤ 65536)
theorem Neat.wt {v : List It} (h : Neat v) : wt v ≤ 4000000000000 := by have := h.1; omega
theorem item_of_enc {v : List It} {d j : Nat} {t : List UInt8} (hK : Kd v) (hB : ∀ x ∈ v, x.2.2.1.length < 18446744073709551616) (h : encD d v 0 = some (t, j)) : itemD d t 0 = .ok (t.length, v.take j) := by
  have := encD_wt v hK hB d 0 t j [] [] h
  simpa [seg] using this
theorem parse_printed {v : List It} {t : List UInt8} (hK : Kd v) (hB : ∀ x ∈ v, x.2.2.1.length < 18446744073709551616) (h : printD v = (t, 0)) : parseD t = (v, 0, 0) ∧ t.length ≤ 65536 := by
  unfold printD at h
  cases h1 : encD 32 v 0 with
  | none => rw [h1] at h; cases h
  | some a =>
    obtain ⟨u, j⟩ := a
    rw [h1] at h
    simp only at h
    split at h
    · rename_i hj
      split at h
      · cases h
      · cases h
        have h2 := item_of_enc hK hB h1
        rw [hj, List.take_length] at h2
        refine ⟨?_, by omega⟩
        unfold parseD
        rw [if_neg (by omega), h2]
        simp
    · cases h
end Go.Gk.Cb
end

section
set_option linter.unusedSimpArgs false
set_option linter.unusedVariables false
namespace Go.Gk.Cb
open Go Go.Gk
def Beh (v : List It) (f : Int × Int → Option ((Int × Int) ⊕ Int)) (wr : Wr) (N : Nat) : Prop :=
  ∀ i t j (n : Nat), wr i = some (t, j) → n ≤ N → loop f ((i : Int), ((n + 1 : Nat) : Int)) = loop f ((j : Int), (n : Int))
def StepB (v : List It) (f : Int × Int → Option ((Int × Int) ⊕ Int)) : Prop :=
  ∀ (i n k : Nat) (hi : i < v.length), v[i].2.2.2 = (k : Int) → n + k ≤ 1000000000000000000 → i ≤ 1000000000000000000 → f ((i : Int), ((n + 1 : Nat) : Int)) = some (.inl (((i + 1 : Nat) : Int), ((n + k : Nat) : Int)))
theorem step_cbor (v : List It) : StepB v (F.cbor_behind_L1 v) := by
  intro i n k hi hk h1 h2
  have hd : decide ((0 : Int) < ((n + 1 : Nat) : Int)) = true := by simp only [decide_eq_true_eq]; omega
  simp only [F.cbor_behind_L1, hd, if_true, getO_lt hi, bind_some', olet_eq, hk]
  have e1 : wI ((k : Int) - 1) = (k : Int) - 1 := wI_in (by omega) (by omega)
  have e2 : wI (((n + 1 : Nat) : Int) + ((k : Int) - 1)) = ((n + k : Nat) : Int) := by rw [wI_in (by omega) (by omega)]; omega
  have e3 : wI ((i : Int) + 1) = ((i + 1 : Nat) : Int) := by rw [wI_in (by omega) (by omega)]; simp
  rw [e1, e2, e3]; rfl
theorem kids_beh {v : List It} {f : Int × Int → Option ((Int × Int) ⊕ Int)} {wr : Wr} {N : Nat} (hp : Put v wr) (h : Beh v f wr N) (pr : Bool) : ∀ (r : Nat) (key : Bool) (last : Option (List UInt8)) (i : Nat) (t : List UInt8) (j n : Nat),
    kidsE wr pr r key last i = some (t, j) → n + r ≤ N → loop f ((i : Int), ((n + r : Nat) : Int)) = loop f ((j : Int), (n : Int))
  | 0, key, last, i, t, j, n, h1, h2 => by
    simp only [kidsE] at h1; cases h1; rfl
  | r + 1, key, last, i, t, j, n, h1, h2 => by
    simp only [kidsE] at h1
    cases h3 : wr i with
    | none => rw [h3] at h1; cases h1
    | some a =>
      obtain ⟨t1, j1⟩ := a
      rw [h3] at h1
      simp only at h1
      split at h1
      · cases h1
      · cases h4 : kidsE wr pr r (!key) (if (pr && key) = true then some t1 else last) j1 with
        | none => rw [h4] at h1; cases h1
        | some b =>
          obtain ⟨u, k⟩ := b
          rw [h4] at h1
          cases h1
          rw [show n + (r + 1) = (n + r) + 1 by omega, h i t1 j1 (n + r) h3 (by omega)]
          exact kids_beh hp h pr r _ _ j1 u j n h4 (by omega)
theorem fit_kids {x : It} (h : fitE x) : 0 ≤ x.2.2.2 ∧ (¬ (x.1 = 4 ∨ x.1 = 5 ∨ x.1 = 6) → x.2.2.2 = 0) := by
  obtain ⟨m, n, d, k⟩ := x
  simp only
  rcases major_cases m with hm | hm | rfl | rfl | rfl | rfl | rfl | rfl | rfl | rfl <;> first
    | (exfalso; revert h; unfold fitE; simp only; rw [if_neg (by omega), if_neg (by omega), if_neg (by omega), if_neg (by omega), if_neg (by omega), if_neg (by omega), if_neg (by omega)]; simp; done)
    | (simp [fitE] at h; omega)
theorem item_beh {v : List It} {f : Int × Int → Option ((Int × Int) ⊕ Int)} {sub : Option Wr} {N : Nat} (hs : StepB v f) (hv : v.length ≤ 1000000000000000) (hN : N + v.length ≤ 1000000000000000000)
    (h : ∀ wr, sub = some wr → Put v wr ∧ Beh v f wr (N + v.length)) : Beh v f (itemE v sub) N := by
  intro i t j n h1 hn
  unfold itemE at h1
  cases hx : v[i]? with
  | none => rw [hx] at h1; cases h1
  | some x =>
    rw [hx] at h1
    obtain ⟨hi, hvx⟩ := List.getElem?_eq_some_iff.1 hx
    simp only at h1
    split at h1
    · cases h1
    · rename_i hf
      obtain ⟨k0, kz⟩ := fit_kids (Classical.not_not.1 hf)
      obtain ⟨k, hk⟩ := Int.eq_ofNat_of_zero_le k0
      split at h1
      · cases sub with
        | none => cases h1
        | some wr =>
          obtain ⟨hp, hb⟩ := h wr rfl
          simp only at h1
          cases h2 : kidsE wr (x.1 == 5) x.2.2.2.toNat true none (i + 1) with
          | none => rw [h2] at h1; cases h1
          | some a =>
            obtain ⟨u, j1⟩ := a
            rw [h2] at h1
            cases h1
            rw [hk, Int.toNat_natCast] at h2
            have m5 := kidsE_put hp _ _ _ _ _ _ _ (by omega) h2
            rw [loop_inl (hs i n k hi (by rw [hvx]; exact hk) (by omega) (by omega))]
            exact kids_beh hp hb _ k true none (i + 1) u j n h2 (by omega)
      · rename_i hkind
        cases h1
        have : k = 0 := by have := kz hkind; omega
        subst this
        rw [loop_inl (hs i n 0 hi (by rw [hvx]; exact hk) (by omega) (by omega))]
        rfl
theorem encD_beh {v : List It} {f : Int × Int → Option ((Int × Int) ⊕ Int)} (hs : StepB v f) (hv : v.length ≤ 1000000000000000) : ∀ (d N : Nat), N + (d + 1) * v.length ≤ 1000000000000000000 → Beh v f (encD d v) N
  | 0, N, h => item_beh hs hv (by omega) (by simp)
  | d + 1, N, h => by
    rw [Nat.add_mul] at h
    refine item_beh hs hv (by omega) (fun wr hw => ?_)
    cases hw
    exact ⟨encD_put v d, encD_beh hs hv d (N + v.length) (by omega)⟩
theorem behind_cbor {v : List It} {d i j : Nat} {t : List UInt8} (hv : v.length ≤ 1000000000000000) (hd : d ≤ 32) (h : encD d v i = some (t, j)) : F.cbor_behind v (i : Int) = some (j : Int) := by
  have hm : (d + 1) * v.length ≤ 33 * v.length := Nat.mul_le_mul_right _ (by omega)
  have := encD_beh (step_cbor v) hv d 0 (by omega) i t j 0 h (by omega)
  unfold F.cbor_behind
  rw [show ((1 : Int)) = ((0 + 1 : Nat) : Int) from rfl, this]
  exact loop_inr rfl
def Inn (v : List It) (D : Nat) (wr : Wr) : Prop := ∀ i t j a, wr i = some (t, j) → i ≤ a → a < j → ∃ d t' k, d ≤ D ∧ encD d v a = some (t', k) ∧ k ≤ j
def memE (v : List It) (wr : Wr) (key : List It) : Nat → Nat → Int
  | 0, _ => -1
  | r + 1, i => match wr i with
    | none => -1
    | some (_, j) => if seg v i j = key then (j : Int) else match wr j with
      | none => -1
      | some (_, k) => memE v wr key r k
theorem same_gen {τ : Type} [DecidableEq τ] {f : Int → Option (Int ⊕ Bool)} {a b : List τ} {m : Nat} (hm : m ≤ a.length) (hm2 : m ≤ b.length) (hb : m < 9223372036854775807) (R : Bool)
    (hend : f (m : Int) = some (.inr R)) (hstep : ∀ i : Nat, (h : i < m) → f (i : Int) = some (if a[i] = b[i] then .inl (((i + 1 : Nat)) : Int) else .inr false)) :
    loop f 0 = some (if a.take m = b.take m then R else false) := by
  have key : ∀ k i, m - i = k → i ≤ m → a.take i = b.take i → loop f (i : Int) = some (if a.take m = b.take m then R else false) := by
    intro k
    induction k with
    | zero =>
      intro i h1 h2 h3
      have : i = m := by omega
      subst this
      rw [loop_inr hend, if_pos h3]
    | succ k ih =>
      intro i h1 h2 h3
      have hi : i < m := by omega
      have hs := hstep i hi
      by_cases he : a[i] = b[i]
      · rw [if_pos he] at hs
        rw [loop_inl hs]
        refine ih (i + 1) (by omega) (by omega) ?_
        rw [List.take_succ_eq_append_getElem (by omega), List.take_succ_eq_append_getElem (by omega), h3, he]
      · rw [if_neg he] at hs
        rw [loop_inr hs, if_neg]
        intro h4
        apply he
        have := congrArg (fun l => l[i]?) h4
        simp only [List.getElem?_take, if_pos hi] at this
        rw [List.getElem?_eq_getElem (by omega), List.getElem?_eq_getElem (by omega)] at this
        exact Option.some.inj this
  exact key m 0 (by omega) (by omega) (by simp)
theorem same_cbor (a b : List It) (ha : a.length < 9223372036854775807) : F.cbor_same a b = some (a == b) := by
  unfold F.cbor_same
  have hmin : (min (a.length : Int) (b.length : Int)) = ((min a.length b.length : Nat) : Int) := by omega
  rw [same_gen (a := a) (b := b) (m := min a.length b.length) (by omega) (by omega) (by omega) ((a.length : Int) == (b.length : Int))]
  · congr 1
    by_cases hl : a.length = b.length
    · rw [hl]
      simp only [Nat.min_self, beq_self_eq_true]
      rw [List.take_of_length_le (by omega), List.take_of_length_le (by omega)]
      by_cases h : a = b <;> simp [h]
    · have h1 : ((a.length : Int) == (b.length : Int)) = false := by simp; omega
      have h2 : a ≠ b := fun h => hl (by rw [h])
      simp [h1, h2]
  · simp only [F.cbor_same_L1, hmin]
    simp only [Int.lt_irrefl, decide_false, Bool.false_eq_true, if_false]; rfl
  · intro i hi
    have hd : decide ((i : Int) < ((min a.length b.length : Nat) : Int)) = true := by simp; omega
    have e3 : wI ((i : Int) + 1) = ((i + 1 : Nat) : Int) := by rw [wI_in (by omega) (by omega)]; simp
    have hia : i < a.length := by omega
    have hib : i < b.length := by omega
    simp only [F.cbor_same_L1, hmin, hd, if_true, getO_lt hia, getO_lt hib, bind_some', e3]
    by_cases he : a[i] = b[i]
    · rw [if_pos he, he]; simp only [bne_self_eq_false, Bool.false_eq_true, if_false]; rfl
    · have : (a[i] != b[i]) = true := by simpa using he
      simp only [this, if_true, if_neg he]; rfl
section
variable {v : List It} {d : Nat}
theorem slO_seg {i j : Nat} (h : i ≤ j) (h2 : j ≤ v.length) : slO v (i : Int) (j : Int) = some (seg v i j) := slO_ok h h2
theorem member_cbor (hv : v.length ≤ 1000000000000000) (hd : d ≤ 32) (key : List It) (x : It) (K : Nat) (hx : wI (Int.tdiv x.2.2.2 2) = (K : Int)) (hK9 : K ≤ 4611686018427387904) : ∀ (r c i : Nat) (last : Option (List UInt8)) (t : List UInt8) (j : Nat),
    kidsE (encD d v) true (2 * r) true last i = some (t, j) → c + r = K → i ≤ v.length → loop (F.cbor_Member_L1 v key x) ((i : Int), (c : Int)) = some (memE v (encD d v) key r i)
  | 0, c, i, last, t, j, h1, h2, h3 => by
    refine loop_inr ?_
    have : decide ((c : Int) < (K : Int)) = false := by simp; omega
    simp only [F.cbor_Member_L1, hx, this, Bool.false_eq_true, if_false, memE]; rfl
  | r + 1, c, i, last, t, j, h1, h2, h3 => by
    rw [show 2 * (r + 1) = 2 * r + 1 + 1 by omega] at h1
    simp only [kidsE] at h1
    cases h4 : encD d v i with
    | none => rw [h4] at h1; cases h1
    | some a =>
      obtain ⟨t1, j1⟩ := a
      rw [h4] at h1
      obtain ⟨m1, m2, m3⟩ := encD_put v d i t1 j1 h4
      simp only [Bool.true_and, Bool.not_true, Bool.false_and, Bool.and_false, Bool.false_eq_true, if_false, if_true] at h1
      split at h1
      · cases h1
      · cases h5 : encD d v j1 with
        | none => rw [h5] at h1; cases h1
        | some b =>
          obtain ⟨t2, j2⟩ := b
          rw [h5] at h1
          obtain ⟨m4, m5, m6⟩ := encD_put v d j1 t2 j2 h5
          simp only [Bool.not_false] at h1
          cases h6 : kidsE (encD d v) true (2 * r) true (some t1) j2 with
          | none => rw [h6] at h1; cases h1
          | some e =>
            obtain ⟨u, k⟩ := e
            have hlt : decide ((c : Int) < (K : Int)) = true := by simp; omega
            have e1 := behind_cbor hv hd h4
            have e2 := behind_cbor hv hd h5
            have hsl := slO_seg (v := v) (i := i) (j := j1) (by omega) (by omega)
            have hlen : (seg v i j1).length < 9223372036854775807 := by simp [seg]; omega
            have hc1 : wI ((c : Int) + 1) = ((c + 1 : Nat) : Int) := by rw [wI_in (by omega) (by omega)]; simp
            simp only [memE, h4, h5]
            by_cases hk : seg v i j1 = key
            · refine loop_inr ?_
              have hb : (seg v i j1 == key) = true := by simpa using hk
              simp only [F.cbor_Member_L1, hx, hlt, if_true, e1, bind_some', hsl, same_cbor _ _ hlen, hb, if_pos hk]; rfl
            · have hb : (seg v i j1 == key) = false := by simpa using hk
              have hs : F.cbor_Member_L1 v key x ((i : Int), (c : Int)) = some (.inl ((j2 : Int), ((c + 1 : Nat) : Int))) := by
                simp only [F.cbor_Member_L1, hx, hlt, if_true, e1, bind_some', hsl, same_cbor _ _ hlen, hb, Bool.false_eq_true, if_false, e2, hc1]; rfl
              rw [loop_inl hs, if_neg hk]
              exact member_cbor hv hd key x K hx hK9 r (c + 1) j2 _ u k h6 (by omega) m5
end
end Go.Gk.Cb
end

section
set_option linter.unusedSimpArgs false
set_option linter.unusedVariables false
namespace Go.Gk.Cb
open Go Go.Gk
theorem p1 : parseD [161, 97, 97, 130, 1, 245] = ([(5, 0, [], 2), (3, 0, [97], 0), (4, 0, [], 2), (0, 1, [], 0), (7, 21, [], 0)], 0, 0) := by kernel_rfl
theorem p2 : printD [(4, 0, [], 2), (1, 99, [], 0), (2, 0, [120, 121], 0)] = ([130, 56, 99, 66, 120, 121], 0) := by kernel_rfl
theorem p3 : parseD [130, 24, 23, 0] = ([], 220, 1) := by kernel_rfl
theorem p4 : shapedD [(5, 0, [], 2), (3, 0, [97], 0), (4, 0, [], 2), (0, 1, [], 0), (7, 21, [], 0)] = true := by kernel_rfl
theorem p5 : encD 31 [(5, 0, [], 2), (3, 0, [97], 0), (4, 0, [], 2), (0, 1, [], 0), (7, 21, [], 0)] 1 = some ([97, 97], 2) := by kernel_rfl
theorem p6 : encD 31 [(5, 0, [], 2), (3, 0, [97], 0), (4, 0, [], 2), (0, 1, [], 0), (7, 21, [], 0)] 2 = some ([130, 1, 245], 5) := by kernel_rfl
theorem awake_eq : F.law30_awake = some true := by
  have hm : F.cbor_Member [(5, 0, [], 2), (3, 0, [97], 0), (4, 0, [], 2), (0, 1, [], 0), (7, 21, [], 0)] 0 ([(3, 0, [97], 0)] : List It) = some 2 := by
    have hK : Kd [(5, 0, [], 2), (3, 0, [97], 0), (4, 0, [], 2), (0, 1, [], 0), (7, 21, [], 0)] := by intro x hx; simp at hx; rcases hx with rfl | rfl | rfl | rfl | rfl <;> simp
    have hw : wt [(5, 0, [], 2), (3, 0, [97], 0), (4, 0, [], 2), (0, 1, [], 0), (7, 21, [], 0)] ≤ 4000000000000 := by simp [wt]
    have hkids : ∃ u, kidsE (encD 31 [(5, 0, [], 2), (3, 0, [97], 0), (4, 0, [], 2), (0, 1, [], 0), (7, 21, [], 0)]) true (2 * 1) true none 1 = some (u, 5) := by
      refine ⟨[97, 97] ++ ([130, 1, 245] ++ []), ?_⟩
      simp [kidsE, p5, p6, keyOk]
    obtain ⟨u, hu⟩ := hkids
    have hmem := member_cbor (v := [(5, 0, [], 2), (3, 0, [97], 0), (4, 0, [], 2), (0, 1, [], 0), (7, 21, [], 0)]) (d := 31) (by simp) (by omega) [(3, 0, [97], 0)] (5, 0, [], 2) 1 rfl (by omega) 1 0 1 none u 5 hu rfl (by simp)
    have hval : memE [(5, 0, [], 2), (3, 0, [97], 0), (4, 0, [], 2), (0, 1, [], 0), (7, 21, [], 0)] (encD 31 [(5, 0, [], 2), (3, 0, [97], 0), (4, 0, [], 2), (0, 1, [], 0), (7, 21, [], 0)]) [(3, 0, [97], 0)] 1 1 = 2 := by
      simp [memE, p5, seg]
    rw [hval] at hmem
    unfold F.cbor_Member
    rw [shaped_eq hw hK, p4]
    simp only [getO_lit0, bind_some', Bool.not_true]
    simp only [show decide ((0 : Int) < 0) = false from rfl, Bool.false_eq_true, if_false, F.cbor_Member_K1, getO_lit0, bind_some']
    rw [if_neg (by simp), if_neg (by simp)]
    exact hmem
  have hw2 : wt [(4, 0, [], 2), (1, 99, [], 0), (2, 0, [120, 121], 0)] ≤ 4000000000000 := by simp [wt]
  have hK2 : Kd [(4, 0, [], 2), (1, 99, [], 0), (2, 0, [120, 121], 0)] := by intro x hx; simp at hx; rcases hx with rfl | rfl | rfl <;> simp
  unfold F.law30_awake
  rw [parse_eq, parse_eq, print_eq hw2 hK2, p1, p2, p3]
  simp only [bind_some', bne_self_eq_false, Bool.false_eq_true, if_false, F.law30_awake_K1, getO_lit1]
  rw [if_neg (by simp)]
  rw [show getO ([(5, 0, [], 2), (3, 0, [97], 0), (4, 0, [], 2), (0, 1, [], 0), (7, 21, [], 0)] : List It) (4 : Int) = some (7, 21, [], 0) from rfl]
  simp only [bind_some', bne_self_eq_false, Bool.false_eq_true, if_false, hm]
  rw [sameB_eq _ _ (by simp)]
  simp [bind_some']
theorem not_true_f : (!true) = false := rfl
end Go.Gk.Cb
end

section
set_option linter.unusedSimpArgs false
set_option linter.unusedVariables false
namespace Go.Gk.Cb
open Go Go.Gk
def headedD (m : Nat) (n : UInt64) (k : Nat) : List UInt8 := if k = 0 then [UInt8.ofNat (32 * m) + (n % 24).toUInt8] else UInt8.ofNat (32 * m + 24 + lg k) :: be k n
theorem kd_one (x : It) (h : x.2.2.2 ≤ 9223372036854775807) : Kd [x] := by intro y hy; obtain rfl := List.mem_singleton.1 hy; exact h
theorem enc_str (d : List UInt8) : encD 32 [(2, 0, d, 0)] 0 = some (hd 2 (UInt64.ofNat d.length) ++ d, 1) := by
  show itemE _ _ 0 = _
  unfold itemE
  have hf : fitE (2, 0, d, 0) := by simp [fitE]
  simp only [List.getElem?_cons_zero]
  rw [if_neg (show ¬ ¬ fitE _ from fun h => h hf), if_neg (by simp)]
  rfl
theorem fill_loop (c : UInt8) (less : Int) : ∀ (k i : Nat) (R : Option Bool), (∀ x, F.law30_CborFills_L1 c less (((i + k : Nat) : Int), x) = oinr R → True) → i + k ≤ 70000 →
    loop (F.law30_CborFills_L1 c less) ((i : Int), List.replicate i c ++ List.replicate k 0) = loop (F.law30_CborFills_L1 c less) (((i + k : Nat) : Int), List.replicate (i + k) c)
  | 0, i, R, _, _ => by simp
  | k + 1, i, R, hR, h => by
    have hlt : decide ((i : Int) < ((List.replicate i c ++ List.replicate (k + 1) (0 : UInt8)).length : Int)) = true := by simp; omega
    have hi1 : wI ((i : Int) + 1) = ((i + 1 : Nat) : Int) := by rw [wI_in (by omega) (by omega)]; simp
    have hs : F.law30_CborFills_L1 c less ((i : Int), List.replicate i c ++ List.replicate (k + 1) 0) = some (.inl (((i + 1 : Nat) : Int), List.replicate (i + 1) c ++ List.replicate k 0)) := by
      simp only [F.law30_CborFills_L1, hlt, if_true]
      rw [getO_lt (by simp), bind_some', olet_eq, hi1, Int.toNat_natCast]
      have : (List.replicate i c ++ List.replicate (k + 1) (0 : UInt8)).set i c = List.replicate (i + 1) c ++ List.replicate k 0 := by
        rw [List.set_append_right _ _ (by simp), List.replicate_succ' (n := i)]
        simp [List.replicate_succ]
      rw [this]; rfl
    rw [loop_inl hs, fill_loop c less k (i + 1) R (fun _ _ => trivial) (by omega), show i + 1 + k = i + (k + 1) by omega]
theorem CborFills_true (c : UInt8) (less : Int) : F.law30_CborFills c less = some true := by
  unfold F.law30_CborFills
  rw [awake_eq]
  simp only [bind_some', not_true_f, Bool.false_eq_true, if_false]
  have hT : F.law30_CborFills_K1 less c true = some true := by
    simp only [F.law30_CborFills_K1, if_true, awake_eq, bind_some']
  by_cases h1 : less < -1
  · have : decide (less < (-1)) = true := by simpa using h1
    rw [this, if_pos rfl, hT]
  · have e1 : decide (less < (-1)) = false := by simpa using h1
    rw [e1, if_neg (by simp)]
    by_cases h2 : 65000 < less
    · have : decide ((65000 : Int) < less) = true := by simpa using h2
      rw [this, hT]
    · have e2 : decide ((65000 : Int) < less) = false := by simpa using h2
      rw [e2]
      simp only [F.law30_CborFills_K1, Bool.false_eq_true, if_false]
      obtain ⟨n, hn⟩ := Int.eq_ofNat_of_zero_le (show 0 ≤ 65533 - less by omega)
      rw [wI_in (by omega) (by omega), hn]
      have hmk : mkO 1 (n : Int) (n : Int) (0 : UInt8) = some (List.replicate n 0) := by
        unfold mkO; rw [if_pos (by omega)]; simp
      rw [hmk, bind_some']
      have := fill_loop c less n 0 (some true) (fun _ _ => trivial) (by omega)
      simp only [List.replicate_zero, List.nil_append, Nat.zero_add] at this
      rw [show (0 : Int) = ((0 : Nat) : Int) from rfl, this]
      have hlen : (List.replicate n c).length = n := by simp
      generalize List.replicate n c = d at hlen
      refine loop_inr ?_
      have e3 : decide ((n : Int) < (d.length : Int)) = false := by simp; omega
      have hK : Kd [(2, 0, d, 0)] := kd_one _ (by simp)
      have hw : wt [(2, 0, d, 0)] ≤ 4000000000000 := by simp [wt]; omega
      simp only [F.law30_CborFills_L1, e3, Bool.false_eq_true, if_false]
      rw [print_eq hw hK, shaped_eq hw hK]
      simp only [bind_some']
      have hwd : wd (UInt64.ofNat d.length) = 2 := by
        have hN : (UInt64.ofNat d.length).toNat = d.length := by simp; omega
        have a1 : ¬ (UInt64.ofNat d.length < 24) := by simp only [UInt64.lt_iff_toNat_lt, hN]; simp; omega
        have a2 : ¬ (UInt64.ofNat d.length < 256) := by simp only [UInt64.lt_iff_toNat_lt, hN]; simp; omega
        have a3 : (UInt64.ofNat d.length < 65536) := by simp only [UInt64.lt_iff_toNat_lt, hN]; simp; omega
        unfold wd
        rw [if_neg a1, if_neg a2, if_pos a3]
      have hhl := hd_len 2 (UInt64.ofNat d.length)
      rw [hwd] at hhl
      have hsh : shapedD [(2, 0, d, 0)] = true := by
        unfold shapedD; rw [enc_str]; rfl
      by_cases hneg : less < 0
      · have e4 : decide (less < 0) = true := by simpa using hneg
        have hp : printD [(2, 0, d, 0)] = ([], 10) := by
          unfold printD; rw [enc_str]
          simp only [List.length_singleton, if_true, List.length_append]
          rw [if_pos (by omega)]
        have hq : parseD ([89, 255, 254] ++ d) = ([], 10, 0) := by
          unfold parseD; rw [if_pos (by simp; omega)]
        rw [e4, if_pos rfl, apO_ok (by simp; omega), bind_some', parse_eq, hq, hp]
        simp [hsh]
        rfl
      · have e4 : decide (less < 0) = false := by simpa using hneg
        have hp : printD [(2, 0, d, 0)] = (hd 2 (UInt64.ofNat d.length) ++ d, 0) := by
          unfold printD; rw [enc_str]
          simp only [List.length_singleton, if_true, List.length_append]
          rw [if_neg (by omega)]
        have hq := (parse_printed hK (by intro x hx; obtain rfl := List.mem_singleton.1 hx; simp; omega) hp).1
        rw [e4, if_neg (by simp), hp]
        simp only
        rw [parse_eq, hq]
        simp only [bind_some', beq_self_eq_true, if_true]
        rw [sameI_eq _ _ (by simp)]
        simp
        rfl
end Go.Gk.Cb
end
