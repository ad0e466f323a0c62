import Derived.Test.YtmmlnghanonbjaaGkP2
set_option linter.unusedVariables false
set_option linter.unusedSimpArgs false
set_option linter.unusedSimpArgs false
namespace Go.Gk
def num (sg : List UInt8) (c : UInt8) : Nat := sg.findIdx (· == c)
theorem num_lt {sg : List UInt8} {c : UInt8} (h : c ∈ sg) : num sg c < sg.length := by
  unfold num; exact List.findIdx_lt_length_of_exists ⟨c, h, by simp⟩
theorem ixByte_num {sg : List UInt8} {c : UInt8} (h : c ∈ sg) : ixByte sg c = (num sg c : Int) := by
  unfold ixByte num
  rw [List.findIdx?_eq_some_of_exists ⟨c, h, by simp⟩]
theorem ixByte_out {sg : List UInt8} {c : UInt8} (h : c ∉ sg) : ixByte sg c = -1 := by
  unfold ixByte
  rw [List.findIdx?_eq_none_iff.2 (fun x hx => by simp; rintro rfl; exact h hx)]
theorem ixByte_neg (sg : List UInt8) (c : UInt8) : decide (ixByte sg c < 0) = decide (c ∉ sg) := by
  by_cases h : c ∈ sg
  · rw [ixByte_num h]; simp [h]
  · rw [ixByte_out h]; simp [h]
structure SgOk (sg : List UInt8) : Prop where
  len : sg.length = 64
  inv : ∀ n, n < 64 → num sg (sg6 sg n) = n
theorem urlS_ok : SgOk urlS := ⟨rfl, by decide⟩
theorem stdS_ok : SgOk stdS := ⟨rfl, by decide⟩
theorem sg6_mem {sg : List UInt8} (h : SgOk sg) {n : Nat} (hn : n < 64) : sg6 sg n ∈ sg := by
  unfold sg6
  rw [List.getD_eq_getElem?_getD, List.getElem?_eq_getElem (by rw [h.len]; exact hn)]
  simp
theorem num_lt64 {sg : List UInt8} (h : SgOk sg) {c : UInt8} (hc : c ∈ sg) : num sg c < 64 := by have := num_lt hc; rw [h.len] at this; exact this
theorem strings_IndexByte_eq (sg : List UInt8) (c : UInt8) : F.strings_IndexByte sg c = some (ixByte sg c) := rfl
def quad (sg : List UInt8) (a b c d : UInt8) : Nat := num sg a * 262144 + num sg b * 4096 + num sg c * 64 + num sg d
def tri3 (sg : List UInt8) (a b c : UInt8) : Nat := num sg a * 262144 + num sg b * 4096 + num sg c * 64
def duo2 (sg : List UInt8) (a b : UInt8) : Nat := num sg a * 262144 + num sg b * 4096
def readL (sg : List UInt8) : List UInt8 → List UInt8
  | a :: b :: c :: d :: r => UInt8.ofNat (quad sg a b c d / 65536) :: UInt8.ofNat (quad sg a b c d / 256) :: UInt8.ofNat (quad sg a b c d) :: readL sg r
  | [a, b, c] => [UInt8.ofNat (tri3 sg a b c / 65536), UInt8.ofNat (tri3 sg a b c / 256)]
  | [a, b] => [UInt8.ofNat (duo2 sg a b / 65536)]
  | _ => []
def restL (sg : List UInt8) : List UInt8 → Bool
  | _ :: _ :: _ :: _ :: r => restL sg r
  | [a, b, c] => tri3 sg a b c % 256 == 0
  | [a, b] => duo2 sg a b % 65536 == 0
  | _ => true
theorem readL_length (sg : List UInt8) : ∀ l, (readL sg l).length = l.length * 6 / 8
  | a :: b :: c :: d :: r => by have := readL_length sg r; simp only [readL, List.length_cons, this]; omega
  | [a, b, c] => by simp [readL]
  | [a, b] => by simp [readL]
  | [a] => by simp [readL]
  | [] => by simp [readL]
theorem b64_number_ok {sg : List UInt8} (hs : SgOk sg) {c : UInt8} (h : c ∈ sg) : F.b64_number c sg = some (UInt64.ofNat (num sg c)) := by
  unfold F.b64_number
  rw [strings_IndexByte_eq, bind_some', ixByte_num h]
  have h1 := num_lt64 hs h
  congr 1
  apply UInt64.toNat_inj.1
  rw [ofInt64_nat _ (by omega), UInt64.toNat_ofNat']; omega
theorem u64n (n : Nat) (h : n < 64) : (UInt64.ofNat n).toNat = n := by rw [UInt64.toNat_ofNat']; omega
theorem or3 {a b c : Nat} (_ha : a < 64) (hb : b < 64) (hc : c < 64) : a * 262144 ||| b * 4096 ||| c * 64 = a * 262144 + b * 4096 + c * 64 := by
  rw [or_add (x := a * 262144) (y := b * 4096) 18 (by omega) (by omega), or_add 12 (by omega) (by omega)]
theorem quad_u {sg : List UInt8} (hs : SgOk sg) {a b c d : UInt8} (ha : a ∈ sg) (hb : b ∈ sg) (hc : c ∈ sg) (hd : d ∈ sg) :
    ((((shl64 (UInt64.ofNat (num sg a)) 18) ||| (shl64 (UInt64.ofNat (num sg b)) 12)) ||| (shl64 (UInt64.ofNat (num sg c)) 6)) ||| (UInt64.ofNat (num sg d))).toNat = quad sg a b c d := by
  have h1 := num_lt64 hs ha; have h2 := num_lt64 hs hb; have h3 := num_lt64 hs hc; have h4 := num_lt64 hs hd
  simp only [UInt64.toNat_or, shl64_toNat, u64n _ h1, u64n _ h2, u64n _ h3, u64n _ h4]
  have e1 : num sg a * 2 ^ (min 18 64) % 18446744073709551616 = num sg a * 262144 := by simp; omega
  have e2 : num sg b * 2 ^ (min 12 64) % 18446744073709551616 = num sg b * 4096 := by simp; omega
  have e3 : num sg c * 2 ^ (min 6 64) % 18446744073709551616 = num sg c * 64 := by simp; omega
  rw [e1, e2, e3, or3 h1 h2 h3, or_add 6 (by omega) (by omega)]
  rfl
theorem tri3_u {sg : List UInt8} (hs : SgOk sg) {a b c : UInt8} (ha : a ∈ sg) (hb : b ∈ sg) (hc : c ∈ sg) :
    ((shl64 (UInt64.ofNat (num sg c)) 6) ||| ((shl64 (UInt64.ofNat (num sg a)) 18) ||| (shl64 (UInt64.ofNat (num sg b)) 12))).toNat = tri3 sg a b c := by
  have h1 := num_lt64 hs ha; have h2 := num_lt64 hs hb; have h3 := num_lt64 hs hc
  simp only [UInt64.toNat_or, shl64_toNat, u64n _ h1, u64n _ h2, u64n _ h3]
  have e1 : num sg a * 2 ^ (min 18 64) % 18446744073709551616 = num sg a * 262144 := by simp; omega
  have e2 : num sg b * 2 ^ (min 12 64) % 18446744073709551616 = num sg b * 4096 := by simp; omega
  have e3 : num sg c * 2 ^ (min 6 64) % 18446744073709551616 = num sg c * 64 := by simp; omega
  rw [e1, e2, e3, Nat.or_comm, or3 h1 h2 h3]
  rfl
theorem duo2_u {sg : List UInt8} (hs : SgOk sg) {a b : UInt8} (ha : a ∈ sg) (hb : b ∈ sg) :
    ((0 : UInt64) ||| ((shl64 (UInt64.ofNat (num sg a)) 18) ||| (shl64 (UInt64.ofNat (num sg b)) 12))).toNat = duo2 sg a b := by
  have h1 := num_lt64 hs ha; have h2 := num_lt64 hs hb
  simp only [UInt64.toNat_or, shl64_toNat, u64n _ h1, u64n _ h2]
  have e1 : num sg a * 2 ^ (min 18 64) % 18446744073709551616 = num sg a * 262144 := by simp; omega
  have e2 : num sg b * 2 ^ (min 12 64) % 18446744073709551616 = num sg b * 4096 := by simp; omega
  rw [e1, e2, or_add (x := num sg a * 262144) 18 (by omega) (by omega)]
  simp [duo2]
theorem u8_of {N : UInt64} {n : Nat} (h : N.toNat = n) : N.toUInt8 = UInt8.ofNat n := by
  apply UInt8.toNat_inj.1
  simp [UInt8.toNat_ofNat', h]
theorem u8_shr {N : UInt64} {n k : Nat} (h : N.toNat = n) (hk : k ≤ 64) : (shr64 N k).toUInt8 = UInt8.ofNat (n / 2 ^ k) := by
  refine u8_of ?_
  rw [shr64_toNat, h, Nat.min_eq_left hk]
theorem mask_zero {N : UInt64} {n : Nat} (h : N.toNat = n) (k : UInt64) (j : Nat) (hk : k.toNat = 2 ^ j - 1) : ((N &&& k) == 0) = (n % 2 ^ j == 0) := by
  have : (N &&& k).toNat = n % 2 ^ j := by rw [UInt64.toNat_and, h, hk]; exact and_mask n j
  rw [← this]
  by_cases h0 : N &&& k = 0
  · rw [h0]; rfl
  · have h1 : (N &&& k).toNat ≠ 0 := fun e => h0 (UInt64.toNat_inj.1 e)
    rw [beq_eq_false_iff_ne.2 h0, beq_eq_false_iff_ne.2 h1]
theorem read_loop {sg : List UInt8} (hs : SgOk sg) : ∀ (l out : List UInt8), (∀ c ∈ l, c ∈ sg) → out.length + l.length ≤ 225000000000000 →
    loop (F.b64_read_L1 sg) (l, out) = some (out ++ readL sg l, restL sg l)
  | a :: b :: c :: d :: r, out, hg, hb => by
    have ha := hg a (by simp); have hbb := hg b (by simp); have hc := hg c (by simp); have hd := hg d (by simp)
    have hN := quad_u hs ha hbb hc hd
    have step : F.b64_read_L1 sg (a :: b :: c :: d :: r, out) = some (.inl (r, out ++ [UInt8.ofNat (quad sg a b c d / 65536), UInt8.ofNat (quad sg a b c d / 256), UInt8.ofNat (quad sg a b c d)])) := by
      unfold F.b64_read_L1
      dsimp only
      rw [if_pos (by simp; omega)]
      rw [getO_lit0, bind_some', b64_number_ok hs ha, bind_some', getO_lit1, bind_some', b64_number_ok hs hbb, bind_some', getO_lit2, bind_some', b64_number_ok hs hc, bind_some', getO_lit3, bind_some', b64_number_ok hs hd, bind_some']
      rw [apO1_ok (by simp at hb ⊢; omega), bind_some', u8_of hN, u8_shr hN (k := 16) (by omega), u8_shr hN (k := 8) (by omega)]
      have : drO (a :: b :: c :: d :: r) (4 : Int) = some r := by
        have := drO_ok (l := a :: b :: c :: d :: r) (k := 4) (by simp)
        simpa using this
      rw [this, bind_some']; rfl
    rw [loop_inl step, read_loop hs r _ (fun x hx => hg x (by simp [hx])) (by simp at hb ⊢; omega)]
    simp [readL, restL]
  | [a, b, c], out, hg, hb => by
    have ha := hg a (by simp); have hbb := hg b (by simp); have hc := hg c (by simp)
    have hN := tri3_u hs ha hbb hc
    refine loop_inr ?_
    unfold F.b64_read_L1
    dsimp only
    rw [if_neg (by simp), if_pos (by simp), getO_lit2, bind_some', b64_number_ok hs hc, bind_some']
    unfold F.b64_read_K1
    dsimp only
    rw [getO_lit0, bind_some', b64_number_ok hs ha, bind_some', getO_lit1, bind_some', b64_number_ok hs hbb, bind_some', apO1_ok (by simp at hb ⊢; omega), bind_some', if_pos (by simp), apO1_ok (by simp at hb ⊢; omega), bind_some', u8_shr hN (k := 16) (by omega), u8_shr hN (k := 8) (by omega), mask_zero hN 255 8 rfl]
    simp [readL, restL, oinr]
  | [a, b], out, hg, hb => by
    have ha := hg a (by simp); have hbb := hg b (by simp)
    have hN := duo2_u hs ha hbb
    refine loop_inr ?_
    unfold F.b64_read_L1
    dsimp only
    rw [if_neg (by simp), if_neg (by simp), if_pos (by simp)]
    unfold F.b64_read_K1
    dsimp only
    rw [getO_lit0, bind_some', b64_number_ok hs ha, bind_some', getO_lit1, bind_some', b64_number_ok hs hbb, bind_some', apO1_ok (by simp at hb ⊢; omega), bind_some', if_neg (by simp), u8_shr hN (k := 16) (by omega), mask_zero hN 65535 16 rfl]
    simp [readL, restL, oinr]
  | [a], out, _, hb => by
    refine loop_inr ?_
    unfold F.b64_read_L1
    dsimp only
    rw [if_neg (by simp), if_neg (by simp), if_neg (by simp)]
    simp [readL, restL, oinr]
  | [], out, _, hb => by
    refine loop_inr ?_
    unfold F.b64_read_L1
    dsimp only
    rw [if_neg (by simp), if_neg (by simp), if_neg (by simp)]
    simp [readL, restL, oinr]
theorem b64_read_eq {sg : List UInt8} (hs : SgOk sg) (l : List UInt8) (hg : ∀ c ∈ l, c ∈ sg) (h : l.length ≤ 225000000000000) : F.b64_read l sg = some (readL sg l, restL sg l) := by
  unfold F.b64_read
  have e1 : wI (Int.tdiv (l.length : Int) 4) = ((l.length / 4 : Nat) : Int) := by
    rw [show Int.tdiv (l.length : Int) 4 = ((l.length / 4 : Nat) : Int) from rfl, wI_nat _ (by omega)]
  have e2 : wI (((l.length / 4 : Nat) : Int) * 3) = ((l.length / 4 * 3 : Nat) : Int) := by rw [wI_in] <;> omega
  have e3 : wI (((l.length / 4 * 3 : Nat) : Int) + 2) = ((l.length / 4 * 3 + 2 : Nat) : Int) := by rw [wI_in] <;> omega
  rw [e1, e2, e3, mkO_ok (by omega), bind_some']
  simpa using read_loop hs l [] hg (by simpa using h)
end Go.Gk
