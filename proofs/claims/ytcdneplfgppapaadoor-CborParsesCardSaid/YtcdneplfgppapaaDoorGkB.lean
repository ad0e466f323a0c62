/- Scalars: how the model's operations on integers, bools and texts read on Lean's own numbers: lemmas only. -/
import Derived.Test.YtcdneplfgppapaaDoorGkA
import Derived.Lib.Strings
namespace Go.Gk
open Go Go.RowKit

abbrev vI (x : Int) : Value := .int .i64 x
abbrev vB (b : Bool) : Value := .bool b
abbrev vS (l : List UInt8) : Value := .string ⟨⟨l⟩⟩
abbrev v8 (x : UInt8) : Value := .int .u8 (x.toNat : Int)
abbrev v16 (x : UInt16) : Value := .int .u16 (x.toNat : Int)
abbrev v32 (x : UInt32) : Value := .int .u32 (x.toNat : Int)
abbrev v64 (x : UInt64) : Value := .int .u64 (x.toNat : Int)
abbrev pP (a : Addr) : Value := .pointer (some a)

/-- int's wrap-round. -/
def wI (x : Int) : Int := IntKind.i64.wrap x
theorem wI_eq (x : Int) : wI x = if x % 18446744073709551616 ≥ 9223372036854775808 then x % 18446744073709551616 - 18446744073709551616 else x % 18446744073709551616 := by
  simp [wI, IntKind.wrap, IntKind.bits, IntKind.signed]
theorem wI_in {x : Int} (h0 : -9223372036854775808 ≤ x) (h1 : x ≤ 9223372036854775807) : wI x = x := by
  rw [wI_eq]; split <;> omega
theorem wI_range (x : Int) : -9223372036854775808 ≤ wI x ∧ wI x ≤ 9223372036854775807 := by
  rw [wI_eq]; split <;> omega

def iAnd (x y : Int) : Int := wI ((BitVec.ofInt 64 x &&& BitVec.ofInt 64 y).toNat : Int)
def iOr (x y : Int) : Int := wI ((BitVec.ofInt 64 x ||| BitVec.ofInt 64 y).toNat : Int)
def iXor (x y : Int) : Int := wI ((BitVec.ofInt 64 x ^^^ BitVec.ofInt 64 y).toNat : Int)
def iAndNot (x y : Int) : Int := wI ((BitVec.ofInt 64 x &&& ~~~ BitVec.ofInt 64 y).toNat : Int)
/-- a shift of an int by a number that is not below 0 -/
def iShl (x : Int) (n : Nat) : Int := wI (x * 2 ^ (min n 64))
def iShr (x : Int) (n : Nat) : Int := x.fdiv (2 ^ (min n 64))

section
variable {P : Program}

def BinR (P : Program) (op : BinOp) (T : TypeId) (a b v : Value) : Prop :=
  ∀ (x y : Operand) (w : World), (do eqGuard op T x y a b; binOp op T a b : Sem Value).run P w = .ok v w

def UnR (P : Program) (op : UnOp) (a v : Value) : Prop := ∀ (w : World), (Op.unary op a).run P w = .ok v w
def ConvR (P : Program) (src dst : TypeId) (a v : Value) : Prop := ∀ (w : World), (convert src dst a).run P w = .ok v w

variable {n : Nat} {L : Env} {w : World}
theorem OpV_bin {d : Option Tmp} {op : BinOp} {T T2 : TypeId} {x y : Operand} {a b v : Value} {ty : TypeId} {pos : String} {after : Array Edge}
    (hx : L.ev x = some a) (hy : L.ev y = some b) (h : BinR P op T a b v) : OpV P n L w ⟨d, .binOp op T x y T2, ty, pos, after, none⟩ v w := fun ac ha => by
  have := h x y w
  simp only [Sem.run_bind] at this
  simp [execOp, ha.ev hx, ha.ev hy, Sem.run_bind]
  generalize (eqGuard op T x y a b).run P w = r at *
  cases r with
  | halt h w' => simp [Result.andThen] at this
  | ok u w' => simp [Result.andThen] at this ⊢; rw [this]
theorem OpV_un {d : Option Tmp} {op : UnOp} {T : TypeId} {x : Operand} {a v : Value} {ty : TypeId} {pos : String} {after : Array Edge}
    (hx : L.ev x = some a) (h : UnR P op a v) : OpV P n L w ⟨d, .unOp op T x, ty, pos, after, none⟩ v w := fun ac ha => by
  simp [execOp, ha.ev hx, h w]
theorem OpV_conv {d : Option Tmp} {S T : TypeId} {x : Operand} {a v : Value} {ty : TypeId} {pos : String} {after : Array Edge}
    (hx : L.ev x = some a) (h : ConvR P S T a v) : OpV P n L w ⟨d, .convert S T x, ty, pos, after, none⟩ v w := fun ac ha => by
  simp [execOp, ha.ev hx, h w]
theorem OpV_assign {d : Option Tmp} {x : Operand} {v : Value} {ty : TypeId} {pos : String} {after : Array Edge} (hx : L.ev x = some v) :
    OpV P n L w ⟨d, .assign x, ty, pos, after, none⟩ v w := fun a ha => by
  simp [execOp, ha.ev hx]
theorem OpV_pick {d : Option Tmp} {c x y : Operand} {t : Bool} {u v : Value} {ty : TypeId} {pos : String} {after : Array Edge}
    (hc : L.ev c = some (vB t)) (hx : L.ev x = some u) (hy : L.ev y = some v) :
    OpV P n L w ⟨d, .pick c x y, ty, pos, after, none⟩ (if t then u else v) w := fun a ha => by
  simp [execOp, ha.ev hc, ha.ev hx, ha.ev hy, asBool]
theorem OpV_pickT {d : Option Tmp} {c x y : Operand} {u : Value} {ty : TypeId} {pos : String} {after : Array Edge}
    (hc : L.ev c = some (vB true)) (hx : L.ev x = some u) :
    OpV P n L w ⟨d, .pick c x y, ty, pos, after, none⟩ u w := fun a ha => by
  simp [execOp, ha.ev hc, ha.ev hx, asBool]
theorem OpV_pickF {d : Option Tmp} {c x y : Operand} {v : Value} {ty : TypeId} {pos : String} {after : Array Edge}
    (hc : L.ev c = some (vB false)) (hy : L.ev y = some v) :
    OpV P n L w ⟨d, .pick c x y, ty, pos, after, none⟩ v w := fun a ha => by
  simp [execOp, ha.ev hc, ha.ev hy, asBool]
theorem OpV_extract {d : Option Tmp} {x : Operand} {i : Nat} {vs : Array Value} {v : Value} {ty : TypeId} {pos : String} {after : Array Edge}
    (hx : L.ev x = some (.tuple vs)) (hv : vs[i]? = some v) :
    OpV P n L w ⟨d, .extract x i, ty, pos, after, none⟩ v w := fun a ha => by
  simp [execOp, ha.ev hx, Instr.extract, hv]

/-! int -/
theorem b_iadd (T : TypeId) (x y : Int) : BinR P .add T (vI x) (vI y) (vI (wI (x + y))) := fun _ _ _ => rfl
theorem b_isub (T : TypeId) (x y : Int) : BinR P .sub T (vI x) (vI y) (vI (wI (x - y))) := fun _ _ _ => rfl
theorem b_imul (T : TypeId) (x y : Int) : BinR P .mul T (vI x) (vI y) (vI (wI (x * y))) := fun _ _ _ => rfl
theorem b_iquo (T : TypeId) (x y : Int) (h : ¬ y = 0) : BinR P .quo T (vI x) (vI y) (vI (wI (x.tdiv y))) := fun _ _ _ => by
  simp [eqGuard, binOp, Op.intDiv, h, wI]
theorem b_irem (T : TypeId) (x y : Int) (h : ¬ y = 0) : BinR P .rem T (vI x) (vI y) (vI (x.tmod y)) := fun _ _ _ => by
  simp [eqGuard, binOp, Op.intDiv, h]
theorem b_iand (T : TypeId) (x y : Int) : BinR P .and T (vI x) (vI y) (vI (iAnd x y)) := fun _ _ _ => rfl
theorem b_ior (T : TypeId) (x y : Int) : BinR P .or T (vI x) (vI y) (vI (iOr x y)) := fun _ _ _ => rfl
theorem b_ixor (T : TypeId) (x y : Int) : BinR P .xor T (vI x) (vI y) (vI (iXor x y)) := fun _ _ _ => rfl
theorem b_iandnot (T : TypeId) (x y : Int) : BinR P .andNot T (vI x) (vI y) (vI (iAndNot x y)) := fun _ _ _ => rfl
theorem b_ishl (T : TypeId) (x y : Int) (h : 0 ≤ y) : BinR P .shl T (vI x) (vI y) (vI (iShl x y.toNat)) := fun _ _ _ => by
  have : ¬ y < 0 := by omega
  simp [eqGuard, binOp, Op.shift, this, iShl, wI, IntKind.bits]
theorem b_ishr (T : TypeId) (x y : Int) (h : 0 ≤ y) : BinR P .shr T (vI x) (vI y) (vI (iShr x y.toNat)) := fun _ _ _ => by
  have : ¬ y < 0 := by omega
  simp [eqGuard, binOp, Op.shift, this, iShr, IntKind.bits]
theorem b_ishl64 (T : TypeId) (x : Int) (y : UInt64) : BinR P .shl T (vI x) (v64 y) (vI (iShl x y.toNat)) := fun _ _ _ => by
  have : ¬ (y.toNat : Int) < 0 := by omega
  simp [eqGuard, binOp, Op.shift, this, iShl, wI, IntKind.bits]
theorem b_ishr64 (T : TypeId) (x : Int) (y : UInt64) : BinR P .shr T (vI x) (v64 y) (vI (iShr x y.toNat)) := fun _ _ _ => by
  have : ¬ (y.toNat : Int) < 0 := by omega
  simp [eqGuard, binOp, Op.shift, this, iShr, IntKind.bits]
theorem b_ieql (T : TypeId) (x y : Int) : BinR P .eql T (vI x) (vI y) (vB (x == y)) := fun _ _ _ => rfl
theorem b_ineq (T : TypeId) (x y : Int) : BinR P .neq T (vI x) (vI y) (vB (x != y)) := fun _ _ _ => rfl
theorem b_ilss (T : TypeId) (x y : Int) : BinR P .lss T (vI x) (vI y) (vB (decide (x < y))) := fun _ _ _ => rfl
theorem b_ileq (T : TypeId) (x y : Int) : BinR P .leq T (vI x) (vI y) (vB (decide (x ≤ y))) := fun _ _ _ => rfl
theorem b_igtr (T : TypeId) (x y : Int) : BinR P .gtr T (vI x) (vI y) (vB (decide (y < x))) := fun _ _ _ => rfl
theorem b_igeq (T : TypeId) (x y : Int) : BinR P .geq T (vI x) (vI y) (vB (decide (y ≤ x))) := fun _ _ _ => rfl
theorem u_ineg (x : Int) : UnR P .neg (vI x) (vI (wI (0 - x))) := fun _ => rfl
theorem u_not (b : Bool) : UnR P .not (vB b) (vB (!b)) := fun _ => rfl

/-! texts -/
theorem vS_toList (l : List UInt8) : (⟨⟨l⟩⟩ : ByteArray).toList = l := by
  exact Lib.toList_data _

/-! uint8 -/
def shl8 (x : UInt8) (n : Nat) : UInt8 := UInt8.ofNat (x.toNat * 2 ^ (min n 8))
def shr8 (x : UInt8) (n : Nat) : UInt8 := UInt8.ofNat (x.toNat / 2 ^ (min n 8))
theorem wrapU8 (x : Nat) : IntKind.u8.wrap (x : Int) = ((UInt8.ofNat x).toNat : Int) := by
  simp [IntKind.wrap, IntKind.bits, IntKind.signed, UInt8.toNat_ofNat']
theorem wrapUI8 (x : Int) : IntKind.u8.wrap x = ((UInt8.ofInt x).toNat : Int) := by
  simp [IntKind.wrap, IntKind.bits, IntKind.signed, UInt8.ofInt, UInt8.toNat_ofNat']
  omega
theorem bv8 (x : UInt8) : BitVec.ofInt 8 (x.toNat : Int) = x.toBitVec := by
  apply BitVec.eq_of_toNat_eq
  simp
theorem b_add8 (T : TypeId) (x y : UInt8) : BinR P .add T (v8 x) (v8 y) (v8 (x + y)) := fun _ _ w => by
  have : (v8 (x + y)) = .int .u8 (IntKind.u8.wrap ((x.toNat : Int) + y.toNat)) := by
    rw [show (x.toNat : Int) + y.toNat = ((x.toNat + y.toNat : Nat) : Int) by simp, wrapU8]
    simp [v8, UInt8.toNat_add]
  rw [this]; rfl
theorem b_sub8 (T : TypeId) (x y : UInt8) : BinR P .sub T (v8 x) (v8 y) (v8 (x - y)) := fun _ _ w => by
  have : (v8 (x - y)) = .int .u8 (IntKind.u8.wrap ((x.toNat : Int) - y.toNat)) := by
    simp only [v8, Value.int.injEq, true_and, UInt8.toNat_sub]
    simp [IntKind.wrap, IntKind.bits, IntKind.signed]
    have := x.toNat_lt; have := y.toNat_lt
    omega
  rw [this]; rfl
theorem b_mul8 (T : TypeId) (x y : UInt8) : BinR P .mul T (v8 x) (v8 y) (v8 (x * y)) := fun _ _ w => by
  have : (v8 (x * y)) = .int .u8 (IntKind.u8.wrap ((x.toNat : Int) * y.toNat)) := by
    rw [show (x.toNat : Int) * y.toNat = ((x.toNat * y.toNat : Nat) : Int) by simp, wrapU8]
    simp [v8, UInt8.toNat_mul]
  rw [this]; rfl
theorem b_quo8 (T : TypeId) (x y : UInt8) (h : ¬ y = 0) : BinR P .quo T (v8 x) (v8 y) (v8 (x / y)) := fun _ _ w => by
  have hy : ¬ (y.toNat : Int) = 0 := fun e => h (UInt8.toNat_inj.1 (by simpa using e))
  have : IntKind.u8.wrap (((x.toNat : Int)).tdiv y.toNat) = ((x / y).toNat : Int) := by
    rw [show ((x.toNat : Int)).tdiv y.toNat = ((x.toNat / y.toNat : Nat) : Int) from rfl, wrapU8]
    rw [UInt8.toNat_div, UInt8.toNat_ofNat', Nat.mod_eq_of_lt (Nat.lt_of_le_of_lt (Nat.div_le_self _ _) x.toNat_lt)]
  simp only [eqGuard, binOp, Op.intDiv, if_neg hy, this]; rfl
theorem b_rem8 (T : TypeId) (x y : UInt8) (h : ¬ y = 0) : BinR P .rem T (v8 x) (v8 y) (v8 (x % y)) := fun _ _ w => by
  have hy : ¬ (y.toNat : Int) = 0 := fun e => h (UInt8.toNat_inj.1 (by simpa using e))
  have : ((x.toNat : Int)).tmod y.toNat = ((x % y).toNat : Int) := by rw [UInt8.toNat_mod]; rfl
  simp only [eqGuard, binOp, Op.intDiv, if_neg hy, this]; rfl
theorem b_and8 (T : TypeId) (x y : UInt8) : BinR P .and T (v8 x) (v8 y) (v8 (x &&& y)) := fun _ _ w => by
  have : (v8 (x &&& y)) = .int .u8 (IntKind.u8.wrap ((BitVec.ofInt 8 (x.toNat : Int) &&& BitVec.ofInt 8 (y.toNat : Int)).toNat : Int)) := by
    rw [bv8, bv8, wrapU8]
    simp [v8]
  rw [this]; rfl
theorem b_or8 (T : TypeId) (x y : UInt8) : BinR P .or T (v8 x) (v8 y) (v8 (x ||| y)) := fun _ _ w => by
  have : (v8 (x ||| y)) = .int .u8 (IntKind.u8.wrap ((BitVec.ofInt 8 (x.toNat : Int) ||| BitVec.ofInt 8 (y.toNat : Int)).toNat : Int)) := by
    rw [bv8, bv8, wrapU8]
    simp [v8]
  rw [this]; rfl
theorem b_xor8 (T : TypeId) (x y : UInt8) : BinR P .xor T (v8 x) (v8 y) (v8 (x ^^^ y)) := fun _ _ w => by
  have : (v8 (x ^^^ y)) = .int .u8 (IntKind.u8.wrap ((BitVec.ofInt 8 (x.toNat : Int) ^^^ BitVec.ofInt 8 (y.toNat : Int)).toNat : Int)) := by
    rw [bv8, bv8, wrapU8]
    simp [v8]
  rw [this]; rfl
theorem b_andnot8 (T : TypeId) (x y : UInt8) : BinR P .andNot T (v8 x) (v8 y) (v8 (x &&& ~~~ y)) := fun _ _ w => by
  have : (v8 (x &&& ~~~ y)) = .int .u8 (IntKind.u8.wrap ((BitVec.ofInt 8 (x.toNat : Int) &&& ~~~ BitVec.ofInt 8 (y.toNat : Int)).toNat : Int)) := by
    rw [bv8, bv8, wrapU8, ← UInt8.toBitVec_not, ← UInt8.toBitVec_and, UInt8.toNat_toBitVec]
    simp only [v8, UInt8.toNat_ofNat', Value.int.injEq, true_and]
    exact_mod_cast (Nat.mod_eq_of_lt (x &&& ~~~ y).toNat_lt).symm
  rw [this]; rfl
theorem r_shl8 (T : TypeId) (k : IntKind) (x : UInt8) (y : Int) (h : 0 ≤ y) : BinR P .shl T (v8 x) (.int k y) (v8 (shl8 x y.toNat)) := fun _ _ w => by
  have hy : ¬ y < 0 := by omega
  have : IntKind.u8.wrap ((x.toNat : Int) * 2 ^ (min y.toNat 8)) = ((shl8 x y.toNat).toNat : Int) := by
    rw [show (x.toNat : Int) * 2 ^ (min y.toNat 8) = ((x.toNat * 2 ^ (min y.toNat 8) : Nat) : Int) by simp, wrapU8]; rfl
  simp [eqGuard, binOp, Op.shift, hy, IntKind.bits, this]
theorem r_shr8 (T : TypeId) (k : IntKind) (x : UInt8) (y : Int) (h : 0 ≤ y) : BinR P .shr T (v8 x) (.int k y) (v8 (shr8 x y.toNat)) := fun _ _ w => by
  have hy : ¬ y < 0 := by omega
  have : (x.toNat : Int).fdiv (2 ^ (min y.toNat 8)) = ((shr8 x y.toNat).toNat : Int) := by
    rw [Int.fdiv_eq_ediv_of_nonneg _ (Int.le_of_lt (Int.pow_pos (by omega)))]
    simp only [shr8, UInt8.toNat_ofNat']
    have := x.toNat_lt
    rw [Nat.mod_eq_of_lt (Nat.lt_of_le_of_lt (Nat.div_le_self _ _) this)]
    simp
  simp [eqGuard, binOp, Op.shift, hy, IntKind.bits, this]
theorem b_shl8_64 (T : TypeId) (x : UInt8) (y : UInt64) : BinR P .shl T (v8 x) (v64 y) (v8 (shl8 x y.toNat)) := by
  have := r_shl8 (P := P) T .u64 x y.toNat (by omega); simpa using this
theorem b_shr8_64 (T : TypeId) (x : UInt8) (y : UInt64) : BinR P .shr T (v8 x) (v64 y) (v8 (shr8 x y.toNat)) := by
  have := r_shr8 (P := P) T .u64 x y.toNat (by omega); simpa using this
theorem b_shl8_i (T : TypeId) (x : UInt8) (y : Int) (h : 0 ≤ y) : BinR P .shl T (v8 x) (vI y) (v8 (shl8 x y.toNat)) := r_shl8 T .i64 x y h
theorem b_shr8_i (T : TypeId) (x : UInt8) (y : Int) (h : 0 ≤ y) : BinR P .shr T (v8 x) (vI y) (v8 (shr8 x y.toNat)) := r_shr8 T .i64 x y h
theorem b_eql8 (T : TypeId) (x y : UInt8) : BinR P .eql T (v8 x) (v8 y) (vB (x == y)) := fun _ _ w => by
  have : (x == y) = ((x.toNat : Int) == (y.toNat : Int)) := by
    rw [Bool.eq_iff_iff]; simp [← UInt8.toNat_inj]; omega
  rw [this]; rfl
theorem b_neq8 (T : TypeId) (x y : UInt8) : BinR P .neq T (v8 x) (v8 y) (vB (x != y)) := fun _ _ w => by
  have : (x != y) = ((x.toNat : Int) != (y.toNat : Int)) := by
    rw [Bool.eq_iff_iff]; simp [← UInt8.toNat_inj]; omega
  rw [this]; rfl
theorem b_lss8 (T : TypeId) (x y : UInt8) : BinR P .lss T (v8 x) (v8 y) (vB (decide (x < y))) := fun _ _ w => by
  have : decide (x < y) = decide ((x.toNat : Int) < (y.toNat : Int)) := by
    rw [Bool.eq_iff_iff]; simp [UInt8.lt_iff_toNat_lt]
  rw [this]; rfl
theorem b_leq8 (T : TypeId) (x y : UInt8) : BinR P .leq T (v8 x) (v8 y) (vB (decide (x ≤ y))) := fun _ _ w => by
  have : decide (x ≤ y) = decide ((x.toNat : Int) ≤ (y.toNat : Int)) := by
    rw [Bool.eq_iff_iff]; simp [UInt8.le_iff_toNat_le]
  rw [this]; rfl
theorem b_gtr8 (T : TypeId) (x y : UInt8) : BinR P .gtr T (v8 x) (v8 y) (vB (decide (y < x))) := fun _ _ w => by
  have : decide (y < x) = decide ((y.toNat : Int) < (x.toNat : Int)) := by
    rw [Bool.eq_iff_iff]; simp [UInt8.lt_iff_toNat_lt]
  rw [this]; rfl
theorem b_geq8 (T : TypeId) (x y : UInt8) : BinR P .geq T (v8 x) (v8 y) (vB (decide (y ≤ x))) := fun _ _ w => by
  have : decide (y ≤ x) = decide ((y.toNat : Int) ≤ (x.toNat : Int)) := by
    rw [Bool.eq_iff_iff]; simp [UInt8.le_iff_toNat_le]
  rw [this]; rfl
theorem u_xor8 (x : UInt8) : UnR P .xor (v8 x) (v8 (~~~ x)) := fun _ => by
  have : (v8 (~~~ x)) = .int .u8 (IntKind.u8.wrap ((BitVec.ofInt 8 IntKind.u8.max ^^^ BitVec.ofInt 8 (x.toNat : Int)).toNat : Int)) := by
    rw [bv8, wrapU8]
    have h1 : BitVec.ofInt 8 IntKind.u8.max = BitVec.allOnes 8 := by decide
    rw [h1, BitVec.allOnes_xor, ← UInt8.toBitVec_not, UInt8.toNat_toBitVec]
    simp only [v8, UInt8.toNat_ofNat', Value.int.injEq, true_and]
    exact_mod_cast (Nat.mod_eq_of_lt (~~~ x).toNat_lt).symm
  rw [this]; rfl
theorem u_neg8 (x : UInt8) : UnR P .neg (v8 x) (v8 (0 - x)) := fun _ => by
  have : (v8 (0 - x)) = .int .u8 (IntKind.u8.wrap (0 - (x.toNat : Int))) := by
    simp only [v8, Value.int.injEq, true_and, UInt8.toNat_sub]
    simp [IntKind.wrap, IntKind.bits, IntKind.signed]
    have := x.toNat_lt
    omega
  rw [this]; rfl

/-! uint16 -/
def shl16 (x : UInt16) (n : Nat) : UInt16 := UInt16.ofNat (x.toNat * 2 ^ (min n 16))
def shr16 (x : UInt16) (n : Nat) : UInt16 := UInt16.ofNat (x.toNat / 2 ^ (min n 16))
theorem wrapU16 (x : Nat) : IntKind.u16.wrap (x : Int) = ((UInt16.ofNat x).toNat : Int) := by
  simp [IntKind.wrap, IntKind.bits, IntKind.signed, UInt16.toNat_ofNat']
theorem wrapUI16 (x : Int) : IntKind.u16.wrap x = ((UInt16.ofInt x).toNat : Int) := by
  simp [IntKind.wrap, IntKind.bits, IntKind.signed, UInt16.ofInt, UInt16.toNat_ofNat']
  omega
theorem bv16 (x : UInt16) : BitVec.ofInt 16 (x.toNat : Int) = x.toBitVec := by
  apply BitVec.eq_of_toNat_eq
  simp
theorem b_add16 (T : TypeId) (x y : UInt16) : BinR P .add T (v16 x) (v16 y) (v16 (x + y)) := fun _ _ w => by
  have : (v16 (x + y)) = .int .u16 (IntKind.u16.wrap ((x.toNat : Int) + y.toNat)) := by
    rw [show (x.toNat : Int) + y.toNat = ((x.toNat + y.toNat : Nat) : Int) by simp, wrapU16]
    simp [v16, UInt16.toNat_add]
  rw [this]; rfl
theorem b_sub16 (T : TypeId) (x y : UInt16) : BinR P .sub T (v16 x) (v16 y) (v16 (x - y)) := fun _ _ w => by
  have : (v16 (x - y)) = .int .u16 (IntKind.u16.wrap ((x.toNat : Int) - y.toNat)) := by
    simp only [v16, Value.int.injEq, true_and, UInt16.toNat_sub]
    simp [IntKind.wrap, IntKind.bits, IntKind.signed]
    have := x.toNat_lt; have := y.toNat_lt
    omega
  rw [this]; rfl
theorem b_mul16 (T : TypeId) (x y : UInt16) : BinR P .mul T (v16 x) (v16 y) (v16 (x * y)) := fun _ _ w => by
  have : (v16 (x * y)) = .int .u16 (IntKind.u16.wrap ((x.toNat : Int) * y.toNat)) := by
    rw [show (x.toNat : Int) * y.toNat = ((x.toNat * y.toNat : Nat) : Int) by simp, wrapU16]
    simp [v16, UInt16.toNat_mul]
  rw [this]; rfl
theorem b_quo16 (T : TypeId) (x y : UInt16) (h : ¬ y = 0) : BinR P .quo T (v16 x) (v16 y) (v16 (x / y)) := fun _ _ w => by
  have hy : ¬ (y.toNat : Int) = 0 := fun e => h (UInt16.toNat_inj.1 (by simpa using e))
  have : IntKind.u16.wrap (((x.toNat : Int)).tdiv y.toNat) = ((x / y).toNat : Int) := by
    rw [show ((x.toNat : Int)).tdiv y.toNat = ((x.toNat / y.toNat : Nat) : Int) from rfl, wrapU16]
    rw [UInt16.toNat_div, UInt16.toNat_ofNat', Nat.mod_eq_of_lt (Nat.lt_of_le_of_lt (Nat.div_le_self _ _) x.toNat_lt)]
  simp only [eqGuard, binOp, Op.intDiv, if_neg hy, this]; rfl
theorem b_rem16 (T : TypeId) (x y : UInt16) (h : ¬ y = 0) : BinR P .rem T (v16 x) (v16 y) (v16 (x % y)) := fun _ _ w => by
  have hy : ¬ (y.toNat : Int) = 0 := fun e => h (UInt16.toNat_inj.1 (by simpa using e))
  have : ((x.toNat : Int)).tmod y.toNat = ((x % y).toNat : Int) := by rw [UInt16.toNat_mod]; rfl
  simp only [eqGuard, binOp, Op.intDiv, if_neg hy, this]; rfl
theorem b_and16 (T : TypeId) (x y : UInt16) : BinR P .and T (v16 x) (v16 y) (v16 (x &&& y)) := fun _ _ w => by
  have : (v16 (x &&& y)) = .int .u16 (IntKind.u16.wrap ((BitVec.ofInt 16 (x.toNat : Int) &&& BitVec.ofInt 16 (y.toNat : Int)).toNat : Int)) := by
    rw [bv16, bv16, wrapU16]
    simp [v16]
  rw [this]; rfl
theorem b_or16 (T : TypeId) (x y : UInt16) : BinR P .or T (v16 x) (v16 y) (v16 (x ||| y)) := fun _ _ w => by
  have : (v16 (x ||| y)) = .int .u16 (IntKind.u16.wrap ((BitVec.ofInt 16 (x.toNat : Int) ||| BitVec.ofInt 16 (y.toNat : Int)).toNat : Int)) := by
    rw [bv16, bv16, wrapU16]
    simp [v16]
  rw [this]; rfl
theorem b_xor16 (T : TypeId) (x y : UInt16) : BinR P .xor T (v16 x) (v16 y) (v16 (x ^^^ y)) := fun _ _ w => by
  have : (v16 (x ^^^ y)) = .int .u16 (IntKind.u16.wrap ((BitVec.ofInt 16 (x.toNat : Int) ^^^ BitVec.ofInt 16 (y.toNat : Int)).toNat : Int)) := by
    rw [bv16, bv16, wrapU16]
    simp [v16]
  rw [this]; rfl
theorem b_andnot16 (T : TypeId) (x y : UInt16) : BinR P .andNot T (v16 x) (v16 y) (v16 (x &&& ~~~ y)) := fun _ _ w => by
  have : (v16 (x &&& ~~~ y)) = .int .u16 (IntKind.u16.wrap ((BitVec.ofInt 16 (x.toNat : Int) &&& ~~~ BitVec.ofInt 16 (y.toNat : Int)).toNat : Int)) := by
    rw [bv16, bv16, wrapU16, ← UInt16.toBitVec_not, ← UInt16.toBitVec_and, UInt16.toNat_toBitVec]
    simp only [v16, UInt16.toNat_ofNat', Value.int.injEq, true_and]
    exact_mod_cast (Nat.mod_eq_of_lt (x &&& ~~~ y).toNat_lt).symm
  rw [this]; rfl
theorem r_shl16 (T : TypeId) (k : IntKind) (x : UInt16) (y : Int) (h : 0 ≤ y) : BinR P .shl T (v16 x) (.int k y) (v16 (shl16 x y.toNat)) := fun _ _ w => by
  have hy : ¬ y < 0 := by omega
  have : IntKind.u16.wrap ((x.toNat : Int) * 2 ^ (min y.toNat 16)) = ((shl16 x y.toNat).toNat : Int) := by
    rw [show (x.toNat : Int) * 2 ^ (min y.toNat 16) = ((x.toNat * 2 ^ (min y.toNat 16) : Nat) : Int) by simp, wrapU16]; rfl
  simp [eqGuard, binOp, Op.shift, hy, IntKind.bits, this]
theorem r_shr16 (T : TypeId) (k : IntKind) (x : UInt16) (y : Int) (h : 0 ≤ y) : BinR P .shr T (v16 x) (.int k y) (v16 (shr16 x y.toNat)) := fun _ _ w => by
  have hy : ¬ y < 0 := by omega
  have : (x.toNat : Int).fdiv (2 ^ (min y.toNat 16)) = ((shr16 x y.toNat).toNat : Int) := by
    rw [Int.fdiv_eq_ediv_of_nonneg _ (Int.le_of_lt (Int.pow_pos (by omega)))]
    simp only [shr16, UInt16.toNat_ofNat']
    have := x.toNat_lt
    rw [Nat.mod_eq_of_lt (Nat.lt_of_le_of_lt (Nat.div_le_self _ _) this)]
    simp
  simp [eqGuard, binOp, Op.shift, hy, IntKind.bits, this]
theorem b_shl16_64 (T : TypeId) (x : UInt16) (y : UInt64) : BinR P .shl T (v16 x) (v64 y) (v16 (shl16 x y.toNat)) := by
  have := r_shl16 (P := P) T .u64 x y.toNat (by omega); simpa using this
theorem b_shr16_64 (T : TypeId) (x : UInt16) (y : UInt64) : BinR P .shr T (v16 x) (v64 y) (v16 (shr16 x y.toNat)) := by
  have := r_shr16 (P := P) T .u64 x y.toNat (by omega); simpa using this
theorem b_shl16_i (T : TypeId) (x : UInt16) (y : Int) (h : 0 ≤ y) : BinR P .shl T (v16 x) (vI y) (v16 (shl16 x y.toNat)) := r_shl16 T .i64 x y h
theorem b_shr16_i (T : TypeId) (x : UInt16) (y : Int) (h : 0 ≤ y) : BinR P .shr T (v16 x) (vI y) (v16 (shr16 x y.toNat)) := r_shr16 T .i64 x y h
theorem b_eql16 (T : TypeId) (x y : UInt16) : BinR P .eql T (v16 x) (v16 y) (vB (x == y)) := fun _ _ w => by
  have : (x == y) = ((x.toNat : Int) == (y.toNat : Int)) := by
    rw [Bool.eq_iff_iff]; simp [← UInt16.toNat_inj]; omega
  rw [this]; rfl
theorem b_neq16 (T : TypeId) (x y : UInt16) : BinR P .neq T (v16 x) (v16 y) (vB (x != y)) := fun _ _ w => by
  have : (x != y) = ((x.toNat : Int) != (y.toNat : Int)) := by
    rw [Bool.eq_iff_iff]; simp [← UInt16.toNat_inj]; omega
  rw [this]; rfl
theorem b_lss16 (T : TypeId) (x y : UInt16) : BinR P .lss T (v16 x) (v16 y) (vB (decide (x < y))) := fun _ _ w => by
  have : decide (x < y) = decide ((x.toNat : Int) < (y.toNat : Int)) := by
    rw [Bool.eq_iff_iff]; simp [UInt16.lt_iff_toNat_lt]
  rw [this]; rfl
theorem b_leq16 (T : TypeId) (x y : UInt16) : BinR P .leq T (v16 x) (v16 y) (vB (decide (x ≤ y))) := fun _ _ w => by
  have : decide (x ≤ y) = decide ((x.toNat : Int) ≤ (y.toNat : Int)) := by
    rw [Bool.eq_iff_iff]; simp [UInt16.le_iff_toNat_le]
  rw [this]; rfl
theorem b_gtr16 (T : TypeId) (x y : UInt16) : BinR P .gtr T (v16 x) (v16 y) (vB (decide (y < x))) := fun _ _ w => by
  have : decide (y < x) = decide ((y.toNat : Int) < (x.toNat : Int)) := by
    rw [Bool.eq_iff_iff]; simp [UInt16.lt_iff_toNat_lt]
  rw [this]; rfl
theorem b_geq16 (T : TypeId) (x y : UInt16) : BinR P .geq T (v16 x) (v16 y) (vB (decide (y ≤ x))) := fun _ _ w => by
  have : decide (y ≤ x) = decide ((y.toNat : Int) ≤ (x.toNat : Int)) := by
    rw [Bool.eq_iff_iff]; simp [UInt16.le_iff_toNat_le]
  rw [this]; rfl
theorem u_xor16 (x : UInt16) : UnR P .xor (v16 x) (v16 (~~~ x)) := fun _ => by
  have : (v16 (~~~ x)) = .int .u16 (IntKind.u16.wrap ((BitVec.ofInt 16 IntKind.u16.max ^^^ BitVec.ofInt 16 (x.toNat : Int)).toNat : Int)) := by
    rw [bv16, wrapU16]
    have h1 : BitVec.ofInt 16 IntKind.u16.max = BitVec.allOnes 16 := by decide
    rw [h1, BitVec.allOnes_xor, ← UInt16.toBitVec_not, UInt16.toNat_toBitVec]
    simp only [v16, UInt16.toNat_ofNat', Value.int.injEq, true_and]
    exact_mod_cast (Nat.mod_eq_of_lt (~~~ x).toNat_lt).symm
  rw [this]; rfl
theorem u_neg16 (x : UInt16) : UnR P .neg (v16 x) (v16 (0 - x)) := fun _ => by
  have : (v16 (0 - x)) = .int .u16 (IntKind.u16.wrap (0 - (x.toNat : Int))) := by
    simp only [v16, Value.int.injEq, true_and, UInt16.toNat_sub]
    simp [IntKind.wrap, IntKind.bits, IntKind.signed]
    have := x.toNat_lt
    omega
  rw [this]; rfl

/-! uint32 -/
def shl32 (x : UInt32) (n : Nat) : UInt32 := UInt32.ofNat (x.toNat * 2 ^ (min n 32))
def shr32 (x : UInt32) (n : Nat) : UInt32 := UInt32.ofNat (x.toNat / 2 ^ (min n 32))
theorem wrapU32 (x : Nat) : IntKind.u32.wrap (x : Int) = ((UInt32.ofNat x).toNat : Int) := by
  simp [IntKind.wrap, IntKind.bits, IntKind.signed, UInt32.toNat_ofNat']
theorem wrapUI32 (x : Int) : IntKind.u32.wrap x = ((UInt32.ofInt x).toNat : Int) := by
  simp [IntKind.wrap, IntKind.bits, IntKind.signed, UInt32.ofInt, UInt32.toNat_ofNat']
  omega
theorem bv32 (x : UInt32) : BitVec.ofInt 32 (x.toNat : Int) = x.toBitVec := by
  apply BitVec.eq_of_toNat_eq
  simp
theorem b_add32 (T : TypeId) (x y : UInt32) : BinR P .add T (v32 x) (v32 y) (v32 (x + y)) := fun _ _ w => by
  have : (v32 (x + y)) = .int .u32 (IntKind.u32.wrap ((x.toNat : Int) + y.toNat)) := by
    rw [show (x.toNat : Int) + y.toNat = ((x.toNat + y.toNat : Nat) : Int) by simp, wrapU32]
    simp [v32, UInt32.toNat_add]
  rw [this]; rfl
theorem b_sub32 (T : TypeId) (x y : UInt32) : BinR P .sub T (v32 x) (v32 y) (v32 (x - y)) := fun _ _ w => by
  have : (v32 (x - y)) = .int .u32 (IntKind.u32.wrap ((x.toNat : Int) - y.toNat)) := by
    simp only [v32, Value.int.injEq, true_and, UInt32.toNat_sub]
    simp [IntKind.wrap, IntKind.bits, IntKind.signed]
    have := x.toNat_lt; have := y.toNat_lt
    omega
  rw [this]; rfl
theorem b_mul32 (T : TypeId) (x y : UInt32) : BinR P .mul T (v32 x) (v32 y) (v32 (x * y)) := fun _ _ w => by
  have : (v32 (x * y)) = .int .u32 (IntKind.u32.wrap ((x.toNat : Int) * y.toNat)) := by
    rw [show (x.toNat : Int) * y.toNat = ((x.toNat * y.toNat : Nat) : Int) by simp, wrapU32]
    simp [v32, UInt32.toNat_mul]
  rw [this]; rfl
theorem b_quo32 (T : TypeId) (x y : UInt32) (h : ¬ y = 0) : BinR P .quo T (v32 x) (v32 y) (v32 (x / y)) := fun _ _ w => by
  have hy : ¬ (y.toNat : Int) = 0 := fun e => h (UInt32.toNat_inj.1 (by simpa using e))
  have : IntKind.u32.wrap (((x.toNat : Int)).tdiv y.toNat) = ((x / y).toNat : Int) := by
    rw [show ((x.toNat : Int)).tdiv y.toNat = ((x.toNat / y.toNat : Nat) : Int) from rfl, wrapU32]
    rw [UInt32.toNat_div, UInt32.toNat_ofNat', Nat.mod_eq_of_lt (Nat.lt_of_le_of_lt (Nat.div_le_self _ _) x.toNat_lt)]
  simp only [eqGuard, binOp, Op.intDiv, if_neg hy, this]; rfl
theorem b_rem32 (T : TypeId) (x y : UInt32) (h : ¬ y = 0) : BinR P .rem T (v32 x) (v32 y) (v32 (x % y)) := fun _ _ w => by
  have hy : ¬ (y.toNat : Int) = 0 := fun e => h (UInt32.toNat_inj.1 (by simpa using e))
  have : ((x.toNat : Int)).tmod y.toNat = ((x % y).toNat : Int) := by rw [UInt32.toNat_mod]; rfl
  simp only [eqGuard, binOp, Op.intDiv, if_neg hy, this]; rfl
theorem b_and32 (T : TypeId) (x y : UInt32) : BinR P .and T (v32 x) (v32 y) (v32 (x &&& y)) := fun _ _ w => by
  have : (v32 (x &&& y)) = .int .u32 (IntKind.u32.wrap ((BitVec.ofInt 32 (x.toNat : Int) &&& BitVec.ofInt 32 (y.toNat : Int)).toNat : Int)) := by
    rw [bv32, bv32, wrapU32]
    simp [v32]
  rw [this]; rfl
theorem b_or32 (T : TypeId) (x y : UInt32) : BinR P .or T (v32 x) (v32 y) (v32 (x ||| y)) := fun _ _ w => by
  have : (v32 (x ||| y)) = .int .u32 (IntKind.u32.wrap ((BitVec.ofInt 32 (x.toNat : Int) ||| BitVec.ofInt 32 (y.toNat : Int)).toNat : Int)) := by
    rw [bv32, bv32, wrapU32]
    simp [v32]
  rw [this]; rfl
theorem b_xor32 (T : TypeId) (x y : UInt32) : BinR P .xor T (v32 x) (v32 y) (v32 (x ^^^ y)) := fun _ _ w => by
  have : (v32 (x ^^^ y)) = .int .u32 (IntKind.u32.wrap ((BitVec.ofInt 32 (x.toNat : Int) ^^^ BitVec.ofInt 32 (y.toNat : Int)).toNat : Int)) := by
    rw [bv32, bv32, wrapU32]
    simp [v32]
  rw [this]; rfl
theorem b_andnot32 (T : TypeId) (x y : UInt32) : BinR P .andNot T (v32 x) (v32 y) (v32 (x &&& ~~~ y)) := fun _ _ w => by
  have : (v32 (x &&& ~~~ y)) = .int .u32 (IntKind.u32.wrap ((BitVec.ofInt 32 (x.toNat : Int) &&& ~~~ BitVec.ofInt 32 (y.toNat : Int)).toNat : Int)) := by
    rw [bv32, bv32, wrapU32, ← UInt32.toBitVec_not, ← UInt32.toBitVec_and, UInt32.toNat_toBitVec]
    simp only [v32, UInt32.toNat_ofNat', Value.int.injEq, true_and]
    exact_mod_cast (Nat.mod_eq_of_lt (x &&& ~~~ y).toNat_lt).symm
  rw [this]; rfl
theorem r_shl32 (T : TypeId) (k : IntKind) (x : UInt32) (y : Int) (h : 0 ≤ y) : BinR P .shl T (v32 x) (.int k y) (v32 (shl32 x y.toNat)) := fun _ _ w => by
  have hy : ¬ y < 0 := by omega
  have : IntKind.u32.wrap ((x.toNat : Int) * 2 ^ (min y.toNat 32)) = ((shl32 x y.toNat).toNat : Int) := by
    rw [show (x.toNat : Int) * 2 ^ (min y.toNat 32) = ((x.toNat * 2 ^ (min y.toNat 32) : Nat) : Int) by simp, wrapU32]; rfl
  simp [eqGuard, binOp, Op.shift, hy, IntKind.bits, this]
theorem r_shr32 (T : TypeId) (k : IntKind) (x : UInt32) (y : Int) (h : 0 ≤ y) : BinR P .shr T (v32 x) (.int k y) (v32 (shr32 x y.toNat)) := fun _ _ w => by
  have hy : ¬ y < 0 := by omega
  have : (x.toNat : Int).fdiv (2 ^ (min y.toNat 32)) = ((shr32 x y.toNat).toNat : Int) := by
    rw [Int.fdiv_eq_ediv_of_nonneg _ (Int.le_of_lt (Int.pow_pos (by omega)))]
    simp only [shr32, UInt32.toNat_ofNat']
    have := x.toNat_lt
    rw [Nat.mod_eq_of_lt (Nat.lt_of_le_of_lt (Nat.div_le_self _ _) this)]
    simp
  simp [eqGuard, binOp, Op.shift, hy, IntKind.bits, this]
theorem b_shl32_64 (T : TypeId) (x : UInt32) (y : UInt64) : BinR P .shl T (v32 x) (v64 y) (v32 (shl32 x y.toNat)) := by
  have := r_shl32 (P := P) T .u64 x y.toNat (by omega); simpa using this
theorem b_shr32_64 (T : TypeId) (x : UInt32) (y : UInt64) : BinR P .shr T (v32 x) (v64 y) (v32 (shr32 x y.toNat)) := by
  have := r_shr32 (P := P) T .u64 x y.toNat (by omega); simpa using this
theorem b_shl32_i (T : TypeId) (x : UInt32) (y : Int) (h : 0 ≤ y) : BinR P .shl T (v32 x) (vI y) (v32 (shl32 x y.toNat)) := r_shl32 T .i64 x y h
theorem b_shr32_i (T : TypeId) (x : UInt32) (y : Int) (h : 0 ≤ y) : BinR P .shr T (v32 x) (vI y) (v32 (shr32 x y.toNat)) := r_shr32 T .i64 x y h
theorem b_eql32 (T : TypeId) (x y : UInt32) : BinR P .eql T (v32 x) (v32 y) (vB (x == y)) := fun _ _ w => by
  have : (x == y) = ((x.toNat : Int) == (y.toNat : Int)) := by
    rw [Bool.eq_iff_iff]; simp [← UInt32.toNat_inj]; omega
  rw [this]; rfl
theorem b_neq32 (T : TypeId) (x y : UInt32) : BinR P .neq T (v32 x) (v32 y) (vB (x != y)) := fun _ _ w => by
  have : (x != y) = ((x.toNat : Int) != (y.toNat : Int)) := by
    rw [Bool.eq_iff_iff]; simp [← UInt32.toNat_inj]; omega
  rw [this]; rfl
theorem b_lss32 (T : TypeId) (x y : UInt32) : BinR P .lss T (v32 x) (v32 y) (vB (decide (x < y))) := fun _ _ w => by
  have : decide (x < y) = decide ((x.toNat : Int) < (y.toNat : Int)) := by
    rw [Bool.eq_iff_iff]; simp [UInt32.lt_iff_toNat_lt]
  rw [this]; rfl
theorem b_leq32 (T : TypeId) (x y : UInt32) : BinR P .leq T (v32 x) (v32 y) (vB (decide (x ≤ y))) := fun _ _ w => by
  have : decide (x ≤ y) = decide ((x.toNat : Int) ≤ (y.toNat : Int)) := by
    rw [Bool.eq_iff_iff]; simp [UInt32.le_iff_toNat_le]
  rw [this]; rfl
theorem b_gtr32 (T : TypeId) (x y : UInt32) : BinR P .gtr T (v32 x) (v32 y) (vB (decide (y < x))) := fun _ _ w => by
  have : decide (y < x) = decide ((y.toNat : Int) < (x.toNat : Int)) := by
    rw [Bool.eq_iff_iff]; simp [UInt32.lt_iff_toNat_lt]
  rw [this]; rfl
theorem b_geq32 (T : TypeId) (x y : UInt32) : BinR P .geq T (v32 x) (v32 y) (vB (decide (y ≤ x))) := fun _ _ w => by
  have : decide (y ≤ x) = decide ((y.toNat : Int) ≤ (x.toNat : Int)) := by
    rw [Bool.eq_iff_iff]; simp [UInt32.le_iff_toNat_le]
  rw [this]; rfl
theorem u_xor32 (x : UInt32) : UnR P .xor (v32 x) (v32 (~~~ x)) := fun _ => by
  have : (v32 (~~~ x)) = .int .u32 (IntKind.u32.wrap ((BitVec.ofInt 32 IntKind.u32.max ^^^ BitVec.ofInt 32 (x.toNat : Int)).toNat : Int)) := by
    rw [bv32, wrapU32]
    have h1 : BitVec.ofInt 32 IntKind.u32.max = BitVec.allOnes 32 := by decide
    rw [h1, BitVec.allOnes_xor, ← UInt32.toBitVec_not, UInt32.toNat_toBitVec]
    simp only [v32, UInt32.toNat_ofNat', Value.int.injEq, true_and]
    exact_mod_cast (Nat.mod_eq_of_lt (~~~ x).toNat_lt).symm
  rw [this]; rfl
theorem u_neg32 (x : UInt32) : UnR P .neg (v32 x) (v32 (0 - x)) := fun _ => by
  have : (v32 (0 - x)) = .int .u32 (IntKind.u32.wrap (0 - (x.toNat : Int))) := by
    simp only [v32, Value.int.injEq, true_and, UInt32.toNat_sub]
    simp [IntKind.wrap, IntKind.bits, IntKind.signed]
    have := x.toNat_lt
    omega
  rw [this]; rfl

/-! uint64 -/
def shl64 (x : UInt64) (n : Nat) : UInt64 := UInt64.ofNat (x.toNat * 2 ^ (min n 64))
def shr64 (x : UInt64) (n : Nat) : UInt64 := UInt64.ofNat (x.toNat / 2 ^ (min n 64))
theorem wrapU64 (x : Nat) : IntKind.u64.wrap (x : Int) = ((UInt64.ofNat x).toNat : Int) := by
  simp [IntKind.wrap, IntKind.bits, IntKind.signed, UInt64.toNat_ofNat']
theorem wrapUI64 (x : Int) : IntKind.u64.wrap x = ((UInt64.ofInt x).toNat : Int) := by
  simp [IntKind.wrap, IntKind.bits, IntKind.signed, UInt64.ofInt, UInt64.toNat_ofNat']
  omega
theorem bv64 (x : UInt64) : BitVec.ofInt 64 (x.toNat : Int) = x.toBitVec := by
  apply BitVec.eq_of_toNat_eq
  simp
theorem b_add64 (T : TypeId) (x y : UInt64) : BinR P .add T (v64 x) (v64 y) (v64 (x + y)) := fun _ _ w => by
  have : (v64 (x + y)) = .int .u64 (IntKind.u64.wrap ((x.toNat : Int) + y.toNat)) := by
    rw [show (x.toNat : Int) + y.toNat = ((x.toNat + y.toNat : Nat) : Int) by simp, wrapU64]
    simp [v64, UInt64.toNat_add]
  rw [this]; rfl
theorem b_sub64 (T : TypeId) (x y : UInt64) : BinR P .sub T (v64 x) (v64 y) (v64 (x - y)) := fun _ _ w => by
  have : (v64 (x - y)) = .int .u64 (IntKind.u64.wrap ((x.toNat : Int) - y.toNat)) := by
    simp only [v64, Value.int.injEq, true_and, UInt64.toNat_sub]
    simp [IntKind.wrap, IntKind.bits, IntKind.signed]
    have := x.toNat_lt; have := y.toNat_lt
    omega
  rw [this]; rfl
theorem b_mul64 (T : TypeId) (x y : UInt64) : BinR P .mul T (v64 x) (v64 y) (v64 (x * y)) := fun _ _ w => by
  have : (v64 (x * y)) = .int .u64 (IntKind.u64.wrap ((x.toNat : Int) * y.toNat)) := by
    rw [show (x.toNat : Int) * y.toNat = ((x.toNat * y.toNat : Nat) : Int) by simp, wrapU64]
    simp [v64, UInt64.toNat_mul]
  rw [this]; rfl
theorem b_quo64 (T : TypeId) (x y : UInt64) (h : ¬ y = 0) : BinR P .quo T (v64 x) (v64 y) (v64 (x / y)) := fun _ _ w => by
  have hy : ¬ (y.toNat : Int) = 0 := fun e => h (UInt64.toNat_inj.1 (by simpa using e))
  have : IntKind.u64.wrap (((x.toNat : Int)).tdiv y.toNat) = ((x / y).toNat : Int) := by
    rw [show ((x.toNat : Int)).tdiv y.toNat = ((x.toNat / y.toNat : Nat) : Int) from rfl, wrapU64]
    rw [UInt64.toNat_div, UInt64.toNat_ofNat', Nat.mod_eq_of_lt (Nat.lt_of_le_of_lt (Nat.div_le_self _ _) x.toNat_lt)]
  simp only [eqGuard, binOp, Op.intDiv, if_neg hy, this]; rfl
theorem b_rem64 (T : TypeId) (x y : UInt64) (h : ¬ y = 0) : BinR P .rem T (v64 x) (v64 y) (v64 (x % y)) := fun _ _ w => by
  have hy : ¬ (y.toNat : Int) = 0 := fun e => h (UInt64.toNat_inj.1 (by simpa using e))
  have : ((x.toNat : Int)).tmod y.toNat = ((x % y).toNat : Int) := by rw [UInt64.toNat_mod]; rfl
  simp only [eqGuard, binOp, Op.intDiv, if_neg hy, this]; rfl
theorem b_and64 (T : TypeId) (x y : UInt64) : BinR P .and T (v64 x) (v64 y) (v64 (x &&& y)) := fun _ _ w => by
  have : (v64 (x &&& y)) = .int .u64 (IntKind.u64.wrap ((BitVec.ofInt 64 (x.toNat : Int) &&& BitVec.ofInt 64 (y.toNat : Int)).toNat : Int)) := by
    rw [bv64, bv64, wrapU64]
    simp [v64]
  rw [this]; rfl
theorem b_or64 (T : TypeId) (x y : UInt64) : BinR P .or T (v64 x) (v64 y) (v64 (x ||| y)) := fun _ _ w => by
  have : (v64 (x ||| y)) = .int .u64 (IntKind.u64.wrap ((BitVec.ofInt 64 (x.toNat : Int) ||| BitVec.ofInt 64 (y.toNat : Int)).toNat : Int)) := by
    rw [bv64, bv64, wrapU64]
    simp [v64]
  rw [this]; rfl
theorem b_xor64 (T : TypeId) (x y : UInt64) : BinR P .xor T (v64 x) (v64 y) (v64 (x ^^^ y)) := fun _ _ w => by
  have : (v64 (x ^^^ y)) = .int .u64 (IntKind.u64.wrap ((BitVec.ofInt 64 (x.toNat : Int) ^^^ BitVec.ofInt 64 (y.toNat : Int)).toNat : Int)) := by
    rw [bv64, bv64, wrapU64]
    simp [v64]
  rw [this]; rfl
theorem b_andnot64 (T : TypeId) (x y : UInt64) : BinR P .andNot T (v64 x) (v64 y) (v64 (x &&& ~~~ y)) := fun _ _ w => by
  have : (v64 (x &&& ~~~ y)) = .int .u64 (IntKind.u64.wrap ((BitVec.ofInt 64 (x.toNat : Int) &&& ~~~ BitVec.ofInt 64 (y.toNat : Int)).toNat : Int)) := by
    rw [bv64, bv64, wrapU64, ← UInt64.toBitVec_not, ← UInt64.toBitVec_and, UInt64.toNat_toBitVec]
    simp only [v64, UInt64.toNat_ofNat', Value.int.injEq, true_and]
    exact_mod_cast (Nat.mod_eq_of_lt (x &&& ~~~ y).toNat_lt).symm
  rw [this]; rfl
theorem r_shl64 (T : TypeId) (k : IntKind) (x : UInt64) (y : Int) (h : 0 ≤ y) : BinR P .shl T (v64 x) (.int k y) (v64 (shl64 x y.toNat)) := fun _ _ w => by
  have hy : ¬ y < 0 := by omega
  have : IntKind.u64.wrap ((x.toNat : Int) * 2 ^ (min y.toNat 64)) = ((shl64 x y.toNat).toNat : Int) := by
    rw [show (x.toNat : Int) * 2 ^ (min y.toNat 64) = ((x.toNat * 2 ^ (min y.toNat 64) : Nat) : Int) by simp, wrapU64]; rfl
  simp [eqGuard, binOp, Op.shift, hy, IntKind.bits, this]
theorem r_shr64 (T : TypeId) (k : IntKind) (x : UInt64) (y : Int) (h : 0 ≤ y) : BinR P .shr T (v64 x) (.int k y) (v64 (shr64 x y.toNat)) := fun _ _ w => by
  have hy : ¬ y < 0 := by omega
  have : (x.toNat : Int).fdiv (2 ^ (min y.toNat 64)) = ((shr64 x y.toNat).toNat : Int) := by
    rw [Int.fdiv_eq_ediv_of_nonneg _ (Int.le_of_lt (Int.pow_pos (by omega)))]
    simp only [shr64, UInt64.toNat_ofNat']
    have := x.toNat_lt
    rw [Nat.mod_eq_of_lt (Nat.lt_of_le_of_lt (Nat.div_le_self _ _) this)]
    simp
  simp [eqGuard, binOp, Op.shift, hy, IntKind.bits, this]
theorem b_shl64_64 (T : TypeId) (x : UInt64) (y : UInt64) : BinR P .shl T (v64 x) (v64 y) (v64 (shl64 x y.toNat)) := by
  have := r_shl64 (P := P) T .u64 x y.toNat (by omega); simpa using this
theorem b_shr64_64 (T : TypeId) (x : UInt64) (y : UInt64) : BinR P .shr T (v64 x) (v64 y) (v64 (shr64 x y.toNat)) := by
  have := r_shr64 (P := P) T .u64 x y.toNat (by omega); simpa using this
theorem b_shl64_i (T : TypeId) (x : UInt64) (y : Int) (h : 0 ≤ y) : BinR P .shl T (v64 x) (vI y) (v64 (shl64 x y.toNat)) := r_shl64 T .i64 x y h
theorem b_shr64_i (T : TypeId) (x : UInt64) (y : Int) (h : 0 ≤ y) : BinR P .shr T (v64 x) (vI y) (v64 (shr64 x y.toNat)) := r_shr64 T .i64 x y h
theorem b_eql64 (T : TypeId) (x y : UInt64) : BinR P .eql T (v64 x) (v64 y) (vB (x == y)) := fun _ _ w => by
  have : (x == y) = ((x.toNat : Int) == (y.toNat : Int)) := by
    rw [Bool.eq_iff_iff]; simp [← UInt64.toNat_inj]; omega
  rw [this]; rfl
theorem b_neq64 (T : TypeId) (x y : UInt64) : BinR P .neq T (v64 x) (v64 y) (vB (x != y)) := fun _ _ w => by
  have : (x != y) = ((x.toNat : Int) != (y.toNat : Int)) := by
    rw [Bool.eq_iff_iff]; simp [← UInt64.toNat_inj]; omega
  rw [this]; rfl
theorem b_lss64 (T : TypeId) (x y : UInt64) : BinR P .lss T (v64 x) (v64 y) (vB (decide (x < y))) := fun _ _ w => by
  have : decide (x < y) = decide ((x.toNat : Int) < (y.toNat : Int)) := by
    rw [Bool.eq_iff_iff]; simp [UInt64.lt_iff_toNat_lt]
  rw [this]; rfl
theorem b_leq64 (T : TypeId) (x y : UInt64) : BinR P .leq T (v64 x) (v64 y) (vB (decide (x ≤ y))) := fun _ _ w => by
  have : decide (x ≤ y) = decide ((x.toNat : Int) ≤ (y.toNat : Int)) := by
    rw [Bool.eq_iff_iff]; simp [UInt64.le_iff_toNat_le]
  rw [this]; rfl
theorem b_gtr64 (T : TypeId) (x y : UInt64) : BinR P .gtr T (v64 x) (v64 y) (vB (decide (y < x))) := fun _ _ w => by
  have : decide (y < x) = decide ((y.toNat : Int) < (x.toNat : Int)) := by
    rw [Bool.eq_iff_iff]; simp [UInt64.lt_iff_toNat_lt]
  rw [this]; rfl
theorem b_geq64 (T : TypeId) (x y : UInt64) : BinR P .geq T (v64 x) (v64 y) (vB (decide (y ≤ x))) := fun _ _ w => by
  have : decide (y ≤ x) = decide ((y.toNat : Int) ≤ (x.toNat : Int)) := by
    rw [Bool.eq_iff_iff]; simp [UInt64.le_iff_toNat_le]
  rw [this]; rfl
theorem u_xor64 (x : UInt64) : UnR P .xor (v64 x) (v64 (~~~ x)) := fun _ => by
  have : (v64 (~~~ x)) = .int .u64 (IntKind.u64.wrap ((BitVec.ofInt 64 IntKind.u64.max ^^^ BitVec.ofInt 64 (x.toNat : Int)).toNat : Int)) := by
    rw [bv64, wrapU64]
    have h1 : BitVec.ofInt 64 IntKind.u64.max = BitVec.allOnes 64 := by decide
    rw [h1, BitVec.allOnes_xor, ← UInt64.toBitVec_not, UInt64.toNat_toBitVec]
    simp only [v64, UInt64.toNat_ofNat', Value.int.injEq, true_and]
    exact_mod_cast (Nat.mod_eq_of_lt (~~~ x).toNat_lt).symm
  rw [this]; rfl
theorem u_neg64 (x : UInt64) : UnR P .neg (v64 x) (v64 (0 - x)) := fun _ => by
  have : (v64 (0 - x)) = .int .u64 (IntKind.u64.wrap (0 - (x.toNat : Int))) := by
    simp only [v64, Value.int.injEq, true_and, UInt64.toNat_sub]
    simp [IntKind.wrap, IntKind.bits, IntKind.signed]
    have := x.toNat_lt
    omega
  rw [this]; rfl

/-! conversions -/
theorem cv_i_i {S T : TypeId} (hS : P.underlying S = some (.int .i64)) (hT : P.underlying T = some (.int .i64)) (x : Int) : ConvR P S T (vI x) (vI (wI x)) := fun w => by
  have : IntKind.i64.wrap x = wI x := by rfl
  simp [convert, run_underlying hS, run_underlying hT, Conv.intToInt, this]
theorem cv_i_8 {S T : TypeId} (hS : P.underlying S = some (.int .i64)) (hT : P.underlying T = some (.int .u8)) (x : Int) : ConvR P S T (vI x) (v8 (UInt8.ofInt x)) := fun w => by
  have : IntKind.u8.wrap x = ((UInt8.ofInt x).toNat : Int) := by rw [wrapUI8]
  simp [convert, run_underlying hS, run_underlying hT, Conv.intToInt, this]
theorem cv_i_16 {S T : TypeId} (hS : P.underlying S = some (.int .i64)) (hT : P.underlying T = some (.int .u16)) (x : Int) : ConvR P S T (vI x) (v16 (UInt16.ofInt x)) := fun w => by
  have : IntKind.u16.wrap x = ((UInt16.ofInt x).toNat : Int) := by rw [wrapUI16]
  simp [convert, run_underlying hS, run_underlying hT, Conv.intToInt, this]
theorem cv_i_32 {S T : TypeId} (hS : P.underlying S = some (.int .i64)) (hT : P.underlying T = some (.int .u32)) (x : Int) : ConvR P S T (vI x) (v32 (UInt32.ofInt x)) := fun w => by
  have : IntKind.u32.wrap x = ((UInt32.ofInt x).toNat : Int) := by rw [wrapUI32]
  simp [convert, run_underlying hS, run_underlying hT, Conv.intToInt, this]
theorem cv_i_64 {S T : TypeId} (hS : P.underlying S = some (.int .i64)) (hT : P.underlying T = some (.int .u64)) (x : Int) : ConvR P S T (vI x) (v64 (UInt64.ofInt x)) := fun w => by
  have : IntKind.u64.wrap x = ((UInt64.ofInt x).toNat : Int) := by rw [wrapUI64]
  simp [convert, run_underlying hS, run_underlying hT, Conv.intToInt, this]
theorem cv_8_i {S T : TypeId} (hS : P.underlying S = some (.int .u8)) (hT : P.underlying T = some (.int .i64)) (x : UInt8) : ConvR P S T (v8 x) (vI ((x.toNat : Int))) := fun w => by
  have : IntKind.i64.wrap (x.toNat : Int) = (x.toNat : Int) := by have := x.toNat_lt; exact wI_in (by omega) (by omega)
  simp [convert, run_underlying hS, run_underlying hT, Conv.intToInt, this]
theorem cv_8_8 {S T : TypeId} (hS : P.underlying S = some (.int .u8)) (hT : P.underlying T = some (.int .u8)) (x : UInt8) : ConvR P S T (v8 x) (v8 (x)) := fun w => by
  have : IntKind.u8.wrap (x.toNat : Int) = ((x).toNat : Int) := by rw [wrapU8]; simp
  simp [convert, run_underlying hS, run_underlying hT, Conv.intToInt, this]
theorem cv_8_16 {S T : TypeId} (hS : P.underlying S = some (.int .u8)) (hT : P.underlying T = some (.int .u16)) (x : UInt8) : ConvR P S T (v8 x) (v16 (x.toUInt16)) := fun w => by
  have : IntKind.u16.wrap (x.toNat : Int) = ((x.toUInt16).toNat : Int) := by rw [wrapU16]; simp
  simp [convert, run_underlying hS, run_underlying hT, Conv.intToInt, this]
theorem cv_8_32 {S T : TypeId} (hS : P.underlying S = some (.int .u8)) (hT : P.underlying T = some (.int .u32)) (x : UInt8) : ConvR P S T (v8 x) (v32 (x.toUInt32)) := fun w => by
  have : IntKind.u32.wrap (x.toNat : Int) = ((x.toUInt32).toNat : Int) := by rw [wrapU32]; simp
  simp [convert, run_underlying hS, run_underlying hT, Conv.intToInt, this]
theorem cv_8_64 {S T : TypeId} (hS : P.underlying S = some (.int .u8)) (hT : P.underlying T = some (.int .u64)) (x : UInt8) : ConvR P S T (v8 x) (v64 (x.toUInt64)) := fun w => by
  have : IntKind.u64.wrap (x.toNat : Int) = ((x.toUInt64).toNat : Int) := by rw [wrapU64]; simp
  simp [convert, run_underlying hS, run_underlying hT, Conv.intToInt, this]
theorem cv_16_i {S T : TypeId} (hS : P.underlying S = some (.int .u16)) (hT : P.underlying T = some (.int .i64)) (x : UInt16) : ConvR P S T (v16 x) (vI ((x.toNat : Int))) := fun w => by
  have : IntKind.i64.wrap (x.toNat : Int) = (x.toNat : Int) := by have := x.toNat_lt; exact wI_in (by omega) (by omega)
  simp [convert, run_underlying hS, run_underlying hT, Conv.intToInt, this]
theorem cv_16_8 {S T : TypeId} (hS : P.underlying S = some (.int .u16)) (hT : P.underlying T = some (.int .u8)) (x : UInt16) : ConvR P S T (v16 x) (v8 (x.toUInt8)) := fun w => by
  have : IntKind.u8.wrap (x.toNat : Int) = ((x.toUInt8).toNat : Int) := by rw [wrapU8]; simp
  simp [convert, run_underlying hS, run_underlying hT, Conv.intToInt, this]
theorem cv_16_16 {S T : TypeId} (hS : P.underlying S = some (.int .u16)) (hT : P.underlying T = some (.int .u16)) (x : UInt16) : ConvR P S T (v16 x) (v16 (x)) := fun w => by
  have : IntKind.u16.wrap (x.toNat : Int) = ((x).toNat : Int) := by rw [wrapU16]; simp
  simp [convert, run_underlying hS, run_underlying hT, Conv.intToInt, this]
theorem cv_16_32 {S T : TypeId} (hS : P.underlying S = some (.int .u16)) (hT : P.underlying T = some (.int .u32)) (x : UInt16) : ConvR P S T (v16 x) (v32 (x.toUInt32)) := fun w => by
  have : IntKind.u32.wrap (x.toNat : Int) = ((x.toUInt32).toNat : Int) := by rw [wrapU32]; simp
  simp [convert, run_underlying hS, run_underlying hT, Conv.intToInt, this]
theorem cv_16_64 {S T : TypeId} (hS : P.underlying S = some (.int .u16)) (hT : P.underlying T = some (.int .u64)) (x : UInt16) : ConvR P S T (v16 x) (v64 (x.toUInt64)) := fun w => by
  have : IntKind.u64.wrap (x.toNat : Int) = ((x.toUInt64).toNat : Int) := by rw [wrapU64]; simp
  simp [convert, run_underlying hS, run_underlying hT, Conv.intToInt, this]
theorem cv_32_i {S T : TypeId} (hS : P.underlying S = some (.int .u32)) (hT : P.underlying T = some (.int .i64)) (x : UInt32) : ConvR P S T (v32 x) (vI ((x.toNat : Int))) := fun w => by
  have : IntKind.i64.wrap (x.toNat : Int) = (x.toNat : Int) := by have := x.toNat_lt; exact wI_in (by omega) (by omega)
  simp [convert, run_underlying hS, run_underlying hT, Conv.intToInt, this]
theorem cv_32_8 {S T : TypeId} (hS : P.underlying S = some (.int .u32)) (hT : P.underlying T = some (.int .u8)) (x : UInt32) : ConvR P S T (v32 x) (v8 (x.toUInt8)) := fun w => by
  have : IntKind.u8.wrap (x.toNat : Int) = ((x.toUInt8).toNat : Int) := by rw [wrapU8]; simp
  simp [convert, run_underlying hS, run_underlying hT, Conv.intToInt, this]
theorem cv_32_16 {S T : TypeId} (hS : P.underlying S = some (.int .u32)) (hT : P.underlying T = some (.int .u16)) (x : UInt32) : ConvR P S T (v32 x) (v16 (x.toUInt16)) := fun w => by
  have : IntKind.u16.wrap (x.toNat : Int) = ((x.toUInt16).toNat : Int) := by rw [wrapU16]; simp
  simp [convert, run_underlying hS, run_underlying hT, Conv.intToInt, this]
theorem cv_32_32 {S T : TypeId} (hS : P.underlying S = some (.int .u32)) (hT : P.underlying T = some (.int .u32)) (x : UInt32) : ConvR P S T (v32 x) (v32 (x)) := fun w => by
  have : IntKind.u32.wrap (x.toNat : Int) = ((x).toNat : Int) := by rw [wrapU32]; simp
  simp [convert, run_underlying hS, run_underlying hT, Conv.intToInt, this]
theorem cv_32_64 {S T : TypeId} (hS : P.underlying S = some (.int .u32)) (hT : P.underlying T = some (.int .u64)) (x : UInt32) : ConvR P S T (v32 x) (v64 (x.toUInt64)) := fun w => by
  have : IntKind.u64.wrap (x.toNat : Int) = ((x.toUInt64).toNat : Int) := by rw [wrapU64]; simp
  simp [convert, run_underlying hS, run_underlying hT, Conv.intToInt, this]
theorem cv_64_i {S T : TypeId} (hS : P.underlying S = some (.int .u64)) (hT : P.underlying T = some (.int .i64)) (x : UInt64) : ConvR P S T (v64 x) (vI (wI (x.toNat : Int))) := fun w => by
  have : IntKind.i64.wrap (x.toNat : Int) = wI (x.toNat : Int) := by rfl
  simp [convert, run_underlying hS, run_underlying hT, Conv.intToInt, this]
theorem cv_64_8 {S T : TypeId} (hS : P.underlying S = some (.int .u64)) (hT : P.underlying T = some (.int .u8)) (x : UInt64) : ConvR P S T (v64 x) (v8 (x.toUInt8)) := fun w => by
  have : IntKind.u8.wrap (x.toNat : Int) = ((x.toUInt8).toNat : Int) := by rw [wrapU8]; simp
  simp [convert, run_underlying hS, run_underlying hT, Conv.intToInt, this]
theorem cv_64_16 {S T : TypeId} (hS : P.underlying S = some (.int .u64)) (hT : P.underlying T = some (.int .u16)) (x : UInt64) : ConvR P S T (v64 x) (v16 (x.toUInt16)) := fun w => by
  have : IntKind.u16.wrap (x.toNat : Int) = ((x.toUInt16).toNat : Int) := by rw [wrapU16]; simp
  simp [convert, run_underlying hS, run_underlying hT, Conv.intToInt, this]
theorem cv_64_32 {S T : TypeId} (hS : P.underlying S = some (.int .u64)) (hT : P.underlying T = some (.int .u32)) (x : UInt64) : ConvR P S T (v64 x) (v32 (x.toUInt32)) := fun w => by
  have : IntKind.u32.wrap (x.toNat : Int) = ((x.toUInt32).toNat : Int) := by rw [wrapU32]; simp
  simp [convert, run_underlying hS, run_underlying hT, Conv.intToInt, this]
theorem cv_64_64 {S T : TypeId} (hS : P.underlying S = some (.int .u64)) (hT : P.underlying T = some (.int .u64)) (x : UInt64) : ConvR P S T (v64 x) (v64 (x)) := fun w => by
  have : IntKind.u64.wrap (x.toNat : Int) = ((x).toNat : Int) := by rw [wrapU64]; simp
  simp [convert, run_underlying hS, run_underlying hT, Conv.intToInt, this]
end
end Go.Gk
