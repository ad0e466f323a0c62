import Derived.Tactics
import Derived.LoopN
import Derived.Below
import Derived.KernelRfl
import Derived.Lib.Strings
import Derived.Laws.CopyOwn
import Derived.Laws.MakeOwn
import Derived.Laws.AppendOwn
import Derived.Great.BuildSlice
import Derived.Deep.Draws
import Derived.Laws.BytesArg
import Derived.Laws.Slices
import Derived.Deep.Quiet
import Derived.Lib.ConvBytes
import Derived.Lib.Bytealg
set_option linter.unusedVariables false
set_option linter.unusedSimpArgs false
set_option linter.unusedSectionVars false
abbrev L00:=List UInt32
abbrev L01:=List UInt8
abbrev L02:=List Nat
section
namespace Go.Gk
theorem bR:type_of% @Array.getD_eq_getD_getElem?:=@Array.getD_eq_getD_getElem?
theorem cg:type_of% @Array.getElem?_eq_some_iff:=@Array.getElem?_eq_some_iff
theorem ez:type_of% @Array.getElem?_replicate:=@Array.getElem?_replicate
theorem gH:type_of% @Array.getElem?_toList:=@Array.getElem?_toList
theorem fh:type_of% @Array.length_toList:=@Array.length_toList
theorem iP:type_of% @Array.size_append:=@Array.size_append
theorem ib:type_of% @Array.toList_append:=@Array.toList_append
theorem aO:type_of% @Bool.and_eq_true:=@Bool.and_eq_true
theorem cQ:type_of% @Bool.eq_iff_iff:=@Bool.eq_iff_iff
theorem ea:type_of% @Bool.false_and:=@Bool.false_and
theorem ah:type_of% @Bool.false_eq_true:=@Bool.false_eq_true
theorem iU:type_of% @Bool.not_false:=@Bool.not_false
theorem db:type_of% @Bool.not_true:=@Bool.not_true
theorem fD:type_of% @Bool.or_eq_true:=@Bool.or_eq_true
theorem eE:type_of% @Bool.true_and:=@Bool.true_and
theorem gR:type_of% @Classical.byContradiction:=@Classical.byContradiction
theorem gI:type_of% @Classical.choose_spec:=@Classical.choose_spec
theorem iI:type_of% @Fin.ext:=@Fin.ext
theorem gh:type_of% @Int.emod_eq_of_lt:=@Int.emod_eq_of_lt
theorem iz:type_of% @Int.emod_nonneg:=@Int.emod_nonneg
theorem eN:type_of% @Int.eq_ofNat_of_zero_le:=@Int.eq_ofNat_of_zero_le
theorem fQ:type_of% @Int.fdiv_eq_ediv_of_nonneg:=@Int.fdiv_eq_ediv_of_nonneg
theorem eD:type_of% @Int.lt_irrefl:=@Int.lt_irrefl
theorem fO:type_of% @Int.mul_nonneg:=@Int.mul_nonneg
theorem cF:type_of% @Int.natAbs_natCast:=@Int.natAbs_natCast
theorem iD:type_of% @Int.natCast_add:=@Int.natCast_add
theorem ch:type_of% @Int.natCast_emod:=@Int.natCast_emod
theorem dg:type_of% @Int.natCast_mul:=@Int.natCast_mul
theorem dv:type_of% @Int.natCast_nonneg:=@Int.natCast_nonneg
theorem bN:type_of% @Int.tdiv_eq_ediv_of_nonneg:=@Int.tdiv_eq_ediv_of_nonneg
theorem cn:type_of% @Int.tmod_eq_emod_of_nonneg:=@Int.tmod_eq_emod_of_nonneg
theorem aq:type_of% @Int.toNat_natCast:=@Int.toNat_natCast
theorem ic:type_of% @Int.toNat_of_nonneg:=@Int.toNat_of_nonneg
theorem ew:type_of% @List.Perm.append_left:=@List.Perm.append_left
theorem ci:type_of% @List.all_eq_true:=@List.all_eq_true
theorem aS:type_of% @List.append_assoc:=@List.append_assoc
theorem bM:type_of% @List.append_nil:=@List.append_nil
theorem f9:type_of% @List.cons.injEq:=@List.cons.injEq
theorem dA:type_of% @List.cons_append:=@List.cons_append
theorem gk:type_of% @List.drop_drop:=@List.drop_drop
theorem bc:type_of% @List.drop_eq_getElem_cons:=@List.drop_eq_getElem_cons
theorem gz:type_of% @List.drop_eq_nil_of_le:=@List.drop_eq_nil_of_le
theorem ju:type_of% @List.drop_left':=@List.drop_left'
theorem eJ:type_of% @List.drop_length:=@List.drop_length
theorem bK:type_of% @List.drop_of_length_le:=@List.drop_of_length_le
theorem dP:type_of% @List.drop_zero:=@List.drop_zero
theorem bn:type_of% @List.eq_nil_of_length_eq_zero:=@List.eq_nil_of_length_eq_zero
theorem gx:type_of% @List.ext_getElem:=@List.ext_getElem
theorem eQ:type_of% @List.filter_congr:=@List.filter_congr
theorem dS:type_of% @List.flatMap_cons:=@List.flatMap_cons
theorem eo:type_of% @List.foldl_cons:=@List.foldl_cons
theorem an:type_of% @List.getD_eq_getElem?_getD:=@List.getD_eq_getElem?_getD
theorem eO:type_of% @List.getElem?_append_right:=@List.getElem?_append_right
theorem dX:type_of% @List.getElem?_drop:=@List.getElem?_drop
theorem aA:type_of% @List.getElem?_eq_getElem:=@List.getElem?_eq_getElem
theorem dC:type_of% @List.getElem?_eq_none:=@List.getElem?_eq_none
theorem aF:type_of% @List.getElem?_eq_some_iff:=@List.getElem?_eq_some_iff
theorem fG:type_of% @List.getElem?_map:=@List.getElem?_map
theorem gm:type_of% @List.getElem?_replicate:=@List.getElem?_replicate
theorem gg:type_of% @List.getElem?_set:=@List.getElem?_set
theorem cU:type_of% @List.getElem?_set_self:=@List.getElem?_set_self
theorem bP:type_of% @List.getElem?_take:=@List.getElem?_take
theorem cM:type_of% @List.getElem_mem:=@List.getElem_mem
theorem aE:type_of% @List.length_append:=@List.length_append
theorem ca:type_of% @List.length_cons:=@List.length_cons
theorem bZ:type_of% @List.length_drop:=@List.length_drop
theorem eu:type_of% @List.length_nil:=@List.length_nil
theorem fg:type_of% @List.length_pos_iff:=@List.length_pos_iff
theorem bq:type_of% @List.length_replicate:=@List.length_replicate
theorem dI:type_of% @List.length_set:=@List.length_set
theorem aN:type_of% @List.length_take:=@List.length_take
theorem cZ:type_of% @List.map_cons:=@List.map_cons
theorem bE:type_of% @List.mem_append:=@List.mem_append
theorem bW:type_of% @List.mem_append_left:=@List.mem_append_left
theorem bC:type_of% @List.mem_append_right:=@List.mem_append_right
theorem aM:type_of% @List.mem_cons:=@List.mem_cons
theorem eM:type_of% @List.mem_cons_of_mem:=@List.mem_cons_of_mem
theorem eH:type_of% @List.mem_cons_self:=@List.mem_cons_self
theorem jr:type_of% @List.mem_filter:=@List.mem_filter
theorem jc:type_of% @List.mem_flatMap:=@List.mem_flatMap
theorem jy:type_of% @List.mem_map:=@List.mem_map
theorem bf:type_of% @List.mem_of_getElem?:=@List.mem_of_getElem?
theorem dG:type_of% @List.mem_range:=@List.mem_range
theorem iX:type_of% @List.mem_range'_1:=@List.mem_range'_1
theorem bT:type_of% @List.nil_append:=@List.nil_append
theorem aR:type_of% @List.not_mem_nil:=@List.not_mem_nil
theorem cc:type_of% @List.pairwise_append:=@List.pairwise_append
theorem fY:type_of% @List.pairwise_cons:=@List.pairwise_cons
theorem fj:type_of% @List.pairwise_iff_getElem:=@List.pairwise_iff_getElem
theorem gu:type_of% @List.perm_middle:=@List.perm_middle
theorem g9:type_of% @List.range'_succ:=@List.range'_succ
theorem dV:type_of% @List.set_append_right:=@List.set_append_right
theorem iF:type_of% @List.set_cons_zero:=@List.set_cons_zero
theorem fI:type_of% @List.set_eq_take_append_cons_drop:=@List.set_eq_take_append_cons_drop
theorem fZ:type_of% @List.singleton_append:=@List.singleton_append
theorem ej:type_of% @List.size_toArray:=@List.size_toArray
theorem cD:type_of% @List.take_append_drop:=@List.take_append_drop
theorem gi:type_of% @List.take_left:=@List.take_left
theorem fE:type_of% @List.take_left':=@List.take_left'
theorem cO:type_of% @List.take_length:=@List.take_length
theorem aC:type_of% @List.take_of_length_le:=@List.take_of_length_le
theorem fJ:type_of% @List.take_set_of_le:=@List.take_set_of_le
theorem dR:type_of% @List.take_succ_eq_append_getElem:=@List.take_succ_eq_append_getElem
theorem gq:type_of% @List.take_zero:=@List.take_zero
theorem d9:type_of% @Nat.add_assoc:=@Nat.add_assoc
theorem cw:type_of% @Nat.add_comm:=@Nat.add_comm
theorem aW:type_of% @Nat.add_mul:=@Nat.add_mul
theorem gV:type_of% @Nat.add_mul_div_left:=@Nat.add_mul_div_left
theorem gU:type_of% @Nat.add_mul_mod_self_left:=@Nat.add_mul_mod_self_left
theorem gK:type_of% @Nat.add_mul_mod_self_right:=@Nat.add_mul_mod_self_right
theorem eG:type_of% @Nat.add_sub_cancel:=@Nat.add_sub_cancel
theorem dm:type_of% @Nat.add_sub_cancel_left:=@Nat.add_sub_cancel_left
theorem br:type_of% @Nat.add_zero:=@Nat.add_zero
theorem fi:type_of% @Nat.and_two_pow_sub_one_eq_mod:=@Nat.and_two_pow_sub_one_eq_mod
theorem fM:type_of% @Nat.blt_eq:=@Nat.blt_eq
theorem c7:type_of% @Nat.div_add_mod:=@Nat.div_add_mod
theorem dM:type_of% @Nat.div_div_eq_div_mul:=@Nat.div_div_eq_div_mul
theorem cT:type_of% @Nat.div_eq_of_lt:=@Nat.div_eq_of_lt
theorem dw:type_of% @Nat.div_le_self:=@Nat.div_le_self
theorem fo:type_of% @Nat.div_lt_iff_lt_mul:=@Nat.div_lt_iff_lt_mul
theorem jv:type_of% @Nat.div_lt_self:=@Nat.div_lt_self
theorem fe:type_of% @Nat.dvd_of_mod_eq_zero:=@Nat.dvd_of_mod_eq_zero
theorem bJ:type_of% @Nat.eq_of_beq_eq_true:=@Nat.eq_of_beq_eq_true
theorem bO:type_of% @Nat.eq_zero_or_pos:=@Nat.eq_zero_or_pos
theorem fC:type_of% @Nat.gcd_comm:=@Nat.gcd_comm
theorem je:type_of% @Nat.gcd_dvd_left:=@Nat.gcd_dvd_left
theorem gf:type_of% @Nat.gcd_dvd_right:=@Nat.gcd_dvd_right
theorem fR:type_of% @Nat.le_add_right:=@Nat.le_add_right
theorem eK:type_of% @Nat.le_mul_of_pos_right:=@Nat.le_mul_of_pos_right
theorem ao:type_of% @Nat.le_of_ble_eq_true:=@Nat.le_of_ble_eq_true
theorem gc:type_of% @Nat.le_of_dvd:=@Nat.le_of_dvd
theorem cA:type_of% @Nat.le_of_lt:=@Nat.le_of_lt
theorem aw:type_of% @Nat.le_refl:=@Nat.le_refl
theorem aZ:type_of% @Nat.le_trans:=@Nat.le_trans
theorem jm:type_of% @Nat.lt_irrefl:=@Nat.lt_irrefl
theorem du:type_of% @Nat.lt_of_le_of_lt:=@Nat.lt_of_le_of_lt
theorem aU:type_of% @Nat.lt_of_lt_of_le:=@Nat.lt_of_lt_of_le
theorem bY:type_of% @Nat.lt_or_ge:=@Nat.lt_or_ge
theorem fU:type_of% @Nat.lt_trans:=@Nat.lt_trans
theorem bg:type_of% @Nat.min_eq_left:=@Nat.min_eq_left
theorem az:type_of% @Nat.mod_eq_of_lt:=@Nat.mod_eq_of_lt
theorem bG:type_of% @Nat.mod_lt:=@Nat.mod_lt
theorem ji:type_of% @Nat.mod_mod:=@Nat.mod_mod
theorem gF:type_of% @Nat.mod_two_eq_zero_or_one:=@Nat.mod_two_eq_zero_or_one
theorem aJ:type_of% @Nat.mul_add:=@Nat.mul_add
theorem aK:type_of% @Nat.mul_assoc:=@Nat.mul_assoc
theorem aP:type_of% @Nat.mul_comm:=@Nat.mul_comm
theorem eb:type_of% @Nat.mul_le_mul:=@Nat.mul_le_mul
theorem bj:type_of% @Nat.mul_le_mul_left:=@Nat.mul_le_mul_left
theorem aT:type_of% @Nat.mul_le_mul_right:=@Nat.mul_le_mul_right
theorem dD:type_of% @Nat.mul_left_comm:=@Nat.mul_left_comm
theorem fa:type_of% @Nat.mul_lt_mul_of_pos_left:=@Nat.mul_lt_mul_of_pos_left
theorem dH:type_of% @Nat.mul_mod:=@Nat.mul_mod
theorem cE:type_of% @Nat.mul_one:=@Nat.mul_one
theorem cp:type_of% @Nat.mul_zero:=@Nat.mul_zero
theorem cy:type_of% @Nat.one_mul:=@Nat.one_mul
theorem eF:type_of% @Nat.pos_of_ne_zero:=@Nat.pos_of_ne_zero
theorem bS:type_of% @Nat.pow_add:=@Nat.pow_add
theorem ba:type_of% @Nat.pow_le_pow_right:=@Nat.pow_le_pow_right
theorem cr:type_of% @Nat.pow_mul:=@Nat.pow_mul
theorem eX:type_of% @Nat.pow_pos:=@Nat.pow_pos
theorem bo:type_of% @Nat.pow_succ:=@Nat.pow_succ
theorem gw:type_of% @Nat.pow_zero:=@Nat.pow_zero
theorem fX:type_of% @Nat.sub_zero:=@Nat.sub_zero
theorem dx:type_of% @Nat.two_pow_pos:=@Nat.two_pow_pos
theorem bm:type_of% @Nat.zero_add:=@Nat.zero_add
theorem eZ:type_of% @Nat.zero_le:=@Nat.zero_le
theorem jC:type_of% @Nat.zero_mod:=@Nat.zero_mod
theorem fv:type_of% @Nat.zero_mul:=@Nat.zero_mul
theorem iy:type_of% @Option.map_none:=@Option.map_none
theorem bL:type_of% @Option.map_some:=@Option.map_some
theorem dW:type_of% @Option.some.inj:=@Option.some.inj
theorem eh:type_of% @Option.some.injEq:=@Option.some.injEq
theorem jo:type_of% @Prod.mk.injEq:=@Prod.mk.injEq
theorem ff:type_of% @UInt32.le_iff_toNat_le:=@UInt32.le_iff_toNat_le
theorem dt:type_of% @UInt32.lt_iff_toNat_lt:=@UInt32.lt_iff_toNat_lt
theorem cL:type_of% @UInt32.toNat_inj:=@UInt32.toNat_inj
theorem di:type_of% @UInt32.toNat_ofNat':=@UInt32.toNat_ofNat'
theorem cK:type_of% @UInt64.le_iff_toNat_le:=@UInt64.le_iff_toNat_le
theorem bd:type_of% @UInt64.lt_iff_toNat_lt:=@UInt64.lt_iff_toNat_lt
theorem fN:type_of% @UInt64.toNat_add:=@UInt64.toNat_add
theorem jg:type_of% @UInt64.toNat_and:=@UInt64.toNat_and
theorem fp:type_of% @UInt64.toNat_div:=@UInt64.toNat_div
theorem cx:type_of% @UInt64.toNat_inj:=@UInt64.toNat_inj
theorem dh:type_of% @UInt64.toNat_mod:=@UInt64.toNat_mod
theorem i7:type_of% @UInt64.toNat_mul:=@UInt64.toNat_mul
theorem bQ:type_of% @UInt64.toNat_ofNat':=@UInt64.toNat_ofNat'
theorem jt:type_of% @UInt64.toNat_or:=@UInt64.toNat_or
theorem ft:type_of% @UInt64.toNat_sub:=@UInt64.toNat_sub
theorem ee:type_of% @UInt64.toNat_sub_of_le:=@UInt64.toNat_sub_of_le
theorem gZ:type_of% @UInt64.toNat_toUInt8:=@UInt64.toNat_toUInt8
theorem dU:type_of% @UInt8.le_iff_toNat_le:=@UInt8.le_iff_toNat_le
theorem iY:type_of% @UInt8.lt_iff_toNat_lt:=@UInt8.lt_iff_toNat_lt
theorem et:type_of% @UInt8.toNat_inj:=@UInt8.toNat_inj
theorem dY:type_of% @UInt8.toNat_ofNat':=@UInt8.toNat_ofNat'
theorem c8:type_of% @beq_eq_false_iff_ne:=@beq_eq_false_iff_ne
theorem fL:type_of% @beq_iff_eq:=@beq_iff_eq
theorem dL:type_of% @beq_self_eq_true:=@beq_self_eq_true
theorem dz:type_of% @bne_iff_ne:=@bne_iff_ne
theorem dn:type_of% @bne_self_eq_false:=@bne_self_eq_false
theorem da:type_of% @congrArg:=@congrArg
theorem fS:type_of% @decide_eq_decide:=@decide_eq_decide
theorem av:type_of% @decide_eq_false:=@decide_eq_false
theorem iq:type_of% @decide_eq_false_iff_not:=@decide_eq_false_iff_not
theorem ai:type_of% @decide_eq_true:=@decide_eq_true
theorem ak:type_of% @decide_eq_true_eq:=@decide_eq_true_eq
theorem dr:type_of% @decide_false:=@decide_false
theorem ir:type_of% @decide_true:=@decide_true
theorem aj:type_of% @if_false:=@if_false
theorem ae:type_of% @if_neg:=@if_neg
theorem ag:type_of% @if_pos:=@if_pos
theorem am:type_of% @if_true:=@if_true
theorem jf:type_of% @ite_self:=@ite_self
theorem iS:type_of% @not_false_eq_true:=@not_false_eq_true
theorem iW:type_of% @not_true_eq_false:=@not_true_eq_false
theorem bD:type_of% @or_false:=@or_false
theorem jb:type_of% @true_and:=@true_and
def ax {τ:Type} (l:List τ) (i:Int):Option τ:=if 0<=i then l[i.toNat]? else none
theorem gj {τ:Type} {l:List τ} {i:Int} {x:τ} (h:ax l i=some x):0<=i/\i.toNat<l.length/\l[i.toNat]? = some x:=by
 unfold ax at h
 split at h
 ·exact⟨‹_›,(aF.1 h).1,h⟩
 ·cases h
theorem lA {τ:Type} (l:List τ) (i:Nat):ax l (i:Int)=l[i]?:=by
 simp[ax]
def slO {τ:Type} (l:List τ) (lo hi:Int):Option (List τ):=if 0<=lo/\lo<=hi/\hi.toNat<=l.length then some ((l.drop lo.toNat).take (hi.toNat - lo.toNat)) else none
theorem fT {τ:Type} {l r:List τ} {lo hi:Int} (h:slO l lo hi=some r):(0<=lo/\lo<=hi/\hi.toNat<=l.length)/\r=(l.drop lo.toNat).take (hi.toNat - lo.toNat):=by
 unfold slO at h
 split at h
 ·simp at h; exact⟨‹_›,h.symm⟩
 ·cases h
def drO {τ:Type} (l:List τ) (lo:Int):Option (List τ):=if 0<=lo/\lo.toNat<=l.length then some (l.drop lo.toNat) else none
theorem lD {τ:Type} {l r:List τ} {lo:Int} (h:drO l lo=some r):(0<=lo/\lo.toNat<=l.length)/\r=l.drop lo.toNat:=by
 unfold drO at h
 split at h
 ·simp at h; exact⟨‹_›,h.symm⟩
 ·cases h
def tkO {τ:Type} (l:List τ) (hi:Int):Option (List τ):=if 0<=hi/\hi.toNat<=l.length then some (l.take hi.toNat) else none
theorem oK {τ:Type} {l r:List τ} {hi:Int} (h:tkO l hi=some r):(0<=hi/\hi.toNat<=l.length)/\r=l.take hi.toNat:=by
 unfold tkO at h
 split at h
 ·simp at h; exact⟨‹_›,h.symm⟩
 ·cases h
theorem Iw {τ:Type} {l:List τ} {hi:Int} (h:0<=hi/\hi.toNat<=l.length):tkO l hi=some (l.take hi.toNat):=ag h
def mkO {τ:Type} (bytes:Nat) (l c:Int) (t0:τ):Option (List τ):=
 if 0<=l/\l<=c/\(bytes:Int)*c<=281474976710656/\c<=9223372036854775807 then some (List.replicate l.toNat t0) else none
theorem JI {τ:Type} {bytes:Nat} {l c:Int} {t0:τ} {r:List τ} (h:mkO bytes l c t0=some r) :
  r=List.replicate l.toNat t0/\0<=l/\l<=c/\(bytes:Int)*c<=281474976710656/\c<=9223372036854775807:=by
 unfold mkO at h
 split at h
 ·rename_i hc; simp at h; exact⟨h.symm,hc⟩
 ·cases h
def apO {τ:Type} (bytes:Nat) (l m:List τ):Option (List τ):=if (l.length+m.length)*bytes<=225000000000000 then some (l++m) else none
theorem qV {τ:Type} {bytes:Nat} {l m r:List τ} (h:apO bytes l m=some r):r=l++m/\(l.length+m.length)*bytes<=225000000000000:=by
 unfold apO at h
 split at h
 ·simp at h; exact⟨h.symm,‹_›⟩
 ·cases h
def qa (x y:L01):Option L01:=if x.length+y.length<=9223372036854775807 then some (x++y) else none
def grd {ρ:Type} (p:Prop) [Decidable p] (k:Option ρ):Option ρ:=if p then k else none
theorem nv {ρ:Type} {p:Prop} [Decidable p] {k:Option ρ} {r:ρ} (h:grd p k=some r):p/\k=some r:=by
 unfold grd at h
 split at h
 ·exact⟨‹_›,h⟩
 ·cases h
@[simp] theorem grd_true {ρ:Type} {p:Prop} [Decidable p] (k:Option ρ) (h:p):grd p k=k:=by simp[grd,h]
def bz {α ρ:Type} (a:α) (k:α->Option ρ):Option ρ:=k a
theorem jp {α ρ:Type} {a:α} {k:α->Option ρ} {r:ρ} (h:bz a k=some r):∃x,a=x/\k x=some r:=⟨a,rfl,h⟩
abbrev af {α ρ:Type} (x:Option α) (k:α->Option ρ):Option ρ:=x.bind k
theorem dq {α ρ:Type} {x:Option α} {k:α->Option ρ} {r:ρ} (h:af x k=some r):∃a,x=some a/\k a=some r:=Option.bind_eq_some_iff.1 h
theorem cq {α ρ:Type} {x:Option α} {k:α->Option ρ} {r:ρ} {C:Prop} (h:af x k=some r) (f:∀a,x=some a->k a=some r->C):C:=by
 obtain⟨a,j,A⟩:=dq h
 exact f a j A
theorem sS {ρ:Type} {p:Prop} [Decidable p] {k:Option ρ} {r:ρ} {C:Prop} (h:grd p k=some r) (f:p->k=some r->C):C:=f (nv h).1 (nv h).2
theorem kH {α ρ:Type} {x:α} {k:α->Option ρ} {r:ρ} {C:Prop} (h:bz x k=some r) (f:∀a,x=a->k a=some r->C):C:=f x rfl h
theorem ik {ρ:Type} {b:Bool} {x y:Option ρ} {r:ρ} (h:(if b=true then x else y)=some r) (hb:b=true):x=some r:=by rw[ag hb]at h; exact h
theorem il {ρ:Type} {b:Bool} {x y:Option ρ} {r:ρ} (h:(if b=true then x else y)=some r) (hb:b=false):y=some r:=by
 rw[ae (by rw[hb]; exact Bool.false_ne_true)]at h; exact h
def cpL {τ:Type} (l m:List τ) (lo hi:Nat):List τ:=l.take lo++m.take (hi - lo)++l.drop (lo+min m.length (hi - lo))
theorem jD {τ:Type} (l m:List τ) (lo hi:Nat) (j:lo<=hi) (A:hi<=l.length):(cpL l m lo hi).length=l.length:=by
 simp[cpL]; omega
def gO {α ρ:Type} (o:Option α) (x:Option ρ) (y:α->Option ρ):Option ρ:=match o with
 | none=>x
 | some a=>y a
theorem sO {α ρ:Type} {o:Option α} {x:Option ρ} {y:α->Option ρ} {r:ρ} (h:gO o x y=some r) (j:o=none):x=some r:=by subst j; exact h
theorem s9 {α ρ:Type} {o:Option α} {x:Option ρ} {y:α->Option ρ} {r:ρ} {a:α} (h:gO o x y=some r) (j:o=some a):y a=some r:=by subst j; exact h
def vwL (l:L01) (c:Nat×Nat):L01:=(l.drop c.1).take (c.2 - c.1)
def jU {σ ρ:Type} (f:σ->Option (σ⊕ρ)):Nat->σ->Option ρ
 | 0,_=>none
 | n+1,s=>match f s with
  | none=>none
  | some (.inl s')=>jU f n s'
  | some (.inr r)=>some r
theorem rR {σ ρ:Type} {f:σ->Option (σ⊕ρ)}:∀{n:Nat} {s:σ} {r:ρ},jU f n s=some r->∀{m:Nat},n<=m->jU f m s=some r
 | 0,_,_,h,_,_=>by simp[jU]at h
 | n+1,s,r,h,0,hm=>by omega
 | n+1,s,r,h,m+1,hm=>by
  simp only[jU]at h ⊢
  split at h
  ·cases h
  ·exact rR h (by omega)
  ·exact h
open Classical in
noncomputable def loop {σ ρ:Type} (f:σ->Option (σ⊕ρ)) (s:σ):Option ρ:=
 if h:∃n r,jU f n s=some r then some h.choose_spec.choose else none
theorem rY {σ ρ:Type} {f:σ->Option (σ⊕ρ)} {n:Nat} {s:σ} {r:ρ} (h:jU f n s=some r):loop f s=some r:=by
 have hx:∃n r,jU f n s=some r:=⟨n,r,h⟩
 unfold loop
 rw[dif_pos hx]
 have A:=hx.choose_spec.choose_spec
 have B:=rR A (Nat.le_max_left hx.choose n)
 have j:=rR h (Nat.le_max_right hx.choose n)
 rw[B]at j
 exact j
theorem rG {σ ρ:Type} {f:σ->Option (σ⊕ρ)} {s:σ} {r:ρ} (h:loop f s=some r):∃n,jU f n s=some r:=by
 unfold loop at h
 split at h
 ·rename_i hx
  simp only[eh]at h
  exact⟨_,h ▸ hx.choose_spec.choose_spec⟩
 ·cases h
theorem nD {σ ρ:Type} (f:σ->Option (σ⊕ρ)) (s:σ):loop f s=match f s with
  | none=>none
  | some (.inl s')=>loop f s'
  | some (.inr r)=>some r:=by
 cases hl:loop f s with
 | some r=>
  obtain⟨n,hn⟩:=rG hl
  cases n with
  | zero=>simp[jU]at hn
  | succ n=>
   simp only[jU]at hn
   split at hn
   ·cases hn
   ·simp only[rY hn]
   ·simp[hn]
 | none=>
  cases hf:f s with
  | none=>rfl
  | some x=>
   cases x with
   | inl s'=>
    simp only
    cases hl':loop f s' with
    | none=>rfl
    | some r=>
     obtain⟨n,hn⟩:=rG hl'
     have:jU f (n+1) s=some r:=by simp[jU,hf,hn]
     rw[rY this]at hl
     cases hl
   | inr r=>
    have:jU f 1 s=some r:=by simp[jU,hf]
    rw[rY this]at hl
    cases hl
theorem bp {σ ρ:Type} {f:σ->Option (σ⊕ρ)} {s j:σ} (h:f s=some (.inl j)):loop f s=loop f j:=by rw[nD,h]
theorem bI {σ ρ:Type} {f:σ->Option (σ⊕ρ)} {s:σ} {r:ρ} (h:f s=some (.inr r)):loop f s=some r:=by rw[nD,h]
def bU {σ ρ:Type} (s:σ):Option (σ⊕ρ):=some (.inl s)
def bk {σ ρ:Type} (x:Option ρ):Option (σ⊕ρ):=x.map .inr
def lk {σ ρ:Type} (f:σ->Option (σ⊕ρ)) (k:Nat) (r:ρ):σ⊕ρ->Prop
 | .inl s=>jU f k s=some r
 | .inr r'=>r'=r
theorem jH {σ ρ:Type} {f:σ->Option (σ⊕ρ)} {k:Nat} {r:ρ} {s:σ} {x:σ⊕ρ} (h:bU s=some x) (j:lk f k r x):jU f k s=some r:=by
 cases h; exact j
theorem iR {σ ρ:Type} {f:σ->Option (σ⊕ρ)} {k:Nat} {r:ρ} {y:Option ρ} {x:σ⊕ρ} (h:bk y=some x) (j:lk f k r x):y=some r:=by
 cases y with
 | none=>cases h
 | some z=>cases h; rw[<-(j:z=r)]
theorem Mr {σ ρ:Type} {f:σ->Option (σ⊕ρ)} {k:Nat} {s:σ} {r:ρ} (h:jU f (k+1) s=some r):∃x,f s=some x/\lk f k r x:=by
 simp only[jU]at h
 split at h
 ·cases h
 ·rename_i j hs; exact⟨_,hs,h⟩
 ·rename_i A hs; exact⟨_,hs,by simpa [lk] using h⟩
theorem AQ {σ ρ:Type} {f:σ->Option (σ⊕ρ)} (I:σ->Prop) (μ:σ->Nat) (R:σ->ρ->Prop) (A:∀s,I s->(∃j,f s=some (.inl j)/\I j/\μ j<μ s/\∀r,R j r->R s r)\/(∃r,f s=some (.inr r)/\R s r)) :
  ∀s,I s->∃r,loop f s=some r/\R s r:=by
 intro s
 generalize hn:μ s=n
 induction n using Nat.strongRecOn generalizing s with
 | _ n ih=>
  intro J
  rcases A s J with⟨j,B,G,N,O⟩ | ⟨r,B,G⟩
  ·obtain⟨r,U,V⟩:=ih (μ j) (hn ▸ N) j rfl G
   exact⟨r,by rw[bp B,U],O r V⟩
  ·exact⟨r,bI B,G⟩
end Go.Gk
end
section
namespace Go.Gk
open Go Go.RowKit
abbrev Env:=List (Nat×Value)
def Env.get:Env->Nat->Option Value
 | [],_=>none
 | (k,v) :: r,i=>bif Nat.beq k i then some v else Env.get r i
def Env.ev (L:Env):Operand->Option Value
 | .tmp t=>L.get t
 | .const v=>some v
 | .global g=>some (.pointer (some ⟨g,0,none⟩))
 | .func f=>some (.func (.func f) #[] #[])
def Env.evs (L:Env):List Operand->Option (List Value)
 | []=>some []
 | x :: r=>match L.ev x,Env.evs L r with
  | some v,some vs=>some (v :: vs)
  | _,_=>none
structure Rep (n:Nat) (L:Env) (a:Act):Prop where
 defers:a.defers=[]
 size:a.tmps.size=n
 get:∀i v,L.get i=some v->a.tmps[i]? = some v
theorem Rep.ev {n:Nat} {L:Env} {a:Act} {x:Operand} {v:Value} (h:Rep n L a) (hx:L.ev x=some v):a.eval x=v:=by
 cases x with
 | tmp t=>
  have:=h.get t v hx
  simp[Act.eval,this]
 | const u=>simpa [Env.ev,Act.eval] using hx
 | global g=>simpa [Env.ev,Act.eval] using hx
 | func f=>simpa [Env.ev,Act.eval] using hx
theorem Rep.evs {n:Nat} {L:Env} {a:Act} (h:Rep n L a):∀{xs:List Operand} {vs:List Value},L.evs xs=some vs->xs.map a.eval=vs
 | [],vs,hx=>by simp[Env.evs]at hx; simp[hx]
 | x :: r,vs,hx=>by
  simp only[Env.evs]at hx
  cases h1:L.ev x with
  | none=>simp[h1]at hx
  | some v=>
   cases h2:L.evs r with
   | none=>simp[h1,h2]at hx
   | some ws=>
    simp[h1,h2]at hx
    subst hx
    simp[h.ev h1,Rep.evs h h2]
theorem Rep.put {n:Nat} {L:Env} {a:Act} {d:Nat} {v:Value} (h:Rep n L a) (hd:Nat.blt d n=true):Rep n ((d,v) :: L) (a.put (some d) v):=by
 have j:d<n:=by simpa [fM] using hd
 refine⟨h.defers,by simp[Act.put,h.size],fun i u hi=>?_⟩
 simp only[Env.get]at hi
 by_cases hk:d=i
 ·subst hk
  simp at hi
  simp[Act.put,h.size,j,hi]
 ·have:Nat.beq d i=false:=by
   cases hb:Nat.beq d i with
   | false=>rfl
   | true=>exact absurd (bJ hb) hk
  rw[this]at hi
  simp only[cond_false]at hi
  have:=h.get i u hi
  simp only[Act.put]
  rw[Array.getElem?_setIfInBounds_ne hk]
  exact this
def Env.Le:Env->Env->Prop
 | [],_=>True
 | (k,v) :: r,L=>L.get k=some v/\Env.Le r L
theorem Env.Le.get {L:Env}:∀{j:Env},j.Le L->∀i v,j.get i=some v->L.get i=some v
 | [],_,i,v,h=>by simp[Env.get]at h
 | (k,u) :: r,hle,i,v,h=>by
  obtain⟨A,B⟩:=hle
  simp only[Env.get]at h
  by_cases hk:Nat.beq k i=true
  ·rw[hk]at h
   simp only[cond_true,eh]at h
   subst h
   rw[<-bJ hk]
   exact A
  ·simp only[hk]at h
   exact Env.Le.get B i v (by simpa using h)
theorem Rep.le {n:Nat} {L j:Env} {a:Act} (h:Rep n L a) (hl:j.Le L):Rep n j a:=
 ⟨h.defers,h.size,fun i v hi=>h.get i v (hl.get i v hi)⟩
section
variable {P:Program} {n:Nat} {Q:Exit->Act->World->Prop} {L:Env} {w:World}
def wpC (P:Program) (n:Nat) (c:Code) (Q:Exit->Act->World->Prop) (L:Env) (w:World):Prop:=∀a,Rep n L a->c.wp P Q a w
def wpR (P:Program) (n:Nat) (ops:Array Oper) (Q:Exit->Act->World->Prop) (l:List Oper) (L:Env) (w:World):Prop:=∀a,Rep n L a->wpList P ops Q l a w
def QE (n:Nat) (Q:Exit->Act->World->Prop) (e:Exit) (L:Env) (w:World):Prop:=∀a,Rep n L a->Q e a w
def wpN (P:Program) (n:Nat) (c:Code) (Q:Exit->Act->World->Prop) (k:Nat) (L:Env) (w:World):Prop:=∀a,Rep n L a->Code.rounds P c Q k a w
theorem km {c:Code} (j:Env) (hl:j.Le L) (h:wpC P n c Q j w):wpC P n c Q L w:=fun a ha=>h a (ha.le hl)
theorem HU {c:Code} {k:Nat} (j:Env) (hl:j.Le L) (h:wpN P n c Q k j w):wpN P n c Q k L w:=fun a ha=>h a (ha.le hl)
theorem cI {x y:Code} (h:wpC P n x (Exit.then (y.wp P Q) Q) L w):wpC P n (.seq x y) Q L w:=fun a ha=>wp_seq (h a ha)
theorem mN (h:QE n Q .normal L w):wpC P n .skip Q L w:=fun a ha=>wp_skip (h a ha)
theorem fw {id:Nat} (h:QE n Q (.exit id) L w):wpC P n (.exit id) Q L w:=fun a ha=>wp_exit (h a ha)
theorem gM (h:QE n Q .ret L w):wpC P n .ret Q L w:=fun a ha=>wp_ret (h a ha)
theorem AM {c:Operand} {x y:Code} {t:Bool} (hc:L.ev c=some (.bool t)) (j:t=true->wpC P n x Q L w) (hf:t=false->wpC P n y Q L w) :
  wpC P n (.cond c x y) Q L w:=fun a ha=>wp_cond_split (ha.ev hc) (fun h=>j h a ha) (fun h=>hf h a ha)
theorem jF {c:Operand} {x y:Code} (hc:L.ev c=some (.bool true)) (h:wpC P n x Q L w):wpC P n (.cond c x y) Q L w:=fun a ha=>wp_cond_true (ha.ev hc) (h a ha)
theorem sh {c:Operand} {x y:Code} (hc:L.ev c=some (.bool false)) (h:wpC P n y Q L w):wpC P n (.cond c x y) Q L w:=fun a ha=>wp_cond_false (ha.ev hc) (h a ha)
theorem cR {id:Nat} {c:Code} (h:wpC P n c (Exit.inBlock id Q) L w):wpC P n (.block id c) Q L w:=fun a ha=>wp_block (h a ha)
theorem zX {c:Code} (k:Nat) (h:wpN P n c Q k L w):wpC P n (.loop c) Q L w:=fun a ha=>wp_loop_rounds k (h a ha)
theorem kK {c:Code} {k:Nat} (h:wpC P n c (Exit.then (Code.rounds P c Q k) Q) L w):wpN P n c Q (k+1) L w:=fun a ha=>by rw[rounds_succ]; exact h a ha
theorem bV {id:Nat} {l:List Oper} (h:wpR P n l.toArray Q l L w):wpC P n (.region id l.toArray false) Q L w:=fun a ha=>wp_region_lit (h a ha)
theorem bA {y:Code} (h:wpC P n y Q L w):QE n (Exit.then (y.wp P Q) Q) .normal L w:=h
theorem bB {K:Act->World->Prop} {id:Nat} (h:QE n Q (.exit id) L w):QE n (Exit.then K Q) (.exit id) L w:=h
theorem dQ {K:Act->World->Prop} (h:QE n Q .ret L w):QE n (Exit.then K Q) .ret L w:=h
theorem jk {c:Code} {k:Nat} (h:wpN P n c Q k L w):QE n (Exit.then (Code.rounds P c Q k) Q) .normal L w:=h
theorem fk {id:Nat} (h:QE n Q .normal L w):QE n (Exit.inBlock id Q) .normal L w:=h
theorem fc {id:Nat} (h:QE n Q .ret L w):QE n (Exit.inBlock id Q) .ret L w:=h
theorem fx {id:Nat} (h:QE n Q .normal L w):QE n (Exit.inBlock id Q) (.exit id) L w:=fun a ha=>by
 show (if id=id then Q .normal a w else Q (.exit id) a w)
 rw[ag rfl]; exact h a ha
theorem dF {id j:Nat} (A:Nat.beq j id=false) (h:QE n Q (.exit j) L w):QE n (Exit.inBlock id Q) (.exit j) L w:=fun a ha=>by
 show (if j=id then Q .normal a w else Q (.exit j) a w)
 rw[ae (Nat.ne_of_beq_eq_false A)]; exact h a ha
theorem dy {ops:Array Oper} (h:QE n Q .normal L w):wpR P n ops Q [] L w:=h
theorem gl1 {ops:Array Oper} {x y:Code} (h:wpC P n x (Exit.then (y.wp P Q) Q) L w):wpR P n ops (Exit.then ((Code.seq x y).wp P Q) Q) [] L w:=dy (bA (cI h))
theorem gl2 {ops:Array Oper} {id:Nat} {l:List Oper} {y:Code} (h:wpR P n l.toArray (Exit.then (y.wp P Q) Q) l L w):wpR P n ops (Exit.then ((Code.seq (.region id l.toArray false) y).wp P Q) Q) [] L w:=dy (bA (cI (bV h)))
theorem gl3 {ops:Array Oper} {y:Code} (h:wpC P n y Q L w):wpR P n ops (Exit.then (y.wp P Q) Q) [] L w:=dy (bA h)
theorem gl4 {id:Nat} {l:List Oper} {y:Code} (h:wpR P n l.toArray (Exit.then (y.wp P Q) Q) l L w):wpC P n (.seq (.region id l.toArray false) y) Q L w:=cI (bV h)
theorem gl5 {y:Code} (h:wpC P n y Q L w):wpC P n .skip (Exit.then (y.wp P Q) Q) L w:=mN (bA h)
theorem gl6 {id:Nat} {l:List Oper} {y:Code} (h:wpR P n l.toArray (Exit.then (y.wp P Q) Q) l L w):wpC P n .skip (Exit.then ((Code.seq (.region id l.toArray false) y).wp P Q) Q) L w:=mN (bA (cI (bV h)))
theorem gl8 {ops:Array Oper} {K:Act->World->Prop} (h:QE n Q .ret L w):wpR P n ops (Exit.then (Code.ret.wp P (Exit.then K Q)) (Exit.then K Q)) [] L w:=dy (bA (gM (dQ h)))
theorem Env.le_of:∀{j L:Env},j.map (fun p=>L.get p.1)=j.map (fun p=>some p.2)->j.Le L
 | [],_,_=>trivial
 | (k,v) :: r,L,h=>by
  rw[cZ,cZ]at h
  exact⟨(List.cons.inj h).1,Env.le_of (List.cons.inj h).2⟩
theorem ig {c:Code} (j:Env) (hl:j.map (fun p=>L.get p.1)=j.map (fun p=>some p.2)) (h:wpC P n c Q j w):wpC P n c Q L w:=km j (Env.le_of hl) h
theorem de {c:Code} {j:Env} (h:wpC P n c Q j w) (hl:j.map (fun p=>L.get p.1)=j.map (fun p=>some p.2)):wpC P n c Q L w:=km j (Env.le_of hl) h
theorem mr {c:Code} {k:Nat} {j:Env} (h:wpN P n c Q k j w) (hl:j.map (fun p=>L.get p.1)=j.map (fun p=>some p.2)):wpN P n c Q k L w:=HU j (Env.le_of hl) h
theorem gl9 {c:Operand} {x y:Code} {t:Bool} {ρ:Type} {A B:Option ρ} {r:ρ} (hc:L.ev c=some (.bool t)) (h:(if t=true then A else B)=some r) (j:A=some r->wpC P n x Q L w) (hf:B=some r->wpC P n y Q L w) :
  wpC P n (.cond c x y) Q L w:=AM hc (fun q=>j (ik h q)) (fun q=>hf (il h q))
def OpV (P:Program) (n:Nat) (L:Env) (w:World) (o:Oper) (v:Value) (w':World):Prop:=
 ∀a,Rep n L a->(execOp a.eval o).run P w=.ok (.value v) w'
theorem aQ {ops:Array Oper} {rest:List Oper} {d:Nat} {op:Op} {ty:TypeId} {pos:String} {after:Array Edge} {v:Value} {w':World}
  (j:OpV P n L w ⟨some d,op,ty,pos,after,none⟩ v w') (hd:Nat.blt d n=true)
  (h:wpR P n ops Q rest ((d,v) :: L) w'):wpR P n ops Q (⟨some d,op,ty,pos,after,none⟩ :: rest) L w:=fun a ha=>by
 unfold wpList
 rw[ag (by simp[Region.wanted])]
 refine .inl ?_
 unfold Oper.wp
 rw[j a ha]
 exact h _ (ha.put hd)
def OpS (P:Program) (n:Nat) (L:Env) (w:World) (o:Oper) (w':World):Prop:=
 ∀a,Rep n L a->(execOp a.eval o).run P w=.ok .skip w'
theorem Qw {ops:Array Oper} {rest:List Oper} {op:Op} {ty:TypeId} {pos:String} {after:Array Edge} {w':World}
  (j:OpS P n L w ⟨none,op,ty,pos,after,none⟩ w')
  (h:wpR P n ops Q rest L w'):wpR P n ops Q (⟨none,op,ty,pos,after,none⟩ :: rest) L w:=fun a ha=>by
 unfold wpList
 rw[ag (by simp[Region.wanted])]
 refine .inl ?_
 unfold Oper.wp
 rw[j a ha]
 exact h _ ha
theorem oN {w:World} {d:Option Tmp} {x:Operand} {v:Value} {ty:TypeId} {pos:String} {after:Array Edge} (hx:L.ev x=some v) :
  OpV P n L w ⟨d,.move x,ty,pos,after,none⟩ v w:=fun a ha=>by
 simp[execOp,ha.ev hx]
end
abbrev vI (x:Int):Value:=.int .i64 x
abbrev vB (b:Bool):Value:=.bool b
abbrev vS (l:List UInt8):Value:=.string ⟨⟨l⟩⟩
abbrev v8 (x:UInt8):Value:=.int .u8 (x.toNat:Int)
abbrev v32 (x:UInt32):Value:=.int .u32 (x.toNat:Int)
abbrev v64 (x:UInt64):Value:=.int .u64 (x.toNat:Int)
abbrev pP (a:Addr):Value:=.pointer (some a)
def wI (x:Int):Int:=IntKind.i64.wrap x
theorem Ri (x:Int):wI x=if x%18446744073709551616 >= 9223372036854775808 then x%18446744073709551616 - 18446744073709551616 else x%18446744073709551616:=by
 simp[wI,IntKind.wrap,IntKind.bits,IntKind.signed]
theorem aD {x:Int} (j:-9223372036854775808<=x) (A:x<=9223372036854775807):wI x=x:=by
 rw[Ri]; split <;> omega
def rh (x y:Int):Int:=wI ((BitVec.ofInt 64 x &&& BitVec.ofInt 64 y).toNat:Int)
def gL (x:Int) (n:Nat):Int:=wI (x*2^(min n 64))
def jx (x:Int) (n:Nat):Int:=x.fdiv (2^(min n 64))
section
variable {P:Program}
def cj (P:Program) (op:BinOp) (T:TypeId) (a b v:Value):Prop:=
 ∀(x y:Operand) (w:World),(do eqGuard op T x y a b; binOp op T a b:Sem Value).run P w=.ok v w
def UnR (P:Program) (op:UnOp) (a v:Value):Prop:=∀(w:World),(Op.unary op a).run P w=.ok v w
def nf (P:Program) (src dst:TypeId) (a v:Value):Prop:=∀(w:World),(convert src dst a).run P w=.ok v w
variable {n:Nat} {L:Env} {w:World}
theorem bH {d:Option Tmp} {op:BinOp} {T T2:TypeId} {x y:Operand} {a b v:Value} {ty:TypeId} {pos:String} {after:Array Edge}
  (hx:L.ev x=some a) (hy:L.ev y=some b) (h:cj P op T a b v):OpV P n L w ⟨d,.binOp op T x y T2,ty,pos,after,none⟩ v w:=fun j ha=>by
 have:=h x y w
 simp only[Sem.run_bind]at this
 simp[execOp,ha.ev hx,ha.ev hy,Sem.run_bind]
 generalize (eqGuard op T x y a b).run P w=r at *
 cases r with
 | halt h w'=>simp[Result.andThen]at this
 | ok u w'=>simp[Result.andThen]at this ⊢; rw[this]
theorem GC {d:Option Tmp} {op:UnOp} {T:TypeId} {x:Operand} {a v:Value} {ty:TypeId} {pos:String} {after:Array Edge}
  (hx:L.ev x=some a) (h:UnR P op a v):OpV P n L w ⟨d,.unOp op T x,ty,pos,after,none⟩ v w:=fun j ha=>by
 simp[execOp,ha.ev hx,h w]
theorem fK {d:Option Tmp} {S T:TypeId} {x:Operand} {a v:Value} {ty:TypeId} {pos:String} {after:Array Edge}
  (hx:L.ev x=some a) (h:nf P S T a v):OpV P n L w ⟨d,.convert S T x,ty,pos,after,none⟩ v w:=fun j ha=>by
 simp[execOp,ha.ev hx,h w]
theorem dp {d:Option Tmp} {x:Operand} {v:Value} {ty:TypeId} {pos:String} {after:Array Edge} (hx:L.ev x=some v) :
  OpV P n L w ⟨d,.assign x,ty,pos,after,none⟩ v w:=fun a ha=>by
 simp[execOp,ha.ev hx]
theorem ya {d:Option Tmp} {c x y:Operand} {u:Value} {ty:TypeId} {pos:String} {after:Array Edge}
  (hc:L.ev c=some (vB true)) (hx:L.ev x=some u) :
  OpV P n L w ⟨d,.pick c x y,ty,pos,after,none⟩ u w:=fun a ha=>by
 simp[execOp,ha.ev hc,ha.ev hx,asBool]
theorem yE {d:Option Tmp} {c x y:Operand} {v:Value} {ty:TypeId} {pos:String} {after:Array Edge}
  (hc:L.ev c=some (vB false)) (hy:L.ev y=some v) :
  OpV P n L w ⟨d,.pick c x y,ty,pos,after,none⟩ v w:=fun a ha=>by
 simp[execOp,ha.ev hc,ha.ev hy,asBool]
theorem tH {d:Option Tmp} {x:Operand} {i:Nat} {vs:Array Value} {v:Value} {ty:TypeId} {pos:String} {after:Array Edge}
  (hx:L.ev x=some (.tuple vs)) (j:vs[i]? = some v) :
  OpV P n L w ⟨d,.extract x i,ty,pos,after,none⟩ v w:=fun a ha=>by
 simp[execOp,ha.ev hx,Instr.extract,j]
theorem mo (T:TypeId) (x y:Int):cj P .add T (vI x) (vI y) (vI (wI (x+y))):=fun _ _ _=>rfl
theorem my (T:TypeId) (x y:Int):cj P .sub T (vI x) (vI y) (vI (wI (x - y))):=fun _ _ _=>rfl
theorem mp (T:TypeId) (x y:Int):cj P .mul T (vI x) (vI y) (vI (wI (x*y))):=fun _ _ _=>rfl
theorem GW (T:TypeId) (x y:Int) (h:¬y=0):cj P .quo T (vI x) (vI y) (vI (wI (x.tdiv y))):=fun _ _ _=>by
 simp[eqGuard,binOp,Op.intDiv,h,wI]
theorem Ca (T:TypeId) (x y:Int) (h:¬y=0):cj P .rem T (vI x) (vI y) (vI (x.tmod y)):=fun _ _ _=>by
 simp[eqGuard,binOp,Op.intDiv,h]
theorem Qe (T:TypeId) (x y:Int):cj P .and T (vI x) (vI y) (vI (rh x y)):=fun _ _ _=>rfl
theorem PJ (T:TypeId) (x y:Int) (h:0<=y):cj P .shl T (vI x) (vI y) (vI (gL x y.toNat)):=fun _ _ _=>by
 have:¬y<0:=by omega
 simp[eqGuard,binOp,Op.shift,this,gL,wI,IntKind.bits]
theorem Kn (T:TypeId) (x:Int) (y:UInt64):cj P .shl T (vI x) (v64 y) (vI (gL x y.toNat)):=fun _ _ _=>by
 have:¬(y.toNat:Int)<0:=by omega
 simp[eqGuard,binOp,Op.shift,this,gL,wI,IntKind.bits]
theorem JO (T:TypeId) (x:Int) (y:UInt64):cj P .shr T (vI x) (v64 y) (vI (jx x y.toNat)):=fun _ _ _=>by
 have:¬(y.toNat:Int)<0:=by omega
 simp[eqGuard,binOp,Op.shift,this,jx,IntKind.bits]
theorem BE (T:TypeId) (x y:Int):cj P .eql T (vI x) (vI y) (vB (x == y)):=fun _ _ _=>rfl
theorem H2 (T:TypeId) (x y:Int):cj P .neq T (vI x) (vI y) (vB (x != y)):=fun _ _ _=>rfl
theorem lS (T:TypeId) (x y:Int):cj P .lss T (vI x) (vI y) (vB (decide (x<y))):=fun _ _ _=>rfl
theorem qr (T:TypeId) (x y:Int):cj P .leq T (vI x) (vI y) (vB (decide (x<=y))):=fun _ _ _=>rfl
theorem vk (T:TypeId) (x y:Int):cj P .gtr T (vI x) (vI y) (vB (decide (y<x))):=fun _ _ _=>rfl
theorem HD (T:TypeId) (x y:Int):cj P .geq T (vI x) (vI y) (vB (decide (y<=x))):=fun _ _ _=>rfl
theorem Pn (x:Int):UnR P .neg (vI x) (vI (wI (0 - x))):=fun _=>rfl
theorem Ll (b:Bool):UnR P .not (vB b) (vB (!b)):=fun _=>rfl
theorem sf (l:List UInt8):(⟨⟨l⟩⟩:ByteArray).toList=l:=by
 exact Lib.toList_data _
def oI (x:UInt8) (n:Nat):UInt8:=UInt8.ofNat (x.toNat*2^(min n 8))
def oP (x:UInt8) (n:Nat):UInt8:=UInt8.ofNat (x.toNat / 2^(min n 8))
theorem nX (x:Nat):IntKind.u8.wrap (x:Int)=((UInt8.ofNat x).toNat:Int):=by
 simp[IntKind.wrap,IntKind.bits,IntKind.signed,dY]
theorem Nk (x:Int):IntKind.u8.wrap x=((UInt8.ofInt x).toNat:Int):=by
 simp[IntKind.wrap,IntKind.bits,IntKind.signed,UInt8.ofInt,dY]
 omega
theorem bv8 (x:UInt8):BitVec.ofInt 8 (x.toNat:Int)=x.toBitVec:=by
 apply BitVec.eq_of_toNat_eq
 simp
theorem N6 (T:TypeId) (x y:UInt8):cj P .add T (v8 x) (v8 y) (v8 (x+y)):=fun _ _ w=>by
 have:(v8 (x+y))=.int .u8 (IntKind.u8.wrap ((x.toNat:Int)+y.toNat)):=by
  rw[show (x.toNat:Int)+y.toNat=((x.toNat+y.toNat:Nat):Int) by simp,nX]
  simp[v8,UInt8.toNat_add]
 rw[this]; rfl
theorem PY (T:TypeId) (x y:UInt8):cj P .sub T (v8 x) (v8 y) (v8 (x - y)):=fun _ _ w=>by
 have:(v8 (x - y))=.int .u8 (IntKind.u8.wrap ((x.toNat:Int) - y.toNat)):=by
  simp only[v8,Value.int.injEq,jb,UInt8.toNat_sub]
  simp[IntKind.wrap,IntKind.bits,IntKind.signed]
  have:=x.toNat_lt; have:=y.toNat_lt
  omega
 rw[this]; rfl
theorem OL (T:TypeId) (x y:UInt8) (h:¬y=0):cj P .rem T (v8 x) (v8 y) (v8 (x%y)):=fun _ _ w=>by
 have hy:¬(y.toNat:Int)=0:=fun e=>h (et.1 (by simpa using e))
 have:((x.toNat:Int)).tmod y.toNat=((x%y).toNat:Int):=by rw[UInt8.toNat_mod]; rfl
 simp only[eqGuard,binOp,Op.intDiv,ae hy,this]; rfl
theorem PH (T:TypeId) (x y:UInt8):cj P .and T (v8 x) (v8 y) (v8 (x &&& y)):=fun _ _ w=>by
 have:(v8 (x &&& y))=.int .u8 (IntKind.u8.wrap ((BitVec.ofInt 8 (x.toNat:Int) &&& BitVec.ofInt 8 (y.toNat:Int)).toNat:Int)):=by
  rw[bv8,bv8,nX]
  simp[v8]
 rw[this]; rfl
theorem zv (T:TypeId) (x y:UInt8):cj P .or T (v8 x) (v8 y) (v8 (x ||| y)):=fun _ _ w=>by
 have:(v8 (x ||| y))=.int .u8 (IntKind.u8.wrap ((BitVec.ofInt 8 (x.toNat:Int) ||| BitVec.ofInt 8 (y.toNat:Int)).toNat:Int)):=by
  rw[bv8,bv8,nX]
  simp[v8]
 rw[this]; rfl
theorem Im (T:TypeId) (x y:UInt8):cj P .xor T (v8 x) (v8 y) (v8 (x ^^^ y)):=fun _ _ w=>by
 have:(v8 (x ^^^ y))=.int .u8 (IntKind.u8.wrap ((BitVec.ofInt 8 (x.toNat:Int) ^^^ BitVec.ofInt 8 (y.toNat:Int)).toNat:Int)):=by
  rw[bv8,bv8,nX]
  simp[v8]
 rw[this]; rfl
theorem GN (T:TypeId) (x y:UInt8):cj P .andNot T (v8 x) (v8 y) (v8 (x &&& ~~~ y)):=fun _ _ w=>by
 have:(v8 (x &&& ~~~ y))=.int .u8 (IntKind.u8.wrap ((BitVec.ofInt 8 (x.toNat:Int) &&& ~~~ BitVec.ofInt 8 (y.toNat:Int)).toNat:Int)):=by
  rw[bv8,bv8,nX,<-UInt8.toBitVec_not,<-UInt8.toBitVec_and,UInt8.toNat_toBitVec]
  simp only[v8,dY,Value.int.injEq,jb]
  exact_mod_cast (az (x &&& ~~~ y).toNat_lt).symm
 rw[this]; rfl
theorem Qd (T:TypeId) (k:IntKind) (x:UInt8) (y:Int) (h:0<=y):cj P .shl T (v8 x) (.int k y) (v8 (oI x y.toNat)):=fun _ _ w=>by
 have hy:¬y<0:=by omega
 have:IntKind.u8.wrap ((x.toNat:Int)*2^(min y.toNat 8))=((oI x y.toNat).toNat:Int):=by
  rw[show (x.toNat:Int)*2^(min y.toNat 8)=((x.toNat*2^(min y.toNat 8):Nat):Int) by simp,nX]; rfl
 simp[eqGuard,binOp,Op.shift,hy,IntKind.bits,this]
theorem GY (T:TypeId) (k:IntKind) (x:UInt8) (y:Int) (h:0<=y):cj P .shr T (v8 x) (.int k y) (v8 (oP x y.toNat)):=fun _ _ w=>by
 have hy:¬y<0:=by omega
 have:(x.toNat:Int).fdiv (2^(min y.toNat 8))=((oP x y.toNat).toNat:Int):=by
  rw[fQ _ (Int.le_of_lt (Int.pow_pos (by omega)))]
  simp only[oP,dY]
  have:=x.toNat_lt
  rw[az (du (dw _ _) this)]
  simp
 simp[eqGuard,binOp,Op.shift,hy,IntKind.bits,this]
theorem HP (T:TypeId) (x:UInt8) (y:UInt64):cj P .shl T (v8 x) (v64 y) (v8 (oI x y.toNat)):=by
 have:=Qd (P:=P) T .u64 x y.toNat (by omega); simpa using this
theorem Iq (T:TypeId) (x:UInt8) (y:UInt64):cj P .shr T (v8 x) (v64 y) (v8 (oP x y.toNat)):=by
 have:=GY (P:=P) T .u64 x y.toNat (by omega); simpa using this
theorem IS (T:TypeId) (x:UInt8) (y:Int) (h:0<=y):cj P .shr T (v8 x) (vI y) (v8 (oP x y.toNat)):=GY T .i64 x y h
theorem PN (T:TypeId) (x y:UInt8):cj P .eql T (v8 x) (v8 y) (vB (x == y)):=fun _ _ w=>by
 have:(x == y)=((x.toNat:Int) == (y.toNat:Int)):=by
  rw[cQ]; simp[<-et]; omega
 rw[this]; rfl
theorem N3 (T:TypeId) (x y:UInt8):cj P .neq T (v8 x) (v8 y) (vB (x != y)):=fun _ _ w=>by
 have:(x != y)=((x.toNat:Int) != (y.toNat:Int)):=by
  rw[cQ]; simp[<-et]; omega
 rw[this]; rfl
theorem Pp (T:TypeId) (x y:UInt8):cj P .lss T (v8 x) (v8 y) (vB (decide (x<y))):=fun _ _ w=>by
 have:decide (x<y)=decide ((x.toNat:Int)<(y.toNat:Int)):=by
  rw[cQ]; simp[iY]
 rw[this]; rfl
theorem PT (T:TypeId) (x y:UInt8):cj P .leq T (v8 x) (v8 y) (vB (decide (x<=y))):=fun _ _ w=>by
 have:decide (x<=y)=decide ((x.toNat:Int)<=(y.toNat:Int)):=by
  rw[cQ]; simp[dU]
 rw[this]; rfl
theorem PS (T:TypeId) (x y:UInt8):cj P .gtr T (v8 x) (v8 y) (vB (decide (y<x))):=fun _ _ w=>by
 have:decide (y<x)=decide ((y.toNat:Int)<(x.toNat:Int)):=by
  rw[cQ]; simp[iY]
 rw[this]; rfl
theorem P5 (T:TypeId) (x y:UInt8):cj P .geq T (v8 x) (v8 y) (vB (decide (y<=x))):=fun _ _ w=>by
 have:decide (y<=x)=decide ((y.toNat:Int)<=(x.toNat:Int)):=by
  rw[cQ]; simp[dU]
 rw[this]; rfl
def iK (x:UInt32) (n:Nat):UInt32:=UInt32.ofNat (x.toNat*2^(min n 32))
def dB (x:UInt32) (n:Nat):UInt32:=UInt32.ofNat (x.toNat / 2^(min n 32))
theorem mR (x:Nat):IntKind.u32.wrap (x:Int)=((UInt32.ofNat x).toNat:Int):=by
 simp[IntKind.wrap,IntKind.bits,IntKind.signed,di]
theorem uf (x:UInt32):BitVec.ofInt 32 (x.toNat:Int)=x.toBitVec:=by
 apply BitVec.eq_of_toNat_eq
 simp
theorem Ep (T:TypeId) (x y:UInt32):cj P .add T (v32 x) (v32 y) (v32 (x+y)):=fun _ _ w=>by
 have:(v32 (x+y))=.int .u32 (IntKind.u32.wrap ((x.toNat:Int)+y.toNat)):=by
  rw[show (x.toNat:Int)+y.toNat=((x.toNat+y.toNat:Nat):Int) by simp,mR]
  simp[v32,UInt32.toNat_add]
 rw[this]; rfl
theorem NV (T:TypeId) (x y:UInt32):cj P .sub T (v32 x) (v32 y) (v32 (x - y)):=fun _ _ w=>by
 have:(v32 (x - y))=.int .u32 (IntKind.u32.wrap ((x.toNat:Int) - y.toNat)):=by
  simp only[v32,Value.int.injEq,jb,UInt32.toNat_sub]
  simp[IntKind.wrap,IntKind.bits,IntKind.signed]
  have:=x.toNat_lt; have:=y.toNat_lt
  omega
 rw[this]; rfl
theorem M4 (T:TypeId) (x y:UInt32):cj P .and T (v32 x) (v32 y) (v32 (x &&& y)):=fun _ _ w=>by
 have:(v32 (x &&& y))=.int .u32 (IntKind.u32.wrap ((BitVec.ofInt 32 (x.toNat:Int) &&& BitVec.ofInt 32 (y.toNat:Int)).toNat:Int)):=by
  rw[uf,uf,mR]
  simp[v32]
 rw[this]; rfl
theorem Ot (T:TypeId) (x y:UInt32):cj P .or T (v32 x) (v32 y) (v32 (x ||| y)):=fun _ _ w=>by
 have:(v32 (x ||| y))=.int .u32 (IntKind.u32.wrap ((BitVec.ofInt 32 (x.toNat:Int) ||| BitVec.ofInt 32 (y.toNat:Int)).toNat:Int)):=by
  rw[uf,uf,mR]
  simp[v32]
 rw[this]; rfl
theorem NH (T:TypeId) (x y:UInt32):cj P .xor T (v32 x) (v32 y) (v32 (x ^^^ y)):=fun _ _ w=>by
 have:(v32 (x ^^^ y))=.int .u32 (IntKind.u32.wrap ((BitVec.ofInt 32 (x.toNat:Int) ^^^ BitVec.ofInt 32 (y.toNat:Int)).toNat:Int)):=by
  rw[uf,uf,mR]
  simp[v32]
 rw[this]; rfl
theorem Dp (T:TypeId) (k:IntKind) (x:UInt32) (y:Int) (h:0<=y):cj P .shl T (v32 x) (.int k y) (v32 (iK x y.toNat)):=fun _ _ w=>by
 have hy:¬y<0:=by omega
 have:IntKind.u32.wrap ((x.toNat:Int)*2^(min y.toNat 32))=((iK x y.toNat).toNat:Int):=by
  rw[show (x.toNat:Int)*2^(min y.toNat 32)=((x.toNat*2^(min y.toNat 32):Nat):Int) by simp,mR]; rfl
 simp[eqGuard,binOp,Op.shift,hy,IntKind.bits,this]
theorem Ei (T:TypeId) (k:IntKind) (x:UInt32) (y:Int) (h:0<=y):cj P .shr T (v32 x) (.int k y) (v32 (dB x y.toNat)):=fun _ _ w=>by
 have hy:¬y<0:=by omega
 have:(x.toNat:Int).fdiv (2^(min y.toNat 32))=((dB x y.toNat).toNat:Int):=by
  rw[fQ _ (Int.le_of_lt (Int.pow_pos (by omega)))]
  simp only[dB,di]
  have:=x.toNat_lt
  rw[az (du (dw _ _) this)]
  simp
 simp[eqGuard,binOp,Op.shift,hy,IntKind.bits,this]
theorem EC (T:TypeId) (x:UInt32) (y:UInt64):cj P .shl T (v32 x) (v64 y) (v32 (iK x y.toNat)):=by
 have:=Dp (P:=P) T .u64 x y.toNat (by omega); simpa using this
theorem ov (T:TypeId) (x:UInt32) (y:UInt64):cj P .shr T (v32 x) (v64 y) (v32 (dB x y.toNat)):=by
 have:=Ei (P:=P) T .u64 x y.toNat (by omega); simpa using this
theorem GV (T:TypeId) (x:UInt32) (y:Int) (h:0<=y):cj P .shl T (v32 x) (vI y) (v32 (iK x y.toNat)):=Dp T .i64 x y h
theorem Is (T:TypeId) (x:UInt32) (y:Int) (h:0<=y):cj P .shr T (v32 x) (vI y) (v32 (dB x y.toNat)):=Ei T .i64 x y h
theorem DH (T:TypeId) (x y:UInt32):cj P .eql T (v32 x) (v32 y) (vB (x == y)):=fun _ _ w=>by
 have:(x == y)=((x.toNat:Int) == (y.toNat:Int)):=by
  rw[cQ]; simp[<-cL]; omega
 rw[this]; rfl
theorem M3 (T:TypeId) (x y:UInt32):cj P .neq T (v32 x) (v32 y) (vB (x != y)):=fun _ _ w=>by
 have:(x != y)=((x.toNat:Int) != (y.toNat:Int)):=by
  rw[cQ]; simp[<-cL]; omega
 rw[this]; rfl
theorem Nd (T:TypeId) (x y:UInt32):cj P .lss T (v32 x) (v32 y) (vB (decide (x<y))):=fun _ _ w=>by
 have:decide (x<y)=decide ((x.toNat:Int)<(y.toNat:Int)):=by
  rw[cQ]; simp[dt]
 rw[this]; rfl
theorem MH (T:TypeId) (x y:UInt32):cj P .leq T (v32 x) (v32 y) (vB (decide (x<=y))):=fun _ _ w=>by
 have:decide (x<=y)=decide ((x.toNat:Int)<=(y.toNat:Int)):=by
  rw[cQ]; simp[ff]
 rw[this]; rfl
theorem NC (T:TypeId) (x y:UInt32):cj P .gtr T (v32 x) (v32 y) (vB (decide (y<x))):=fun _ _ w=>by
 have:decide (y<x)=decide ((y.toNat:Int)<(x.toNat:Int)):=by
  rw[cQ]; simp[dt]
 rw[this]; rfl
theorem Ng (T:TypeId) (x y:UInt32):cj P .geq T (v32 x) (v32 y) (vB (decide (y<=x))):=fun _ _ w=>by
 have:decide (y<=x)=decide ((y.toNat:Int)<=(x.toNat:Int)):=by
  rw[cQ]; simp[ff]
 rw[this]; rfl
theorem Mc (x:UInt32):UnR P .xor (v32 x) (v32 (~~~ x)):=fun _=>by
 have:(v32 (~~~ x))=.int .u32 (IntKind.u32.wrap ((BitVec.ofInt 32 IntKind.u32.max ^^^ BitVec.ofInt 32 (x.toNat:Int)).toNat:Int)):=by
  rw[uf,mR]
  have j:BitVec.ofInt 32 IntKind.u32.max=BitVec.allOnes 32:=by decide
  rw[j,BitVec.allOnes_xor,<-UInt32.toBitVec_not,UInt32.toNat_toBitVec]
  simp only[v32,di,Value.int.injEq,jb]
  exact_mod_cast (az (~~~ x).toNat_lt).symm
 rw[this]; rfl
def cV (x:UInt64) (n:Nat):UInt64:=UInt64.ofNat (x.toNat*2^(min n 64))
def bb (x:UInt64) (n:Nat):UInt64:=UInt64.ofNat (x.toNat / 2^(min n 64))
theorem lY (x:Nat):IntKind.u64.wrap (x:Int)=((UInt64.ofNat x).toNat:Int):=by
 simp[IntKind.wrap,IntKind.bits,IntKind.signed,bQ]
theorem Ka (x:Int):IntKind.u64.wrap x=((UInt64.ofInt x).toNat:Int):=by
 simp[IntKind.wrap,IntKind.bits,IntKind.signed,UInt64.ofInt,bQ]
 omega
theorem wu (x:UInt64):BitVec.ofInt 64 (x.toNat:Int)=x.toBitVec:=by
 apply BitVec.eq_of_toNat_eq
 simp
theorem DK (T:TypeId) (x y:UInt64):cj P .add T (v64 x) (v64 y) (v64 (x+y)):=fun _ _ w=>by
 have:(v64 (x+y))=.int .u64 (IntKind.u64.wrap ((x.toNat:Int)+y.toNat)):=by
  rw[show (x.toNat:Int)+y.toNat=((x.toNat+y.toNat:Nat):Int) by simp,lY]
  simp[v64,fN]
 rw[this]; rfl
theorem MT (T:TypeId) (x y:UInt64):cj P .sub T (v64 x) (v64 y) (v64 (x - y)):=fun _ _ w=>by
 have:(v64 (x - y))=.int .u64 (IntKind.u64.wrap ((x.toNat:Int) - y.toNat)):=by
  simp only[v64,Value.int.injEq,jb,ft]
  simp[IntKind.wrap,IntKind.bits,IntKind.signed]
  have:=x.toNat_lt; have:=y.toNat_lt
  omega
 rw[this]; rfl
theorem Nt (T:TypeId) (x y:UInt64):cj P .mul T (v64 x) (v64 y) (v64 (x*y)):=fun _ _ w=>by
 have:(v64 (x*y))=.int .u64 (IntKind.u64.wrap ((x.toNat:Int)*y.toNat)):=by
  rw[show (x.toNat:Int)*y.toNat=((x.toNat*y.toNat:Nat):Int) by simp,lY]
  simp[v64,i7]
 rw[this]; rfl
theorem MD (T:TypeId) (x y:UInt64) (h:¬y=0):cj P .quo T (v64 x) (v64 y) (v64 (x / y)):=fun _ _ w=>by
 have hy:¬(y.toNat:Int)=0:=fun e=>h (cx.1 (by simpa using e))
 have:IntKind.u64.wrap (((x.toNat:Int)).tdiv y.toNat)=((x / y).toNat:Int):=by
  rw[show ((x.toNat:Int)).tdiv y.toNat=((x.toNat / y.toNat:Nat):Int) from rfl,lY]
  rw[fp,bQ,az (du (dw _ _) x.toNat_lt)]
 simp only[eqGuard,binOp,Op.intDiv,ae hy,this]; rfl
theorem Dw (T:TypeId) (x y:UInt64) (h:¬y=0):cj P .rem T (v64 x) (v64 y) (v64 (x%y)):=fun _ _ w=>by
 have hy:¬(y.toNat:Int)=0:=fun e=>h (cx.1 (by simpa using e))
 have:((x.toNat:Int)).tmod y.toNat=((x%y).toNat:Int):=by rw[dh]; rfl
 simp only[eqGuard,binOp,Op.intDiv,ae hy,this]; rfl
theorem NW (T:TypeId) (x y:UInt64):cj P .and T (v64 x) (v64 y) (v64 (x &&& y)):=fun _ _ w=>by
 have:(v64 (x &&& y))=.int .u64 (IntKind.u64.wrap ((BitVec.ofInt 64 (x.toNat:Int) &&& BitVec.ofInt 64 (y.toNat:Int)).toNat:Int)):=by
  rw[wu,wu,lY]
  simp[v64]
 rw[this]; rfl
theorem PX (T:TypeId) (x y:UInt64):cj P .or T (v64 x) (v64 y) (v64 (x ||| y)):=fun _ _ w=>by
 have:(v64 (x ||| y))=.int .u64 (IntKind.u64.wrap ((BitVec.ofInt 64 (x.toNat:Int) ||| BitVec.ofInt 64 (y.toNat:Int)).toNat:Int)):=by
  rw[wu,wu,lY]
  simp[v64]
 rw[this]; rfl
theorem Ml (T:TypeId) (x y:UInt64):cj P .xor T (v64 x) (v64 y) (v64 (x ^^^ y)):=fun _ _ w=>by
 have:(v64 (x ^^^ y))=.int .u64 (IntKind.u64.wrap ((BitVec.ofInt 64 (x.toNat:Int) ^^^ BitVec.ofInt 64 (y.toNat:Int)).toNat:Int)):=by
  rw[wu,wu,lY]
  simp[v64]
 rw[this]; rfl
theorem Eo (T:TypeId) (k:IntKind) (x:UInt64) (y:Int) (h:0<=y):cj P .shl T (v64 x) (.int k y) (v64 (cV x y.toNat)):=fun _ _ w=>by
 have hy:¬y<0:=by omega
 have:IntKind.u64.wrap ((x.toNat:Int)*2^(min y.toNat 64))=((cV x y.toNat).toNat:Int):=by
  rw[show (x.toNat:Int)*2^(min y.toNat 64)=((x.toNat*2^(min y.toNat 64):Nat):Int) by simp,lY]; rfl
 simp[eqGuard,binOp,Op.shift,hy,IntKind.bits,this]
theorem DA (T:TypeId) (k:IntKind) (x:UInt64) (y:Int) (h:0<=y):cj P .shr T (v64 x) (.int k y) (v64 (bb x y.toNat)):=fun _ _ w=>by
 have hy:¬y<0:=by omega
 have:(x.toNat:Int).fdiv (2^(min y.toNat 64))=((bb x y.toNat).toNat:Int):=by
  rw[fQ _ (Int.le_of_lt (Int.pow_pos (by omega)))]
  simp only[bb,bQ]
  have:=x.toNat_lt
  rw[az (du (dw _ _) this)]
  simp
 simp[eqGuard,binOp,Op.shift,hy,IntKind.bits,this]
theorem ER (T:TypeId) (x:UInt64) (y:UInt64):cj P .shl T (v64 x) (v64 y) (v64 (cV x y.toNat)):=by
 have:=Eo (P:=P) T .u64 x y.toNat (by omega); simpa using this
theorem Fp (T:TypeId) (x:UInt64) (y:UInt64):cj P .shr T (v64 x) (v64 y) (v64 (bb x y.toNat)):=by
 have:=DA (P:=P) T .u64 x y.toNat (by omega); simpa using this
theorem Hq (T:TypeId) (x:UInt64) (y:Int) (h:0<=y):cj P .shl T (v64 x) (vI y) (v64 (cV x y.toNat)):=Eo T .i64 x y h
theorem kE (T:TypeId) (x:UInt64) (y:Int) (h:0<=y):cj P .shr T (v64 x) (vI y) (v64 (bb x y.toNat)):=DA T .i64 x y h
theorem MY (T:TypeId) (x y:UInt64):cj P .eql T (v64 x) (v64 y) (vB (x == y)):=fun _ _ w=>by
 have:(x == y)=((x.toNat:Int) == (y.toNat:Int)):=by
  rw[cQ]; simp[<-cx]; omega
 rw[this]; rfl
theorem xd (T:TypeId) (x y:UInt64):cj P .neq T (v64 x) (v64 y) (vB (x != y)):=fun _ _ w=>by
 have:(x != y)=((x.toNat:Int) != (y.toNat:Int)):=by
  rw[cQ]; simp[<-cx]; omega
 rw[this]; rfl
theorem En (T:TypeId) (x y:UInt64):cj P .lss T (v64 x) (v64 y) (vB (decide (x<y))):=fun _ _ w=>by
 have:decide (x<y)=decide ((x.toNat:Int)<(y.toNat:Int)):=by
  rw[cQ]; simp[bd]
 rw[this]; rfl
theorem DV (T:TypeId) (x y:UInt64):cj P .gtr T (v64 x) (v64 y) (vB (decide (y<x))):=fun _ _ w=>by
 have:decide (y<x)=decide ((y.toNat:Int)<(x.toNat:Int)):=by
  rw[cQ]; simp[bd]
 rw[this]; rfl
theorem L0 (T:TypeId) (x y:UInt64):cj P .geq T (v64 x) (v64 y) (vB (decide (y<=x))):=fun _ _ w=>by
 have:decide (y<=x)=decide ((y.toNat:Int)<=(x.toNat:Int)):=by
  rw[cQ]; simp[cK]
 rw[this]; rfl
theorem Mx (x:UInt64):UnR P .neg (v64 x) (v64 (0 - x)):=fun _=>by
 have:(v64 (0 - x))=.int .u64 (IntKind.u64.wrap (0 - (x.toNat:Int))):=by
  simp only[v64,Value.int.injEq,jb,ft]
  simp[IntKind.wrap,IntKind.bits,IntKind.signed]
  have:=x.toNat_lt
  omega
 rw[this]; rfl
theorem Ho {S T:TypeId} (hS:P.underlying S=some (.int .i64)) (hT:P.underlying T=some (.int .u8)) (x:Int):nf P S T (vI x) (v8 (UInt8.ofInt x)):=fun w=>by
 have:IntKind.u8.wrap x=((UInt8.ofInt x).toNat:Int):=by rw[Nk]
 simp[convert,run_underlying hS,run_underlying hT,Conv.intToInt,this]
theorem oC {S T:TypeId} (hS:P.underlying S=some (.int .i64)) (hT:P.underlying T=some (.int .u64)) (x:Int):nf P S T (vI x) (v64 (UInt64.ofInt x)):=fun w=>by
 have:IntKind.u64.wrap x=((UInt64.ofInt x).toNat:Int):=by rw[Ka]
 simp[convert,run_underlying hS,run_underlying hT,Conv.intToInt,this]
theorem P7 {S T:TypeId} (hS:P.underlying S=some (.int .u8)) (hT:P.underlying T=some (.int .i64)) (x:UInt8):nf P S T (v8 x) (vI ((x.toNat:Int))):=fun w=>by
 have:IntKind.i64.wrap (x.toNat:Int)=(x.toNat:Int):=by have:=x.toNat_lt; exact aD (by omega) (by omega)
 simp[convert,run_underlying hS,run_underlying hT,Conv.intToInt,this]
theorem MV {S T:TypeId} (hS:P.underlying S=some (.int .u8)) (hT:P.underlying T=some (.int .u32)) (x:UInt8):nf P S T (v8 x) (v32 (x.toUInt32)):=fun w=>by
 have:IntKind.u32.wrap (x.toNat:Int)=((x.toUInt32).toNat:Int):=by rw[mR]; simp
 simp[convert,run_underlying hS,run_underlying hT,Conv.intToInt,this]
theorem Nj {S T:TypeId} (hS:P.underlying S=some (.int .u8)) (hT:P.underlying T=some (.int .u64)) (x:UInt8):nf P S T (v8 x) (v64 (x.toUInt64)):=fun w=>by
 have:IntKind.u64.wrap (x.toNat:Int)=((x.toUInt64).toNat:Int):=by rw[lY]; simp
 simp[convert,run_underlying hS,run_underlying hT,Conv.intToInt,this]
theorem qs {S T:TypeId} (hS:P.underlying S=some (.int .u32)) (hT:P.underlying T=some (.int .u8)) (x:UInt32):nf P S T (v32 x) (v8 (x.toUInt8)):=fun w=>by
 have:IntKind.u8.wrap (x.toNat:Int)=((x.toUInt8).toNat:Int):=by rw[nX]; simp
 simp[convert,run_underlying hS,run_underlying hT,Conv.intToInt,this]
theorem JJ {S T:TypeId} (hS:P.underlying S=some (.int .u32)) (hT:P.underlying T=some (.int .u64)) (x:UInt32):nf P S T (v32 x) (v64 (x.toUInt64)):=fun w=>by
 have:IntKind.u64.wrap (x.toNat:Int)=((x.toUInt64).toNat:Int):=by rw[lY]; simp
 simp[convert,run_underlying hS,run_underlying hT,Conv.intToInt,this]
theorem Dv {S T:TypeId} (hS:P.underlying S=some (.int .u64)) (hT:P.underlying T=some (.int .i64)) (x:UInt64):nf P S T (v64 x) (vI (wI (x.toNat:Int))):=fun w=>by
 have:IntKind.i64.wrap (x.toNat:Int)=wI (x.toNat:Int):=by rfl
 simp[convert,run_underlying hS,run_underlying hT,Conv.intToInt,this]
theorem kV {S T:TypeId} (hS:P.underlying S=some (.int .u64)) (hT:P.underlying T=some (.int .u8)) (x:UInt64):nf P S T (v64 x) (v8 (x.toUInt8)):=fun w=>by
 have:IntKind.u8.wrap (x.toNat:Int)=((x.toUInt8).toNat:Int):=by rw[nX]; simp
 simp[convert,run_underlying hS,run_underlying hT,Conv.intToInt,this]
theorem KL {S T:TypeId} (hS:P.underlying S=some (.int .u64)) (hT:P.underlying T=some (.int .u32)) (x:UInt64):nf P S T (v64 x) (v32 (x.toUInt32)):=fun w=>by
 have:IntKind.u32.wrap (x.toNat:Int)=((x.toUInt32).toNat:Int):=by rw[mR]; simp
 simp[convert,run_underlying hS,run_underlying hT,Conv.intToInt,this]
end
structure Enc (τ:Type) where
 sz:Nat
 cells:τ->List Value
 len:∀t,(cells t).length=sz
 one:∀t,∀u∈cells t,u.oneCell'=true
def e8:Enc UInt8:=⟨1,fun x=>[v8 x],fun _=>rfl,fun _ u h=>by simp at h; subst h; rfl⟩
def e32:Enc UInt32:=⟨1,fun x=>[v32 x],fun _=>rfl,fun _ u h=>by simp at h; subst h; rfl⟩
def e64:Enc UInt64:=⟨1,fun x=>[v64 x],fun _=>rfl,fun _ u h=>by simp at h; subst h; rfl⟩
def eI:Enc Int:=⟨1,fun x=>[vI x],fun _=>rfl,fun _ u h=>by simp at h; subst h; rfl⟩
def eS:Enc (List UInt8):=⟨1,fun x=>[vS x],fun _=>rfl,fun _ u h=>by simp at h; subst h; rfl⟩
structure SV where
 a:Option Addr
 n:Nat
 c:Nat
abbrev SV.v (s:SV):Value:=.slice s.a s.n s.c
def eV:Enc SV:=⟨1,fun x=>[x.v],fun _=>rfl,fun _ u h=>by simp at h; subst h; rfl⟩
abbrev Enc.fl {τ:Type} (e:Enc τ) (l:List τ):List Value:=l.flatMap e.cells
theorem Enc.fl_length {τ:Type} (e:Enc τ) (l:List τ):(e.fl l).length=l.length*e.sz:=by
 induction l with
 | nil=>simp[Enc.fl]
 | cons a r ih=>
  simp only[Enc.fl,dS,aE,ca,e.len,aW]at ih ⊢
  omega
theorem Enc.fl_append {τ:Type} (e:Enc τ) (l m:List τ):e.fl (l++m)=e.fl l++e.fl m:=by simp[Enc.fl]
theorem Enc.fl_one {τ:Type} (e:Enc τ) (l:List τ):∀u∈e.fl l,u.oneCell'=true:=by
 intro u hu
 simp only[Enc.fl,jc]at hu
 obtain⟨t,_,j⟩:=hu
 exact e.one t u j
theorem Enc.fl_drop {τ:Type} (e:Enc τ) (l:List τ) (k:Nat):e.fl (l.drop k)=(e.fl l).drop (k*e.sz):=by
 induction k generalizing l with
 | zero=>simp
 | succ k ih=>
  cases l with
  | nil=>simp[Enc.fl]
  | cons a r=>
   rw[List.drop_succ_cons,ih]
   simp only[Enc.fl,dS,aW,cy]
   rw[cw,<-gk,<-e.len a,List.drop_left]
theorem Enc.fl_take {τ:Type} (e:Enc τ) (l:List τ) (k:Nat):e.fl (l.take k)=(e.fl l).take (k*e.sz):=by
 induction k generalizing l with
 | zero=>simp[Enc.fl]
 | succ k ih=>
  cases l with
  | nil=>simp[Enc.fl]
  | cons a r=>
   rw[List.take_succ_cons]
   simp only[Enc.fl,dS,aW,cy]at ih ⊢
   rw[ih,cw (k*e.sz),List.take_append]
   simp[e.len,aC]
theorem Enc.fl_get {τ:Type} (e:Enc τ) (l:List τ) (i:Nat) (t:τ) (h:l[i]? = some t) (j:Nat) (A:j<e.sz):(e.fl l)[i*e.sz+j]? = (e.cells t)[j]?:=by
 have B:(e.fl l)[i*e.sz+j]? = ((e.fl l).drop (i*e.sz))[j]?:=by rw[dX]
 rw[B,<-e.fl_drop]
 have G:l.drop i=t :: l.drop (i+1):=by
  obtain⟨hi,he⟩:=aF.1 h
  rw[bc hi,he]
 rw[G]
 simp only[Enc.fl,dS]
 rw[List.getElem?_append_left (by rw[e.len]; exact A)]
def RO (w:World) {τ:Type} (e:Enc τ) (v:Value) (l:List τ):Prop:=
 ∃a c,v=.slice a l.length c/\l.length<=c/\(l≠[]->∃b off,a=some ⟨b,off,none⟩/\∀j u,(e.fl l)[j]? = some u->w.cell? ⟨b,off+j,none⟩=some u)
structure Fr (S:List Nat) (w w':World):Prop where
 os:w'.os=w.os
 tape:w'.tape=w.tape
 output:w'.output=w.output
 size:w.heap.size<=w'.heap.size
 block:∀k,k<w.heap.size->k ∉ S->w'.heap[k]? = w.heap[k]?
theorem Fr.refl (S:List Nat) (w:World):Fr S w w:=⟨rfl,rfl,rfl,aw _,fun _ _ _=>rfl⟩
theorem Fr.trans {S:List Nat} {a b c:World} (h:Fr S a b) (k:Fr S b c):Fr S a c:=
 ⟨k.os.trans h.os,k.tape.trans h.tape,k.output.trans h.output,aZ h.size k.size,fun i hi hn=>(k.block i (aU hi h.size) hn).trans (h.block i hi hn)⟩
theorem Fr.step {S R:List Nat} {a b c:World} (h:Fr S a b) (k:Fr R b c) (A:∀x∈R,a.heap.size<=x\/x∈S):Fr S a c:=
 ⟨k.os.trans h.os,k.tape.trans h.tape,k.output.trans h.output,aZ h.size k.size,fun i hi hn=>by
  refine (k.block i (aU hi h.size) fun hx=>?_).trans (h.block i hi hn)
  rcases A i hx with j | j
  ·omega
  ·exact hn j⟩
theorem Fr.mono {S R:List Nat} {a b:World} (h:Fr S a b) (hs:∀x∈S,x∈R):Fr R a b:=
 ⟨h.os,h.tape,h.output,h.size,fun k j hn=>h.block k j fun hx=>hn (hs k hx)⟩
theorem Fr.below {w w':World} (h:Fr [] w w'):Below w.heap.size w w':=⟨h.os,h.tape,h.output,h.size,fun k j=>h.block k j (by simp)⟩
theorem Fr.alloc (S:List Nat) (w:World) (o:Obj):Fr S w (w.alloc o):=⟨rfl,rfl,rfl,by simp,fun k j _=>heap_alloc_old w o k j⟩
theorem Fr.drew (S:List Nat) (w:World):Fr S w w.drew:=⟨rfl,rfl,rfl,aw _,fun _ _ _=>rfl⟩
theorem Fr.setRow (w:World) (g:Nat) (cs:Array Value):Fr [g] w (w.setRow g cs):=by
 refine⟨rfl,rfl,rfl,by simp[World.setRow],fun k _ hn=>setRow_other w g k cs (by simpa using hn)⟩
theorem Fr.cell {S:List Nat} {w w':World} (h:Fr S w w') {p:Addr} (hp:p.block<w.heap.size) (hs:p.block ∉ S):w'.cell? p=w.cell? p:=
 World.cell?_of_block (h.block p.block hp hs)
theorem mg {w:World} {p:Addr} {u:Value} (h:w.cell? p=some u):p.block<w.heap.size:=World.block_lt_of_cell? w p h
abbrev Aw (v:Value):Option Nat:=v.ownBlock
theorem RO.fr {S:List Nat} {w w':World} {τ:Type} {e:Enc τ} {v:Value} {l:List τ} (h:RO w e v l) (hf:Fr S w w') (hs:l≠[]->∀k∈S,Aw v≠some k):RO w' e v l:=by
 obtain⟨a,c,rfl,hc,G⟩:=h
 refine⟨a,c,rfl,hc,fun hl=>?_⟩
 obtain⟨b,off,rfl,A⟩:=G hl
 refine⟨b,off,rfl,fun j u I=>?_⟩
 have B:=A j u I
 rw[hf.cell (mg B) (fun hx=>hs hl _ hx rfl)]
 exact B
def RP (S:List Nat) (w:World) {τ:Type} (e:Enc τ) (v:Value) (l:List τ):Prop:=RO w e v l/\(l≠[]->∀k∈S,Aw v≠some k)
theorem RP.now {S:List Nat} {w w':World} {τ:Type} {e:Enc τ} {v:Value} {l:List τ} (h:RP S w e v l) (hf:Fr S w w'):RO w' e v l:=h.1.fr hf h.2
theorem RO.rp {w:World} {τ:Type} {e:Enc τ} {v:Value} {l:List τ} (h:RO w e v l):RP [] w e v l:=⟨h,by simp⟩
theorem RO.nil (w:World) {τ:Type} (e:Enc τ):RO w e (.slice none 0 0) ([]:List τ):=⟨none,0,rfl,aw _,fun h=>absurd rfl h⟩
def slV (v:Value) (sz lo hi:Nat):Value:=match v with
 | .slice a _ c=>.slice (if c=lo then a else a.map (·.add (lo*sz))) (hi - lo) (c - lo)
 | v=>v
def slV3 (v:Value) (sz lo hi m:Nat):Value:=match v with
 | .slice a _ _=>.slice (if m=lo then a else a.map (·.add (lo*sz))) (hi - lo) (m - lo)
 | v=>v
theorem iO (b off k:Nat):(⟨b,off,none⟩:Addr).add k=⟨b,off+k,none⟩:=by
 unfold Addr.add; split <;> simp_all
theorem RO.sub {w:World} {τ:Type} {e:Enc τ} {v:Value} {l:List τ} (h:RO w e v l) {lo hi:Nat} (U:lo<=hi) (V:hi<=l.length) :
  RO w e (slV v e.sz lo hi) ((l.drop lo).take (hi - lo)):=by
 obtain⟨a,c,rfl,hc,O⟩:=h
 have A:((l.drop lo).take (hi - lo)).length=hi - lo:=by simp; omega
 refine⟨if c=lo then a else a.map (·.add (lo*e.sz)),c - lo,by rw[A]; rfl,by rw[A]; omega,fun B=>?_⟩
 have hl:l≠[]:=by rintro rfl; simp at B
 have R:0<hi - lo:=by
  rcases bO (hi - lo) with J | J
  ·rw[J]at B; simp at B
  ·exact J
 obtain⟨b,off,rfl,I⟩:=O hl
 have N:¬c=lo:=by omega
 refine⟨b,off+lo*e.sz,by simp[N,iO],fun j u G=>?_⟩
 rw[e.fl_take,e.fl_drop,bP]at G
 split at G
 ·rw[dX]at G
  have:=I _ _ G
  rw[d9]
  exact this
 ·cases G
theorem RO.sub3 {w:World} {τ:Type} {e:Enc τ} {v:Value} {l:List τ} (h:RO w e v l) {lo hi m:Nat} (U:lo<=hi) (V:hi<=l.length) (X:hi<=m) :
  RO w e (slV3 v e.sz lo hi m) ((l.drop lo).take (hi - lo)):=by
 obtain⟨a,c,rfl,hc,O⟩:=h
 have A:((l.drop lo).take (hi - lo)).length=hi - lo:=by simp; omega
 refine⟨if m=lo then a else a.map (·.add (lo*e.sz)),m - lo,by rw[A]; rfl,by rw[A]; omega,fun B=>?_⟩
 have hl:l≠[]:=by rintro rfl; simp at B
 have R:0<hi - lo:=by
  rcases bO (hi - lo) with J | J
  ·rw[J]at B; simp at B
  ·exact J
 obtain⟨b,off,rfl,I⟩:=O hl
 have N:¬m=lo:=by omega
 refine⟨b,off+lo*e.sz,by simp[N,iO],fun j u G=>?_⟩
 rw[e.fl_take,e.fl_drop,bP]at G
 split at G
 ·rw[dX]at G
  have:=I _ _ G
  rw[d9]
  exact this
 ·cases G
def ixA (v:Value) (sz i:Nat):Addr:=match v with
 | .slice (some a) _ _=>a.add (i*sz)
 | _=>default
theorem RO.cellAt {w:World} {τ:Type} {e:Enc τ} {v:Value} {l:List τ} (h:RO w e v l) {i:Nat} {t:τ} (hi:l[i]? = some t) {j:Nat} (B:j<e.sz) {u:Value} (hu:(e.cells t)[j]? = some u) :
  w.cell? ((ixA v e.sz i).add j)=some u:=by
 obtain⟨a,c,rfl,hc,G⟩:=h
 have hl:l≠[]:=by rintro rfl; simp at hi
 obtain⟨b,off,rfl,A⟩:=G hl
 have:=A (i*e.sz+j) u (by rw[e.fl_get l i t hi j B]; exact hu)
 simp only[ixA,iO]
 rw[d9]
 exact this
theorem RO.cellAt0 {w:World} {τ:Type} {e:Enc τ} {v:Value} {l:List τ} (h:RO w e v l) {i:Nat} {t:τ} (hi:l[i]? = some t) {u:Value} (hu:e.cells t=[u]) :
  w.cell? (ixA v e.sz i)=some u:=by
 have A:e.sz=1:=by rw[<-e.len t,hu]; rfl
 have:=h.cellAt hi (j:=0) (by omega) (u:=u) (by rw[hu]; rfl)
 simpa [Addr.add] using this
def Row (w:World) (g:Nat) (cur:Array Value) (T:TypeId):Prop:=∃mk:Nat×Nat,w.heap[g]? = some (.cells cur T mk)/\(mk=(0,0)\/cur.size<=mk.1)
theorem Row.of {w:World} {g:Nat} {j:Array Value} {T:TypeId} (h:w.heap[g]? = some (.cells j T (0,0))):Row w g j T:=⟨_,h,.inl rfl⟩
theorem Row.new (w:World) (cs:Array Value) (T:TypeId):Row (w.alloc (.cells cs T)) w.heap.size cs T:=.of (heap_alloc_new w _)
theorem Row.lt {w:World} {g:Nat} {j:Array Value} {T:TypeId} (h:Row w g j T):g<w.heap.size:=by
 obtain⟨mk,h,_⟩:=h
 exact (cg.1 h).1
theorem Row.cell {w:World} {g:Nat} {A:Array Value} {T:TypeId} (h:Row w g A T) (j:Nat):w.cell? ⟨g,j,none⟩=A[j]?:=by
 obtain⟨mk,h,_⟩:=h
 exact cell_of_row w g j A T mk h
theorem Row.mv {w w':World} {g:Nat} {j:Array Value} {T:TypeId} (h:Row w g j T) (he:w'.heap[g]? = w.heap[g]?):Row w' g j T:=by
 obtain⟨mk,h,hm⟩:=h
 exact⟨mk,he.trans h,hm⟩
theorem Row.set {w:World} {g:Nat} {j:Array Value} {T:TypeId} (h:Row w g j T) (cs:Array Value) (hc:cs.size=j.size):Row (w.setRow g cs) g cs T:=by
 obtain⟨mk,h,hm⟩:=h
 exact⟨mk,setRow_heap w g j cs T mk h,by rw[hc]; exact hm⟩
theorem iV (P:Program) (g o:Nat) (t:TypeId):∀(vs:List Value) (i:Nat) (j:Array Value) (w:World),Row w g j t->o+i+vs.length<=j.size->(∀v∈vs,v.oneCell'=true) ->
  (storeCells ⟨g,o,none⟩ vs i).run P w=.ok () (w.setRow g (j.toList.take (o+i)++vs++j.toList.drop (o+i+vs.length)).toArray)
 | [],i,j,w,hr,_,_=>by
  obtain⟨fz,hg,_⟩:=hr
  simp only[storeCells,bM,eu,br,cD,Array.toArray_toList]
  rw[setRow_self w g j t fz hg]
  rfl
 | v :: rest,i,j,w,hr,hl,h1=>by
  have hi:o+i<j.size:=by simp at hl; omega
  have G:(⟨g,o,none⟩:Addr).add i=⟨g,o+i,none⟩:=by unfold Addr.add; split <;> simp_all
  have J:=hr.set (j.setIfInBounds (o+i) v) (by simp)
  obtain⟨fz,hg,A⟩:=hr
  have B:w.cell? ⟨g,o+i,none⟩=some j[o+i]:=by simp[World.cell?,hg,hi]
  have I:w.frozen? ⟨g,o+i,none⟩=false:=by
   rcases A with rfl | A
   ·simp[World.frozen?,hg]
   ·obtain⟨lo,R⟩:=fz
    simp only[World.frozen?,hg,Bool.and_eq_false_iff,iq]
    left
    simp only at A
    omega
  have N:(store ((⟨g,o,none⟩:Addr).add i) v).run P w=.ok () (w.setRow g (j.setIfInBounds (o+i) v)):=by
   rw[G,run_store P w _ v _ (h1 v (by simp)),B]
   simp[I,setCell_eq_setRow w g (o+i) j t fz v hg]
  have O:=iV P g o t rest (i+1) (j.setIfInBounds (o+i) v) (w.setRow g (j.setIfInBounds (o+i) v)) J (by simp at hl ⊢; omega) (fun x hx=>h1 x (by simp[hx]))
  simp only[storeCells,Sem.run_bind,N,Result.andThen_ok,O,setRow_setRow]
  congr 3
  have e:=list_seg_step j.toList (o+i) v rest (by simp at hl ⊢; omega)
  simpa [Array.toList_setIfInBounds,d9] using e
inductive OE where
 | sl (v:Value) (sz n:Nat) (cs:List Value)
 | rd (v:Value) (sz n:Nat) (cs:List Value)
 | bx (b:Nat) (cs:List Value)
def OE.blk:OE->Option Nat
 | .sl v _ _ _=>Aw v
 | .rd v _ n _=>if n=0 then none else Aw v
 | .bx b _=>some b
def fre (S:List Nat) (B b:Nat):Prop:=B<=b\/b∈S
def OE.ok (S:List Nat) (B:Nat) (w:World):OE->Prop
 | .sl v sz n cs=>cs.length=n*sz/\((v=.slice none 0 0/\n=0) \/
   ∃g cap cur T,v=.slice (some ⟨g,0,none⟩) n cap/\fre S B g/\Row w g cur T/\n<=cap/\cap<=maxLen/\cap*sz<=cur.size/\cur.toList.take (n*sz)=cs)
 | .rd v sz n cs=>cs.length=n*sz/\∃a c,v=.slice a n c/\n<=c /\
   (n≠0->∃b off,a=some ⟨b,off,none⟩/\b<w.heap.size/\fre S B b/\∀j u,cs[j]? = some u->w.cell? ⟨b,off+j,none⟩=some u)
 | .bx b cs=>fre S B b/\∃T cur,w.heap[b]? = some (.cells cur T (0,0))/\cur.toList=cs
theorem OE.ok.lt {S:List Nat} {B:Nat} {w:World} {o:OE} (h:o.ok S B w) {k:Nat} (j:o.blk=some k):k<w.heap.size/\fre S B k:=by
 cases o with
 | sl v sz n cs=>
  rcases h.2 with⟨rfl,_⟩ | ⟨g,G,A,T,rfl,hf,hg,_⟩
  ·simp[OE.blk,Value.ownBlock]at j
  ·simp[OE.blk,Value.ownBlock]at j
   subst j
   exact⟨hg.lt,hf⟩
 | rd v sz n cs=>
  obtain⟨_,a,c,rfl,_,hx⟩:=h
  simp only[OE.blk]at j
  split at j
  ·cases j
  ·rename_i hn
   obtain⟨b,off,rfl,hb,hf,_⟩:=hx hn
   simp[Value.ownBlock]at j
   subst j
   exact⟨hb,hf⟩
 | bx b cs=>
  obtain⟨hf,T,A,hg,_⟩:=h
  simp[OE.blk]at j
  subst j
  exact⟨(cg.1 hg).1,hf⟩
theorem OE.ok.fr {S R:List Nat} {B:Nat} {w w':World} {o:OE} (h:o.ok S B w) (hf:Fr R w w') (N:∀k∈R,o.blk≠some k):o.ok S B w':=by
 cases o with
 | sl v sz n cs=>
  refine⟨h.1,?_⟩
  rcases h.2 with hn | ⟨g,U,A,T,rfl,G,hg,rest⟩
  ·exact .inl hn
  ·exact .inr ⟨g,U,A,T,rfl,G,hg.mv (hf.block g hg.lt (fun hx=>N g hx rfl)),rest⟩
 | rd v sz n cs=>
  obtain⟨hl,a,c,rfl,hc,I⟩:=h
  refine⟨hl,a,c,rfl,hc,fun J=>?_⟩
  obtain⟨b,off,rfl,V,O,hh⟩:=I J
  refine⟨b,off,rfl,aU V hf.size,O,fun j u Z=>?_⟩
  have X:=hh j u Z
  rw[hf.cell (mg X) (fun hx=>N _ hx (by simp[OE.blk,J,Value.ownBlock]))]
  exact X
 | bx b cs=>
  obtain⟨G,T,A,hg,Y⟩:=h
  refine⟨G,T,A,?_,Y⟩
  rw[hf.block b (cg.1 hg).1 (fun hx=>N b hx rfl)]
  exact hg
def OE.dj (o p:OE):Prop:=∀k,o.blk=some k->p.blk≠some k
theorem OE.dj.symm {o p:OE} (h:o.dj p):p.dj o:=fun k hp j=>h k j hp
structure St (S:List Nat) (w0 w:World) (os:List OE):Prop where
 fr:Fr S w0 w
 ok:∀o∈os,o.ok S w0.heap.size w
 dj:os.Pairwise OE.dj
theorem St.start (w:World):St [] w w []:=⟨Fr.refl _ _,by simp,List.Pairwise.nil⟩
theorem St.step {S:List Nat} {w0 w w':World} {os:List OE} (h:St S w0 w os) (hf:Fr [] w w'):St S w0 w' os:=
 ⟨h.fr.step hf (by simp),fun o j=>(h.ok o j).fr hf (by simp),h.dj⟩
theorem St.push {S:List Nat} {w0 w w':World} {os:List OE} (h:St S w0 w os) (hf:Fr [] w w') {o:OE} (A:o.ok S w0.heap.size w') (hn:∀k,o.blk=some k->w.heap.size<=k):St S w0 w' (o :: os):=by
 refine⟨h.fr.step hf (by simp),?_,?_⟩
 ·intro p hp
  rcases aM.1 hp with rfl | hp
  ·exact A
  ·exact (h.ok p hp).fr hf (by simp)
 ·refine List.Pairwise.cons (fun p hp k B j=>?_) h.dj
  have:=(h.ok p hp).lt j
  have:=hn k B
  omega
theorem St.set {S:List Nat} {w0 w w':World} {os:List OE} (h:St S w0 w os) {i:Nat} {o o':OE} (hi:os[i]? = some o) (hf:Fr o.blk.toList w w') (ho:o'.ok S w0.heap.size w')
  (hn:∀k,o'.blk=some k->o.blk=some k\/w.heap.size<=k):St S w0 w' (os.set i o'):=by
 have Y:=bf hi
 refine⟨h.fr.step hf fun x hx=>?_,?_,?_⟩
 ·cases hb:o.blk with
  | none=>rw[hb]at hx; simp at hx
  | some k=>
   rw[hb]at hx
   simp at hx
   subst hx
   exact ((h.ok o Y).lt hb).2
 ·intro p hp
  obtain⟨j,B⟩:=List.getElem?_of_mem hp
  rw[gg]at B
  split at B
  ·split at B
   ·simp at B; subst B; exact ho
   ·cases B
  ·rename_i Z
   refine (h.ok p (bf B)).fr hf fun k A hb=>?_
   have hd:∀x y (hx:x<os.length) (hy:y<os.length),x<y->(os[x]).dj (os[y]):=fj.1 h.dj
   obtain⟨J,G⟩:=aF.1 hi
   obtain⟨U,V⟩:=aF.1 B
   have X:o.blk=some k:=by
    cases hbk:o.blk with
    | none=>rw[hbk]at A; simp at A
    | some q=>rw[hbk]at A; simp at A; rw[A]
   rcases Nat.lt_or_gt_of_ne Z with N | N
   ·have:=hd i j J U N; rw[G,V]at this; exact this k X hb
   ·have:=hd j i U J N; rw[G,V]at this; exact this k hb X
 ·rw[fj]
  intro x y hx hy O
  have hd:∀x y (hx:x<os.length) (hy:y<os.length),x<y->(os[x]).dj (os[y]):=fj.1 h.dj
  obtain⟨J,G⟩:=aF.1 hi
  simp only[dI]at hx hy
  rw[List.getElem_set,List.getElem_set]
  split
  ·split
   ·omega
   ·rename_i h1 h2
    subst h1
    intro k A I
    rcases hn k A with R | R
    ·have:=hd i y hx hy O; rw[G]at this; exact this k R I
    ·have:=((h.ok _ (cM hy)).lt I).1; omega
  ·split
   ·rename_i h1 h2
    subst h2
    intro k A I
    rcases hn k I with R | R
    ·have:=hd x i hx hy O; rw[G]at this; exact this k A R
    ·have:=((h.ok _ (cM hx)).lt A).1; omega
   ·exact hd x y hx hy O
theorem St.sub {S:List Nat} {w0 w:World} {os os':List OE} (h:St S w0 w os) (hs:os'.Sublist os):St S w0 w os':=
 ⟨h.fr,fun o j=>h.ok o (hs.subset j),h.dj.sublist hs⟩
abbrev own {τ:Type} (e:Enc τ) (v:Value) (l:List τ):OE:=.sl v e.sz l.length (e.fl l)
abbrev red {τ:Type} (e:Enc τ) (v:Value) (l:List τ):OE:=.rd v e.sz l.length (e.fl l)
theorem OE.ok.ro {S:List Nat} {B:Nat} {w:World} {τ:Type} {e:Enc τ} {v:Value} {l:List τ} (h:(own e v l).ok S B w):RO w e v l:=by
 rcases h.2 with⟨rfl,hn⟩ | ⟨g,I,N,T,rfl,O,hg,J,R,U,A⟩
 ·have:l=[]:=bn hn
  subst this
  exact RO.nil w e
 ·refine⟨_,I,rfl,J,fun _=>⟨g,0,rfl,fun j u G=>?_⟩⟩
  rw[<-A,bP]at G
  split at G
  ·rw[bm,hg.cell j]
   simpa using G
  ·cases G
theorem OE.ok.rro {S:List Nat} {B:Nat} {w:World} {τ:Type} {e:Enc τ} {v:Value} {l:List τ} (h:(red e v l).ok S B w):RO w e v l:=by
 obtain⟨_,a,c,rfl,hc,j⟩:=h
 refine⟨a,c,rfl,hc,fun hl=>?_⟩
 obtain⟨b,off,A,_,_,G⟩:=j (by simpa using hl)
 exact⟨b,off,A,G⟩
theorem St.ro {S:List Nat} {w0 w:World} {os:List OE} (h:St S w0 w os) (i:Nat) {τ:Type} {e:Enc τ} {v:Value} {l:List τ} (hi:os[i]? = some (own e v l)):RO w e v l:=
 (h.ok _ (bf hi)).ro
theorem St.rro {S:List Nat} {w0 w:World} {os:List OE} (h:St S w0 w os) (i:Nat) {τ:Type} {e:Enc τ} {v:Value} {l:List τ} (hi:os[i]? = some (red e v l)):RO w e v l:=
 (h.ok _ (bf hi)).rro
section
variable {P:Program} {n:Nat} {L:Env} {w:World} {Q:Exit->Act->World->Prop}
variable {d:Option Tmp} {ty:TypeId} {pos:String} {after:Array Edge}
theorem qf (l:List UInt8):(⟨⟨l⟩⟩:ByteArray).size=l.length:=rfl
def TI (P:Program) (E:TypeId) (z:Value) (sz bytes:Nat):Prop:=(P.info? E).map (fun i=>(i.zero,i.size,i.bytes))=some (some z,sz,bytes)
theorem TI.get {E:TypeId} {z:Value} {j bytes:Nat} (h:TI P E z j bytes):∃i,P.info? E=some i/\i.zero=some z/\i.size=j/\i.bytes=bytes:=by
 unfold TI at h
 cases hi:P.info? E with
 | none=>rw[hi]at h; cases h
 | some i=>
  rw[hi]at h
  simp only[bL,eh,jo]at h
  exact⟨i,rfl,h.1,h.2.1,h.2.2⟩
def OpX (P:Program) (n:Nat) (L:Env) (w:World) (o:Oper) (Φ:Value->World->Prop):Prop:=∃v w',OpV P n L w o v w'/\Φ v w'
theorem kQ {ops:Array Oper} {rest:List Oper} {d:Nat} {op:Op} {Φ:Value->World->Prop}
  (j:OpX P n L w ⟨some d,op,ty,pos,after,none⟩ Φ) (hd:Nat.blt d n=true)
  (h:∀v w',Φ v w'->wpR P n ops Q rest ((d,v) :: L) w'):wpR P n ops Q (⟨some d,op,ty,pos,after,none⟩ :: rest) L w:=by
 obtain⟨v,w',A,B⟩:=j
 exact aQ A hd (h v w' B)
theorem qd {ops:Array Oper} {rest:List Oper} {d:Nat} {op:Op} {α:Type} {V:α->Value} {R:α->World->Prop}
  (j:OpX P n L w ⟨some d,op,ty,pos,after,none⟩ fun v w'=>∃a,v=V a/\R a w') (hd:Nat.blt d n=true)
  (h:∀a w',R a w'->wpR P n ops Q rest ((d,V a) :: L) w'):wpR P n ops Q (⟨some d,op,ty,pos,after,none⟩ :: rest) L w:=
 kQ j hd fun v w' ⟨a,e,A⟩=>by subst e; exact h a w' A
def OpY (P:Program) (n:Nat) (L:Env) (w:World) (o:Oper) (Φ:World->Prop):Prop:=∃w',OpS P n L w o w'/\Φ w'
theorem ia {ops:Array Oper} {rest:List Oper} {op:Op} {Φ:World->Prop}
  (j:OpY P n L w ⟨none,op,ty,pos,after,none⟩ Φ)
  (h:∀w',Φ w'->wpR P n ops Q rest L w'):wpR P n ops Q (⟨none,op,ty,pos,after,none⟩ :: rest) L w:=by
 obtain⟨w',A,B⟩:=j
 exact Qw A (h w' B)
theorem gt {x:Operand} {T E:TypeId} {τ:Type} {e:Enc τ} {v:Value} {l:List τ} (hT:P.underlying T=some (.slice E)) (hx:L.ev x=some v) (h:RO w e v l) :
  OpV P n L w ⟨d,.call ⟨.builtin .len,#[x],#[T]⟩,ty,pos,after,none⟩ (vI l.length) w:=fun a ha=>by
 obtain⟨b,c,rfl,_⟩:=h
 simp[execOp,resolve,invoke,builtin,Builtin.len_,ha.ev hx,run_underlying hT,goInt]
theorem B4 {x:Operand} {T:TypeId} {l:List UInt8} (hT:P.underlying T=some .string) (hx:L.ev x=some (vS l)) :
  OpV P n L w ⟨d,.call ⟨.builtin .len,#[x],#[T]⟩,ty,pos,after,none⟩ (vI l.length) w:=fun a ha=>by
 simp[execOp,resolve,invoke,builtin,Builtin.len_,ha.ev hx,run_underlying hT,goInt,qf]
theorem CR {T E:TypeId} {k:IntKind} {i:Int} {τ:Type} {e:Enc τ} {v:Value} {l:List τ} {z:Value} {bytes:Nat} (hT:P.underlying T=some (.slice E)) (hE:TI P E z e.sz bytes)
  (h:RO w e v l) (j:0<=i) (A:i.toNat<l.length):(Instr.indexAt T v (.int k i)).run P w=.ok (pP (ixA v e.sz i.toNat)) w:=by
 obtain⟨a,c,rfl,hc,B⟩:=h
 obtain⟨b,off,rfl,_⟩:=B (by rintro rfl; simp at A)
 obtain⟨I,hi,_,hs,_⟩:=hE.get
 have G:i<l.length:=by omega
 simp[Instr.indexAt,asIntOf,run_underlying hT,j,G,sizeOf,typeInfo,hi,hs,ixA]
theorem O4 {x y:Operand} {T E:TypeId} {k:IntKind} {i:Int} {τ:Type} {e:Enc τ} {v:Value} {l:List τ} {z:Value} {bytes:Nat} (hT:P.underlying T=some (.slice E)) (hE:TI P E z e.sz bytes)
  (hx:L.ev x=some v) (hy:L.ev y=some (.int k i)) (h:RO w e v l) (j:0<=i) (A:i.toNat<l.length) :
  OpV P n L w ⟨d,.indexAddr T x y,ty,pos,after,none⟩ (pP (ixA v e.sz i.toNat)) w:=fun a ha=>by
 simp[execOp,ha.ev hx,ha.ev hy,CR (k:=k) hT hE h j A]
theorem Bh {x:Operand} {T:TypeId} {D:TypeDesc} {p:Addr} {u:Value} (hT:P.underlying T=some D) (j:(match D with | .struct _ | .array _ _=>true | _=>false)=false)
  (hx:L.ev x=some (pP p)) (h:w.cell? p=some u) :
  OpV P n L w ⟨d,.load T x,ty,pos,after,none⟩ u w:=fun a ha=>by
 have:(isAgg T).run P w=.ok false w:=by
  simp only[isAgg,Sem.run_bind,run_underlying hT,Result.andThen_ok]
  cases D <;> simp_all
 simp[execOp,ha.ev hx,Instr.loadAt,Instr.sureAddr,loadVar,this,load,Sem.run,h]
theorem G2 {x:Operand} {T:TypeId} {D:TypeDesc} {τ:Type} {e:Enc τ} {v:Value} {l:List τ} {i:Nat} {t:τ} {u:Value} (hT:P.underlying T=some D) (j:(match D with | .struct _ | .array _ _=>true | _=>false)=false)
  (hx:L.ev x=some (pP (ixA v e.sz i))) (h:RO w e v l) (hi:l[i]? = some t) (hu:e.cells t=[u]) :
  OpV P n L w ⟨d,.load T x,ty,pos,after,none⟩ u w:=Bh hT j hx (h.cellAt0 hi hu)
theorem Mv {x y:Operand} {T:TypeId} {k:IntKind} {i:Int} {l:List UInt8} {t:UInt8} (hT:P.underlying T=some .string)
  (hx:L.ev x=some (vS l)) (hy:L.ev y=some (.int k i)) (j:0<=i) (A:l[i.toNat]? = some t) :
  OpV P n L w ⟨d,.index T x y,ty,pos,after,none⟩ (v8 t) w:=fun a ha=>by
 have hg:(⟨⟨l⟩⟩:ByteArray)[i.toNat]? = some t:=by
  obtain⟨hl,he⟩:=aF.1 A
  rw[ByteArray.getElem?_lt' _ _ (by simpa [qf] using hl)]
  rw[<-he]; rfl
 simp[execOp,ha.ev hx,ha.ev hy,Instr.index,asIntOf,run_underlying hT,j,hg]
def mM (l:List UInt8) (lo hi:Nat):List UInt8:=(l.drop lo).take (hi - lo)
theorem Af (l:List UInt8) (lo hi:Nat):(⟨⟨l⟩⟩:ByteArray).extract lo hi=⟨⟨mM l lo hi⟩⟩:=by
 rw[ByteArray.extract_mk]; simp[mM]
theorem Kl {x y:Operand} {T:TypeId} {k:IntKind} {lo:Int} {l:List UInt8} (hT:P.underlying T=some .string)
  (hx:L.ev x=some (vS l)) (hy:L.ev y=some (.int k lo)) (j:0<=lo) (G:lo.toNat<=l.length) :
  OpV P n L w ⟨d,.slice T x (some y) none none,ty,pos,after,none⟩ (vS (l.drop lo.toNat)) w:=fun a ha=>by
 have A:lo<=((⟨⟨l⟩⟩:ByteArray).size:Int):=by rw[qf]; omega
 have B:mM l lo.toNat (⟨⟨l⟩⟩:ByteArray).size=l.drop lo.toNat:=by
  unfold mM; rw[aC]; simp[qf]
 simp[execOp,ha.ev hx,ha.ev hy,Instr.sliceAt,Instr.slice,run_underlying hT,Instr.sliceBounds,run_sliceBound,j,A,Af,B]
theorem Pf (T:TypeId) (x y:List UInt8):cj P .eql T (vS x) (vS y) (vB (x == y)):=fun _ _ w=>by
 simp[eqGuard,binOp,Op.stringOp,sf]
theorem Oj (T:TypeId) (x y:List UInt8):cj P .neq T (vS x) (vS y) (vB (x != y)):=fun _ _ w=>by
 simp[eqGuard,binOp,Op.stringOp,sf,bne]
section
variable {T E:TypeId} {τ:Type} {e:Enc τ} {v:Value} {l:List τ} {z0:Value} {bytes:Nat}
theorem Ow {x y z:Operand} {k A:IntKind} {lo hi:Int} (hT:P.underlying T=some (.slice E)) (hE:TI P E z0 e.sz bytes)
  (hx:L.ev x=some v) (hy:L.ev y=some (.int k lo)) (hz:L.ev z=some (.int A hi)) (h:RO w e v l) (B:0<=lo) (G:lo<=hi) (O:hi.toNat<=l.length) :
  OpV P n L w ⟨d,.slice T x (some y) (some z) none,ty,pos,after,none⟩ (slV v e.sz lo.toNat hi.toNat) w:=fun a ha=>by
 obtain⟨b,c,rfl,hc,_⟩:=h
 obtain⟨N,j,_,hs,_⟩:=hE.get
 have I:hi<=(c:Int):=by omega
 have J:(hi.toNat:Int)=hi:=ic (by omega)
 simp[execOp,ha.ev hx,ha.ev hy,ha.ev hz,Instr.sliceAt,Instr.slice,run_underlying hT,Instr.sliceBounds,run_sliceBound,B,I,J,G,(by omega:0<=hi),sizeOf,typeInfo,j,hs,slV]
theorem Nz {x y:Operand} {k:IntKind} {lo:Int} (hT:P.underlying T=some (.slice E)) (hE:TI P E z0 e.sz bytes)
  (hx:L.ev x=some v) (hy:L.ev y=some (.int k lo)) (h:RO w e v l) (A:0<=lo) (I:lo.toNat<=l.length) :
  OpV P n L w ⟨d,.slice T x (some y) none none,ty,pos,after,none⟩ (slV v e.sz lo.toNat l.length) w:=fun a ha=>by
 obtain⟨b,c,rfl,hc,_⟩:=h
 obtain⟨G,j,_,hs,_⟩:=hE.get
 have B:lo<=(l.length:Int):=by omega
 simp[execOp,ha.ev hx,ha.ev hy,Instr.sliceAt,Instr.slice,run_underlying hT,Instr.sliceBounds,run_sliceBound,A,B,sizeOf,typeInfo,j,hs,slV]
theorem Mh {x z:Operand} {A:IntKind} {hi:Int} (hT:P.underlying T=some (.slice E)) (hE:TI P E z0 e.sz bytes)
  (hx:L.ev x=some v) (hz:L.ev z=some (.int A hi)) (h:RO w e v l) (B:0<=hi) (J:hi.toNat<=l.length) :
  OpV P n L w ⟨d,.slice T x none (some z) none,ty,pos,after,none⟩ (slV v e.sz 0 hi.toNat) w:=fun a ha=>by
 obtain⟨b,c,rfl,hc,_⟩:=h
 obtain⟨I,j,_,hs,_⟩:=hE.get
 have G:hi<=(c:Int):=by omega
 simp[execOp,ha.ev hx,ha.ev hz,Instr.sliceAt,Instr.slice,run_underlying hT,Instr.sliceBounds,run_sliceBound,B,G,sizeOf,typeInfo,j,hs,slV]
theorem RO.subl (h:RO w e v l) {lo:Nat} (j:lo<=l.length):RO w e (slV v e.sz lo l.length) (l.drop lo):=by
 have:=h.sub (lo:=lo) (hi:=l.length) j (aw _)
 rwa [aC (by simp)]at this
theorem RO.subh (h:RO w e v l) {hi:Nat} (j:hi<=l.length):RO w e (slV v e.sz 0 hi) (l.take hi):=by
 have:=h.sub (lo:=0) (hi:=hi) (eZ _) j
 simpa using this
theorem RP.sub {S:List Nat} (h:RP S w e v l) {lo hi:Nat} (A:lo<=hi) (B:hi<=l.length):RP S w e (slV v e.sz lo hi) ((l.drop lo).take (hi - lo)):=by
 refine⟨h.1.sub A B,fun j k G hb=>h.2 (fun e=>j (by rw[e]; simp)) k G ?_⟩
 obtain⟨a,c,rfl,_⟩:=h.1
 cases a with
 | none=>simp[slV,Value.ownBlock]at hb
 | some x=>
  by_cases hc:c=lo
  ·simpa [slV,hc,Value.ownBlock] using hb
  ·simp[slV,hc,Value.ownBlock]at hb ⊢
   rw[<-hb]; unfold Addr.add; split <;> rfl
theorem RP.subl {S:List Nat} (h:RP S w e v l) {lo:Nat} (j:lo<=l.length):RP S w e (slV v e.sz lo l.length) (l.drop lo):=by
 have:=h.sub (lo:=lo) (hi:=l.length) j (aw _)
 rwa [aC (by simp)]at this
theorem RP.subh {S:List Nat} (h:RP S w e v l) {hi:Nat} (j:hi<=l.length):RP S w e (slV v e.sz 0 hi) (l.take hi):=by
 have:=h.sub (lo:=0) (hi:=hi) (eZ _) j
 simpa using this
end
theorem Ft (l:List UInt8):strOfNums (l.map fun x=>(x.toNat:Int))=⟨⟨l⟩⟩:=by
 have:(strOfNums (l.map fun x=>(x.toNat:Int))).data.toList=l:=by
  rw[strOfNums_data,List.map_map]
  conv=>rhs; rw[<-List.map_id l]
  apply List.map_congr_left
  intro x _
  simp
 cases h:strOfNums (l.map fun x=>(x.toNat:Int)) with
 | mk data=>rw[h]at this; simp only at this; rw[<-this]
theorem we (l:List UInt8):e8.fl l=l.map v8:=by
 induction l with
 | nil=>rfl
 | cons a r ih=>simp only[Enc.fl,dS,cZ]at ih ⊢; rw[ih]; rfl
theorem QM {S D E:TypeId} {v:Value} {l:List UInt8} (hS:P.underlying S=some (.slice E)) (hE:P.underlying E=some (.int .u8)) (A:P.underlying D=some .string) (h:RO w e8 v l) :
  (convert S D v).run P w=.ok (vS l) w:=by
 obtain⟨a,c,rfl,hc,B⟩:=h
 cases a with
 | none=>
  have hl:l=[]:=by
   cases l with
   | nil=>rfl
   | cons x r=>obtain⟨b,off,h,_⟩:=B (by simp); cases h
  subst hl
  exact run_convert_bytes_nil w S E hS hE _ _ D A
 | some p=>
  by_cases hl:l=[]
  ·subst hl
   rw[run_convert_bytes_string w S D E _ _ c hS hE A]
   simp[Conv.bytesToString,loadCells,loadCellsFrom,vS]
   rfl
  ·obtain⟨b,off,hp,j⟩:=B hl
   cases hp
   rw[run_convert_bytes_arg w S E hS hE b off l.length c (l.map fun x=>(x.toNat:Int)) (by simp) (fun i hi=>?_) D A]
   ·rw[Ft]
   ·have:=j i (v8 l[i]) (by rw[we]; simp[hi])
    rw[this]
    simp[List.getD,hi]
theorem DN {S D E:TypeId} {x:Operand} {v:Value} {l:List UInt8} (hS:P.underlying S=some (.slice E)) (hE:P.underlying E=some (.int .u8)) (j:P.underlying D=some .string)
  (hx:L.ev x=some v) (h:RO w e8 v l):OpV P n L w ⟨d,.convert S D x,ty,pos,after,none⟩ (vS l) w:=fun a ha=>by
 simp[execOp,ha.ev hx,QM hS hE j h]
end
section
variable {P:Program} {ops:Array Oper} {C D:World->Prop} {Q:Exit->Act->World->Prop} {fl:Nat->Bool}
def Ins (P:Program) (ops:Array Oper) (C:World->Prop) (o:Oper) (v:Value) (a:Act):Prop:=
 (Region.wanted o (yielded ops a.tmps)=true/\∀w,C w->(execOp a.eval o).run P w=.ok (.value v) w) \/
 (Region.wanted o (yielded ops a.tmps)=false/\v=undef)
theorem Ins.of_same {o:Oper} {v:Value} {a j:Act} (hy:Ins P ops C o v a) (he:execOp j.eval o=execOp a.eval o)
  (hw:Region.wanted o (yielded ops j.tmps)=Region.wanted o (yielded ops a.tmps)):Ins P ops C o v j:=by
 unfold Ins at *
 rw[he,hw]
 exact hy
theorem Ins.unique {o:Oper} {u v:Value} {a:Act} {w:World} (hw:C w) (h:Ins P ops C o u a) (B:Ins P ops C o v a):u=v:=by
 rcases h with⟨j,A⟩ | ⟨j,A⟩ <;> rcases B with⟨h3,h4⟩ | ⟨h3,h4⟩
 ·have e:=(A w hw).symm.trans (h4 w hw)
  simpa using e
 ·rw[j]at h3; cases h3
 ·rw[j]at h3; cases h3
 ·rw[A,h4]
def BA (P:Program) (ops:Array Oper) (o:Oper) (v:Value) (a:Act) (w:World):Prop:=Region.wanted o (yielded ops a.tmps)=true/\(execOp a.eval o).run P w=.ok (.value v) w
theorem BA.of_same {o:Oper} {v:Value} {a j:Act} {w:World} (hy:BA P ops o v a w) (he:execOp j.eval o=execOp a.eval o)
  (hw:Region.wanted o (yielded ops j.tmps)=Region.wanted o (yielded ops a.tmps)):BA P ops o v j w:=by
 unfold BA at *
 rw[he,hw]
 exact hy
def InR (P:Program) (ops:Array Oper) (C:World->Prop) (fl:Nat->Bool) (i:Nat) (o:Oper) (v:Value) (a:Act) (w:World):Prop:=Ins P ops C o v a\/(fl (i+1000)=false/\BA P ops o v a w)
theorem InR.of_same {i:Nat} {o:Oper} {v:Value} {a j:Act} {w:World} (hy:InR P ops C fl i o v a w) (he:execOp j.eval o=execOp a.eval o)
  (hw:Region.wanted o (yielded ops j.tmps)=Region.wanted o (yielded ops a.tmps)):InR P ops C fl i o v j w:=hy.imp (fun h=>h.of_same he hw) fun h=>⟨h.1,h.2.of_same he hw⟩
theorem InR.ins {i:Nat} {o:Oper} {v:Value} {a:Act} {w:World} (hy:InR P ops C fl i o v a w) (h:fl (i+1000)=true):Ins P ops C o v a:=by
 rcases hy with hy | ⟨hy,_⟩
 ·exact hy
 ·rw[h]at hy; cases hy
def qR (fl:Nat->Bool) (i j:Nat):Bool:=(fl i&&fl j) || (fl i&&fl (i+1000)) || (fl j&&fl (j+1000))
def lx (P:Program) (ops:Array Oper) (C D:World->Prop) (Q:Exit->Act->World->Prop) (fl:Nat->Bool):List Nat->Act->World->Prop
 | [],a,w=>D w/\Q .normal a w
 | i :: r,a,w=>C w/\match ops[i]? with
  | none=>lx P ops C D Q fl r a w
  | some o=>if fl i then ∃v,InR P ops C fl i o v a w/\lx P ops C D Q fl r (a.put o.dst v) w else wpOp P ops Q i (lx P ops C D Q fl r) a w
theorem Ob {l:List Nat} {a:Act} {w:World} (h:lx P ops C D Q fl l a w) (hl:l=[]->∀w,D w->C w):C w:=by
 cases l
 ·exact hl rfl _ h.1
 ·exact h.1
def nP (ops:Array Oper):Prop:=∀(j:Nat) (o:Oper) cs b,ops[j]? = some o->o.op≠.select cs b
theorem IL (hp:∀c a w,¬Q (.panic c) a w) {j:Nat} {B G:Oper} {v:Value} (Y:ops[j]? = some G) (J:B.apart ops G=true)
  (N:∀cs b,B.op≠.select cs b) (O:∀cs b,G.op≠.select cs b) {K:Act->World->Prop} {a:Act} {w:World}
  (hy:Ins P ops C B v a) (h:wpOp P ops Q j K (a.put B.dst v) w) :
  wpOp P ops Q j (fun R w'=>Ins P ops C B v R/\K (R.put B.dst v) w') a w:=by
 obtain⟨U,I,V⟩:=Oper.apart_spec J
 have A:∀u,Ins P ops C B v (a.put G.dst u):=fun u=>
  hy.of_same (execOp_put B N a G.dst u V) (wanted_put B a G.dst u V)
 unfold wpOp at *
 simp only[Y]at *
 rw[wanted_put G a B.dst v U]at h
 have he:=execOp_put G O a B.dst v U
 split
 ·rename_i hw
  simp only[hw,am]at h
  rcases h with h | h
  ·left
   unfold Oper.wp at *
   rw[he]at h
   generalize (execOp a.eval G).run P w=r at *
   cases r with
   | ok nx w'=>
    cases nx <;> simp only[Oper.upon]at h ⊢
    case value u=>exact⟨A u,by rw[<-Act.put_comm a v u I]; exact h⟩
    case skip=>exact⟨A undef,by rw[<-Act.put_comm a v undef I]; exact h⟩
    case defer dd=>
     refine⟨?_,?_⟩
     ·have:=A undef
      refine this.of_same ?_ ?_
      ·cases G.dst <;> rfl
      ·cases G.dst <;> rfl
     ·rw[Act.put_defers]at h
      rw[<-Act.put_comm _ v undef I]
      exact h
    case enter f args=>
     refine Calls.mono h fun e X hh=>?_
     cases e with
     | returned u=>exact⟨A u,by rw[<-Act.put_comm a v u I]; exact hh⟩
     | panicked c=>exact absurd hh (hp _ _ _)
     | outgrown=>exact hh
    case row rw_ args=>
     exact Rows.mono h fun u X hh=>⟨A u,by rw[<-Act.put_comm a v u I]; exact hh⟩
   | halt x w'=>
    cases x <;> simp only[Oper.upon]at h ⊢
    exact absurd h (hp _ _ _)
  ·right
   refine⟨?_,h.2⟩
   have:=h.1
   unfold Oper.asks at *
   rw[he]at this
   exact this
 ·rename_i hw
  simp only[hw]at h
  exact⟨A _,by rw[<-Act.put_comm a v undef I]; exact h⟩
theorem Gy (hp:∀c a w,¬Q (.panic c) a w) (B:∀a w,¬Q .outgrown a w) {i:Nat} {A:Oper} (hi:ops[i]? = some A) {K:Act->World->Prop} {a:Act} {w:World}
  (h:wpOp P ops Q i K a w):∃G w' u J,K G w'/\G=({ a with defers:=J }:Act).put A.dst u:=by
 unfold wpOp at h
 simp only[hi]at h
 split at h
 ·rcases h with h | ⟨_,N,O,h⟩
  ·unfold Oper.wp at h
   generalize (execOp a.eval A).run P w=r at *
   cases r with
   | ok nx w'=>
    cases nx <;> simp only[Oper.upon]at h
    case value u=>exact⟨_,_,u,a.defers,h,rfl⟩
    case skip=>exact⟨_,_,undef,a.defers,h,rfl⟩
    case defer dd=>exact⟨_,_,undef,dd :: a.defers,h,rfl⟩
    case enter f args=>
     obtain⟨e,I,fr,j,_⟩:=h []
     cases e with
     | returned u=>exact⟨_,_,u,a.defers,j,rfl⟩
     | panicked c=>exact absurd j (hp _ _ _)
     | outgrown=>obtain⟨N,O,R⟩:=j; exact absurd R (B _ _)
    case row rw_ args=>
     obtain⟨u,I,j,_⟩:=h default []
     exact⟨_,_,u,a.defers,j,rfl⟩
   | halt x w'=>
    cases x <;> simp only[Oper.upon]at h
    exact absurd h (hp _ _ _)
  ·exact absurd h (B _ _)
 ·exact⟨_,_,undef,a.defers,h,rfl⟩
theorem L6 (hp:∀c a w,¬Q (.panic c) a w) (ho:∀a w,¬Q .outgrown a w) (hs:nP ops) {i j:Nat} {r:List Nat} {a:Act} {w:World}
  (b6:∀B A,ops[i]? = some B->ops[j]? = some A->B.apart ops A=true/\qR fl i j=true) (_hne:i≠j) (hE:r=[]->∀w,D w->C w)
  (h:lx P ops C D Q fl (i :: j :: r) a w):lx P ops C D Q fl (j :: i :: r) a w:=by
 obtain⟨X,h⟩:=h
 refine⟨X,?_⟩
 cases hi:ops[i]? with
 | none=>
  simp only[hi]at h
  obtain⟨_,h⟩:=h
  cases hj:ops[j]? with
  | none=>simp only[hj]at h; exact⟨X,by simp only[hi]; exact h⟩
  | some A=>
   simp only[hj]at h ⊢
   split
   ·rename_i hf
    simp only[hf,am]at h
    obtain⟨v,Y,I⟩:=h
    exact⟨v,Y,X,by simp only[hi]; exact I⟩
   ·rename_i hf
    rw[ae hf]at h
    exact wpOp_mono (fun N w' G=>⟨Ob G hE,by simp only[hi]; exact G⟩) h
 | some B=>
  simp only[hi]at h
  cases hj:ops[j]? with
  | none=>
   simp only[]
   refine⟨X,?_⟩
   simp only[hi]
   split
   ·rename_i hf
    simp only[hf,am]at h
    obtain⟨v,Y,_,I⟩:=h
    simp only[hj]at I
    exact⟨v,Y,I⟩
   ·rename_i hf
    simp only[hf]at h
    exact wpOp_mono (fun N w' G=>by have:=G.2; simp only[hj]at this; exact this) h
  | some A=>
   obtain⟨bx,V⟩:=b6 B A hi hj
   obtain⟨p1,p2,p3⟩:=Oper.apart_spec bx
   have Z:=fun cs b=>hs i B cs b hi
   have O:=fun cs b=>hs j A cs b hj
   simp only[]
   by_cases hfi:fl i=true
   ·simp only[hfi,am]at h
    obtain⟨v,hv,_,I⟩:=h
    simp only[hj]at I
    by_cases J:fl j=true
    ·simp only[J,am]at I ⊢
     obtain⟨u,hu,R⟩:=I
     refine⟨u,hu.of_same (execOp_put A O a B.dst v p1).symm (wanted_put A a B.dst v p1).symm,X,?_⟩
     simp only[hi,hfi,am]
     refine⟨v,hv.of_same (execOp_put B Z a A.dst u p3) (wanted_put B a A.dst u p3),?_⟩
     rw[<-Act.put_comm a v u p2]; exact R
    ·simp only[J]at I ⊢
     have hv:=hv.ins (by unfold qR at V; simpa [hfi,J] using V)
     refine wpOp_mono (fun N w' G=>?_) (IL hp hj bx Z O hv I)
     refine⟨Ob G.2 hE,?_⟩
     simp only[hi,hfi,am]
     exact⟨v,.inl G.1,G.2⟩
   ·simp only[hfi]at h
    have b3:fl i=false:=by simpa using hfi
    have b4:fl j=true/\fl (j+1000)=true:=by unfold qR at V; simpa [b3] using V
    obtain⟨J,b5⟩:=b4
    simp only[J,am]
    have hK:∀N w',lx P ops C D Q fl (j :: r) N w'->C w'/\∃u,Ins P ops C A u N/\lx P ops C D Q fl r (N.put A.dst u) w':=fun N w' G=>by
     obtain⟨c,b2⟩:=G
     simp only[hj,J,am]at b2
     obtain⟨u,hu,R⟩:=b2
     exact⟨c,u,hu.ins b5,R⟩
    obtain⟨N,w',x,df,Y,rfl⟩:=Gy hp ho hi h
    obtain⟨c',u,hu,I⟩:=hK _ _ Y
    have ab:Ins P ops C A u a:=by
     refine hu.of_same ?_ ?_
     ·have:=execOp_put A O ({ a with defers:=df }:Act) B.dst x p1
      rw[this]; rfl
     ·have:=wanted_put (ops:=ops) A ({ a with defers:=df }:Act) B.dst x p1
      rw[this]
    refine⟨u,.inl ab,X,?_⟩
    simp only[hi,hfi]
    -- the operation,done with the other one's value in its place
    show wpOp P ops Q i (lx P ops C D Q fl r) (a.put A.dst u) w
    have he:=execOp_put B Z a A.dst u p3
    have b8:=wanted_put (ops:=ops) B a A.dst u p3
    have next:∀(y:Value) w',lx P ops C D Q fl (j :: r) (a.put B.dst y) w'->lx P ops C D Q fl r ((a.put A.dst u).put B.dst y) w':=fun y w' G=>by
     obtain⟨c,U,ac,R⟩:=hK _ _ G
     have:U=u:=by
      refine Ins.unique c (ac.of_same ?_ ?_:Ins P ops C A U a) ab
      ·rw[execOp_put A O a B.dst y p1]
      ·rw[wanted_put A a B.dst y p1]
     subst this
     rw[<-Act.put_comm a y U p2]; exact R
    have ap:∀(y:Value) (dd:Deferred) w',lx P ops C D Q fl (j :: r) (({ a with defers:=dd :: a.defers }:Act).put B.dst y) w' ->
      lx P ops C D Q fl r (({ (a.put A.dst u) with defers:=dd :: (a.put A.dst u).defers }:Act).put B.dst y) w':=fun y dd w' G=>by
     obtain⟨c,U,ac,R⟩:=hK _ _ G
     have:U=u:=by
      refine Ins.unique c (ac.of_same ?_ ?_:Ins P ops C A U a) ab
      ·rw[execOp_put A O _ B.dst y p1]; rfl
      ·rw[wanted_put A _ B.dst y p1]
     subst this
     rw[Act.put_defers,<-Act.put_comm _ y U p2]; exact R
    unfold wpOp at h ⊢
    simp only[hi]at h ⊢
    rw[b8]
    split
    ·rename_i hw
     simp only[hw,am]at h
     rcases h with h | h
     ·left
      unfold Oper.wp at *
      rw[he]
      generalize (execOp a.eval B).run P w=rr at *
      cases rr with
      | ok nx w'=>
       cases nx <;> simp only[Oper.upon]at h ⊢
       case value y=>exact next y _ h
       case skip=>exact next undef _ h
       case defer dd=>exact ap undef dd _ h
       case enter f args=>
        refine Calls.mono h fun e b9 hh=>?_
        cases e with
        | returned y=>exact next y _ hh
        | panicked c=>exact absurd hh (hp _ _ _)
        | outgrown=>exact hh
       case row rw_ args=>exact Rows.mono h fun y b9 hh=>next y _ hh
      | halt x w'=>
       cases x <;> simp only[Oper.upon]at h ⊢
       exact absurd h (hp _ _ _)
     ·right
      refine⟨?_,h.2⟩
      have:=h.1
      unfold Oper.asks at *
      rw[he]
      exact this
    ·rename_i hw
     simp only[hw]at h
     exact next undef _ h
def gd (ops:Array Oper):Nat->Nat->Nat->Bool
 | 0,_,_=>false
 | f+1,j,i=>match ops[j]? with
  | none=>false
  | some o=>o.after.toList.any fun e=>Region.binds .any e&&(Nat.beq e.on i || gd ops f e.on i)
def pZ (ops:Array Oper):Bool:=
 (List.range ops.size).all fun j=>match ops[j]? with
  | some o=>o.after.toList.all fun e=>!Region.binds .any e || Nat.blt e.on j
  | none=>true
def pT (ops:Array Oper) (fl:Nat->Bool):Bool:=
 (List.range ops.size).all fun j=>(List.range j).all fun i=>gd ops ops.size j i || (match ops[i]?,ops[j]? with
  | some oi,some oj=>oi.apart ops oj&&qR fl i j
  | _,_=>true)
def mn (ops:Array Oper):Bool:=ops.toList.all fun o=>match o.op with | .select ..=>false | _=>true
theorem pV (h:mn ops=true):nP ops:=by
 intro j o cs b A he
 have:=ci.1 h o (Array.mem_toList_iff.2 (Array.mem_of_getElem? A))
 rw[he]at this
 cases this
def closed (ops:Array Oper) (listed:Array Bool):Prop:=
 ∀j oj,ops[j]? = some oj->listed.getD j false=true->∀e∈oj.after,Region.binds .any e=true->listed.getD e.on false=true
theorem iH {listed:Array Bool} (hc:closed ops listed):∀(f j i:Nat) (A:Oper),ops[j]? = some A->(∀e∈A.after,Region.binds .any e=true->listed.getD e.on false=true) ->
  gd ops f j i=true->listed.getD i false=true
 | 0,_,_,_,_,_,h=>by simp[gd]at h
 | f+1,j,i,A,hj,hall,h=>by
  simp only[gd,hj,List.any_eq_true,aO,fD]at h
  obtain⟨e,he,hb,h | h⟩:=h
  ·rw[<-bJ h]; exact hall e (by simpa using he) hb
  ·have hl:=hall e (by simpa using he) hb
   cases ho:ops[e.on]? with
   | none=>cases f <;> simp[gd,ho]at h
   | some oe=>exact iH hc f e.on i oe ho (fun I B G=>hc e.on oe ho hl I B G) h
theorem AR (hp:∀c a w,¬Q (.panic c) a w) (I:∀a w,¬Q .outgrown a w) (hs:nP ops) {j:Nat} :
  ∀(l1 A:List Nat) (a:Act) (w:World),(∀i∈l1,i≠j/\∀B J,ops[i]? = some B->ops[j]? = some J->B.apart ops J=true/\qR fl i j=true)->(l1≠[]->A=[]->∀w,D w->C w) ->
   lx P ops C D Q fl (l1++j :: A) a w->lx P ops C D Q fl (j :: (l1++A)) a w
 | [],_,_,_,_,_,h=>h
 | i :: l1,A,a,w,hall,hE,h=>by
  have G:∀a w,lx P ops C D Q fl (l1++j :: A) a w->lx P ops C D Q fl (j :: (l1++A)) a w:=fun a w h=>
   AR hp I hs l1 A a w (fun k N=>hall k (by simp[N])) (fun _ O=>hE (by simp) O) h
  have R:lx P ops C D Q fl (i :: j :: (l1++A)) a w:=by
   obtain⟨U,h⟩:=h
   refine⟨U,?_⟩
   cases hi:ops[i]? with
   | none=>simp only[hi]at h ⊢; exact G _ _ h
   | some B=>
    simp only[hi]at h ⊢
    split
    ·rename_i hf
     simp only[hf,am]at h
     obtain⟨v,V,h⟩:=h
     exact⟨v,V,G _ _ h⟩
    ·rename_i hf
     simp only[hf]at h
     exact wpOp_mono (fun Z w' X=>G _ _ X) h
  have hi:=hall i (by simp)
  exact L6 hp I hs hi.2 hi.1 (fun Y=>hE (by simp) (List.append_eq_nil_iff.1 Y).2) R
theorem mF {listed:Array Bool} {i:Nat} (h:i<listed.size) (d:Bool):(listed.setIfInBounds i true).getD i d=true:=by
 simp[h]
theorem Bq (hp:∀c a w,¬Q (.panic c) a w) (ho:∀a w,¬Q .outgrown a w) (hs:nP ops)
  (ac:∀j V,ops[j]? = some V->∀e∈V.after,Region.binds .any e=true->e.on<j)
  (ad:∀i j,i<j->j<ops.size->gd ops ops.size j i=false->∀oi V,ops[i]? = some oi->ops[j]? = some V->oi.apart ops V=true/\qR fl i j=true)
  :
  ∀(m:Nat) (l:List Nat) (listed:Array Bool) (a:Act) (w:World),l.length=m->l.Pairwise (·<·)->listed.size=ops.size->closed ops listed ->
   (∀i,i∈l↔i<ops.size/\listed.getD i true=false)->((∀w,D w->C w)\/((∀i,i<ops.size - 1->gd ops ops.size (ops.size - 1) i=true)/\(l≠[]->ops.size - 1∈l)))->lx P ops C D Q fl l a w->wpAny P .any ops Q m listed a w
 | 0,l,listed,a,w,hm,_,_,_,hmem,_,h=>by
  have hl:l=[]:=bn hm
  subst hl
  refine⟨?_,h.2⟩
  refine List.eq_nil_iff_forall_not_mem.2 fun i hi=>?_
  obtain⟨J,o,c0,_⟩:=mem_ready.1 hi
  have:=(hmem i).2 ⟨(cg.1 c0).1,J⟩
  cases this
 | m+1,l,listed,a,w,hm,hsort,hsz,hcl,hmem,R,h=>by
  refine⟨fun b6=>?_,fun j hj=>?_⟩
  ·
   exfalso
   cases l with
   | nil=>simp at hm
   | cons i r=>
    obtain⟨b4,J⟩:=(hmem i).1 (by simp)
    have hi:i∈Region.ready .any ops listed:=by
     refine mem_ready.2 ⟨J,ops[i],by simp[b4],fun e he hb=>?_⟩
     have N:=ac i ops[i] (by simp[b4]) e he hb
     cases hl:listed.getD e.on false with
     | true=>rfl
     | false=>
      have c1:e.on<listed.size:=by rw[hsz]; omega
      have c2:listed.getD e.on true=false:=by simp[c1]at hl ⊢; exact hl
      have c3:=(hmem e.on).2 ⟨by omega,c2⟩
      rcases aM.1 c3 with O | O
      ·omega
      ·have:=(fY.1 hsort).1 e.on O
       omega
    rw[b6]at hi
    cases hi
  ·obtain⟨J,V,U,X⟩:=mem_ready.1 hj
   have Y:j<ops.size:=(cg.1 U).1
   have c4:j∈l:=(hmem j).2 ⟨Y,J⟩
   obtain⟨l1,G,rfl⟩:=List.append_of_mem c4
   have N:∀i∈l1,i<j:=fun i hi=>(cc.1 hsort).2.2 i hi j (by simp)
   have J:∀i∈l1++G,gd ops ops.size j i=false:=fun i hi=>by
    cases hr:gd ops ops.size j i with
    | false=>rfl
    | true=>
     have I:=iH hcl ops.size j i V U X hr
     have A:=(hmem i).1 (by rcases bE.1 hi with h | h <;> simp[h])
     rw[bR]at I
     have B:=A.2
     rw[bR]at B
     have:i<listed.size:=by rw[hsz]; exact A.1
     simp[this]at I B
     rw[I]at B; cases B
   have Z:(∀i,i<ops.size - 1->gd ops ops.size (ops.size - 1) i=true)->ops.size - 1=j->l1=[]:=fun A b5=>by
    cases hl:l1 with
    | nil=>rfl
    | cons i r=>
     exfalso
     have hi:i∈l1:=by rw[hl]; simp
     have:=A i (by have:=N i hi; omega)
     rw[b5,J i (by simp[hi])]at this
     cases this
   have c5:ops.size - 1=j->G=[]:=fun b5=>by
    cases G with
    | nil=>rfl
    | cons k r=>
     have hk:=((hmem k).1 (by simp)).1
     have h5:=(cc.1 hsort).2.1
     have:=(fY.1 h5).1 k (by simp)
     omega
   have c6:l1≠[]->G=[]->∀w,D w->C w:=fun O I=>by
    rcases R with A | ⟨A,R⟩
    ·exact A
    ·exfalso
     subst I
     have hn:=R (by simp)
     refine O (Z A ?_)
     rcases bE.1 hn with B | B
     ·have:=N _ B; omega
     ·simpa using B
   have b8:(∀w,D w->C w)\/((∀i,i<ops.size - 1->gd ops ops.size (ops.size - 1) i=true)/\(l1++G≠[]->ops.size - 1∈l1++G)):=by
    rcases R with A | ⟨A,R⟩
    ·exact .inl A
    ·refine .inr ⟨A,fun dc=>?_⟩
     have hn:=R (by simp)
     rcases bE.1 hn with B | B
     ·exact bW _ B
     ·rcases aM.1 B with B | B
      ·exfalso
       exact dc (by rw[Z A B,c5 B]; rfl)
      ·exact bC _ B
   have O:=AR hp ho hs l1 G a w (fun i hi=>⟨Nat.ne_of_lt (N i hi),fun oi dd df b9=>by
    refine ad i j (N i hi) Y ?_ oi dd df b9
    cases hr:gd ops ops.size j i with
    | false=>rfl
    | true=>
     have I:=iH hcl ops.size j i V U X hr
     have A:=((hmem i).1 (by simp[hi])).2
     rw[bR]at I A
     have:i<listed.size:=by rw[hsz]; exact fU (N i hi) Y
     simp[this]at I A
     rw[I]at A; cases A⟩) c6 h
   have al:(l1++G).Pairwise (·<·):=by
    refine hsort.sublist ?_
    exact List.Sublist.append_left (List.sublist_cons_self j G) l1
   have ce:(l1++G).length=m:=by simp at hm ⊢; omega
   have cf:closed ops (listed.setIfInBounds j true):=by
    intro k ok hk hl e he hb
    by_cases hkj:j=k
    ·subst hkj
     have:ok=V:=dW (hk.symm.trans U)
     subst this
     exact getD_set_true (X e he hb)
    ·rw[getD_set_ne false hkj]at hl
     exact getD_set_true (hcl k ok hk hl e he hb)
   have dk:j ∉ l1++G:=by
    intro hx
    rcases bE.1 hx with hx | hx
    ·exact absurd (N j hx) (jm _)
    ·have:=(cc.1 hsort).2.1
     have:=(fY.1 this).1 j hx
     exact absurd this (jm _)
   have b2:∀i,i∈l1++G↔i<ops.size/\(listed.setIfInBounds j true).getD i true=false:=by
    intro i
    by_cases hij:j=i
    ·subst hij
     constructor
     ·intro hx; exact absurd hx dk
     ·intro hx
      have:=mF (listed:=listed) (i:=j) (by rw[hsz]; exact Y) true
      rw[this]at hx; cases hx.2
    ·rw[getD_set_ne true hij,<-hmem i]
     simp only[bE,aM]
     constructor
     ·rintro (hx | hx)
      ·exact .inl hx
      ·exact .inr (.inr hx)
     ·rintro (hx | hx | hx)
      ·exact .inl hx
      ·exact absurd hx.symm hij
      ·exact .inr hx
   have ih:∀a' w',lx P ops C D Q fl (l1++G) a' w'->wpAny P .any ops Q m (listed.setIfInBounds j true) a' w':=fun a' w' h'=>
    Bq hp ho hs ac ad m (l1++G) _ a' w' ce al (by simp[hsz]) cf b2 b8 h'
   obtain⟨hC,O⟩:=O
   simp only[U]at O
   split at O
   ·obtain⟨v,hv,I⟩:=O
    unfold wpOp
    simp only[U]
    rcases hv with (⟨hw,hv⟩ | ⟨hw,rfl⟩) | ⟨_,hw,hv⟩
    ·rw[ag hw]
     left
     unfold Oper.wp
     rw[hv w hC]
     exact ih _ _ I
    ·rw[ae (by rw[hw]; simp)]
     exact ih _ _ I
    ·rw[ag hw]
     left
     unfold Oper.wp
     rw[hv]
     exact ih _ _ I
   ·exact wpOp_mono (fun a' w' h'=>ih a' w' h') O
theorem rV (h:pT ops fl=true):∀i j,i<j->j<ops.size->gd ops ops.size j i=false->∀A B,ops[i]? = some A->ops[j]? = some B->A.apart ops B=true/\qR fl i j=true:=by
 intro i j G N O A B hi I
 have J:=ci.1 (ci.1 h j (dG.2 N)) i (dG.2 G)
 simp only[O,Bool.false_or,hi,I,aO]at J
 exact J
theorem so (h:pZ ops=true):∀j A,ops[j]? = some A->∀e∈A.after,Region.binds .any e=true->e.on<j:=by
 intro j A B e he hb
 have G:=ci.1 h j (dG.2 (cg.1 B).1)
 simp only[B]at G
 have I:=ci.1 G e (by simpa using he)
 simp only[hb,db,Bool.false_or,fM]at I
 exact I
def zJ (ops:Array Oper):Bool:=(List.range (ops.size - 1)).all fun i=>gd ops ops.size (ops.size - 1) i
theorem vP {id:Nat} {l:List Oper} {a:Act} {w:World} (hm:P.follows .mixedOrders=true) (hp:∀c a w,¬Q (.panic c) a w) (G:∀a w,¬Q .outgrown a w)
  (B:(mn l.toArray&&pZ l.toArray&&pT l.toArray fl)=true) (A:(∀w,D w->C w)\/(zJ l.toArray=true/\l≠[])) (h:lx P l.toArray C D Q fl (List.range l.length) a w.drew):(Code.region id l.toArray true).wp P Q a w:=by
 simp only[aO]at B
 refine wp_region_any hm ?_
 refine Bq hp G (pV B.1.1) (so B.1.2) (rV B.2) _ (List.range l.length) _ a _ (by simp) List.pairwise_lt_range (by simp) (fun j I J hl=>?_) (fun i=>?_) ?_ h
 ·rw[bR,ez]at hl
  split at hl <;> simp at hl
 ·rw[bR,ez]
  by_cases h1:i<l.length
  ·simp[h1]
  ·simp[h1]
 ·rcases A with A | ⟨A,hl⟩
  ·exact .inl A
  ·refine .inr ⟨fun i hi=>?_,fun _=>?_⟩
   ·exact ci.1 A i (dG.2 hi)
   ·have:=fg.2 hl
    simp; omega
variable {n:Nat} {L:Env} {w:World}
def lxE (P:Program) (n:Nat) (ops:Array Oper) (C D:World->Prop) (Q:Exit->Act->World->Prop) (fl:Nat->Bool) (l:List Nat) (L:Env) (w:World):Prop:=∀a,Rep n L a->lx P ops C D Q fl l a w
theorem kL {id:Nat} {l:List Oper} (C:World->Prop) (fl:Nat->Bool) (hm:P.follows .mixedOrders=true) (hp:∀c a w,¬Q (.panic c) a w) (j:∀a w,¬Q .outgrown a w)
  (A:(mn l.toArray&&pZ l.toArray&&pT l.toArray fl)=true) (h:lxE P n l.toArray C C Q fl (List.range l.length) L w.drew):wpC P n (.region id l.toArray true) Q L w:=
 fun a ha=>vP hm hp j A (.inl fun _ h=>h) (h a ha)
theorem lH {id:Nat} {l:List Oper} (C:World->Prop) (fl:Nat->Bool) (hm:P.follows .mixedOrders=true) (hp:∀c a w,¬Q (.panic c) a w) (A:∀a w,¬Q .outgrown a w)
  (j:(mn l.toArray&&pZ l.toArray&&pT l.toArray fl&&zJ l.toArray&&!l.isEmpty)=true) (h:lxE P n l.toArray C (fun _=>True) Q fl (List.range l.length) L w.drew):wpC P n (.region id l.toArray true) Q L w:=
 fun a ha=>by
  simp only[aO]at j
  refine vP hm hp A (by simp only[aO]; exact j.1.1) (.inr ⟨j.1.2,fun B=>?_⟩) (h a ha)
  have:=j.2
  rw[B]at this
  cases this
theorem iB (j:D w) (h:QE n Q .normal L w):lxE P n ops C D Q fl [] L w:=fun a ha=>⟨j,h a ha⟩
theorem cC {i:Nat} {r:List Nat} {d:Nat} {op:Op} {ty:TypeId} {pos:String} {after:Array Edge} {v:Value} (A:C w) (B:ops[i]? = some ⟨some d,op,ty,pos,after,none⟩) (hf:fl i=true)
  (G:∀w,C w->OpV P n L w ⟨some d,op,ty,pos,after,none⟩ v w) (hd:Nat.blt d n=true) (h:lxE P n ops C D Q fl r ((d,v) :: L) w):lxE P n ops C D Q fl (i :: r) L w:=fun a ha=>by
 refine⟨A,?_⟩
 simp only[B,hf,am]
 exact⟨v,.inl (.inl ⟨by simp[Region.wanted],fun w' j=>G w' j a ha⟩),h _ (ha.put hd)⟩
theorem qT {i:Nat} {r:List Nat} {d:Nat} {op:Op} {ty:TypeId} {pos:String} {after:Array Edge} {v:Value} (j:C w) (A:ops[i]? = some ⟨some d,op,ty,pos,after,none⟩) (hf:fl i=true) (B:fl (i+1000)=false)
  (G:OpV P n L w ⟨some d,op,ty,pos,after,none⟩ v w) (hd:Nat.blt d n=true) (h:lxE P n ops C D Q fl r ((d,v) :: L) w):lxE P n ops C D Q fl (i :: r) L w:=fun a ha=>by
 refine⟨j,?_⟩
 simp only[A,hf,am]
 exact⟨v,.inr ⟨B,by simp[Region.wanted],G a ha⟩,h _ (ha.put hd)⟩
theorem vH {i:Nat} {r:List Nat} {d:Nat} {op:Op} {ty:TypeId} {pos:String} {after:Array Edge} {Φ:Value->World->Prop} (A:C w) (j:ops[i]? = some ⟨some d,op,ty,pos,after,none⟩) (hf:fl i=false)
  (B:OpX P n L w ⟨some d,op,ty,pos,after,none⟩ Φ) (hd:Nat.blt d n=true) (h:∀v w',Φ v w'->lxE P n ops C D Q fl r ((d,v) :: L) w'):lxE P n ops C D Q fl (i :: r) L w:=fun a ha=>by
 refine⟨A,?_⟩
 simp only[j,hf,ah,aj]
 obtain⟨v,w',G,I⟩:=B
 unfold wpOp
 simp only[j]
 rw[ag (by simp[Region.wanted])]
 left
 unfold Oper.wp
 rw[G a ha]
 exact h v w' I _ (ha.put hd)
theorem qK {i:Nat} {r:List Nat} {op:Op} {ty:TypeId} {pos:String} {after:Array Edge} {Φ:World->Prop} (A:C w) (j:ops[i]? = some ⟨none,op,ty,pos,after,none⟩) (hf:fl i=false)
  (B:OpY P n L w ⟨none,op,ty,pos,after,none⟩ Φ) (h:∀w',Φ w'->lxE P n ops C D Q fl r L w'):lxE P n ops C D Q fl (i :: r) L w:=fun a ha=>by
 refine⟨A,?_⟩
 simp only[j,hf,ah,aj]
 obtain⟨w',G,I⟩:=B
 unfold wpOp
 simp only[j]
 rw[ag (by simp[Region.wanted])]
 left
 unfold Oper.wp
 rw[G a ha]
 exact h w' I _ ha
end
section
variable {P:Program} {n:Nat} {L:Env} {w w0:World} {Q:Exit->Act->World->Prop} {S:List Nat} {os:List OE}
variable {d:Option Tmp} {ty:TypeId} {pos:String} {after:Array Edge}
theorem iC {o:Oper} {Φ:Value->World->Prop} (v:Value) (w':World) (j:OpV P n L w o v w') (h:Φ v w'):OpX P n L w o Φ:=⟨v,w',j,h⟩
theorem tg {o:Oper} {Φ:World->Prop} (w':World) (j:OpS P n L w o w') (h:Φ w'):OpY P n L w o Φ:=⟨w',j,h⟩
theorem St.fresh (h:St S w0 w os):fre S w0.heap.size w.heap.size:=.inl h.fr.size
theorem HF (z:Array Value) (sz c l:Nat) {τ:Type} (e:Enc τ) (t0:τ) (hz:z.toList=e.cells t0) (hs:e.sz=sz) (hl:l<=c) :
  (madeCells z (c*sz)).toList.take (l*sz)=e.fl (List.replicate l t0):=by
 have A:z.size=sz:=by rw[<-fh,hz,e.len,hs]
 apply List.ext_getElem?
 intro k
 rw[bP]
 split
 ·rename_i G
  have B:0<sz:=by
   rcases bO sz with h | h
   ·subst h; simp at G
   ·exact h
  have J:k<c*sz:=aU G (aT _ hl)
  have j:k%sz<sz:=bG _ B
  have I:k / sz<l:=(fo B).2 G
  have O:k=k / sz*e.sz+k%sz:=by rw[hs,aP]; exact (c7 k sz).symm
  have N:=e.fl_get (List.replicate l t0) (k / sz) t0 (by simp[gm,I]) (k%sz) (by rw[hs]; exact j)
  rw[<-O]at N
  rw[N,<-hz]
  simp only[madeCells,Array.toList_map,Array.toList_range,fG,List.getElem?_range J,bL,A]
  rw[getElem!_pos z (k%sz) (by rw[A]; exact j)]
  simp[A,j]
 ·rename_i G
  rw[dC]
  rw[e.fl_length,bq,hs]
  omega
theorem JP {T E:TypeId} {x y:Operand} {k A:IntKind} {l c:Int} {τ:Type} {e:Enc τ} {t0:τ} {z:Value} {bytes:Nat} (hT:P.underlying T=some (.slice E)) (hE:TI P E z e.sz bytes) (hz:z.cells.toList=e.cells t0)
  (hx:L.ev x=some (.int k l)) (hy:L.ev y=some (.int A c)) (hS:St S w0 w os) (G:0<=l) (I:l<=c) (J:(bytes:Int)*c<=281474976710656) (N:c<=9223372036854775807) :
  OpX P n L w ⟨d,.makeSlice T x y,ty,pos,after,none⟩ (fun v w'=>St S w0 w' (own e v (List.replicate l.toNat t0) :: os)):=by
 obtain⟨j,hi,B,hs,hb⟩:=hE.get
 have O:=run_make (P:=P) w T E j z hT hi B k A l c G I (by rw[hb]; exact J) N
 refine iC (.slice (some ⟨w.heap.size,0,none⟩) l.toNat c.toNat) (w.alloc (.cells (madeCells z.cells (c.toNat*j.size)) E)) (fun a ha=>?_) ?_
 ·simp only[execOp,ha.ev hx,ha.ev hy,Sem.run_bind,O,Result.andThen_ok]; rfl
 ·refine hS.push (Fr.alloc _ _ _) (o:=own e _ _) ?_ ?_
  ·refine⟨e.fl_length _,.inr ⟨w.heap.size,c.toNat,madeCells z.cells (c.toNat*j.size),E,?_,hS.fresh,Row.new w _ _,?_,?_,?_,?_⟩⟩
   ·simp
   ·simp; omega
   ·simp[maxLen]; omega
   ·rw[size_madeCells,hs]; exact aw _
   ·rw[hs,bq]
    exact HF z.cells e.sz c.toNat l.toNat e t0 hz rfl (by omega)
  ·intro k R
   simp[OE.blk,Value.ownBlock]at R
   omega
theorem AU (j:Nat) (A:j=1):∀(vs:List Value) (k:Nat) (cells:Array Value),(∀v∈vs,v.oneCell'=true)->k+vs.length<=cells.size ->
  Instr.fill (fun i=>some (i*j,j)) cells (vs.zipIdx k |>.map fun p=>(p.2,p.1))=some (cells.toList.take k++vs++cells.toList.drop (k+vs.length)).toArray
 | [],k,cells,_,_=>by simp[Instr.fill]
 | v :: r,k,cells,h1,hk=>by
  subst A
  have G:v.cells=#[v]:=by have:=h1 v (by simp); cases v <;> simp_all [Value.cells,Value.oneCell']
  have I:=AU 1 rfl r (k+1) (cells.setIfInBounds k v) (fun u hu=>h1 u (by simp[hu])) (by simp at hk ⊢; omega)
  simp only[List.zipIdx_cons,cZ,Instr.fill,G]
  rw[ae (by simp at hk ⊢; omega)]
  have B:(#[v]:Array Value).zipIdx.foldl (fun cs (x:Value×Nat)=>cs.setIfInBounds (k*1+x.2) x.1) cells=cells.setIfInBounds k v:=by
   have:(#[v]:Array Value).zipIdx=#[(v,0)]:=rfl
   rw[this]; simp
  rw[B,I]
  congr 2
  have e:=list_seg_step cells.toList k v r (by simp at hk ⊢; omega)
  simpa [Array.toList_setIfInBounds,d9] using e
def Env.parts (L:Env):List (Nat×Operand)->Nat->Option (List Value)
 | [],_=>some []
 | (i,x) :: r,k=>if i=k then match L.ev x,Env.parts L r (k+1) with
  | some v,some vs=>some (v :: vs)
  | _,_=>none
  else none
theorem Env.parts_eq {L:Env} {a:Act} (ha:Rep n L a):∀{j:List (Nat×Operand)} {k:Nat} {vs:List Value},L.parts j k=some vs->j.map (fun p=>(p.1,a.eval p.2))=(vs.zipIdx k).map fun p=>(p.2,p.1)
 | [],k,vs,h=>by simp[Env.parts]at h; subst h; rfl
 | (i,x) :: r,k,vs,h=>by
  simp only[Env.parts]at h
  split at h
  ·rename_i A
   cases hx:L.ev x with
   | none=>simp[hx]at h
   | some v=>
    cases hr:L.parts r (k+1) with
    | none=>simp[hx,hr]at h
    | some us=>
     simp[hx,hr]at h
     subst h
     simp only[cZ,List.zipIdx_cons,ha.ev hx,Env.parts_eq ha hr,A]
  ·cases h
theorem kx {T E:TypeId} {m:Nat} {G:List (Nat×Operand)} {vs:List Value} {τ:Type} {e:Enc τ} {l:List τ} {z:Value} {bytes:Nat} (hT:P.underlying T=some (.slice E)) (hE:TI P E z 1 bytes)
  (hp:L.parts G 0=some vs) (hm:vs.length=m) (j:e.sz=1) (hl:e.fl l=vs) (U:0<m) (V:m<=16777216) (hS:St S w0 w os) :
  OpX P n L w ⟨d,.buildSlice T m G.toArray,ty,pos,after,none⟩ (fun v w'=>St S w0 w' (own e v l :: os)):=by
 obtain⟨A,hi,J,hs,hb⟩:=hE.get
 have B:l.length=m:=by have:=e.fl_length l; rw[hl,hm,j]at this; omega
 have I:∀v∈vs,v.oneCell'=true:=by rw[<-hl]; exact e.fl_one l
 have hf:=AU A.size hs vs 0 ((Array.range (m*A.size)).map (z.cells[·%z.cells.size]!)) I (by simp[hs,hm])
 simp only[gq,bT,bm]at hf
 rw[gz (by simp[hs,hm]),bM]at hf
 refine iC (.slice (some ⟨w.heap.size,0,none⟩) m m) (w.alloc (.cells vs.toArray E)) (fun a ha=>?_) ?_
 ·have N:(G.toArray.map fun x=>(x.1,a.eval x.2)).toList=(vs.zipIdx 0).map fun p=>(p.2,p.1):=by
   simp only[Array.toList_map]
   exact Env.parts_eq ha hp
  have O:=run_buildSlice (P:=P) w T E m (G.toArray.map fun x=>(x.1,a.eval x.2)) vs.toArray A z hT hi J (by rw[hs]; simp; omega) (by rw[hs]; simp; omega) (by rw[N]; exact hf)
  simp only[execOp,Sem.run_bind,O,Result.andThen_ok]; rfl
 ·refine hS.push (Fr.alloc _ _ _) (o:=own e _ _) ?_ ?_
  ·refine⟨e.fl_length _,.inr ⟨w.heap.size,m,vs.toArray,E,?_,hS.fresh,Row.new w _ _,?_,?_,?_,?_⟩⟩
   ·rw[B]
   ·omega
   ·simp[maxLen]; omega
   ·simp[j,hm]
   ·rw[B,j,hl]; simp; exact aC (by omega)
  ·intro k R
   simp[OE.blk,Value.ownBlock]at R
   omega
theorem xV {j A bytes:Nat} (h:A<j) (hb:j*bytes<=225000000000000) (G:bytes<=65536):Builtin.nextslicecap j A*bytes<=281474976710656:=by
 have B:Builtin.nextslicecap j A<=j+j / 4+512:=by
  unfold Builtin.nextslicecap
  split
  ·omega
  ·split
   ·omega
   ·rename_i I J
    rw[growBy_four]
    repeat' split
    all_goals omega
 calc Builtin.nextslicecap j A*bytes<=(j+j / 4+512)*bytes:=aT _ B
  _=j*bytes+j / 4*bytes+512*bytes:=by rw[aW,aW]
  _<=281474976710656:=by
   have:j / 4*bytes<=j*bytes / 4:=by
    rw[Nat.le_div_iff_mul_le (by omega)]
    calc j / 4*bytes*4=j / 4*4*bytes:=by rw[aK,aP bytes 4,<-aK]
     _<=j*bytes:=aT _ (Nat.div_mul_le_self _ _)
   omega
theorem uK (t ty e:TypeId) (i:TypeInfo) (R:P.underlying t=some (.slice e)) (hi:P.info? e=some i)
  (g A G:Nat) (B:Array Value) (T:TypeId) (hg:Row w g B T)
  (a:Addr) (m c:Nat) (news:List Value) (hl:news.length=m*i.size) (I:∀j u,news[j]? = some u->w.cell? (a.add j)=some u) (U:∀u∈news,u.oneCell'=true)
  (J:A+m<=G) (O:A*i.size+news.length<=B.size) :
  (Builtin.append_ #[t,t] ty #[.slice (some ⟨g,0,none⟩) A G,.slice (some a) m c]).run P w =
   .ok (.slice (some ⟨g,0,none⟩) (A+m) G) (w.setRow g (B.toList.take (A*i.size)++news++B.toList.drop (A*i.size+news.length)).toArray):=by
 have hf:=run_firstCells_some (P:=P) w i.size m a m c news hl I
 have N:=iV P g (A*i.size) T news 0 B w hg (by simpa using O) U
 simp only[br]at N
 simp[Builtin.append_,run_underlying R,sizeOf,typeInfo,hi,Builtin.lenOf,J,hf,Addr.add_lit,N]
theorem pq (t ty e:TypeId) (i:TypeInfo) (G:P.underlying t=some (.slice e)) (hi:P.info? e=some i) (v:Value) (b:Option Addr) (j A c:Nat) (I:v=.slice b j A) (B:j<=A) (x:Option Addr) :
  (Builtin.append_ #[t,t] ty #[v,.slice x 0 c]).run P w=.ok v w:=by
 subst I
 cases b <;> cases x <;> simp[Builtin.append_,run_underlying G,sizeOf,typeInfo,hi,Builtin.lenOf,B,Builtin.firstCells,loadCells,loadCellsFrom,storeCells]
theorem ob {T E ty:TypeId} {τ:Type} {e:Enc τ} {z:Value} {bytes:Nat} {v u:Value} {l m:List τ} {B:Nat} (hT:P.underlying T=some (.slice E)) (hE:TI P E z e.sz bytes) (hz:z.cells.size=e.sz) (b6:bytes<=65536) (b3:0<bytes)
  (Y:(own e v l).ok S B w) (hu:RO w e u m) (hB:B<=w.heap.size) (hb:(l.length+m.length)*bytes<=225000000000000) :
  ∃v' w',(Builtin.append_ #[T,T] ty #[v,u]).run P w=.ok v' w'/\(own e v' (l++m)).ok S B w'/\Fr (own e v l).blk.toList w w'/\(∀k,(own e v' (l++m)).blk=some k->(own e v l).blk=some k\/w.heap.size<=k):=by
 obtain⟨G,hi,ac,hs,ad⟩:=hE.get
 obtain⟨ua,c,rfl,hc,hr⟩:=hu
 by_cases hm:m=[]
 ·subst hm
  rcases Y.2 with⟨rfl,hn⟩ | ⟨g,A,X,T',rfl,al,hg,ap,bx,b2,N⟩
  ·have hl:l=[]:=bn hn
   subst hl
   refine⟨_,w,pq T ty E G hT hi _ none 0 0 c rfl (aw _) ua,?_,Fr.refl _ _,fun k O=>.inl (by simpa using O)⟩
   simpa using Y
  ·refine⟨_,w,pq T ty E G hT hi _ (some ⟨g,0,none⟩) l.length A c rfl ap ua,?_,Fr.refl _ _,fun k O=>.inl (by simpa using O)⟩
   simpa using Y
 ·obtain⟨b,off,rfl,Z⟩:=hr hm
  have I:∀j x,(e.fl m)[j]? = some x->w.cell? ((⟨b,off,none⟩:Addr).add j)=some x:=fun j x V=>by rw[iO]; exact Z j x V
  have U:(e.fl m).length=m.length*G.size:=by rw[hs]; exact e.fl_length m
  have b9:0<m.length:=fg.2 hm
  have ce:l.length+m.length<=225000000000000:=aZ (eK _ b3) hb
  rcases Y.2 with⟨rfl,hn⟩ | ⟨g,A,X,T',rfl,al,hg,ap,bx,b2,N⟩
  ·have hl:l=[]:=bn hn
   subst hl
   simp only[eu,bm]at hb ce
   have J:=run_append_nil (P:=P) w T ty E G z hT hi ac ⟨b,off,none⟩ m.length c (e.fl m) U I b9 (by omega) (by rw[ad]; omega)
   refine⟨_,_,J,⟨e.fl_length _,.inr ⟨w.heap.size,grownCap w m.length 0 E,_,E,?_,?_,Row.new w.drew _ _,?_,?_,?_,?_⟩⟩,?_,?_⟩
   ·simp
   ·exact .inl hB
   ·simp; exact grownCap_ge w m.length 0 E
   ·exact grownCap_le_maxLen w m.length 0 E (by simp[maxLen]; omega)
   ·have:=grownCap_ge w m.length 0 E
    simp only[iP,ej,size_zeroCells,hz,e.fl_length,<-aW]
    exact aT _ (by omega)
   ·simp only[bT,ib,List.toList_toArray]
    rw[<-e.fl_length]
    exact gi
   ·exact (Fr.drew _ w).trans (Fr.alloc _ _ _)
   ·intro k O
    simp[OE.blk,Value.ownBlock]at O
    right; omega
  ·by_cases hroom:l.length+m.length<=A
   ·have R:l.length*G.size+(e.fl m).length<=X.size:=by
     rw[U,<-aW]
     exact aZ (aT _ hroom) (by rw[hs]; exact b2)
    have J:=uK (w:=w) T ty E G hT hi g l.length A X T' hg ⟨b,off,none⟩ m.length c (e.fl m) U I (e.fl_one m) hroom R
    refine⟨_,_,J,⟨e.fl_length _,.inr ⟨g,A,_,T',?_,al,hg.set _ ?_,?_,bx,?_,?_⟩⟩,?_,?_⟩
    ·simp
    ·simp only[ej,aE,aN,bZ,fh]at R ⊢
     omega
    ·simpa using hroom
    ·simp only[ej,aE,aN,bZ,fh]at R ⊢
     omega
    ·rw[hs,N,aE,aW]
     simp only[aS]
     rw[<-aS,<-e.fl_append]
     have:l.length*e.sz+m.length*e.sz=(e.fl (l++m)).length:=by rw[e.fl_length,aE,aW]
     rw[this]
     exact gi
    ·exact Fr.setRow w g _
    ·intro k O
     left
     simpa [OE.blk,Value.ownBlock] using O
   ·have ab:∀j x,(e.fl l)[j]? = some x->w.cell? ((⟨g,0,none⟩:Addr).add j)=some x:=fun j x V=>by
     rw[iO,bm,hg.cell j]
     rw[<-N,bP]at V
     split at V
     ·simpa using V
     ·cases V
    have cf:(e.fl l).length=l.length*G.size:=by rw[hs]; exact e.fl_length l
    have J:=run_append_grow (P:=P) w T ty E G z hT hi ac ⟨g,0,none⟩ l.length A (e.fl l) cf ab ⟨b,off,none⟩ m.length c (e.fl m) U I (by omega) (by omega)
     (by rw[ad]; exact xV (by omega) hb b6)
    refine⟨_,_,J,⟨e.fl_length _,.inr ⟨w.heap.size,grownCap w (l.length+m.length) A E,_,E,?_,?_,Row.new w.drew _ _,?_,?_,?_,?_⟩⟩,?_,?_⟩
    ·simp
    ·exact .inl hB
    ·simp; exact grownCap_ge w (l.length+m.length) A E
    ·exact grownCap_le_maxLen w (l.length+m.length) A E (by simp[maxLen]; omega)
    ·have:=grownCap_ge w (l.length+m.length) A E
     simp only[iP,ej,size_zeroCells,hz,e.fl_length,<-aW]
     exact aT _ (by omega)
    ·simp only[ib,aS]
     rw[<-aS,<-e.fl_append,<-e.fl_length]
     exact gi
    ·exact (Fr.drew _ w).trans (Fr.alloc _ _ _)
    ·intro k O
     simp[OE.blk,Value.ownBlock]at O
     right; omega
theorem FR {x y:Operand} {T E:TypeId} {τ:Type} {e:Enc τ} {z:Value} {bytes:Nat} {v u:Value} {l m:List τ} {i:Nat} (hT:P.underlying T=some (.slice E)) (hE:TI P E z e.sz bytes) (hz:z.cells.size=e.sz) (B:bytes<=65536) (j:0<bytes)
  (hx:L.ev x=some v) (hy:L.ev y=some u) (hS:St S w0 w os) (hi:os[i]? = some (own e v l)) (hu:RO w e u m) (hb:(l.length+m.length)*bytes<=225000000000000) :
  OpX P n L w ⟨d,.call ⟨.builtin .append,#[x,y],#[T,T]⟩,ty,pos,after,none⟩ (fun A w'=>St S w0 w' (os.set i (own e A (l++m)))):=by
 obtain⟨A,w',G,I,J,N⟩:=ob (ty:=ty) hT hE hz B j (hS.ok _ (bf hi)) hu hS.fr.size hb
 refine iC A w' (fun a ha=>?_) (hS.set hi J I N)
 simp[execOp,resolve,invoke,builtin,ha.ev hx,ha.ev hy,G]
theorem Dc {x y:Operand} {T E:TypeId} {τ:Type} {e:Enc τ} {z:Value} {bytes:Nat} {u:Value} {m:List τ} (hT:P.underlying T=some (.slice E)) (hE:TI P E z e.sz bytes) (hz:z.cells.size=e.sz) (B:bytes<=65536) (j:0<bytes)
  (hx:L.ev x=some (.slice none 0 0)) (hy:L.ev y=some u) (hS:St S w0 w os) (hu:RO w e u m) (hb:m.length*bytes<=225000000000000) :
  OpX P n L w ⟨d,.call ⟨.builtin .append,#[x,y],#[T,T]⟩,ty,pos,after,none⟩ (fun A w'=>St S w0 w' (own e A m :: os)):=by
 have hn:(own e (.slice none 0 0) ([]:List τ)).ok S w0.heap.size w:=⟨by simp,.inl ⟨rfl,rfl⟩⟩
 obtain⟨A,w',G,I,J,N⟩:=ob (ty:=ty) hT hE hz B j hn hu hS.fr.size (by simpa using hb)
 refine iC A w' (fun a ha=>?_) (hS.push (by simpa [OE.blk,Value.ownBlock] using J) I fun k O=>?_)
 ·simp[execOp,resolve,invoke,builtin,ha.ev hx,ha.ev hy,G]
 ·rcases N k O with h | h
  ·simp[OE.blk,Value.ownBlock]at h
  ·exact h
theorem NQ {τ:Type} (e:Enc τ) (l:List τ) (j:Nat) (t:τ) (u:Value) (hu:e.cells t=[u]) (A:j<l.length):e.fl (l.set j t)=(e.fl l).set (j*e.sz) u:=by
 have B:e.sz=1:=by rw[<-e.len t,hu]; rfl
 have G:∀(l:List τ) (j:Nat),j<l.length->e.fl (l.set j t)=(e.fl l).set j u:=by
  intro l
  induction l with
  | nil=>intro j A; simp at A
  | cons a r ih=>
   intro j A
   have ha:∃b,e.cells a=[b]:=List.length_eq_one_iff.1 (by rw[e.len,B])
   obtain⟨b,hb⟩:=ha
   cases j with
   | zero=>simp[Enc.fl,hu,hb]
   | succ j=>
    have:=ih j (by simpa using A)
    simp only[Enc.fl,List.set_cons_succ,dS,hb,fZ]at this ⊢
    rw[this]
 rw[G l j A,B,cE]
theorem yO {T:TypeId} {z:Value} {bytes:Nat} (hT:TI P T z 1 bytes) {g j:Nat} {A:Array Value} {G:TypeId} {u:Value} (hg:Row w g A G) (I:j<A.size) (hu:u.oneCell'=true) :
  (storeVar T ⟨g,j,none⟩ u).run P w=.ok () (w.setRow g (A.toList.set j u).toArray):=by
 obtain⟨J,hi,_,hs,_⟩:=hT.get
 have hc:u.cells=#[u]:=by cases u <;> simp_all [Value.cells,Value.oneCell']
 have B:=iV P g j G [u] 0 A w hg (by simp; omega) (by simpa using hu)
 have he:(A.toList.take (j+0)++[u]++A.toList.drop (j+0+[u].length))=A.toList.set j u:=by
  simp only[br,List.length_singleton]
  rw[fI,ag (by simpa using I)]
  simp
 rw[he]at B
 simp[storeVar,sizeOf,typeInfo,hi,hs,hc,B]
theorem u9 {x y:Operand} {T:TypeId} {τ:Type} {e:Enc τ} {z:Value} {bytes:Nat} {v u:Value} {l:List τ} {i j:Nat} {t:τ} (hT:TI P T z 1 bytes)
  (hx:L.ev x=some (pP (ixA v e.sz j))) (hy:L.ev y=some u) (hu:e.cells t=[u]) (hS:St S w0 w os) (hi:os[i]? = some (own e v l)) (Z:j<l.length) :
  OpY P n L w ⟨none,.store T x y,ty,pos,after,none⟩ (fun w'=>St S w0 w' (os.set i (own e v (l.set j t)))):=by
 have N:=hS.ok _ (bf hi)
 have A:e.sz=1:=by rw[<-e.len t,hu]; rfl
 have O:u.oneCell'=true:=e.one t u (by rw[hu]; simp)
 rcases N.2 with⟨rfl,hn⟩ | ⟨g,G,I,T',rfl,R,hg,U,V,J,B⟩
 ·omega
 ·have X:j<I.size:=by rw[A]at J; omega
  have Y:ixA (.slice (some ⟨g,0,none⟩) l.length G) e.sz j=⟨g,j,none⟩:=by simp[ixA,iO,A]
  rw[Y]at hx
  have hr:=yO (P:=P) (T:=T) hT hg X O
  refine tg (w.setRow g (I.toList.set j u).toArray) (fun a ha=>?_) (hS.set hi (Fr.setRow w g _) (o':=own e _ _) ⟨e.fl_length _,.inr ⟨g,G,_,T',by simp,R,hg.set _ (by simp),by simpa using U,V,by simpa using J,?_⟩⟩ fun k hk=>.inl hk)
  ·simp[execOp,ha.ev hx,ha.ev hy,Instr.storeAt,Instr.sureAddr,hr]
  ·simp only[dI]
   rw[NQ e l j t u hu Z,<-B,A,cE,cE,List.take_set]
theorem Hr {D T E:TypeId} {x:Operand} {l:List UInt8} (O:P.underlying D=some .string) (hT:P.underlying T=some (.slice E)) (hE:P.underlying E=some (.int .u8))
  (hx:L.ev x=some (vS l)) (hS:St S w0 w os) :
  OpX P n L w ⟨d,.convert D T x,ty,pos,after,none⟩ (fun v w'=>St S w0 w' (red e8 v l :: os)):=by
 have R:=Lib.run_convert_string_bytes (P:=P) w D T E ⟨⟨l⟩⟩ O hT hE
 have I:Fr [] w (Lib.bytesWorld w E ⟨⟨l⟩⟩):=⟨rfl,rfl,rfl,by rw[Lib.bytesWorld_size]; omega,fun k A _=>Lib.bytesWorld_at_old w E ⟨⟨l⟩⟩ k A⟩
 have J:(red e8 (.slice (some ⟨w.heap.size,0,none⟩) l.length (grownCap w (⟨⟨l⟩⟩:ByteArray).size 0 E)) l).ok S w0.heap.size (Lib.bytesWorld w E ⟨⟨l⟩⟩):=by
  refine⟨e8.fl_length l,_,_,rfl,grownCap_ge w _ 0 E,fun _=>⟨w.heap.size,0,rfl,?_,hS.fresh,fun j u G=>?_⟩⟩
  ·rw[Lib.bytesWorld_size]; exact Nat.lt_succ_self _
  ·rw[we]at G
   have B:j<l.length:=by
    have:=(aF.1 G).1
    simpa using this
   rw[bm,Lib.bytesWorld_cell w E ⟨⟨l⟩⟩ j B]
   simp[B]at G
   subst G
   simp[List.getD,B]
 have N:St S w0 (Lib.bytesWorld w E ⟨⟨l⟩⟩) (red e8 (.slice (some ⟨w.heap.size,0,none⟩) l.length (grownCap w (⟨⟨l⟩⟩:ByteArray).size 0 E)) l :: os):=hS.push I J fun k A=>by
  simp only[OE.blk]at A
  split at A
  ·cases A
  ·simp[Value.ownBlock]at A; omega
 refine iC _ _ (fun a ha=>?_) N
 simp only[execOp,ha.ev hx,Sem.run_bind,R,Result.andThen_ok]; rfl
def Ret (φ:Value->World->Prop):Ending->World->Prop:=fun e w=>match e with
 | .returned v=>φ v w
 | _=>False
def ki (P:Program) (f:FuncId):Bool:=match P.funcs[f]? with
 | some fn => fn.body.isSome && fn.name != "runtime.NumGoroutine"
 | none=>false
theorem rK {f:FuncId} {args:Array Value} (h:ki P f=true):(callFunc f args).run P w=.ok (.enter f args) w:=by
 unfold ki at h
 split at h
 ·rename_i fn hf
  simp only[aO]at h
  have j : ¬ (fn.name == "runtime.NumGoroutine") = true := by simpa using h.2
  have A:fn.body.isNone=false:=by cases hb:fn.body <;> simp_all
  simp only[callFunc,Sem.run_bind,program,Sem.run,Result.andThen_ok,hf,j,A]
  rfl
 ·cases h
theorem Bi {o:Oper} {f:FuncId} {xs:List Operand} {j:Array TypeId} {vs:List Value} {a:Act} (A:o.op=.call ⟨.value (.func f),xs.toArray,j⟩)
  (hf:ki P f=true) (hargs:xs.map a.eval=vs):(execOp a.eval o).run P w=.ok (.enter f vs.toArray) w:=by
 simp only[execOp,A,resolve,Act.eval,Deferred.ofValue,Sem.run_bind,Sem.run_pure,Result.andThen_ok,invoke]
 have:(#[]++Array.map a.eval xs.toArray++#[]:Array Value)=vs.toArray:=by simp[hargs]
 rw[this]
 exact rK hf
theorem sX {o:Oper} {f:FuncId} {xs:List Operand} {j:Array TypeId} {vs:List Value} {φ:Value->World->Prop} {K:Act->World->Prop} {a:Act} (A:o.op=.call ⟨.value (.func f),xs.toArray,j⟩)
  (hf:ki P f=true) (hargs:xs.map a.eval=vs) (hc:Calls P f vs.toArray w (Ret φ)) (k:∀v w',φ v w'->K (a.put o.dst v) w'):o.wp P a w K Q:=by
 unfold Oper.wp
 rw[Bi A hf hargs]
 refine Calls.mono hc fun e w' he=>?_
 cases e with
 | returned v=>exact k v w' he
 | panicked c=>exact he.elim
 | outgrown=>exact he.elim
theorem mI {ops:Array Oper} {rest:List Oper} {d:Nat} {f:FuncId} {xs:List Operand} {j:Array TypeId} {vs:List Value} {φ:Value->World->Prop}
  (hf:ki P f=true) (hargs:L.evs xs=some vs) (hc:Calls P f vs.toArray w (Ret φ)) (hd:Nat.blt d n=true)
  (k:∀v w',φ v w'->wpR P n ops Q rest ((d,v) :: L) w'):wpR P n ops Q (⟨some d,.call ⟨.value (.func f),xs.toArray,j⟩,ty,pos,after,none⟩ :: rest) L w:=fun a ha=>by
 unfold wpList
 rw[ag (by simp[Region.wanted])]
 exact .inl (sX rfl hf (ha.evs hargs) hc fun v w' h=>k v w' h _ (ha.put hd))
theorem lU {ops:Array Oper} {rest:List Oper} {d:Nat} {f:FuncId} {xs:List Operand} {j:Array TypeId} {vs:List Value} {φ:Value->World->Prop}
  (hargs:L.evs xs=some vs) (hc:Calls P f vs.toArray w (Ret φ)) (hd:Nat.blt d n=true)
  (k:∀v w',φ v w'->wpR P n ops Q rest ((d,v) :: L) w') (hf:ki P f=true:=by kernel_rfl):wpR P n ops Q (⟨some d,.call ⟨.value (.func f),xs.toArray,j⟩,ty,pos,after,none⟩ :: rest) L w:=mI hf hargs hc hd k
theorem jQ {ops:Array Oper} {C D:World->Prop} {fl:Nat->Bool} {i:Nat} {r:List Nat} {d:Nat} {f:FuncId} {xs:List Operand} {B:Array TypeId} {vs:List Value} {φ:Value->World->Prop} (G:C w)
  (j:ops[i]? = some ⟨some d,.call ⟨.value (.func f),xs.toArray,B⟩,ty,pos,after,none⟩) (A:fl i=false)
  (hf:ki P f=true) (hargs:L.evs xs=some vs) (hc:Calls P f vs.toArray w (Ret φ)) (hd:Nat.blt d n=true)
  (k:∀v w',φ v w'->lxE P n ops C D Q fl r ((d,v) :: L) w'):lxE P n ops C D Q fl (i :: r) L w:=fun a ha=>by
 refine⟨G,?_⟩
 simp only[j,A,ah,aj]
 unfold wpOp
 simp only[j]
 rw[ag (by simp[Region.wanted])]
 exact .inl (sX rfl hf (ha.evs hargs) hc fun v w' h=>k v w' h _ (ha.put hd))
theorem jl {fn:Func} {t:Tmp} {v:Value} {φ:Value->World->Prop} (j:fn.results=#[.tmp t]) (A:L.get t=some v) (h:φ v w):QE n (bodyPost P fn (Ret φ)) .ret L w:=fun a ha=>by
 refine⟨ha.defers,v,?_,h⟩
 have:=ha.get t v A
 simp[results,j,this]
theorem s8 {fn:Func} {φ:Value->World->Prop} (j:fn.results=#[]) (h:φ (.tuple #[]) w):QE n (bodyPost P fn (Ret φ)) .normal L w:=fun a ha=>by
 refine⟨ha.defers,.tuple #[],?_,h⟩
 simp[results,j]
theorem jP {fn:Func} {B G:Tmp} {j A:Value} {φ:Value->World->Prop} (I:fn.results=#[.tmp B,.tmp G]) (J:L.get B=some j) (N:L.get G=some A) (h:φ (.tuple #[j,A]) w):QE n (bodyPost P fn (Ret φ)) .ret L w:=fun a ha=>by
 refine⟨ha.defers,.tuple #[j,A],?_,h⟩
 have O:=ha.get B j J
 have R:=ha.get G A N
 simp[results,I,O,R]
theorem NN {fn:Func} {B G t3:Tmp} {j A v3:Value} {φ:Value->World->Prop} (I:fn.results=#[.tmp B,.tmp G,.tmp t3]) (J:L.get B=some j) (N:L.get G=some A) (O:L.get t3=some v3) (h:φ (.tuple #[j,A,v3]) w):QE n (bodyPost P fn (Ret φ)) .ret L w:=fun a ha=>by
 refine⟨ha.defers,.tuple #[j,A,v3],?_,h⟩
 have R:=ha.get B j J
 have U:=ha.get G A N
 have g3:=ha.get t3 v3 O
 simp[results,I,R,U,g3]
theorem ql {fn:Func} {G I t3 t4 t5 J:Tmp} {j A v3 v4 v5 B:Value} {φ:Value->World->Prop} (N:fn.results=#[.tmp G,.tmp I,.tmp t3,.tmp t4,.tmp t5,.tmp J]) (O:L.get G=some j) (R:L.get I=some A) (U:L.get t3=some v3) (V:L.get t4=some v4) (X:L.get t5=some v5) (Y:L.get J=some B) (h:φ (.tuple #[j,A,v3,v4,v5,B]) w):QE n (bodyPost P fn (Ret φ)) .ret L w:=fun a ha=>by
 refine⟨ha.defers,.tuple #[j,A,v3,v4,v5,B],?_,h⟩
 have Z:=ha.get G j O
 have g2:=ha.get I A R
 have g3:=ha.get t3 v3 U
 have g4:=ha.get t4 v4 V
 have g5:=ha.get t5 v5 X
 have g6:=ha.get J B Y
 simp[results,N,Z,g2,g3,g4,g5,g6]
def qg:Nat->List Value->Env
 | _,[]=>[]
 | k,v :: r=>(k,v) :: qg (k+1) r
theorem vu:∀(vs:List Value) (k i:Nat) (v:Value),(qg k vs).get i=some v->k<=i/\vs[i - k]? = some v
 | [],k,i,v,h=>by simp[qg,Env.get]at h
 | u :: r,k,i,v,h=>by
  simp only[qg,Env.get]at h
  by_cases hk:Nat.beq k i=true
  ·rw[hk]at h
   simp at h
   have:=bJ hk
   subst this
   simp[h]
  ·simp only[hk]at h
   have:=vu r (k+1) i v (by simpa using h)
   refine⟨by omega,?_⟩
   rw[show i - k=(i - (k+1))+1 by omega]
   simpa using this.2
theorem KE {f:FuncId} {fn:Func} {c:Code} {vs:List Value} {φ:Value->World->Prop} (hf:P.funcs[f]? = some fn) (hb:fn.body=some c) (hn:Nat.ble vs.length fn.ntmps=true)
  (h:wpC P fn.ntmps c (bodyPost P fn (Ret φ)) (qg 0 vs) w):Calls P f vs.toArray w (Ret φ):=by
 refine calls_of_wp hf hb (h _ ⟨rfl,?_,fun i v hi=>?_⟩)
 ·have:=ao hn
  simp; omega
 ·have:=(vu vs 0 i v hi).2
  simp only[fX]at this
  have hl:i<vs.length:=(aF.1 this).1
  rw[Array.getElem?_append_left (by simpa using hl)]
  simpa using this
end
section
variable {P:Program} {n:Nat} {L:Env} {w w0:World} {Q:Exit->Act->World->Prop} {S:L02} {os:List OE}
variable {d:Option Tmp} {ty:TypeId} {pos:String} {after:Array Edge}
theorem oY {x y:Operand} {T E:TypeId} {k:IntKind} {i:Int} {τ:Type} {e:Enc τ} {v:Value} {l:List τ} {t:τ} {z:Value} {bytes:Nat} (hT:P.underlying T=some (.slice E)) (hE:TI P E z e.sz bytes)
  (hx:L.ev x=some v) (hy:L.ev y=some (.int k i)) (h:RO w e v l) (hg:ax l i=some t) :
  OpV P n L w ⟨d,.indexAddr T x y,ty,pos,after,none⟩ (pP (ixA v e.sz i.toNat)) w:=
 O4 hT hE hx hy h (gj hg).1 (gj hg).2.1
theorem oX {x:Operand} {T:TypeId} {D:TypeDesc} {τ:Type} {e:Enc τ} {v:Value} {l:List τ} {i:Int} {t:τ} {u:Value} (hT:P.underlying T=some D) (j:(match D with | .struct _ | .array _ _=>true | _=>false)=false)
  (hx:L.ev x=some (pP (ixA v e.sz i.toNat))) (h:RO w e v l) (hg:ax l i=some t) (hu:e.cells t=[u]) :
  OpV P n L w ⟨d,.load T x,ty,pos,after,none⟩ u w:=G2 hT j hx h (gj hg).2.2 hu
theorem Q3 {x y:Operand} {T:TypeId} {k:IntKind} {i:Int} {l:L01} {t:UInt8} (hT:P.underlying T=some .string)
  (hx:L.ev x=some (vS l)) (hy:L.ev y=some (.int k i)) (hg:ax l i=some t) :
  OpV P n L w ⟨d,.index T x y,ty,pos,after,none⟩ (v8 t) w:=Mv hT hx hy (gj hg).1 (gj hg).2.2
theorem qX {x y:Operand} {T:TypeId} {τ:Type} {e:Enc τ} {z:Value} {bytes:Nat} {v u:Value} {l:List τ} {i:Nat} {j:Int} {t A:τ} (hT:TI P T z 1 bytes)
  (hx:L.ev x=some (pP (ixA v e.sz j.toNat))) (hy:L.ev y=some u) (hS:St S w0 w os) (hi:os[i]? = some (own e v l)) (hg:ax l j=some A) (hu:e.cells t=[u]) :
  OpY P n L w ⟨none,.store T x y,ty,pos,after,none⟩ (fun w'=>St S w0 w' (os.set i (own e v (l.set j.toNat t)))):=
 u9 hT hx hy hu hS hi (gj hg).2.1
theorem Px {x y:Operand} {T:TypeId} {k:IntKind} {lo:Int} {l r:L01} (hT:P.underlying T=some .string)
  (hx:L.ev x=some (vS l)) (hy:L.ev y=some (.int k lo)) (hg:drO l lo=some r) :
  OpV P n L w ⟨d,.slice T x (some y) none none,ty,pos,after,none⟩ (vS r) w:=by
 obtain⟨⟨j,A⟩,rfl⟩:=lD hg
 exact Kl hT hx hy j A
section
variable {T E:TypeId} {τ:Type} {e:Enc τ} {v:Value} {l r:List τ} {z0:Value} {bytes:Nat}
theorem PW {x y z:Operand} {k j:IntKind} {lo hi:Int} (hT:P.underlying T=some (.slice E)) (hE:TI P E z0 e.sz bytes)
  (hx:L.ev x=some v) (hy:L.ev y=some (.int k lo)) (hz:L.ev z=some (.int j hi)) (h:RO w e v l) (hg:slO l lo hi=some r) :
  OpV P n L w ⟨d,.slice T x (some y) (some z) none,ty,pos,after,none⟩ (slV v e.sz lo.toNat hi.toNat) w:=
 Ow hT hE hx hy hz h (fT hg).1.1 (fT hg).1.2.1 (fT hg).1.2.2
theorem uW {x y:Operand} {k:IntKind} {lo:Int} (hT:P.underlying T=some (.slice E)) (hE:TI P E z0 e.sz bytes)
  (hx:L.ev x=some v) (hy:L.ev y=some (.int k lo)) (h:RO w e v l) (hg:drO l lo=some r) :
  OpV P n L w ⟨d,.slice T x (some y) none none,ty,pos,after,none⟩ (slV v e.sz lo.toNat l.length) w:=
 Nz hT hE hx hy h (lD hg).1.1 (lD hg).1.2
theorem Lo {x z:Operand} {k:IntKind} {hi:Int} (hT:P.underlying T=some (.slice E)) (hE:TI P E z0 e.sz bytes)
  (hx:L.ev x=some v) (hz:L.ev z=some (.int k hi)) (h:RO w e v l) (hg:tkO l hi=some r) :
  OpV P n L w ⟨d,.slice T x none (some z) none,ty,pos,after,none⟩ (slV v e.sz 0 hi.toNat) w:=
 Mh hT hE hx hz h (oK hg).1.1 (oK hg).1.2
theorem RO.g_sl {lo hi:Int} (h:RO w e v l) (hg:slO l lo hi=some r):RO w e (slV v e.sz lo.toNat hi.toNat) r:=by
 obtain⟨⟨A,B,j⟩,rfl⟩:=fT hg
 exact h.sub (by omega) j
theorem RO.g_sll {lo:Int} (h:RO w e v l) (hg:drO l lo=some r):RO w e (slV v e.sz lo.toNat l.length) r:=by
 obtain⟨⟨A,j⟩,rfl⟩:=lD hg
 exact h.subl j
theorem RO.g_slh {hi:Int} (h:RO w e v l) (hg:tkO l hi=some r):RO w e (slV v e.sz 0 hi.toNat) r:=by
 obtain⟨⟨A,j⟩,rfl⟩:=oK hg
 exact h.subh j
theorem RP.g_sl {lo hi:Int} (h:RP S w e v l) (hg:slO l lo hi=some r):RP S w e (slV v e.sz lo.toNat hi.toNat) r:=by
 obtain⟨⟨A,B,j⟩,rfl⟩:=fT hg
 exact h.sub (by omega) j
theorem RP.g_sll {lo:Int} (h:RP S w e v l) (hg:drO l lo=some r):RP S w e (slV v e.sz lo.toNat l.length) r:=by
 obtain⟨⟨A,j⟩,rfl⟩:=lD hg
 exact h.subl j
theorem RP.g_slh {hi:Int} (h:RP S w e v l) (hg:tkO l hi=some r):RP S w e (slV v e.sz 0 hi.toNat) r:=by
 obtain⟨⟨A,j⟩,rfl⟩:=oK hg
 exact h.subh j
theorem RP.nil (S:L02) (w:World):RP S w e (.slice none 0 0) ([]:List τ):=⟨RO.nil w e,by simp[Value.ownBlock]⟩
end
theorem Cn {T E:TypeId} {x y:Operand} {k j:IntKind} {l c:Int} {τ:Type} {e:Enc τ} {t0:τ} {r:List τ} {z:Value} {bytes:Nat} (hT:P.underlying T=some (.slice E)) (hE:TI P E z e.sz bytes) (hz:z.cells.toList=e.cells t0)
  (hx:L.ev x=some (.int k l)) (hy:L.ev y=some (.int j c)) (hS:St S w0 w os) (hg:mkO bytes l c t0=some r) :
  OpX P n L w ⟨d,.makeSlice T x y,ty,pos,after,none⟩ (fun v w'=>St S w0 w' (own e v r :: os)):=by
 obtain⟨rfl,A,B,G,I⟩:=JI hg
 exact JP hT hE hz hx hy hS A B G I
theorem qz {x y:Operand} {T E:TypeId} {τ:Type} {e:Enc τ} {z:Value} {bytes:Nat} {v u:Value} {l m r:List τ} {i:Nat} (hT:P.underlying T=some (.slice E)) (hE:TI P E z e.sz bytes) (hz:(Nat.beq z.cells.size e.sz&&Nat.ble bytes 65536&&Nat.blt 0 bytes)=true)
  (hx:L.ev x=some v) (hy:L.ev y=some u) (hS:St S w0 w os) (hi:os[i]? = some (own e v l)) (hu:RO w e u m) (hg:apO bytes l m=some r) :
  OpX P n L w ⟨d,.call ⟨.builtin .append,#[x,y],#[T,T]⟩,ty,pos,after,none⟩ (fun j w'=>St S w0 w' (os.set i (own e j r))):=by
 obtain⟨rfl,hb⟩:=qV hg
 simp only[aO,fM]at hz
 exact FR hT hE (bJ hz.1.1) (ao hz.1.2) hz.2 hx hy hS hi hu hb
theorem Hc {x y:Operand} {T E:TypeId} {τ:Type} {e:Enc τ} {z:Value} {bytes:Nat} {u:Value} {m r:List τ} (hT:P.underlying T=some (.slice E)) (hE:TI P E z e.sz bytes) (hz:(Nat.beq z.cells.size e.sz&&Nat.ble bytes 65536&&Nat.blt 0 bytes)=true)
  (hx:L.ev x=some (.slice none 0 0)) (hy:L.ev y=some u) (hS:St S w0 w os) (hu:RO w e u m) (hg:apO bytes [] m=some r) :
  OpX P n L w ⟨d,.call ⟨.builtin .append,#[x,y],#[T,T]⟩,ty,pos,after,none⟩ (fun j w'=>St S w0 w' (own e j r :: os)):=by
 obtain⟨rfl,hb⟩:=qV hg
 simp only[aO,fM]at hz
 exact Dc hT hE (bJ hz.1.1) (ao hz.1.2) hz.2 hx hy hS hu (by simpa using hb)
theorem St.call {w':World} {os':List OE} (h:St S w0 w os) (I:St [] w w' os'):St S w0 w' (os'++os):=by
 have hf:Fr [] w w':=I.fr
 have N:∀o∈os',∀k,o.blk=some k->w.heap.size<=k:=fun o A k O=>by
  rcases ((I.ok o A).lt O).2 with j | j
  ·exact j
  ·simp at j
 refine⟨h.fr.step hf (by simp),fun o A=>?_,?_⟩
 ·rcases bE.1 A with A | A
  ·have B:=I.ok o A
   have ab:=h.fr.size
   cases o with
   | sl v sz m cs=>
    refine⟨B.1,?_⟩
    rcases B.2 with hn | ⟨g,U,V,T,R,G,rest⟩
    ·exact .inl hn
    ·refine .inr ⟨g,U,V,T,R,.inl ?_,rest⟩
     rcases G with j | j
     ·omega
     ·simp at j
   | rd v sz m cs=>
    obtain⟨hl,a,c,R,hc,hx⟩:=B
    refine⟨hl,a,c,R,hc,fun hn=>?_⟩
    obtain⟨b,off,j,X,J,Z⟩:=hx hn
    refine⟨b,off,j,X,.inl ?_,Z⟩
    rcases J with J | J
    ·omega
    ·simp at J
   | bx b cs=>
    obtain⟨G,hh⟩:=B
    refine⟨.inl ?_,hh⟩
    rcases G with j | j
    ·omega
    ·simp at j
  ·exact (h.ok o A).fr hf (by simp)
 ·rw[cc]
  refine⟨I.dj,h.dj,fun o A p hp k O Y=>?_⟩
  have j:=N o A k O
  have X:=((h.ok p hp).lt Y).1
  omega
theorem St.pick {os':List OE} (h:St S w0 w os) (j:L02) (hn:j.Nodup) (he:os'.map some=j.map (fun i=>os[i]?)):St S w0 w os':=by
 have Z:os'.length=j.length:=by have:=da List.length he; simpa using this
 have A:∀k (J:k<os'.length),∃(B:k<j.length),os[j[k]]? = some os'[k]:=fun k J=>by
  have G:(os'.map some)[k]? = (j.map (fun i=>os[i]?))[k]?:=by rw[he]
  have B:k<j.length:=by omega
  simp[J,B]at G
  exact⟨B,G.symm⟩
 refine⟨h.fr,fun o ho=>?_,?_⟩
 ·obtain⟨k,J,rfl⟩:=List.getElem_of_mem ho
  obtain⟨B,G⟩:=A k J
  exact h.ok _ (bf G)
 ·rw[fj]
  intro a b ha hb N
  obtain⟨O,G⟩:=A a ha
  obtain⟨R,h2⟩:=A b hb
  have U:j[a]≠j[b]:=by
   have:=fj.1 hn a b O R N
   exact this
  have hd:∀x y (hx:x<os.length) (hy:y<os.length),x<y->(os[x]).dj (os[y]):=fj.1 h.dj
  obtain⟨l1,V⟩:=aF.1 G
  obtain⟨X,Y⟩:=aF.1 h2
  rcases Nat.lt_or_gt_of_ne U with I | I
  ·have:=hd _ _ l1 X I; rw[V,Y]at this; exact this
  ·have:=hd _ _ X l1 I; rw[V,Y]at this; exact this.symm
def ndB:L02->Bool
 | []=>true
 | x :: l=>!(l.any (Nat.beq x))&&ndB l
theorem yt:∀l:L02,ndB l=true->l.Nodup
 | [],_=>List.nodup_nil
 | x :: l,h=>by
  unfold ndB at h
  rw[aO]at h
  refine List.nodup_cons.2 ⟨fun hm=>?_,yt l h.2⟩
  have j:=h.1
  rw[List.any_eq_true.2 ⟨x,hm,Nat.beq_refl x⟩]at j
  cases j
theorem St.pk {os':List OE} (h:St S w0 w os) (j:L02) (hn:ndB j=true) (he:os'.map some=j.map (fun i=>os[i]?)):St S w0 w os':=h.pick j (yt j hn) he
theorem St.drew (h:St S w0 w os):St S w0 w.drew os:=h.step (Fr.drew [] w)
theorem St.nil {τ:Type} (e:Enc τ) (h:St S w0 w os):St S w0 w (own e (.slice none 0 0) ([]:List τ) :: os):=
 ⟨h.fr,fun o j=>by
  rcases aM.1 j with rfl | j
  ·exact⟨by simp,.inl ⟨rfl,rfl⟩⟩
  ·exact h.ok o j,List.Pairwise.cons (fun p _ k A=>by simp[OE.blk,Value.ownBlock]at A) h.dj⟩
theorem kY {ops:Array Oper} {o:Oper} {a:Act} {j:Nat} {A b:Bool} {t:Tmp} (ha:Rep n L a) (hg:o.guard=some (j,A)) (B:(ops[j]?).bind (·.dst)=some t) (hb:L.get t=some (vB b)) :
  Region.wanted o (yielded ops a.tmps)=(b == A):=by
 have:=ha.get t _ hb
 simp[Region.wanted,hg,yielded,B,this]
theorem dJ {ops:Array Oper} {rest:List Oper} {d:Nat} {op:Op} {v:Value} {w':World} {j:Nat} {A:Bool} {t:Tmp}
  (B:(ops[j]?).bind (·.dst)=some t) (hb:L.get t=some (vB A))
  (G:OpV P n L w ⟨some d,op,ty,pos,after,none⟩ v w') (hd:Nat.blt d n=true)
  (h:wpR P n ops Q rest ((d,v) :: L) w'):wpR P n ops Q (⟨some d,op,ty,pos,after,some (j,A)⟩ :: rest) L w:=fun a ha=>by
 unfold wpList
 rw[ag (by rw[kY ha rfl B hb]; simp)]
 refine .inl ?_
 have:=G a ha
 unfold Oper.wp
 have he:execOp a.eval ⟨some d,op,ty,pos,after,some (j,A)⟩=execOp a.eval ⟨some d,op,ty,pos,after,none⟩:=by cases op <;> rfl
 rw[he,this]
 exact h _ (ha.put hd)
theorem xQ {ops:Array Oper} {rest:List Oper} {d:Nat} {op:Op} {j:Nat} {A b:Bool} {t:Tmp}
  (G:(ops[j]?).bind (·.dst)=some t) (hb:L.get t=some (vB b)) (B:(b == A)=false) (hd:Nat.blt d n=true)
  (h:wpR P n ops Q rest ((d,undef) :: L) w):wpR P n ops Q (⟨some d,op,ty,pos,after,some (j,A)⟩ :: rest) L w:=fun a ha=>by
 unfold wpList
 rw[ae (by rw[kY ha rfl G hb,B]; simp)]
 exact h _ (ha.put hd)
theorem rt {ops:Array Oper} {o:Oper} {a:Act} {j:Nat} {A:Bool} {t:Tmp} (ha:Rep n L a) (hg:o.guard=some (j,A)) (B:(ops[j]?).bind (·.dst)=some t) (hb:L.get t=some undef) :
  Region.wanted o (yielded ops a.tmps)=false:=by
 have:=ha.get t _ hb
 simp[Region.wanted,hg,yielded,B,this,undef]
theorem EB {ops:Array Oper} {rest:List Oper} {d:Nat} {op:Op} {j:Nat} {A:Bool} {t:Tmp}
  (B:(ops[j]?).bind (·.dst)=some t) (hb:L.get t=some undef) (hd:Nat.blt d n=true)
  (h:wpR P n ops Q rest ((d,undef) :: L) w):wpR P n ops Q (⟨some d,op,ty,pos,after,some (j,A)⟩ :: rest) L w:=fun a ha=>by
 unfold wpList
 rw[ae (by rw[rt ha rfl B hb]; simp)]
 exact h _ (ha.put hd)
theorem Fx {ops:Array Oper} {C D:World->Prop} {fl:Nat->Bool} {i:Nat} {r:L02} {d:Nat} {op:Op} {j:Nat} {A:Bool} {t:Tmp} (B:C w) (G:ops[i]? = some ⟨some d,op,ty,pos,after,some (j,A)⟩) (hf:fl i=true)
  (I:(ops[j]?).bind (·.dst)=some t) (hb:L.get t=some undef) (hd:Nat.blt d n=true) (h:lxE P n ops C D Q fl r ((d,undef) :: L) w):lxE P n ops C D Q fl (i :: r) L w:=fun a ha=>by
 refine⟨B,?_⟩
 simp only[G,hf,am]
 exact⟨undef,.inl (.inr ⟨rt ha rfl I hb,rfl⟩),h _ (ha.put hd)⟩
theorem Gr {ops:Array Oper} {rest:List Oper} {d:Nat} {f:FuncId} {xs:List Operand} {B:Array TypeId} {vs:List Value} {φ:Value->World->Prop} {j:Nat} {A:Bool} {t:Tmp}
  (G:(ops[j]?).bind (·.dst)=some t) (hb:L.get t=some (vB A))
  (hf:ki P f=true) (hargs:L.evs xs=some vs) (hc:Calls P f vs.toArray w (Ret φ)) (hd:Nat.blt d n=true)
  (k:∀v w',φ v w'->wpR P n ops Q rest ((d,v) :: L) w'):wpR P n ops Q (⟨some d,.call ⟨.value (.func f),xs.toArray,B⟩,ty,pos,after,some (j,A)⟩ :: rest) L w:=fun a ha=>by
 unfold wpList
 rw[ag (by rw[kY ha rfl G hb]; simp)]
 exact .inl (sX rfl hf (ha.evs hargs) hc fun v w' h=>k v w' h _ (ha.put hd))
theorem pe {ops:Array Oper} {rest:List Oper} {d:Nat} {f:FuncId} {xs:List Operand} {j:Array TypeId} {vs:List Value} {V:Value} {os':List OE}
  (hS:St S w0 w os) (hargs:L.evs xs=some vs) (hc:Calls P f vs.toArray w (Ret fun v w'=>v=V/\St [] w w' os')) (hd:Nat.blt d n=true)
  (k:∀w',St S w0 w' (os'++os)->wpR P n ops Q rest ((d,V) :: L) w') (hf:ki P f=true:=by kernel_rfl):wpR P n ops Q (⟨some d,.call ⟨.value (.func f),xs.toArray,j⟩,ty,pos,after,none⟩ :: rest) L w:=
 mI hf hargs hc hd fun v w' ⟨e,h⟩=>by subst e; exact k w' (hS.call h)
theorem O1 {ops:Array Oper} {rest:List Oper} {d:Nat} {f:FuncId} {xs:List Operand} {j:Array TypeId} {vs:List Value} {α:Type} {V:α->Value} {os':α->List OE}
  (hS:St S w0 w os) (hargs:L.evs xs=some vs) (hc:Calls P f vs.toArray w (Ret fun v w'=>∃a,v=V a/\St [] w w' (os' a))) (hd:Nat.blt d n=true)
  (k:∀a w',St S w0 w' (os' a++os)->wpR P n ops Q rest ((d,V a) :: L) w') (hf:ki P f=true:=by kernel_rfl):wpR P n ops Q (⟨some d,.call ⟨.value (.func f),xs.toArray,j⟩,ty,pos,after,none⟩ :: rest) L w:=
 mI hf hargs hc hd fun v w' ⟨a,e,h⟩=>by subst e; exact k a w' (hS.call h)
theorem vr {ops:Array Oper} {rest:List Oper} {d:Nat} {f:FuncId} {xs:List Operand} {j:Array TypeId} {vs:List Value} {os':Value->List OE}
  (hS:St S w0 w os) (hargs:L.evs xs=some vs) (hc:Calls P f vs.toArray w (Ret fun v w'=>St [] w w' (os' v))) (hd:Nat.blt d n=true)
  (k:∀v w',St S w0 w' (os' v++os)->wpR P n ops Q rest ((d,v) :: L) w') (hf:ki P f=true:=by kernel_rfl):wpR P n ops Q (⟨some d,.call ⟨.value (.func f),xs.toArray,j⟩,ty,pos,after,none⟩ :: rest) L w:=
 mI hf hargs hc hd fun v w' h=>k v w' (hS.call h)
theorem gG {ops:Array Oper} {C D:World->Prop} {fl:Nat->Bool} {i:Nat} {r:L02} {d:Nat} {op:Op} {v:Value} {j:Nat} {A:Bool} {t:Tmp} (G:C w) (I:ops[i]? = some ⟨some d,op,ty,pos,after,some (j,A)⟩) (hf:fl i=true)
  (J:(ops[j]?).bind (·.dst)=some t) (hb:L.get t=some (vB A))
  (N:∀w,C w->OpV P n L w ⟨some d,op,ty,pos,after,none⟩ v w) (hd:Nat.blt d n=true) (h:lxE P n ops C D Q fl r ((d,v) :: L) w):lxE P n ops C D Q fl (i :: r) L w:=fun a ha=>by
 refine⟨G,?_⟩
 simp only[I,hf,am]
 have he:execOp a.eval ⟨some d,op,ty,pos,after,some (j,A)⟩=execOp a.eval ⟨some d,op,ty,pos,after,none⟩:=by cases op <;> rfl
 exact⟨v,.inl (.inl ⟨by rw[kY ha rfl J hb]; simp,fun w' B=>by rw[he]; exact N w' B a ha⟩),h _ (ha.put hd)⟩
theorem eL {ops:Array Oper} {C D:World->Prop} {fl:Nat->Bool} {i:Nat} {r:L02} {d:Nat} {op:Op} {j:Nat} {A b:Bool} {t:Tmp} (G:C w) (I:ops[i]? = some ⟨some d,op,ty,pos,after,some (j,A)⟩) (hf:fl i=true)
  (J:(ops[j]?).bind (·.dst)=some t) (hb:L.get t=some (vB b)) (B:(b == A)=false) (hd:Nat.blt d n=true) (h:lxE P n ops C D Q fl r ((d,undef) :: L) w):lxE P n ops C D Q fl (i :: r) L w:=fun a ha=>by
 refine⟨G,?_⟩
 simp only[I,hf,am]
 exact⟨undef,.inl (.inr ⟨by rw[kY ha rfl J hb,B],rfl⟩),h _ (ha.put hd)⟩
theorem HJ {ops:Array Oper} {C D:World->Prop} {fl:Nat->Bool} {i:Nat} {r:L02} {d:Nat} {f:FuncId} {xs:List Operand} {I:Array TypeId} {vs:List Value} {φ:Value->World->Prop} {j:Nat} {A:Bool} {t:Tmp} (J:C w)
  (B:ops[i]? = some ⟨some d,.call ⟨.value (.func f),xs.toArray,I⟩,ty,pos,after,some (j,A)⟩) (G:fl i=false) (N:(ops[j]?).bind (·.dst)=some t) (hb:L.get t=some (vB A))
  (hf:ki P f=true) (hargs:L.evs xs=some vs) (hc:Calls P f vs.toArray w (Ret φ)) (hd:Nat.blt d n=true)
  (k:∀v w',φ v w'->lxE P n ops C D Q fl r ((d,v) :: L) w'):lxE P n ops C D Q fl (i :: r) L w:=fun a ha=>by
 refine⟨J,?_⟩
 simp only[B,G,ah,aj]
 unfold wpOp
 simp only[B]
 rw[ag (by rw[kY ha rfl N hb]; simp)]
 exact .inl (sX rfl hf (ha.evs hargs) hc fun v w' h=>k v w' h _ (ha.put hd))
theorem vm {ops:Array Oper} {C D:World->Prop} {fl:Nat->Bool} {i:Nat} {r:L02} {d:Nat} {op:Op} {j:Nat} {A b:Bool} {t:Tmp} (I:C w) (B:ops[i]? = some ⟨some d,op,ty,pos,after,some (j,A)⟩) (hf:fl i=false)
  (J:(ops[j]?).bind (·.dst)=some t) (hb:L.get t=some (vB b)) (G:(b == A)=false) (hd:Nat.blt d n=true) (h:lxE P n ops C D Q fl r ((d,undef) :: L) w):lxE P n ops C D Q fl (i :: r) L w:=fun a ha=>by
 refine⟨I,?_⟩
 simp only[B,hf,ah,aj]
 unfold wpOp
 simp only[B]
 rw[ae (by rw[kY ha rfl J hb,G]; simp)]
 exact h _ (ha.put hd)
theorem dN {f:FuncId} {fn:Func} {c:Code} {vs:List Value} {φ:Value->World->Prop} (n:Nat) (hf:P.funcs[f]? = some fn) (hb:fn.body=some c) (hn:fn.ntmps=n) (hl:Nat.ble vs.length n=true)
  (h:wpC P n c (bodyPost P fn (Ret φ)) (qg 0 vs) w):Calls P f vs.toArray w (Ret φ):=by
 subst hn
 exact KE hf hb hl h
theorem kJ {σ ρ:Type} {c:Code} {r:ρ} (f:σ->Option (σ⊕ρ)) (I:σ->Env->World->Prop)
  (j:∀k s L w x,I s L w->(∀B G w',I B G w'->jU f k B=some r->wpN P n c Q k G w')->f s=some x->lk f k r x->wpC P n c (Exit.then (Code.rounds P c Q k) Q) L w)
  (s:σ) (A:I s L w) (h:loop f s=some r):wpC P n (.loop c) Q L w:=by
 obtain⟨k,N⟩:=rG h
 refine zX k ?_
 have J:∀k s L w,I s L w->jU f k s=some r->wpN P n c Q k L w:=by
  intro k
  induction k with
  | zero=>intro s L w _ h; simp[jU]at h
  | succ k ih=>
   intro s L w A h
   obtain⟨x,O,R⟩:=Mr h
   exact kK (j k s L w x A ih O R)
 exact J k s L w A N
theorem ja {γ ρ:Type} {x y:Code} {r:ρ} (J:γ->Env->World->Prop) (f:γ->Option ρ)
  (hy:∀g L w,J g L w->f g=some r->wpC P n y Q L w)
  (hx:(∀g L w,J g L w->f g=some r->wpC P n y Q L w)->wpC P n x (Exit.then (y.wp P Q) Q) L w):wpC P n (.seq x y) Q L w:=
 cI (hx hy)
end
section
variable {P:Program} {n:Nat} {L:Env} {w w0:World} {Q:Exit->Act->World->Prop} {S:L02} {os:List OE}
variable {d:Option Tmp} {ty:TypeId} {pos:String} {after:Array Edge}
structure ExtF (P:Program) (f:FuncId) (e:Array Value->Sem Value):Prop where
 fn : ∃ fn, P.funcs[f]? = some fn /\ fn.body.isNone = true /\ (fn.name == "runtime.NumGoroutine") = false /\ (Extern.findNext fn).isNone = true /\ Extern.find fn = some e
end
section
variable {P:Program} {n:Nat} {L:Env} {w w0:World} {Q:Exit->Act->World->Prop} {S:L02} {os:List OE}
variable {d:Option Tmp} {ty:TypeId} {pos:String} {after:Array Edge}
theorem oo {τ:Type} {e:Enc τ} {v:Value} {l:List τ} (h:RO w e v l) (k:Nat) (J:k<=l.length) :
  (Builtin.firstCells e.sz k v).run P w=.ok (e.fl (l.take k)).toArray w:=by
 obtain⟨a,c,rfl,hc,I⟩:=h
 cases a with
 | none=>
  have hl:l=[]:=by
   cases l with
   | nil=>rfl
   | cons x r=>obtain⟨b,off,h,_⟩:=I (by simp); cases h
  subst hl
  simp[Builtin.firstCells,Enc.fl]
 | some p=>
  by_cases hl:l=[]
  ·subst hl
   have:k=0:=by simpa using J
   subst this
   simp[Builtin.firstCells,loadCells,loadCellsFrom,Enc.fl]
  ·obtain⟨b,off,hp,A⟩:=I hl
   cases hp
   have G:(e.fl (l.take k)).length=k*e.sz:=by rw[e.fl_length,aN]; congr 1; omega
   have:=run_loadCells_list (P:=P) w ⟨b,off,none⟩ (e.fl (l.take k)) (fun j u B=>by
    rw[iO]
    rw[e.fl_take,bP]at B
    split at B
    ·exact A j u B
    ·cases B)
   rw[G]at this
   exact this
theorem Da {T T2 E ty:TypeId} {τ:Type} {e:Enc τ} {z:Value} {bytes:Nat} {v u:Value} {l m:List τ} {B lo hi:Nat} (hT:P.underlying T=some (.slice E)) (hE:TI P E z e.sz bytes) (j:e.sz=1)
  (ho:(own e v l).ok S B w) (hu:RO w e u m) (h1:lo<=hi) (Y:hi<=l.length) :
  ∃w',(Builtin.copy_ #[T,T2] ty #[slV v e.sz lo hi,u]).run P w=.ok (vI (min m.length (hi - lo):Nat)) w'/\(own e v (cpL l m lo hi)).ok S B w'/\Fr (own e v l).blk.toList w w':=by
 obtain⟨b9,R,_,hs,_⟩:=hE.get
 have U:=oo (P:=P) hu (min m.length (hi - lo)) (Nat.min_le_left _ _)
 obtain⟨ua,uc,rfl,ce,cf⟩:=hu
 have V:cpL l m lo hi=l.take lo++m.take (min m.length (hi - lo))++l.drop (lo+min m.length (hi - lo)):=by
  unfold cpL
  congr 2
  by_cases h:m.length<=hi - lo
  ·rw[bg h,aC h,aC (aw _)]
  ·rw[Nat.min_eq_right (by omega)]
 rcases ho.2 with⟨rfl,hn⟩ | ⟨g,G,I,T',rfl,ap,hg,bx,b2,ab,N⟩
 ·have hl:l=[]:=bn hn
  subst hl
  have e1:hi=0:=by simpa using Y
  have e2:lo=0:=by omega
  subst e1 e2
  have J:slV (.slice none 0 0) e.sz 0 0=.slice none 0 0:=rfl
  refine⟨w,?_,?_,Fr.refl _ _⟩
  ·rw[J]
   simp at U
   simp[Builtin.copy_,run_underlying hT,Builtin.lenOf,sizeOf,typeInfo,R,hs,U,goInt]
  ·rw[V]; simpa using ho
 ·have b3:e.fl (m.take (min m.length (hi - lo)))=(e.fl m).take (min m.length (hi - lo)):=by rw[e.fl_take,j,cE]
  have A:(e.fl (m.take (min m.length (hi - lo)))).length=min m.length (hi - lo):=by rw[e.fl_length,j]; simp
  have b7:lo+min m.length (hi - lo)<=I.size:=by rw[j]at ab; omega
  by_cases hcl:G=lo
  ·
   have hz:hi - lo=0:=by omega
   refine⟨w,?_,?_,Fr.refl _ _⟩
   ·have J:slV (.slice (some ⟨g,0,none⟩) l.length G) e.sz lo hi=.slice (some ⟨g,0,none⟩) (hi - lo) (G - lo):=by simp[slV,hcl]
    rw[J]
    simp only[hz,Nat.min_zero]at U ⊢
    simp[Builtin.copy_,run_underlying hT,Builtin.lenOf,sizeOf,typeInfo,R,hs,U,goInt,Enc.fl,storeCells]
   ·rw[V,hz]; simpa using ho
  ·have J:slV (.slice (some ⟨g,0,none⟩) l.length G) e.sz lo hi=.slice (some ⟨g,lo,none⟩) (hi - lo) (G - lo):=by simp[slV,hcl,iO,j]
   have X:=iV P g lo T' (e.fl (m.take (min m.length (hi - lo)))) 0 I w hg (by rw[A]; omega) (e.fl_one _)
   simp only[br]at X
   obtain⟨Z,O⟩:∃Z,Z=(I.toList.take lo++e.fl (m.take (min m.length (hi - lo)))++I.toList.drop (lo+(e.fl (m.take (min m.length (hi - lo)))).length)).toArray:=⟨_,rfl⟩
   rw[<-O]at X
   refine⟨w.setRow g Z,?_,⟨e.fl_length _,.inr ⟨g,G,Z,T',?_,ap,hg.set _ ?_,?_,b2,?_,?_⟩⟩,Fr.setRow w g _⟩
   ·rw[J]
    simp[Builtin.copy_,run_underlying hT,Builtin.lenOf,sizeOf,typeInfo,R,hs,U,X,goInt]
   ·rw[jD l m lo hi h1 Y]
   ·rw[O]
    simp only[ej,aE,aN,bZ,fh,A]
    omega
   ·rw[jD l m lo hi h1 Y]; exact bx
   ·rw[O]
    simp only[ej,aE,aN,bZ,fh,A,j]at ab ⊢
    omega
   ·rw[jD l m lo hi h1 Y,V,e.fl_append,e.fl_append]
    have e3:I.toList.take lo=e.fl (l.take lo):=by
     rw[e.fl_take,<-N,List.take_take,j]; congr 1; omega
    rw[O,e3,A]
    simp only[List.toList_toArray]
    rw[List.take_append]
    have e4:(e.fl (l.take lo)++e.fl (m.take (min m.length (hi - lo)))).length=lo+min m.length (hi - lo):=by
     rw[aE,A,e.fl_length,j,aN]; omega
    rw[aC (by rw[e4,j]; omega),e4]
    congr 1
    rw[e.fl_drop,<-N,j,List.take_drop]
    simp only[cE]
    congr 1
    congr 1
    omega
theorem K6 {v:Value} {τ:Type} {e:Enc τ} {l:List τ} (h:RO w e v l):slV v e.sz 0 l.length=v:=by
 obtain⟨a,c,rfl,hc,j⟩:=h
 simp only[slV,fX,fv]
 congr 1
 split
 ·rfl
 ·cases a <;> simp[Addr.add]
theorem CC {x y:Operand} {T T2 E:TypeId} {τ:Type} {e:Enc τ} {z:Value} {bytes:Nat} {v u:Value} {l m:List τ} {i lo hi:Nat} (hT:P.underlying T=some (.slice E)) (hE:TI P E z e.sz bytes) (A:e.sz=1)
  (hx:L.ev x=some (slV v e.sz lo hi)) (hy:L.ev y=some u) (hS:St S w0 w os) (j:os[i]? = some (own e v l)) (hu:RO w e u m) (B:lo<=hi) (G:hi<=l.length) :
  OpX P n L w ⟨d,.call ⟨.builtin .copy,#[x,y],#[T,T2]⟩,ty,pos,after,none⟩ (fun r w'=>r=vI (min m.length (hi - lo):Nat)/\St S w0 w' (os.set i (own e v (cpL l m lo hi)))):=by
 obtain⟨w',I,J,N⟩:=Da (T2:=T2) (ty:=ty) hT hE A (hS.ok _ (bf j)) hu B G
 refine iC _ w' (fun a ha=>?_) ⟨rfl,hS.set j N J fun k O=>.inl O⟩
 simp[execOp,resolve,invoke,builtin,ha.ev hx,ha.ev hy,I]
theorem IA {x y:Operand} {T T2 E:TypeId} {τ:Type} {e:Enc τ} {z:Value} {bytes:Nat} {v u:Value} {l m:List τ} {i:Nat} (hT:P.underlying T=some (.slice E)) (hE:TI P E z e.sz bytes) (A:e.sz=1)
  (hx:L.ev x=some v) (hy:L.ev y=some u) (hS:St S w0 w os) (j:os[i]? = some (own e v l)) (hu:RO w e u m) :
  OpX P n L w ⟨d,.call ⟨.builtin .copy,#[x,y],#[T,T2]⟩,ty,pos,after,none⟩ (fun r w'=>r=vI (min m.length l.length:Nat)/\St S w0 w' (os.set i (own e v (cpL l m 0 l.length)))):=by
 have h:=CC (P:=P) (n:=n) (d:=d) (ty:=ty) (pos:=pos) (after:=after) (T2:=T2) (lo:=0) (hi:=l.length) hT hE A (by rw[K6 (hS.ro i j)]; exact hx) hy hS j hu (eZ _) (aw _)
 exact h
theorem IV {τ:Type} {e:Enc τ} {v:Value} {l:List τ} (h:RO w e v l) (k i:Nat):ixA (slV v e.sz 0 k) e.sz i=ixA v e.sz i:=by
 obtain⟨a,c,rfl,hc,j⟩:=h
 simp only[slV,fv]
 cases a with
 | none=>split <;> rfl
 | some p=>
  have:p.add 0=p:=by simp[Addr.add]
  split <;> simp[ixA,this]
theorem RO.tk {τ:Type} {e:Enc τ} {v:Value} {l:List τ} (h:RO w e v l) {k:Nat} (j:k<=l.length):RO w e (slV v e.sz 0 k) (l.take k):=h.subh j
section
variable {T E:TypeId} {τ:Type} {e:Enc τ} {v:Value} {l r:List τ} {z0:Value} {bytes:Nat}
theorem FX {x z:Operand} {B:IntKind} {hi:Int} {k:Nat} (hT:P.underlying T=some (.slice E)) (hE:TI P E z0 e.sz bytes)
  (hx:L.ev x=some (slV v e.sz 0 k)) (hz:L.ev z=some (.int B hi)) (h:RO w e v l) (hg:tkO l hi=some r) :
  OpV P n L w ⟨d,.slice T x none (some z) none,ty,pos,after,none⟩ (slV v e.sz 0 hi.toNat) w:=fun a ha=>by
 obtain⟨⟨G,N⟩,_⟩:=oK hg
 obtain⟨b,c,rfl,hc,_⟩:=h
 obtain⟨J,A,_,hs,_⟩:=hE.get
 have I:hi<=(c:Int):=by omega
 have j:L.ev x=some (.slice (if c=0 then b else b.map (·.add (0*e.sz))) (k - 0) (c - 0)):=hx
 have hb:(if c=0 then b else b.map (·.add (0*e.sz)))=b:=by
  split
  ·rfl
  ·cases b <;> simp[Addr.add]
 rw[hb]at j
 simp[execOp,ha.ev j,ha.ev hz,Instr.sliceAt,Instr.slice,run_underlying hT,Instr.sliceBounds,run_sliceBound,G,I,sizeOf,typeInfo,A,hs,slV]
theorem G5 {x y:Operand} {j:IntKind} {i:Int} {t:τ} {k:Nat} (hT:P.underlying T=some (.slice E)) (hE:TI P E z0 e.sz bytes)
  (hx:L.ev x=some (slV v e.sz 0 k)) (hy:L.ev y=some (.int j i)) (h:RO w e v l) (A:k<=l.length) (hg:ax (l.take k) i=some t) :
  OpV P n L w ⟨d,.indexAddr T x y,ty,pos,after,none⟩ (pP (ixA v e.sz i.toNat)) w:=by
 rw[<-IV h k]
 exact oY hT hE hx hy (h.tk A) hg
end
theorem H6 {τ:Type} {l:List τ} {k:Nat} {i:Int} {t:τ} (h:ax (l.take k) i=some t):ax l i=some t:=by
 unfold ax at h ⊢
 split at h
 ·rw[ag ‹_›]
  rw[bP]at h
  split at h
  ·exact h
  ·cases h
 ·cases h
end
end Go.Gk
end
