import Derived.Tactics
import Derived.LoopN
import Derived.Below
import Derived.KernelRfl
import Derived.Lib.Strings
import Derived.Laws.CopyOwn
import Derived.Laws.MakeOwn
import Derived.Laws.AppendOwn
import Derived.Great.BuildSlice
import Derived.Deep.Draws
import Derived.Laws.BytesArg
import Derived.Laws.Slices
import Derived.Deep.Quiet
import Derived.Lib.ConvBytes
import Derived.Lib.Bytealg
set_option linter.unusedVariables false
set_option linter.unusedSimpArgs false
set_option linter.unusedSectionVars false
abbrev L00:=List UInt32
abbrev L01:=List UInt8
abbrev L02:=List Nat
section
namespace Go.Gk
theorem bT:type_of% @Array.getD_eq_getD_getElem?:=@Array.getD_eq_getD_getElem?
theorem cg:type_of% @Array.getElem?_eq_some_iff:=@Array.getElem?_eq_some_iff
theorem eA:type_of% @Array.getElem?_replicate:=@Array.getElem?_replicate
theorem gO:type_of% @Array.getElem?_toList:=@Array.getElem?_toList
theorem fc:type_of% @Array.length_toList:=@Array.length_toList
theorem iT:type_of% @Array.size_append:=@Array.size_append
theorem ij:type_of% @Array.toList_append:=@Array.toList_append
theorem aK:type_of% @Bool.and_eq_true:=@Bool.and_eq_true
theorem cT:type_of% @Bool.eq_iff_iff:=@Bool.eq_iff_iff
theorem ee:type_of% @Bool.false_and:=@Bool.false_and
theorem ah:type_of% @Bool.false_eq_true:=@Bool.false_eq_true
theorem gr:type_of% @Bool.not_false:=@Bool.not_false
theorem cF:type_of% @Bool.not_true:=@Bool.not_true
theorem fD:type_of% @Bool.or_eq_true:=@Bool.or_eq_true
theorem dP:type_of% @Bool.true_and:=@Bool.true_and
theorem gZ:type_of% @Classical.byContradiction:=@Classical.byContradiction
theorem gR:type_of% @Classical.choose_spec:=@Classical.choose_spec
theorem iN:type_of% @Fin.ext:=@Fin.ext
theorem gn:type_of% @Int.emod_eq_of_lt:=@Int.emod_eq_of_lt
theorem iF:type_of% @Int.emod_nonneg:=@Int.emod_nonneg
theorem gw:type_of% @Int.eq_ofNat_of_zero_le:=@Int.eq_ofNat_of_zero_le
theorem fT:type_of% @Int.fdiv_eq_ediv_of_nonneg:=@Int.fdiv_eq_ediv_of_nonneg
theorem eE:type_of% @Int.lt_irrefl:=@Int.lt_irrefl
theorem fR:type_of% @Int.mul_nonneg:=@Int.mul_nonneg
theorem cG:type_of% @Int.natAbs_natCast:=@Int.natAbs_natCast
theorem iI:type_of% @Int.natCast_add:=@Int.natCast_add
theorem ch:type_of% @Int.natCast_emod:=@Int.natCast_emod
theorem dp:type_of% @Int.natCast_mul:=@Int.natCast_mul
theorem dx:type_of% @Int.natCast_nonneg:=@Int.natCast_nonneg
theorem bJ:type_of% @Int.tdiv_eq_ediv_of_nonneg:=@Int.tdiv_eq_ediv_of_nonneg
theorem cn:type_of% @Int.tmod_eq_emod_of_nonneg:=@Int.tmod_eq_emod_of_nonneg
theorem am:type_of% @Int.toNat_natCast:=@Int.toNat_natCast
theorem ik:type_of% @Int.toNat_of_nonneg:=@Int.toNat_of_nonneg
theorem ez:type_of% @List.Perm.append_left:=@List.Perm.append_left
theorem ci:type_of% @List.all_eq_true:=@List.all_eq_true
theorem aN:type_of% @List.append_assoc:=@List.append_assoc
theorem bP:type_of% @List.append_nil:=@List.append_nil
theorem eQ:type_of% @List.cons.injEq:=@List.cons.injEq
theorem cW:type_of% @List.cons_append:=@List.cons_append
theorem fS:type_of% @List.drop_drop:=@List.drop_drop
theorem aS:type_of% @List.drop_eq_getElem_cons:=@List.drop_eq_getElem_cons
theorem gE:type_of% @List.drop_eq_nil_of_le:=@List.drop_eq_nil_of_le
theorem jt:type_of% @List.drop_left':=@List.drop_left'
theorem eH:type_of% @List.drop_length:=@List.drop_length
theorem bL:type_of% @List.drop_of_length_le:=@List.drop_of_length_le
theorem dQ:type_of% @List.drop_zero:=@List.drop_zero
theorem bp:type_of% @List.eq_nil_of_length_eq_zero:=@List.eq_nil_of_length_eq_zero
theorem gC:type_of% @List.ext_getElem:=@List.ext_getElem
theorem iY:type_of% @List.ext_getElem?:=@List.ext_getElem?
theorem eM:type_of% @List.filter_congr:=@List.filter_congr
theorem dU:type_of% @List.flatMap_cons:=@List.flatMap_cons
theorem ep:type_of% @List.foldl_cons:=@List.foldl_cons
theorem an:type_of% @List.getD_eq_getElem?_getD:=@List.getD_eq_getElem?_getD
theorem eL:type_of% @List.getElem?_append_right:=@List.getElem?_append_right
theorem dL:type_of% @List.getElem?_drop:=@List.getElem?_drop
theorem av:type_of% @List.getElem?_eq_getElem:=@List.getElem?_eq_getElem
theorem c9:type_of% @List.getElem?_eq_none:=@List.getElem?_eq_none
theorem aP:type_of% @List.getElem?_eq_some_iff:=@List.getElem?_eq_some_iff
theorem fF:type_of% @List.getElem?_map:=@List.getElem?_map
theorem gt:type_of% @List.getElem?_replicate:=@List.getElem?_replicate
theorem gm:type_of% @List.getElem?_set:=@List.getElem?_set
theorem c7:type_of% @List.getElem?_set_self:=@List.getElem?_set_self
theorem bR:type_of% @List.getElem?_take:=@List.getElem?_take
theorem cV:type_of% @List.getElem_mem:=@List.getElem_mem
theorem gF:type_of% @List.getElem_replicate:=@List.getElem_replicate
theorem aQ:type_of% @List.length_append:=@List.length_append
theorem bY:type_of% @List.length_cons:=@List.length_cons
theorem ca:type_of% @List.length_drop:=@List.length_drop
theorem dK:type_of% @List.length_nil:=@List.length_nil
theorem fb:type_of% @List.length_pos_iff:=@List.length_pos_iff
theorem bq:type_of% @List.length_replicate:=@List.length_replicate
theorem dJ:type_of% @List.length_set:=@List.length_set
theorem aJ:type_of% @List.length_take:=@List.length_take
theorem db:type_of% @List.map_cons:=@List.map_cons
theorem bG:type_of% @List.mem_append:=@List.mem_append
theorem bW:type_of% @List.mem_append_left:=@List.mem_append_left
theorem bC:type_of% @List.mem_append_right:=@List.mem_append_right
theorem aG:type_of% @List.mem_cons:=@List.mem_cons
theorem fC:type_of% @List.mem_cons_of_mem:=@List.mem_cons_of_mem
theorem fk:type_of% @List.mem_cons_self:=@List.mem_cons_self
theorem jp:type_of% @List.mem_filter:=@List.mem_filter
theorem je:type_of% @List.mem_flatMap:=@List.mem_flatMap
theorem jx:type_of% @List.mem_map:=@List.mem_map
theorem bd:type_of% @List.mem_of_getElem?:=@List.mem_of_getElem?
theorem dH:type_of% @List.mem_range:=@List.mem_range
theorem i0:type_of% @List.mem_range'_1:=@List.mem_range'_1
theorem bN:type_of% @List.nil_append:=@List.nil_append
theorem aR:type_of% @List.not_mem_nil:=@List.not_mem_nil
theorem cd:type_of% @List.pairwise_append:=@List.pairwise_append
theorem gc:type_of% @List.pairwise_cons:=@List.pairwise_cons
theorem ff:type_of% @List.pairwise_iff_getElem:=@List.pairwise_iff_getElem
theorem gy:type_of% @List.perm_middle:=@List.perm_middle
theorem ig:type_of% @List.range'_succ:=@List.range'_succ
theorem dX:type_of% @List.set_append_right:=@List.set_append_right
theorem iJ:type_of% @List.set_cons_zero:=@List.set_cons_zero
theorem fI:type_of% @List.set_eq_take_append_cons_drop:=@List.set_eq_take_append_cons_drop
theorem ge:type_of% @List.singleton_append:=@List.singleton_append
theorem eo:type_of% @List.size_toArray:=@List.size_toArray
theorem cD:type_of% @List.take_append_drop:=@List.take_append_drop
theorem ia:type_of% @List.take_left:=@List.take_left
theorem fE:type_of% @List.take_left':=@List.take_left'
theorem cZ:type_of% @List.take_length:=@List.take_length
theorem aA:type_of% @List.take_of_length_le:=@List.take_of_length_le
theorem fL:type_of% @List.take_set_of_le:=@List.take_set_of_le
theorem dT:type_of% @List.take_succ_eq_append_getElem:=@List.take_succ_eq_append_getElem
theorem fX:type_of% @List.take_zero:=@List.take_zero
theorem dn:type_of% @Nat.add_assoc:=@Nat.add_assoc
theorem cw:type_of% @Nat.add_comm:=@Nat.add_comm
theorem aU:type_of% @Nat.add_mul:=@Nat.add_mul
theorem g9:type_of% @Nat.add_mul_div_left:=@Nat.add_mul_div_left
theorem g8:type_of% @Nat.add_mul_mod_self_left:=@Nat.add_mul_mod_self_left
theorem gS:type_of% @Nat.add_mul_mod_self_right:=@Nat.add_mul_mod_self_right
theorem eG:type_of% @Nat.add_sub_cancel:=@Nat.add_sub_cancel
theorem dt:type_of% @Nat.add_sub_cancel_left:=@Nat.add_sub_cancel_left
theorem bm:type_of% @Nat.add_zero:=@Nat.add_zero
theorem fe:type_of% @Nat.and_two_pow_sub_one_eq_mod:=@Nat.and_two_pow_sub_one_eq_mod
theorem fN:type_of% @Nat.blt_eq:=@Nat.blt_eq
theorem de:type_of% @Nat.div_add_mod:=@Nat.div_add_mod
theorem dN:type_of% @Nat.div_div_eq_div_mul:=@Nat.div_div_eq_div_mul
theorem cA:type_of% @Nat.div_eq_of_lt:=@Nat.div_eq_of_lt
theorem dy:type_of% @Nat.div_le_self:=@Nat.div_le_self
theorem fh:type_of% @Nat.div_lt_iff_lt_mul:=@Nat.div_lt_iff_lt_mul
theorem ju:type_of% @Nat.div_lt_self:=@Nat.div_lt_self
theorem eY:type_of% @Nat.dvd_of_mod_eq_zero:=@Nat.dvd_of_mod_eq_zero
theorem bK:type_of% @Nat.eq_of_beq_eq_true:=@Nat.eq_of_beq_eq_true
theorem bQ:type_of% @Nat.eq_zero_or_pos:=@Nat.eq_zero_or_pos
theorem fy:type_of% @Nat.gcd_comm:=@Nat.gcd_comm
theorem jg:type_of% @Nat.gcd_dvd_left:=@Nat.gcd_dvd_left
theorem gl:type_of% @Nat.gcd_dvd_right:=@Nat.gcd_dvd_right
theorem fU:type_of% @Nat.le_add_right:=@Nat.le_add_right
theorem eJ:type_of% @Nat.le_mul_of_pos_right:=@Nat.le_mul_of_pos_right
theorem ao:type_of% @Nat.le_of_ble_eq_true:=@Nat.le_of_ble_eq_true
theorem gi:type_of% @Nat.le_of_dvd:=@Nat.le_of_dvd
theorem cz:type_of% @Nat.le_of_lt:=@Nat.le_of_lt
theorem ax:type_of% @Nat.le_refl:=@Nat.le_refl
theorem ba:type_of% @Nat.le_trans:=@Nat.le_trans
theorem jn:type_of% @Nat.lt_irrefl:=@Nat.lt_irrefl
theorem dw:type_of% @Nat.lt_of_le_of_lt:=@Nat.lt_of_le_of_lt
theorem aW:type_of% @Nat.lt_of_lt_of_le:=@Nat.lt_of_lt_of_le
theorem bX:type_of% @Nat.lt_or_ge:=@Nat.lt_or_ge
theorem fZ:type_of% @Nat.lt_trans:=@Nat.lt_trans
theorem bf:type_of% @Nat.min_eq_left:=@Nat.min_eq_left
theorem az:type_of% @Nat.mod_eq_of_lt:=@Nat.mod_eq_of_lt
theorem bH:type_of% @Nat.mod_lt:=@Nat.mod_lt
theorem jk:type_of% @Nat.mod_mod:=@Nat.mod_mod
theorem gM:type_of% @Nat.mod_two_eq_zero_or_one:=@Nat.mod_two_eq_zero_or_one
theorem aE:type_of% @Nat.mul_add:=@Nat.mul_add
theorem aF:type_of% @Nat.mul_assoc:=@Nat.mul_assoc
theorem aM:type_of% @Nat.mul_comm:=@Nat.mul_comm
theorem ef:type_of% @Nat.mul_le_mul:=@Nat.mul_le_mul
theorem bj:type_of% @Nat.mul_le_mul_left:=@Nat.mul_le_mul_left
theorem aT:type_of% @Nat.mul_le_mul_right:=@Nat.mul_le_mul_right
theorem dF:type_of% @Nat.mul_left_comm:=@Nat.mul_left_comm
theorem eO:type_of% @Nat.mul_lt_mul_of_pos_left:=@Nat.mul_lt_mul_of_pos_left
theorem dI:type_of% @Nat.mul_mod:=@Nat.mul_mod
theorem cE:type_of% @Nat.mul_one:=@Nat.mul_one
theorem cp:type_of% @Nat.mul_zero:=@Nat.mul_zero
theorem cy:type_of% @Nat.one_mul:=@Nat.one_mul
theorem eF:type_of% @Nat.pos_of_ne_zero:=@Nat.pos_of_ne_zero
theorem bU:type_of% @Nat.pow_add:=@Nat.pow_add
theorem aZ:type_of% @Nat.pow_le_pow_right:=@Nat.pow_le_pow_right
theorem cu:type_of% @Nat.pow_mul:=@Nat.pow_mul
theorem ew:type_of% @Nat.pow_pos:=@Nat.pow_pos
theorem bo:type_of% @Nat.pow_succ:=@Nat.pow_succ
theorem gB:type_of% @Nat.pow_zero:=@Nat.pow_zero
theorem f9:type_of% @Nat.sub_zero:=@Nat.sub_zero
theorem dA:type_of% @Nat.two_pow_pos:=@Nat.two_pow_pos
theorem bk:type_of% @Nat.zero_add:=@Nat.zero_add
theorem ft:type_of% @Nat.zero_le:=@Nat.zero_le
theorem jB:type_of% @Nat.zero_mod:=@Nat.zero_mod
theorem fu:type_of% @Nat.zero_mul:=@Nat.zero_mul
theorem iD:type_of% @Option.map_none:=@Option.map_none
theorem bO:type_of% @Option.map_some:=@Option.map_some
theorem et:type_of% @Option.some.inj:=@Option.some.inj
theorem dR:type_of% @Option.some.injEq:=@Option.some.injEq
theorem iu:type_of% @Prod.mk.injEq:=@Prod.mk.injEq
theorem fa:type_of% @UInt32.le_iff_toNat_le:=@UInt32.le_iff_toNat_le
theorem dv:type_of% @UInt32.lt_iff_toNat_lt:=@UInt32.lt_iff_toNat_lt
theorem cM:type_of% @UInt32.toNat_inj:=@UInt32.toNat_inj
theorem dr:type_of% @UInt32.toNat_ofNat':=@UInt32.toNat_ofNat'
theorem cL:type_of% @UInt64.le_iff_toNat_le:=@UInt64.le_iff_toNat_le
theorem bh:type_of% @UInt64.lt_iff_toNat_lt:=@UInt64.lt_iff_toNat_lt
theorem fQ:type_of% @UInt64.toNat_add:=@UInt64.toNat_add
theorem jh:type_of% @UInt64.toNat_and:=@UInt64.toNat_and
theorem fi:type_of% @UInt64.toNat_div:=@UInt64.toNat_div
theorem cx:type_of% @UInt64.toNat_inj:=@UInt64.toNat_inj
theorem dq:type_of% @UInt64.toNat_mod:=@UInt64.toNat_mod
theorem ja:type_of% @UInt64.toNat_mul:=@UInt64.toNat_mul
theorem bS:type_of% @UInt64.toNat_ofNat':=@UInt64.toNat_ofNat'
theorem jr:type_of% @UInt64.toNat_or:=@UInt64.toNat_or
theorem fj:type_of% @UInt64.toNat_sub:=@UInt64.toNat_sub
theorem eg:type_of% @UInt64.toNat_sub_of_le:=@UInt64.toNat_sub_of_le
theorem ic:type_of% @UInt64.toNat_toUInt8:=@UInt64.toNat_toUInt8
theorem dW:type_of% @UInt8.le_iff_toNat_le:=@UInt8.le_iff_toNat_le
theorem i6:type_of% @UInt8.lt_iff_toNat_lt:=@UInt8.lt_iff_toNat_lt
theorem dz:type_of% @UInt8.toNat_inj:=@UInt8.toNat_inj
theorem dZ:type_of% @UInt8.toNat_ofNat':=@UInt8.toNat_ofNat'
theorem cR:type_of% @beq_eq_false_iff_ne:=@beq_eq_false_iff_ne
theorem fo:type_of% @beq_iff_eq:=@beq_iff_eq
theorem d8:type_of% @beq_self_eq_true:=@beq_self_eq_true
theorem dC:type_of% @bne_iff_ne:=@bne_iff_ne
theorem dh:type_of% @bne_self_eq_false:=@bne_self_eq_false
theorem da:type_of% @congrArg:=@congrArg
theorem fV:type_of% @decide_eq_decide:=@decide_eq_decide
theorem au:type_of% @decide_eq_false:=@decide_eq_false
theorem iA:type_of% @decide_eq_false_iff_not:=@decide_eq_false_iff_not
theorem ai:type_of% @decide_eq_true:=@decide_eq_true
theorem ak:type_of% @decide_eq_true_eq:=@decide_eq_true_eq
theorem dg:type_of% @decide_false:=@decide_false
theorem gp:type_of% @decide_true:=@decide_true
theorem aj:type_of% @if_false:=@if_false
theorem ae:type_of% @if_neg:=@if_neg
theorem ag:type_of% @if_pos:=@if_pos
theorem al:type_of% @if_true:=@if_true
theorem iM:type_of% @ite_self:=@ite_self
theorem iW:type_of% @not_false_eq_true:=@not_false_eq_true
theorem bE:type_of% @or_false:=@or_false
def aw {τ:Type} (l:List τ) (i:Int):Option τ:=if 0<=i then l[i.toNat]? else none
theorem fO {τ:Type} {l:List τ} {i:Int} {x:τ} (h:aw l i=some x):0<=i/\i.toNat<l.length/\l[i.toNat]? = some x:=by
 unfold aw at h
 split at h
 ·exact⟨‹_›,(aP.1 h).1,h⟩
 ·cases h
theorem lj {τ:Type} (l:List τ) (i:Nat):aw l (i:Int)=l[i]?:=by
 simp[aw]
def slO {τ:Type} (l:List τ) (lo hi:Int):Option (List τ):=if 0<=lo/\lo<=hi/\hi.toNat<=l.length then some ((l.drop lo.toNat).take (hi.toNat - lo.toNat)) else none
theorem fY {τ:Type} {l r:List τ} {lo hi:Int} (h:slO l lo hi=some r):(0<=lo/\lo<=hi/\hi.toNat<=l.length)/\r=(l.drop lo.toNat).take (hi.toNat - lo.toNat):=by
 unfold slO at h
 split at h
 ·simp at h; exact⟨‹_›,h.symm⟩
 ·cases h
def drO {τ:Type} (l:List τ) (lo:Int):Option (List τ):=if 0<=lo/\lo.toNat<=l.length then some (l.drop lo.toNat) else none
theorem lC {τ:Type} {l r:List τ} {lo:Int} (h:drO l lo=some r):(0<=lo/\lo.toNat<=l.length)/\r=l.drop lo.toNat:=by
 unfold drO at h
 split at h
 ·simp at h; exact⟨‹_›,h.symm⟩
 ·cases h
def tkO {τ:Type} (l:List τ) (hi:Int):Option (List τ):=if 0<=hi/\hi.toNat<=l.length then some (l.take hi.toNat) else none
theorem oO {τ:Type} {l r:List τ} {hi:Int} (h:tkO l hi=some r):(0<=hi/\hi.toNat<=l.length)/\r=l.take hi.toNat:=by
 unfold tkO at h
 split at h
 ·simp at h; exact⟨‹_›,h.symm⟩
 ·cases h
theorem Iu {τ:Type} {l:List τ} {hi:Int} (h:0<=hi/\hi.toNat<=l.length):tkO l hi=some (l.take hi.toNat):=ag h
def mkO {τ:Type} (bytes:Nat) (l c:Int) (t0:τ):Option (List τ):=
 if 0<=l/\l<=c/\(bytes:Int)*c<=281474976710656/\c<=9223372036854775807 then some (List.replicate l.toNat t0) else none
theorem JM {τ:Type} {bytes:Nat} {l c:Int} {t0:τ} {r:List τ} (h:mkO bytes l c t0=some r) :
  r=List.replicate l.toNat t0/\0<=l/\l<=c/\(bytes:Int)*c<=281474976710656/\c<=9223372036854775807:=by
 unfold mkO at h
 split at h
 ·rename_i hc; simp at h; exact⟨h.symm,hc⟩
 ·cases h
def apO {τ:Type} (bytes:Nat) (l m:List τ):Option (List τ):=if (l.length+m.length)*bytes<=225000000000000 then some (l++m) else none
theorem q9 {τ:Type} {bytes:Nat} {l m r:List τ} (h:apO bytes l m=some r):r=l++m/\(l.length+m.length)*bytes<=225000000000000:=by
 unfold apO at h
 split at h
 ·simp at h; exact⟨h.symm,‹_›⟩
 ·cases h
def qe (x y:L01):Option L01:=if x.length+y.length<=9223372036854775807 then some (x++y) else none
def grd {ρ:Type} (p:Prop) [Decidable p] (k:Option ρ):Option ρ:=if p then k else none
theorem nD {ρ:Type} {p:Prop} [Decidable p] {k:Option ρ} {r:ρ} (h:grd p k=some r):p/\k=some r:=by
 unfold grd at h
 split at h
 ·exact⟨‹_›,h⟩
 ·cases h
@[simp] theorem grd_true {ρ:Type} {p:Prop} [Decidable p] (k:Option ρ) (h:p):grd p k=k:=by simp[grd,h]
def bv {α ρ:Type} (a:α) (k:α->Option ρ):Option ρ:=k a
theorem jo {α ρ:Type} {a:α} {k:α->Option ρ} {r:ρ} (h:bv a k=some r):∃x,a=x/\k x=some r:=⟨a,rfl,h⟩
abbrev af {α ρ:Type} (x:Option α) (k:α->Option ρ):Option ρ:=x.bind k
theorem cO {α ρ:Type} {x:Option α} {k:α->Option ρ} {r:ρ} (h:af x k=some r):∃a,x=some a/\k a=some r:=Option.bind_eq_some_iff.1 h
theorem cr {α ρ:Type} {x:Option α} {k:α->Option ρ} {r:ρ} {C:Prop} (h:af x k=some r) (f:∀a,x=some a->k a=some r->C):C:=by
 obtain⟨a,j,y⟩:=cO h
 exact f a j y
theorem sY {ρ:Type} {p:Prop} [Decidable p] {k:Option ρ} {r:ρ} {C:Prop} (h:grd p k=some r) (f:p->k=some r->C):C:=f (nD h).1 (nD h).2
theorem kH {α ρ:Type} {x:α} {k:α->Option ρ} {r:ρ} {C:Prop} (h:bv x k=some r) (f:∀a,x=a->k a=some r->C):C:=f x rfl h
theorem iq {ρ:Type} {b:Bool} {x y:Option ρ} {r:ρ} (h:(if b=true then x else y)=some r) (hb:b=true):x=some r:=by rw[ag hb]at h; exact h
theorem ir {ρ:Type} {b:Bool} {x y:Option ρ} {r:ρ} (h:(if b=true then x else y)=some r) (hb:b=false):y=some r:=by
 rw[ae (by rw[hb]; exact Bool.false_ne_true)]at h; exact h
def cpL {τ:Type} (l m:List τ) (lo hi:Nat):List τ:=l.take lo++m.take (hi - lo)++l.drop (lo+min m.length (hi - lo))
theorem jC {τ:Type} (l m:List τ) (lo hi:Nat) (j:lo<=hi) (k:hi<=l.length):(cpL l m lo hi).length=l.length:=by
 simp[cpL]; omega
def gW {α ρ:Type} (o:Option α) (x:Option ρ) (y:α->Option ρ):Option ρ:=match o with
 | none=>x
 | some a=>y a
theorem sU {α ρ:Type} {o:Option α} {x:Option ρ} {y:α->Option ρ} {r:ρ} (h:gW o x y=some r) (j:o=none):x=some r:=by subst j; exact h
theorem th {α ρ:Type} {o:Option α} {x:Option ρ} {y:α->Option ρ} {r:ρ} {a:α} (h:gW o x y=some r) (j:o=some a):y a=some r:=by subst j; exact h
def vwL (l:L01) (c:Nat×Nat):L01:=(l.drop c.1).take (c.2 - c.1)
def jS {σ ρ:Type} (f:σ->Option (σ⊕ρ)):Nat->σ->Option ρ
 | 0,_=>none
 | n+1,s=>match f s with
  | none=>none
  | some (.inl s')=>jS f n s'
  | some (.inr r)=>some r
theorem rW {σ ρ:Type} {f:σ->Option (σ⊕ρ)}:∀{n:Nat} {s:σ} {r:ρ},jS f n s=some r->∀{m:Nat},n<=m->jS f m s=some r
 | 0,_,_,h,_,_=>by simp[jS]at h
 | n+1,s,r,h,0,hm=>by omega
 | n+1,s,r,h,m+1,hm=>by
  simp only[jS]at h ⊢
  split at h
  ·cases h
  ·exact rW h (by omega)
  ·exact h
open Classical in
noncomputable def loop {σ ρ:Type} (f:σ->Option (σ⊕ρ)) (s:σ):Option ρ:=
 if h:∃n r,jS f n s=some r then some h.choose_spec.choose else none
theorem sa {σ ρ:Type} {f:σ->Option (σ⊕ρ)} {n:Nat} {s:σ} {r:ρ} (h:jS f n s=some r):loop f s=some r:=by
 have hx:∃n r,jS f n s=some r:=⟨n,r,h⟩
 unfold loop
 rw[dif_pos hx]
 have k:=hx.choose_spec.choose_spec
 have y:=rW k (Nat.le_max_left hx.choose n)
 have j:=rW h (Nat.le_max_right hx.choose n)
 rw[y]at j
 exact j
theorem rN {σ ρ:Type} {f:σ->Option (σ⊕ρ)} {s:σ} {r:ρ} (h:loop f s=some r):∃n,jS f n s=some r:=by
 unfold loop at h
 split at h
 ·rename_i hx
  simp only[dR]at h
  exact⟨_,h ▸ hx.choose_spec.choose_spec⟩
 ·cases h
theorem nJ {σ ρ:Type} (f:σ->Option (σ⊕ρ)) (s:σ):loop f s=match f s with
  | none=>none
  | some (.inl s')=>loop f s'
  | some (.inr r)=>some r:=by
 cases hl:loop f s with
 | some r=>
  obtain⟨n,hn⟩:=rN hl
  cases n with
  | zero=>simp[jS]at hn
  | succ n=>
   simp only[jS]at hn
   split at hn
   ·cases hn
   ·simp only[sa hn]
   ·simp[hn]
 | none=>
  cases hf:f s with
  | none=>rfl
  | some x=>
   cases x with
   | inl s'=>
    simp only
    cases hl':loop f s' with
    | none=>rfl
    | some r=>
     obtain⟨n,hn⟩:=rN hl'
     have:jS f (n+1) s=some r:=by simp[jS,hf,hn]
     rw[sa this]at hl
     cases hl
   | inr r=>
    have:jS f 1 s=some r:=by simp[jS,hf]
    rw[sa this]at hl
    cases hl
theorem bn {σ ρ:Type} {f:σ->Option (σ⊕ρ)} {s j:σ} (h:f s=some (.inl j)):loop f s=loop f j:=by rw[nJ,h]
theorem bD {σ ρ:Type} {f:σ->Option (σ⊕ρ)} {s:σ} {r:ρ} (h:f s=some (.inr r)):loop f s=some r:=by rw[nJ,h]
def bM {σ ρ:Type} (s:σ):Option (σ⊕ρ):=some (.inl s)
def bc {σ ρ:Type} (x:Option ρ):Option (σ⊕ρ):=x.map .inr
def lk {σ ρ:Type} (f:σ->Option (σ⊕ρ)) (k:Nat) (r:ρ):σ⊕ρ->Prop
 | .inl s=>jS f k s=some r
 | .inr r'=>r'=r
theorem jH {σ ρ:Type} {f:σ->Option (σ⊕ρ)} {k:Nat} {r:ρ} {s:σ} {x:σ⊕ρ} (h:bM s=some x) (j:lk f k r x):jS f k s=some r:=by
 cases h; exact j
theorem iV {σ ρ:Type} {f:σ->Option (σ⊕ρ)} {k:Nat} {r:ρ} {y:Option ρ} {x:σ⊕ρ} (h:bc y=some x) (j:lk f k r x):y=some r:=by
 cases y with
 | none=>cases h
 | some z=>cases h; rw[<-(j:z=r)]
theorem Mt {σ ρ:Type} {f:σ->Option (σ⊕ρ)} {k:Nat} {s:σ} {r:ρ} (h:jS f (k+1) s=some r):∃x,f s=some x/\lk f k r x:=by
 simp only[jS]at h
 split at h
 ·cases h
 ·rename_i j hs; exact⟨_,hs,h⟩
 ·rename_i y hs; exact⟨_,hs,by simpa [lk] using h⟩
theorem AO {σ ρ:Type} {f:σ->Option (σ⊕ρ)} (I:σ->Prop) (μ:σ->Nat) (R:σ->ρ->Prop) (k:∀s,I s->(∃j,f s=some (.inl j)/\I j/\μ j<μ s/\∀r,R j r->R s r)\/(∃r,f s=some (.inr r)/\R s r)) :
  ∀s,I s->∃r,loop f s=some r/\R s r:=by
 intro s
 generalize hn:μ s=n
 induction n using Nat.strongRecOn generalizing s with
 | _ n ih=>
  intro A
  rcases k s A with⟨j,y,z,B,G⟩ | ⟨r,y,z⟩
  ·obtain⟨r,J,N⟩:=ih (μ j) (hn ▸ B) j rfl z
   exact⟨r,by rw[bn y,J],G r N⟩
  ·exact⟨r,bD y,z⟩
end Go.Gk
end
section
namespace Go.Gk
open Go Go.RowKit
abbrev Env:=List (Nat×Value)
def Env.get:Env->Nat->Option Value
 | [],_=>none
 | (k,v) :: r,i=>bif Nat.beq k i then some v else Env.get r i
def Env.ev (L:Env):Operand->Option Value
 | .tmp t=>L.get t
 | .const v=>some v
 | .global g=>some (.pointer (some ⟨g,0,none⟩))
 | .func f=>some (.func (.func f) #[] #[])
def Env.evs (L:Env):List Operand->Option (List Value)
 | []=>some []
 | x :: r=>match L.ev x,Env.evs L r with
  | some v,some vs=>some (v :: vs)
  | _,_=>none
structure Rep (n:Nat) (L:Env) (a:Act):Prop where
 defers:a.defers=[]
 size:a.tmps.size=n
 get:∀i v,L.get i=some v->a.tmps[i]? = some v
theorem Rep.ev {n:Nat} {L:Env} {a:Act} {x:Operand} {v:Value} (h:Rep n L a) (hx:L.ev x=some v):a.eval x=v:=by
 cases x with
 | tmp t=>
  have:=h.get t v hx
  simp[Act.eval,this]
 | const u=>simpa [Env.ev,Act.eval] using hx
 | global g=>simpa [Env.ev,Act.eval] using hx
 | func f=>simpa [Env.ev,Act.eval] using hx
theorem Rep.evs {n:Nat} {L:Env} {a:Act} (h:Rep n L a):∀{xs:List Operand} {vs:List Value},L.evs xs=some vs->xs.map a.eval=vs
 | [],vs,hx=>by simp[Env.evs]at hx; simp[hx]
 | x :: r,vs,hx=>by
  simp only[Env.evs]at hx
  cases h1:L.ev x with
  | none=>simp[h1]at hx
  | some v=>
   cases h2:L.evs r with
   | none=>simp[h1,h2]at hx
   | some ws=>
    simp[h1,h2]at hx
    subst hx
    simp[h.ev h1,Rep.evs h h2]
theorem Rep.put {n:Nat} {L:Env} {a:Act} {d:Nat} {v:Value} (h:Rep n L a) (hd:Nat.blt d n=true):Rep n ((d,v) :: L) (a.put (some d) v):=by
 have j:d<n:=by simpa [fN] using hd
 refine⟨h.defers,by simp[Act.put,h.size],fun i u hi=>?_⟩
 simp only[Env.get]at hi
 by_cases hk:d=i
 ·subst hk
  simp at hi
  simp[Act.put,h.size,j,hi]
 ·have:Nat.beq d i=false:=by
   cases hb:Nat.beq d i with
   | false=>rfl
   | true=>exact absurd (bK hb) hk
  rw[this]at hi
  simp only[cond_false]at hi
  have:=h.get i u hi
  simp only[Act.put]
  rw[Array.getElem?_setIfInBounds_ne hk]
  exact this
def Env.Le:Env->Env->Prop
 | [],_=>True
 | (k,v) :: r,L=>L.get k=some v/\Env.Le r L
theorem Env.Le.get {L:Env}:∀{j:Env},j.Le L->∀i v,j.get i=some v->L.get i=some v
 | [],_,i,v,h=>by simp[Env.get]at h
 | (k,u) :: r,hle,i,v,h=>by
  obtain⟨y,z⟩:=hle
  simp only[Env.get]at h
  by_cases hk:Nat.beq k i=true
  ·rw[hk]at h
   simp only[cond_true,dR]at h
   subst h
   rw[<-bK hk]
   exact y
  ·simp only[hk]at h
   exact Env.Le.get z i v (by simpa using h)
theorem Rep.le {n:Nat} {L j:Env} {a:Act} (h:Rep n L a) (hl:j.Le L):Rep n j a:=
 ⟨h.defers,h.size,fun i v hi=>h.get i v (hl.get i v hi)⟩
section
variable {P:Program} {n:Nat} {Q:Exit->Act->World->Prop} {L:Env} {w:World}
def wpC (P:Program) (n:Nat) (c:Code) (Q:Exit->Act->World->Prop) (L:Env) (w:World):Prop:=∀a,Rep n L a->c.wp P Q a w
def wpR (P:Program) (n:Nat) (ops:Array Oper) (Q:Exit->Act->World->Prop) (l:List Oper) (L:Env) (w:World):Prop:=∀a,Rep n L a->wpList P ops Q l a w
def QE (n:Nat) (Q:Exit->Act->World->Prop) (e:Exit) (L:Env) (w:World):Prop:=∀a,Rep n L a->Q e a w
def wpN (P:Program) (n:Nat) (c:Code) (Q:Exit->Act->World->Prop) (k:Nat) (L:Env) (w:World):Prop:=∀a,Rep n L a->Code.rounds P c Q k a w
theorem kj {c:Code} (j:Env) (hl:j.Le L) (h:wpC P n c Q j w):wpC P n c Q L w:=fun a ha=>h a (ha.le hl)
theorem HT {c:Code} {k:Nat} (j:Env) (hl:j.Le L) (h:wpN P n c Q k j w):wpN P n c Q k L w:=fun a ha=>h a (ha.le hl)
theorem cJ {x y:Code} (h:wpC P n x (Exit.then (y.wp P Q) Q) L w):wpC P n (.seq x y) Q L w:=fun a ha=>wp_seq (h a ha)
theorem mS (h:QE n Q .normal L w):wpC P n .skip Q L w:=fun a ha=>wp_skip (h a ha)
theorem fv {id:Nat} (h:QE n Q (.exit id) L w):wpC P n (.exit id) Q L w:=fun a ha=>wp_exit (h a ha)
theorem gV (h:QE n Q .ret L w):wpC P n .ret Q L w:=fun a ha=>wp_ret (h a ha)
theorem AK {c:Operand} {x y:Code} {t:Bool} (hc:L.ev c=some (.bool t)) (j:t=true->wpC P n x Q L w) (hf:t=false->wpC P n y Q L w) :
  wpC P n (.cond c x y) Q L w:=fun a ha=>wp_cond_split (ha.ev hc) (fun h=>j h a ha) (fun h=>hf h a ha)
theorem jF {c:Operand} {x y:Code} (hc:L.ev c=some (.bool true)) (h:wpC P n x Q L w):wpC P n (.cond c x y) Q L w:=fun a ha=>wp_cond_true (ha.ev hc) (h a ha)
theorem sm {c:Operand} {x y:Code} (hc:L.ev c=some (.bool false)) (h:wpC P n y Q L w):wpC P n (.cond c x y) Q L w:=fun a ha=>wp_cond_false (ha.ev hc) (h a ha)
theorem cU {id:Nat} {c:Code} (h:wpC P n c (Exit.inBlock id Q) L w):wpC P n (.block id c) Q L w:=fun a ha=>wp_block (h a ha)
theorem zZ {c:Code} (k:Nat) (h:wpN P n c Q k L w):wpC P n (.loop c) Q L w:=fun a ha=>wp_loop_rounds k (h a ha)
theorem kK {c:Code} {k:Nat} (h:wpC P n c (Exit.then (Code.rounds P c Q k) Q) L w):wpN P n c Q (k+1) L w:=fun a ha=>by rw[rounds_succ]; exact h a ha
theorem bV {id:Nat} {l:List Oper} (h:wpR P n l.toArray Q l L w):wpC P n (.region id l.toArray false) Q L w:=fun a ha=>wp_region_lit (h a ha)
theorem bA {y:Code} (h:wpC P n y Q L w):QE n (Exit.then (y.wp P Q) Q) .normal L w:=h
theorem bB {K:Act->World->Prop} {id:Nat} (h:QE n Q (.exit id) L w):QE n (Exit.then K Q) (.exit id) L w:=h
theorem dS {K:Act->World->Prop} (h:QE n Q .ret L w):QE n (Exit.then K Q) .ret L w:=h
theorem jl {c:Code} {k:Nat} (h:wpN P n c Q k L w):QE n (Exit.then (Code.rounds P c Q k) Q) .normal L w:=h
theorem fg {id:Nat} (h:QE n Q .normal L w):QE n (Exit.inBlock id Q) .normal L w:=h
theorem eX {id:Nat} (h:QE n Q .ret L w):QE n (Exit.inBlock id Q) .ret L w:=h
theorem fw {id:Nat} (h:QE n Q .normal L w):QE n (Exit.inBlock id Q) (.exit id) L w:=fun a ha=>by
 show (if id=id then Q .normal a w else Q (.exit id) a w)
 rw[ag rfl]; exact h a ha
theorem dG {id j:Nat} (k:Nat.beq j id=false) (h:QE n Q (.exit j) L w):QE n (Exit.inBlock id Q) (.exit j) L w:=fun a ha=>by
 show (if j=id then Q .normal a w else Q (.exit j) a w)
 rw[ae (Nat.ne_of_beq_eq_false k)]; exact h a ha
theorem dB {ops:Array Oper} (h:QE n Q .normal L w):wpR P n ops Q [] L w:=h
theorem gl1 {ops:Array Oper} {x y:Code} (h:wpC P n x (Exit.then (y.wp P Q) Q) L w):wpR P n ops (Exit.then ((Code.seq x y).wp P Q) Q) [] L w:=dB (bA (cJ h))
theorem gl2 {ops:Array Oper} {id:Nat} {l:List Oper} {y:Code} (h:wpR P n l.toArray (Exit.then (y.wp P Q) Q) l L w):wpR P n ops (Exit.then ((Code.seq (.region id l.toArray false) y).wp P Q) Q) [] L w:=dB (bA (cJ (bV h)))
theorem gl3 {ops:Array Oper} {y:Code} (h:wpC P n y Q L w):wpR P n ops (Exit.then (y.wp P Q) Q) [] L w:=dB (bA h)
theorem gl4 {id:Nat} {l:List Oper} {y:Code} (h:wpR P n l.toArray (Exit.then (y.wp P Q) Q) l L w):wpC P n (.seq (.region id l.toArray false) y) Q L w:=cJ (bV h)
theorem gl5 {y:Code} (h:wpC P n y Q L w):wpC P n .skip (Exit.then (y.wp P Q) Q) L w:=mS (bA h)
theorem gl6 {id:Nat} {l:List Oper} {y:Code} (h:wpR P n l.toArray (Exit.then (y.wp P Q) Q) l L w):wpC P n .skip (Exit.then ((Code.seq (.region id l.toArray false) y).wp P Q) Q) L w:=mS (bA (cJ (bV h)))
theorem gl8 {ops:Array Oper} {K:Act->World->Prop} (h:QE n Q .ret L w):wpR P n ops (Exit.then (Code.ret.wp P (Exit.then K Q)) (Exit.then K Q)) [] L w:=dB (bA (gV (dS h)))
theorem Env.le_of:∀{j L:Env},j.map (fun p=>L.get p.1)=j.map (fun p=>some p.2)->j.Le L
 | [],_,_=>trivial
 | (k,v) :: r,L,h=>by
  rw[db,db]at h
  exact⟨(List.cons.inj h).1,Env.le_of (List.cons.inj h).2⟩
theorem il {c:Code} (j:Env) (hl:j.map (fun p=>L.get p.1)=j.map (fun p=>some p.2)) (h:wpC P n c Q j w):wpC P n c Q L w:=kj j (Env.le_of hl) h
theorem dm {c:Code} {j:Env} (h:wpC P n c Q j w) (hl:j.map (fun p=>L.get p.1)=j.map (fun p=>some p.2)):wpC P n c Q L w:=kj j (Env.le_of hl) h
theorem mx {c:Code} {k:Nat} {j:Env} (h:wpN P n c Q k j w) (hl:j.map (fun p=>L.get p.1)=j.map (fun p=>some p.2)):wpN P n c Q k L w:=HT j (Env.le_of hl) h
theorem gl9 {c:Operand} {x y:Code} {t:Bool} {ρ:Type} {A B:Option ρ} {r:ρ} (hc:L.ev c=some (.bool t)) (h:(if t=true then A else B)=some r) (j:A=some r->wpC P n x Q L w) (hf:B=some r->wpC P n y Q L w) :
  wpC P n (.cond c x y) Q L w:=AK hc (fun q=>j (iq h q)) (fun q=>hf (ir h q))
def OpV (P:Program) (n:Nat) (L:Env) (w:World) (o:Oper) (v:Value) (w':World):Prop:=
 ∀a,Rep n L a->(execOp a.eval o).run P w=.ok (.value v) w'
theorem aO {ops:Array Oper} {rest:List Oper} {d:Nat} {op:Op} {ty:TypeId} {pos:String} {after:Array Edge} {v:Value} {w':World}
  (j:OpV P n L w ⟨some d,op,ty,pos,after,none⟩ v w') (hd:Nat.blt d n=true)
  (h:wpR P n ops Q rest ((d,v) :: L) w'):wpR P n ops Q (⟨some d,op,ty,pos,after,none⟩ :: rest) L w:=fun a ha=>by
 unfold wpList
 rw[ag (by simp[Region.wanted])]
 refine .inl ?_
 unfold Oper.wp
 rw[j a ha]
 exact h _ (ha.put hd)
def OpS (P:Program) (n:Nat) (L:Env) (w:World) (o:Oper) (w':World):Prop:=
 ∀a,Rep n L a->(execOp a.eval o).run P w=.ok .skip w'
theorem Qu {ops:Array Oper} {rest:List Oper} {op:Op} {ty:TypeId} {pos:String} {after:Array Edge} {w':World}
  (j:OpS P n L w ⟨none,op,ty,pos,after,none⟩ w')
  (h:wpR P n ops Q rest L w'):wpR P n ops Q (⟨none,op,ty,pos,after,none⟩ :: rest) L w:=fun a ha=>by
 unfold wpList
 rw[ag (by simp[Region.wanted])]
 refine .inl ?_
 unfold Oper.wp
 rw[j a ha]
 exact h _ ha
theorem oR {w:World} {d:Option Tmp} {x:Operand} {v:Value} {ty:TypeId} {pos:String} {after:Array Edge} (hx:L.ev x=some v) :
  OpV P n L w ⟨d,.move x,ty,pos,after,none⟩ v w:=fun a ha=>by
 simp[execOp,ha.ev hx]
end
abbrev vI (x:Int):Value:=.int .i64 x
abbrev vB (b:Bool):Value:=.bool b
abbrev vS (l:List UInt8):Value:=.string ⟨⟨l⟩⟩
abbrev v8 (x:UInt8):Value:=.int .u8 (x.toNat:Int)
abbrev v32 (x:UInt32):Value:=.int .u32 (x.toNat:Int)
abbrev v64 (x:UInt64):Value:=.int .u64 (x.toNat:Int)
abbrev pP (a:Addr):Value:=.pointer (some a)
def wI (x:Int):Int:=IntKind.i64.wrap x
theorem Rg (x:Int):wI x=if x%18446744073709551616 >= 9223372036854775808 then x%18446744073709551616 - 18446744073709551616 else x%18446744073709551616:=by
 simp[wI,IntKind.wrap,IntKind.bits,IntKind.signed]
theorem aC {x:Int} (j:-9223372036854775808<=x) (k:x<=9223372036854775807):wI x=x:=by
 rw[Rg]; split <;> omega
def rt (x y:Int):Int:=wI ((BitVec.ofInt 64 x &&& BitVec.ofInt 64 y).toNat:Int)
def gU (x:Int) (n:Nat):Int:=wI (x*2^(min n 64))
def jw (x:Int) (n:Nat):Int:=x.fdiv (2^(min n 64))
section
variable {P:Program}
def cj (P:Program) (op:BinOp) (T:TypeId) (a b v:Value):Prop:=
 ∀(x y:Operand) (w:World),(do eqGuard op T x y a b; binOp op T a b:Sem Value).run P w=.ok v w
def UnR (P:Program) (op:UnOp) (a v:Value):Prop:=∀(w:World),(Op.unary op a).run P w=.ok v w
def np (P:Program) (src dst:TypeId) (a v:Value):Prop:=∀(w:World),(convert src dst a).run P w=.ok v w
variable {n:Nat} {L:Env} {w:World}
theorem bI {d:Option Tmp} {op:BinOp} {T T2:TypeId} {x y:Operand} {a b v:Value} {ty:TypeId} {pos:String} {after:Array Edge}
  (hx:L.ev x=some a) (j:L.ev y=some b) (h:cj P op T a b v):OpV P n L w ⟨d,.binOp op T x y T2,ty,pos,after,none⟩ v w:=fun k ha=>by
 have:=h x y w
 simp only[Sem.run_bind]at this
 simp[execOp,ha.ev hx,ha.ev j,Sem.run_bind]
 generalize (eqGuard op T x y a b).run P w=r at *
 cases r with
 | halt h w'=>simp[Result.andThen]at this
 | ok u w'=>simp[Result.andThen]at this ⊢; rw[this]
theorem GF {d:Option Tmp} {op:UnOp} {T:TypeId} {x:Operand} {a v:Value} {ty:TypeId} {pos:String} {after:Array Edge}
  (hx:L.ev x=some a) (h:UnR P op a v):OpV P n L w ⟨d,.unOp op T x,ty,pos,after,none⟩ v w:=fun j ha=>by
 simp[execOp,ha.ev hx,h w]
theorem fM {d:Option Tmp} {S T:TypeId} {x:Operand} {a v:Value} {ty:TypeId} {pos:String} {after:Array Edge}
  (hx:L.ev x=some a) (h:np P S T a v):OpV P n L w ⟨d,.convert S T x,ty,pos,after,none⟩ v w:=fun j ha=>by
 simp[execOp,ha.ev hx,h w]
theorem du {d:Option Tmp} {x:Operand} {v:Value} {ty:TypeId} {pos:String} {after:Array Edge} (hx:L.ev x=some v) :
  OpV P n L w ⟨d,.assign x,ty,pos,after,none⟩ v w:=fun a ha=>by
 simp[execOp,ha.ev hx]
theorem yg {d:Option Tmp} {c x y:Operand} {u:Value} {ty:TypeId} {pos:String} {after:Array Edge}
  (hc:L.ev c=some (vB true)) (hx:L.ev x=some u) :
  OpV P n L w ⟨d,.pick c x y,ty,pos,after,none⟩ u w:=fun a ha=>by
 simp[execOp,ha.ev hc,ha.ev hx,asBool]
theorem yN {d:Option Tmp} {c x y:Operand} {v:Value} {ty:TypeId} {pos:String} {after:Array Edge}
  (hc:L.ev c=some (vB false)) (j:L.ev y=some v) :
  OpV P n L w ⟨d,.pick c x y,ty,pos,after,none⟩ v w:=fun a ha=>by
 simp[execOp,ha.ev hc,ha.ev j,asBool]
theorem tP {d:Option Tmp} {x:Operand} {i:Nat} {vs:Array Value} {v:Value} {ty:TypeId} {pos:String} {after:Array Edge}
  (hx:L.ev x=some (.tuple vs)) (j:vs[i]? = some v) :
  OpV P n L w ⟨d,.extract x i,ty,pos,after,none⟩ v w:=fun a ha=>by
 simp[execOp,ha.ev hx,Instr.extract,j]
theorem ms (T:TypeId) (x y:Int):cj P .add T (vI x) (vI y) (vI (wI (x+y))):=fun _ _ _=>rfl
theorem mC (T:TypeId) (x y:Int):cj P .sub T (vI x) (vI y) (vI (wI (x - y))):=fun _ _ _=>rfl
theorem mw (T:TypeId) (x y:Int):cj P .mul T (vI x) (vI y) (vI (wI (x*y))):=fun _ _ _=>rfl
theorem GY (T:TypeId) (x y:Int) (h:¬y=0):cj P .quo T (vI x) (vI y) (vI (wI (x.tdiv y))):=fun _ _ _=>by
 simp[eqGuard,binOp,Op.intDiv,h,wI]
theorem Cc (T:TypeId) (x y:Int) (h:¬y=0):cj P .rem T (vI x) (vI y) (vI (x.tmod y)):=fun _ _ _=>by
 simp[eqGuard,binOp,Op.intDiv,h]
theorem Qb (T:TypeId) (x y:Int):cj P .and T (vI x) (vI y) (vI (rt x y)):=fun _ _ _=>rfl
theorem PF (T:TypeId) (x y:Int) (h:0<=y):cj P .shl T (vI x) (vI y) (vI (gU x y.toNat)):=fun _ _ _=>by
 have:¬y<0:=by omega
 simp[eqGuard,binOp,Op.shift,this,gU,wI,IntKind.bits]
theorem Kq (T:TypeId) (x:Int) (y:UInt64):cj P .shl T (vI x) (v64 y) (vI (gU x y.toNat)):=fun _ _ _=>by
 have:¬(y.toNat:Int)<0:=by omega
 simp[eqGuard,binOp,Op.shift,this,gU,wI,IntKind.bits]
theorem JT (T:TypeId) (x:Int) (y:UInt64):cj P .shr T (vI x) (v64 y) (vI (jw x y.toNat)):=fun _ _ _=>by
 have:¬(y.toNat:Int)<0:=by omega
 simp[eqGuard,binOp,Op.shift,this,jw,IntKind.bits]
theorem BG (T:TypeId) (x y:Int):cj P .eql T (vI x) (vI y) (vB (x == y)):=fun _ _ _=>rfl
theorem H1 (T:TypeId) (x y:Int):cj P .neq T (vI x) (vI y) (vB (x != y)):=fun _ _ _=>rfl
theorem lT (T:TypeId) (x y:Int):cj P .lss T (vI x) (vI y) (vB (decide (x<y))):=fun _ _ _=>rfl
theorem qu (T:TypeId) (x y:Int):cj P .leq T (vI x) (vI y) (vB (decide (x<=y))):=fun _ _ _=>rfl
theorem vr (T:TypeId) (x y:Int):cj P .gtr T (vI x) (vI y) (vB (decide (y<x))):=fun _ _ _=>rfl
theorem HE (T:TypeId) (x y:Int):cj P .geq T (vI x) (vI y) (vB (decide (y<=x))):=fun _ _ _=>rfl
theorem Po (x:Int):UnR P .neg (vI x) (vI (wI (0 - x))):=fun _=>rfl
theorem Lo (b:Bool):UnR P .not (vB b) (vB (!b)):=fun _=>rfl
theorem sk (l:List UInt8):(⟨⟨l⟩⟩:ByteArray).toList=l:=by
 exact Lib.toList_data _
def oM (x:UInt8) (n:Nat):UInt8:=UInt8.ofNat (x.toNat*2^(min n 8))
def oS (x:UInt8) (n:Nat):UInt8:=UInt8.ofNat (x.toNat / 2^(min n 8))
theorem n9 (x:Nat):IntKind.u8.wrap (x:Int)=((UInt8.ofNat x).toNat:Int):=by
 simp[IntKind.wrap,IntKind.bits,IntKind.signed,dZ]
theorem Nj (x:Int):IntKind.u8.wrap x=((UInt8.ofInt x).toNat:Int):=by
 simp[IntKind.wrap,IntKind.bits,IntKind.signed,UInt8.ofInt,dZ]
 omega
theorem bv8 (x:UInt8):BitVec.ofInt 8 (x.toNat:Int)=x.toBitVec:=by
 apply BitVec.eq_of_toNat_eq
 simp
theorem N5 (T:TypeId) (x y:UInt8):cj P .add T (v8 x) (v8 y) (v8 (x+y)):=fun _ _ w=>by
 have:(v8 (x+y))=.int .u8 (IntKind.u8.wrap ((x.toNat:Int)+y.toNat)):=by
  rw[show (x.toNat:Int)+y.toNat=((x.toNat+y.toNat:Nat):Int) by simp,n9]
  simp[v8,UInt8.toNat_add]
 rw[this]; rfl
theorem PU (T:TypeId) (x y:UInt8):cj P .sub T (v8 x) (v8 y) (v8 (x - y)):=fun _ _ w=>by
 have:(v8 (x - y))=.int .u8 (IntKind.u8.wrap ((x.toNat:Int) - y.toNat)):=by
  simp only[v8,Value.int.injEq,true_and,UInt8.toNat_sub]
  simp[IntKind.wrap,IntKind.bits,IntKind.signed]
  have:=x.toNat_lt; have:=y.toNat_lt
  omega
 rw[this]; rfl
theorem OM (T:TypeId) (x y:UInt8) (h:¬y=0):cj P .rem T (v8 x) (v8 y) (v8 (x%y)):=fun _ _ w=>by
 have j:¬(y.toNat:Int)=0:=fun e=>h (dz.1 (by simpa using e))
 have:((x.toNat:Int)).tmod y.toNat=((x%y).toNat:Int):=by rw[UInt8.toNat_mod]; rfl
 simp only[eqGuard,binOp,Op.intDiv,ae j,this]; rfl
theorem PD (T:TypeId) (x y:UInt8):cj P .and T (v8 x) (v8 y) (v8 (x &&& y)):=fun _ _ w=>by
 have:(v8 (x &&& y))=.int .u8 (IntKind.u8.wrap ((BitVec.ofInt 8 (x.toNat:Int) &&& BitVec.ofInt 8 (y.toNat:Int)).toNat:Int)):=by
  rw[bv8,bv8,n9]
  simp[v8]
 rw[this]; rfl
theorem zE (T:TypeId) (x y:UInt8):cj P .or T (v8 x) (v8 y) (v8 (x ||| y)):=fun _ _ w=>by
 have:(v8 (x ||| y))=.int .u8 (IntKind.u8.wrap ((BitVec.ofInt 8 (x.toNat:Int) ||| BitVec.ofInt 8 (y.toNat:Int)).toNat:Int)):=by
  rw[bv8,bv8,n9]
  simp[v8]
 rw[this]; rfl
theorem Ik (T:TypeId) (x y:UInt8):cj P .xor T (v8 x) (v8 y) (v8 (x ^^^ y)):=fun _ _ w=>by
 have:(v8 (x ^^^ y))=.int .u8 (IntKind.u8.wrap ((BitVec.ofInt 8 (x.toNat:Int) ^^^ BitVec.ofInt 8 (y.toNat:Int)).toNat:Int)):=by
  rw[bv8,bv8,n9]
  simp[v8]
 rw[this]; rfl
theorem GP (T:TypeId) (x y:UInt8):cj P .andNot T (v8 x) (v8 y) (v8 (x &&& ~~~ y)):=fun _ _ w=>by
 have:(v8 (x &&& ~~~ y))=.int .u8 (IntKind.u8.wrap ((BitVec.ofInt 8 (x.toNat:Int) &&& ~~~ BitVec.ofInt 8 (y.toNat:Int)).toNat:Int)):=by
  rw[bv8,bv8,n9,<-UInt8.toBitVec_not,<-UInt8.toBitVec_and,UInt8.toNat_toBitVec]
  simp only[v8,dZ,Value.int.injEq,true_and]
  exact_mod_cast (az (x &&& ~~~ y).toNat_lt).symm
 rw[this]; rfl
theorem Qa (T:TypeId) (k:IntKind) (x:UInt8) (y:Int) (h:0<=y):cj P .shl T (v8 x) (.int k y) (v8 (oM x y.toNat)):=fun _ _ w=>by
 have j:¬y<0:=by omega
 have:IntKind.u8.wrap ((x.toNat:Int)*2^(min y.toNat 8))=((oM x y.toNat).toNat:Int):=by
  rw[show (x.toNat:Int)*2^(min y.toNat 8)=((x.toNat*2^(min y.toNat 8):Nat):Int) by simp,n9]; rfl
 simp[eqGuard,binOp,Op.shift,j,IntKind.bits,this]
theorem G0 (T:TypeId) (k:IntKind) (x:UInt8) (y:Int) (h:0<=y):cj P .shr T (v8 x) (.int k y) (v8 (oS x y.toNat)):=fun _ _ w=>by
 have j:¬y<0:=by omega
 have:(x.toNat:Int).fdiv (2^(min y.toNat 8))=((oS x y.toNat).toNat:Int):=by
  rw[fT _ (Int.le_of_lt (Int.pow_pos (by omega)))]
  simp only[oS,dZ]
  have:=x.toNat_lt
  rw[az (dw (dy _ _) this)]
  simp
 simp[eqGuard,binOp,Op.shift,j,IntKind.bits,this]
theorem HO (T:TypeId) (x:UInt8) (y:UInt64):cj P .shl T (v8 x) (v64 y) (v8 (oM x y.toNat)):=by
 have:=Qa (P:=P) T .u64 x y.toNat (by omega); simpa using this
theorem Io (T:TypeId) (x:UInt8) (y:UInt64):cj P .shr T (v8 x) (v64 y) (v8 (oS x y.toNat)):=by
 have:=G0 (P:=P) T .u64 x y.toNat (by omega); simpa using this
theorem IU (T:TypeId) (x:UInt8) (y:Int) (h:0<=y):cj P .shr T (v8 x) (vI y) (v8 (oS x y.toNat)):=G0 T .i64 x y h
theorem PJ (T:TypeId) (x y:UInt8):cj P .eql T (v8 x) (v8 y) (vB (x == y)):=fun _ _ w=>by
 have:(x == y)=((x.toNat:Int) == (y.toNat:Int)):=by
  rw[cT]; simp[<-dz]; omega
 rw[this]; rfl
theorem N2 (T:TypeId) (x y:UInt8):cj P .neq T (v8 x) (v8 y) (vB (x != y)):=fun _ _ w=>by
 have:(x != y)=((x.toNat:Int) != (y.toNat:Int)):=by
  rw[cT]; simp[<-dz]; omega
 rw[this]; rfl
theorem Pq (T:TypeId) (x y:UInt8):cj P .lss T (v8 x) (v8 y) (vB (decide (x<y))):=fun _ _ w=>by
 have:decide (x<y)=decide ((x.toNat:Int)<(y.toNat:Int)):=by
  rw[cT]; simp[i6]
 rw[this]; rfl
theorem PO (T:TypeId) (x y:UInt8):cj P .leq T (v8 x) (v8 y) (vB (decide (x<=y))):=fun _ _ w=>by
 have:decide (x<=y)=decide ((x.toNat:Int)<=(y.toNat:Int)):=by
  rw[cT]; simp[dW]
 rw[this]; rfl
theorem PN (T:TypeId) (x y:UInt8):cj P .gtr T (v8 x) (v8 y) (vB (decide (y<x))):=fun _ _ w=>by
 have:decide (y<x)=decide ((y.toNat:Int)<(x.toNat:Int)):=by
  rw[cT]; simp[i6]
 rw[this]; rfl
theorem P1 (T:TypeId) (x y:UInt8):cj P .geq T (v8 x) (v8 y) (vB (decide (y<=x))):=fun _ _ w=>by
 have:decide (y<=x)=decide ((y.toNat:Int)<=(x.toNat:Int)):=by
  rw[cT]; simp[dW]
 rw[this]; rfl
def iP (x:UInt32) (n:Nat):UInt32:=UInt32.ofNat (x.toNat*2^(min n 32))
def dD (x:UInt32) (n:Nat):UInt32:=UInt32.ofNat (x.toNat / 2^(min n 32))
theorem mX (x:Nat):IntKind.u32.wrap (x:Int)=((UInt32.ofNat x).toNat:Int):=by
 simp[IntKind.wrap,IntKind.bits,IntKind.signed,dr]
theorem uo (x:UInt32):BitVec.ofInt 32 (x.toNat:Int)=x.toBitVec:=by
 apply BitVec.eq_of_toNat_eq
 simp
theorem Et (T:TypeId) (x y:UInt32):cj P .add T (v32 x) (v32 y) (v32 (x+y)):=fun _ _ w=>by
 have:(v32 (x+y))=.int .u32 (IntKind.u32.wrap ((x.toNat:Int)+y.toNat)):=by
  rw[show (x.toNat:Int)+y.toNat=((x.toNat+y.toNat:Nat):Int) by simp,mX]
  simp[v32,UInt32.toNat_add]
 rw[this]; rfl
theorem NU (T:TypeId) (x y:UInt32):cj P .sub T (v32 x) (v32 y) (v32 (x - y)):=fun _ _ w=>by
 have:(v32 (x - y))=.int .u32 (IntKind.u32.wrap ((x.toNat:Int) - y.toNat)):=by
  simp only[v32,Value.int.injEq,true_and,UInt32.toNat_sub]
  simp[IntKind.wrap,IntKind.bits,IntKind.signed]
  have:=x.toNat_lt; have:=y.toNat_lt
  omega
 rw[this]; rfl
theorem M5 (T:TypeId) (x y:UInt32):cj P .and T (v32 x) (v32 y) (v32 (x &&& y)):=fun _ _ w=>by
 have:(v32 (x &&& y))=.int .u32 (IntKind.u32.wrap ((BitVec.ofInt 32 (x.toNat:Int) &&& BitVec.ofInt 32 (y.toNat:Int)).toNat:Int)):=by
  rw[uo,uo,mX]
  simp[v32]
 rw[this]; rfl
theorem Ov (T:TypeId) (x y:UInt32):cj P .or T (v32 x) (v32 y) (v32 (x ||| y)):=fun _ _ w=>by
 have:(v32 (x ||| y))=.int .u32 (IntKind.u32.wrap ((BitVec.ofInt 32 (x.toNat:Int) ||| BitVec.ofInt 32 (y.toNat:Int)).toNat:Int)):=by
  rw[uo,uo,mX]
  simp[v32]
 rw[this]; rfl
theorem NH (T:TypeId) (x y:UInt32):cj P .xor T (v32 x) (v32 y) (v32 (x ^^^ y)):=fun _ _ w=>by
 have:(v32 (x ^^^ y))=.int .u32 (IntKind.u32.wrap ((BitVec.ofInt 32 (x.toNat:Int) ^^^ BitVec.ofInt 32 (y.toNat:Int)).toNat:Int)):=by
  rw[uo,uo,mX]
  simp[v32]
 rw[this]; rfl
theorem Dq (T:TypeId) (k:IntKind) (x:UInt32) (y:Int) (h:0<=y):cj P .shl T (v32 x) (.int k y) (v32 (iP x y.toNat)):=fun _ _ w=>by
 have j:¬y<0:=by omega
 have:IntKind.u32.wrap ((x.toNat:Int)*2^(min y.toNat 32))=((iP x y.toNat).toNat:Int):=by
  rw[show (x.toNat:Int)*2^(min y.toNat 32)=((x.toNat*2^(min y.toNat 32):Nat):Int) by simp,mX]; rfl
 simp[eqGuard,binOp,Op.shift,j,IntKind.bits,this]
theorem Ej (T:TypeId) (k:IntKind) (x:UInt32) (y:Int) (h:0<=y):cj P .shr T (v32 x) (.int k y) (v32 (dD x y.toNat)):=fun _ _ w=>by
 have j:¬y<0:=by omega
 have:(x.toNat:Int).fdiv (2^(min y.toNat 32))=((dD x y.toNat).toNat:Int):=by
  rw[fT _ (Int.le_of_lt (Int.pow_pos (by omega)))]
  simp only[dD,dr]
  have:=x.toNat_lt
  rw[az (dw (dy _ _) this)]
  simp
 simp[eqGuard,binOp,Op.shift,j,IntKind.bits,this]
theorem EF (T:TypeId) (x:UInt32) (y:UInt64):cj P .shl T (v32 x) (v64 y) (v32 (iP x y.toNat)):=by
 have:=Dq (P:=P) T .u64 x y.toNat (by omega); simpa using this
theorem oA (T:TypeId) (x:UInt32) (y:UInt64):cj P .shr T (v32 x) (v64 y) (v32 (dD x y.toNat)):=by
 have:=Ej (P:=P) T .u64 x y.toNat (by omega); simpa using this
theorem GX (T:TypeId) (x:UInt32) (y:Int) (h:0<=y):cj P .shl T (v32 x) (vI y) (v32 (iP x y.toNat)):=Dq T .i64 x y h
theorem Iq (T:TypeId) (x:UInt32) (y:Int) (h:0<=y):cj P .shr T (v32 x) (vI y) (v32 (dD x y.toNat)):=Ej T .i64 x y h
theorem DI (T:TypeId) (x y:UInt32):cj P .eql T (v32 x) (v32 y) (vB (x == y)):=fun _ _ w=>by
 have:(x == y)=((x.toNat:Int) == (y.toNat:Int)):=by
  rw[cT]; simp[<-cM]; omega
 rw[this]; rfl
theorem M4 (T:TypeId) (x y:UInt32):cj P .neq T (v32 x) (v32 y) (vB (x != y)):=fun _ _ w=>by
 have:(x != y)=((x.toNat:Int) != (y.toNat:Int)):=by
  rw[cT]; simp[<-cM]; omega
 rw[this]; rfl
theorem Nc (T:TypeId) (x y:UInt32):cj P .lss T (v32 x) (v32 y) (vB (decide (x<y))):=fun _ _ w=>by
 have:decide (x<y)=decide ((x.toNat:Int)<(y.toNat:Int)):=by
  rw[cT]; simp[dv]
 rw[this]; rfl
theorem MJ (T:TypeId) (x y:UInt32):cj P .leq T (v32 x) (v32 y) (vB (decide (x<=y))):=fun _ _ w=>by
 have:decide (x<=y)=decide ((x.toNat:Int)<=(y.toNat:Int)):=by
  rw[cT]; simp[fa]
 rw[this]; rfl
theorem NC (T:TypeId) (x y:UInt32):cj P .gtr T (v32 x) (v32 y) (vB (decide (y<x))):=fun _ _ w=>by
 have:decide (y<x)=decide ((y.toNat:Int)<(x.toNat:Int)):=by
  rw[cT]; simp[dv]
 rw[this]; rfl
theorem Nf (T:TypeId) (x y:UInt32):cj P .geq T (v32 x) (v32 y) (vB (decide (y<=x))):=fun _ _ w=>by
 have:decide (y<=x)=decide ((y.toNat:Int)<=(x.toNat:Int)):=by
  rw[cT]; simp[fa]
 rw[this]; rfl
theorem Mc (x:UInt32):UnR P .xor (v32 x) (v32 (~~~ x)):=fun _=>by
 have:(v32 (~~~ x))=.int .u32 (IntKind.u32.wrap ((BitVec.ofInt 32 IntKind.u32.max ^^^ BitVec.ofInt 32 (x.toNat:Int)).toNat:Int)):=by
  rw[uo,mX]
  have j:BitVec.ofInt 32 IntKind.u32.max=BitVec.allOnes 32:=by decide
  rw[j,BitVec.allOnes_xor,<-UInt32.toBitVec_not,UInt32.toNat_toBitVec]
  simp only[v32,dr,Value.int.injEq,true_and]
  exact_mod_cast (az (~~~ x).toNat_lt).symm
 rw[this]; rfl
def c8 (x:UInt64) (n:Nat):UInt64:=UInt64.ofNat (x.toNat*2^(min n 64))
def bb (x:UInt64) (n:Nat):UInt64:=UInt64.ofNat (x.toNat / 2^(min n 64))
theorem lZ (x:Nat):IntKind.u64.wrap (x:Int)=((UInt64.ofNat x).toNat:Int):=by
 simp[IntKind.wrap,IntKind.bits,IntKind.signed,bS]
theorem Kg (x:Int):IntKind.u64.wrap x=((UInt64.ofInt x).toNat:Int):=by
 simp[IntKind.wrap,IntKind.bits,IntKind.signed,UInt64.ofInt,bS]
 omega
theorem wC (x:UInt64):BitVec.ofInt 64 (x.toNat:Int)=x.toBitVec:=by
 apply BitVec.eq_of_toNat_eq
 simp
theorem DL (T:TypeId) (x y:UInt64):cj P .add T (v64 x) (v64 y) (v64 (x+y)):=fun _ _ w=>by
 have:(v64 (x+y))=.int .u64 (IntKind.u64.wrap ((x.toNat:Int)+y.toNat)):=by
  rw[show (x.toNat:Int)+y.toNat=((x.toNat+y.toNat:Nat):Int) by simp,lZ]
  simp[v64,fQ]
 rw[this]; rfl
theorem MU (T:TypeId) (x y:UInt64):cj P .sub T (v64 x) (v64 y) (v64 (x - y)):=fun _ _ w=>by
 have:(v64 (x - y))=.int .u64 (IntKind.u64.wrap ((x.toNat:Int) - y.toNat)):=by
  simp only[v64,Value.int.injEq,true_and,fj]
  simp[IntKind.wrap,IntKind.bits,IntKind.signed]
  have:=x.toNat_lt; have:=y.toNat_lt
  omega
 rw[this]; rfl
theorem Nt (T:TypeId) (x y:UInt64):cj P .mul T (v64 x) (v64 y) (v64 (x*y)):=fun _ _ w=>by
 have:(v64 (x*y))=.int .u64 (IntKind.u64.wrap ((x.toNat:Int)*y.toNat)):=by
  rw[show (x.toNat:Int)*y.toNat=((x.toNat*y.toNat:Nat):Int) by simp,lZ]
  simp[v64,ja]
 rw[this]; rfl
theorem ME (T:TypeId) (x y:UInt64) (h:¬y=0):cj P .quo T (v64 x) (v64 y) (v64 (x / y)):=fun _ _ w=>by
 have j:¬(y.toNat:Int)=0:=fun e=>h (cx.1 (by simpa using e))
 have:IntKind.u64.wrap (((x.toNat:Int)).tdiv y.toNat)=((x / y).toNat:Int):=by
  rw[show ((x.toNat:Int)).tdiv y.toNat=((x.toNat / y.toNat:Nat):Int) from rfl,lZ]
  rw[fi,bS,az (dw (dy _ _) x.toNat_lt)]
 simp only[eqGuard,binOp,Op.intDiv,ae j,this]; rfl
theorem Dx (T:TypeId) (x y:UInt64) (h:¬y=0):cj P .rem T (v64 x) (v64 y) (v64 (x%y)):=fun _ _ w=>by
 have j:¬(y.toNat:Int)=0:=fun e=>h (cx.1 (by simpa using e))
 have:((x.toNat:Int)).tmod y.toNat=((x%y).toNat:Int):=by rw[dq]; rfl
 simp only[eqGuard,binOp,Op.intDiv,ae j,this]; rfl
theorem NV (T:TypeId) (x y:UInt64):cj P .and T (v64 x) (v64 y) (v64 (x &&& y)):=fun _ _ w=>by
 have:(v64 (x &&& y))=.int .u64 (IntKind.u64.wrap ((BitVec.ofInt 64 (x.toNat:Int) &&& BitVec.ofInt 64 (y.toNat:Int)).toNat:Int)):=by
  rw[wC,wC,lZ]
  simp[v64]
 rw[this]; rfl
theorem PT (T:TypeId) (x y:UInt64):cj P .or T (v64 x) (v64 y) (v64 (x ||| y)):=fun _ _ w=>by
 have:(v64 (x ||| y))=.int .u64 (IntKind.u64.wrap ((BitVec.ofInt 64 (x.toNat:Int) ||| BitVec.ofInt 64 (y.toNat:Int)).toNat:Int)):=by
  rw[wC,wC,lZ]
  simp[v64]
 rw[this]; rfl
theorem Mp (T:TypeId) (x y:UInt64):cj P .xor T (v64 x) (v64 y) (v64 (x ^^^ y)):=fun _ _ w=>by
 have:(v64 (x ^^^ y))=.int .u64 (IntKind.u64.wrap ((BitVec.ofInt 64 (x.toNat:Int) ^^^ BitVec.ofInt 64 (y.toNat:Int)).toNat:Int)):=by
  rw[wC,wC,lZ]
  simp[v64]
 rw[this]; rfl
theorem Es (T:TypeId) (k:IntKind) (x:UInt64) (y:Int) (h:0<=y):cj P .shl T (v64 x) (.int k y) (v64 (c8 x y.toNat)):=fun _ _ w=>by
 have j:¬y<0:=by omega
 have:IntKind.u64.wrap ((x.toNat:Int)*2^(min y.toNat 64))=((c8 x y.toNat).toNat:Int):=by
  rw[show (x.toNat:Int)*2^(min y.toNat 64)=((x.toNat*2^(min y.toNat 64):Nat):Int) by simp,lZ]; rfl
 simp[eqGuard,binOp,Op.shift,j,IntKind.bits,this]
theorem DC (T:TypeId) (k:IntKind) (x:UInt64) (y:Int) (h:0<=y):cj P .shr T (v64 x) (.int k y) (v64 (bb x y.toNat)):=fun _ _ w=>by
 have j:¬y<0:=by omega
 have:(x.toNat:Int).fdiv (2^(min y.toNat 64))=((bb x y.toNat).toNat:Int):=by
  rw[fT _ (Int.le_of_lt (Int.pow_pos (by omega)))]
  simp only[bb,bS]
  have:=x.toNat_lt
  rw[az (dw (dy _ _) this)]
  simp
 simp[eqGuard,binOp,Op.shift,j,IntKind.bits,this]
theorem EU (T:TypeId) (x:UInt64) (y:UInt64):cj P .shl T (v64 x) (v64 y) (v64 (c8 x y.toNat)):=by
 have:=Es (P:=P) T .u64 x y.toNat (by omega); simpa using this
theorem Fs (T:TypeId) (x:UInt64) (y:UInt64):cj P .shr T (v64 x) (v64 y) (v64 (bb x y.toNat)):=by
 have:=DC (P:=P) T .u64 x y.toNat (by omega); simpa using this
theorem Hr (T:TypeId) (x:UInt64) (y:Int) (h:0<=y):cj P .shl T (v64 x) (vI y) (v64 (c8 x y.toNat)):=Es T .i64 x y h
theorem kE (T:TypeId) (x:UInt64) (y:Int) (h:0<=y):cj P .shr T (v64 x) (vI y) (v64 (bb x y.toNat)):=DC T .i64 x y h
theorem MZ (T:TypeId) (x y:UInt64):cj P .eql T (v64 x) (v64 y) (vB (x == y)):=fun _ _ w=>by
 have:(x == y)=((x.toNat:Int) == (y.toNat:Int)):=by
  rw[cT]; simp[<-cx]; omega
 rw[this]; rfl
theorem xo (T:TypeId) (x y:UInt64):cj P .neq T (v64 x) (v64 y) (vB (x != y)):=fun _ _ w=>by
 have:(x != y)=((x.toNat:Int) != (y.toNat:Int)):=by
  rw[cT]; simp[<-cx]; omega
 rw[this]; rfl
theorem Ep (T:TypeId) (x y:UInt64):cj P .lss T (v64 x) (v64 y) (vB (decide (x<y))):=fun _ _ w=>by
 have:decide (x<y)=decide ((x.toNat:Int)<(y.toNat:Int)):=by
  rw[cT]; simp[bh]
 rw[this]; rfl
theorem DW (T:TypeId) (x y:UInt64):cj P .gtr T (v64 x) (v64 y) (vB (decide (y<x))):=fun _ _ w=>by
 have:decide (y<x)=decide ((y.toNat:Int)<(x.toNat:Int)):=by
  rw[cT]; simp[bh]
 rw[this]; rfl
theorem L0 (T:TypeId) (x y:UInt64):cj P .geq T (v64 x) (v64 y) (vB (decide (y<=x))):=fun _ _ w=>by
 have:decide (y<=x)=decide ((y.toNat:Int)<=(x.toNat:Int)):=by
  rw[cT]; simp[cL]
 rw[this]; rfl
theorem Mz (x:UInt64):UnR P .neg (v64 x) (v64 (0 - x)):=fun _=>by
 have:(v64 (0 - x))=.int .u64 (IntKind.u64.wrap (0 - (x.toNat:Int))):=by
  simp only[v64,Value.int.injEq,true_and,fj]
  simp[IntKind.wrap,IntKind.bits,IntKind.signed]
  have:=x.toNat_lt
  omega
 rw[this]; rfl
theorem Hp {S T:TypeId} (hS:P.underlying S=some (.int .i64)) (hT:P.underlying T=some (.int .u8)) (x:Int):np P S T (vI x) (v8 (UInt8.ofInt x)):=fun w=>by
 have:IntKind.u8.wrap x=((UInt8.ofInt x).toNat:Int):=by rw[Nj]
 simp[convert,run_underlying hS,run_underlying hT,Conv.intToInt,this]
theorem oH {S T:TypeId} (hS:P.underlying S=some (.int .i64)) (hT:P.underlying T=some (.int .u64)) (x:Int):np P S T (vI x) (v64 (UInt64.ofInt x)):=fun w=>by
 have:IntKind.u64.wrap x=((UInt64.ofInt x).toNat:Int):=by rw[Kg]
 simp[convert,run_underlying hS,run_underlying hT,Conv.intToInt,this]
theorem P3 {S T:TypeId} (hS:P.underlying S=some (.int .u8)) (hT:P.underlying T=some (.int .i64)) (x:UInt8):np P S T (v8 x) (vI ((x.toNat:Int))):=fun w=>by
 have:IntKind.i64.wrap (x.toNat:Int)=(x.toNat:Int):=by have:=x.toNat_lt; exact aC (by omega) (by omega)
 simp[convert,run_underlying hS,run_underlying hT,Conv.intToInt,this]
theorem MW {S T:TypeId} (hS:P.underlying S=some (.int .u8)) (hT:P.underlying T=some (.int .u32)) (x:UInt8):np P S T (v8 x) (v32 (x.toUInt32)):=fun w=>by
 have:IntKind.u32.wrap (x.toNat:Int)=((x.toUInt32).toNat:Int):=by rw[mX]; simp
 simp[convert,run_underlying hS,run_underlying hT,Conv.intToInt,this]
theorem Ni {S T:TypeId} (hS:P.underlying S=some (.int .u8)) (hT:P.underlying T=some (.int .u64)) (x:UInt8):np P S T (v8 x) (v64 (x.toUInt64)):=fun w=>by
 have:IntKind.u64.wrap (x.toNat:Int)=((x.toUInt64).toNat:Int):=by rw[lZ]; simp
 simp[convert,run_underlying hS,run_underlying hT,Conv.intToInt,this]
theorem qv {S T:TypeId} (hS:P.underlying S=some (.int .u32)) (hT:P.underlying T=some (.int .u8)) (x:UInt32):np P S T (v32 x) (v8 (x.toUInt8)):=fun w=>by
 have:IntKind.u8.wrap (x.toNat:Int)=((x.toUInt8).toNat:Int):=by rw[n9]; simp
 simp[convert,run_underlying hS,run_underlying hT,Conv.intToInt,this]
theorem JN {S T:TypeId} (hS:P.underlying S=some (.int .u32)) (hT:P.underlying T=some (.int .u64)) (x:UInt32):np P S T (v32 x) (v64 (x.toUInt64)):=fun w=>by
 have:IntKind.u64.wrap (x.toNat:Int)=((x.toUInt64).toNat:Int):=by rw[lZ]; simp
 simp[convert,run_underlying hS,run_underlying hT,Conv.intToInt,this]
theorem Dw {S T:TypeId} (hS:P.underlying S=some (.int .u64)) (hT:P.underlying T=some (.int .i64)) (x:UInt64):np P S T (v64 x) (vI (wI (x.toNat:Int))):=fun w=>by
 have:IntKind.i64.wrap (x.toNat:Int)=wI (x.toNat:Int):=by rfl
 simp[convert,run_underlying hS,run_underlying hT,Conv.intToInt,this]
theorem kV {S T:TypeId} (hS:P.underlying S=some (.int .u64)) (hT:P.underlying T=some (.int .u8)) (x:UInt64):np P S T (v64 x) (v8 (x.toUInt8)):=fun w=>by
 have:IntKind.u8.wrap (x.toNat:Int)=((x.toUInt8).toNat:Int):=by rw[n9]; simp
 simp[convert,run_underlying hS,run_underlying hT,Conv.intToInt,this]
theorem KN {S T:TypeId} (hS:P.underlying S=some (.int .u64)) (hT:P.underlying T=some (.int .u32)) (x:UInt64):np P S T (v64 x) (v32 (x.toUInt32)):=fun w=>by
 have:IntKind.u32.wrap (x.toNat:Int)=((x.toUInt32).toNat:Int):=by rw[mX]; simp
 simp[convert,run_underlying hS,run_underlying hT,Conv.intToInt,this]
end
structure Enc (τ:Type) where
 sz:Nat
 cells:τ->List Value
 len:∀t,(cells t).length=sz
 one:∀t,∀u∈cells t,u.oneCell'=true
def e8:Enc UInt8:=⟨1,fun x=>[v8 x],fun _=>rfl,fun _ u h=>by simp at h; subst h; rfl⟩
def e32:Enc UInt32:=⟨1,fun x=>[v32 x],fun _=>rfl,fun _ u h=>by simp at h; subst h; rfl⟩
def e64:Enc UInt64:=⟨1,fun x=>[v64 x],fun _=>rfl,fun _ u h=>by simp at h; subst h; rfl⟩
def eI:Enc Int:=⟨1,fun x=>[vI x],fun _=>rfl,fun _ u h=>by simp at h; subst h; rfl⟩
def eS:Enc (List UInt8):=⟨1,fun x=>[vS x],fun _=>rfl,fun _ u h=>by simp at h; subst h; rfl⟩
structure SV where
 a:Option Addr
 n:Nat
 c:Nat
abbrev SV.v (s:SV):Value:=.slice s.a s.n s.c
def eV:Enc SV:=⟨1,fun x=>[x.v],fun _=>rfl,fun _ u h=>by simp at h; subst h; rfl⟩
abbrev Enc.fl {τ:Type} (e:Enc τ) (l:List τ):List Value:=l.flatMap e.cells
theorem Enc.fl_length {τ:Type} (e:Enc τ) (l:List τ):(e.fl l).length=l.length*e.sz:=by
 induction l with
 | nil=>simp[Enc.fl]
 | cons a r ih=>
  simp only[Enc.fl,dU,aQ,bY,e.len,aU]at ih ⊢
  omega
theorem Enc.fl_append {τ:Type} (e:Enc τ) (l m:List τ):e.fl (l++m)=e.fl l++e.fl m:=by simp[Enc.fl]
theorem Enc.fl_one {τ:Type} (e:Enc τ) (l:List τ):∀u∈e.fl l,u.oneCell'=true:=by
 intro u hu
 simp only[Enc.fl,je]at hu
 obtain⟨t,_,j⟩:=hu
 exact e.one t u j
theorem Enc.fl_drop {τ:Type} (e:Enc τ) (l:List τ) (k:Nat):e.fl (l.drop k)=(e.fl l).drop (k*e.sz):=by
 induction k generalizing l with
 | zero=>simp
 | succ k ih=>
  cases l with
  | nil=>simp[Enc.fl]
  | cons a r=>
   rw[List.drop_succ_cons,ih]
   simp only[Enc.fl,dU,aU,cy]
   rw[cw,<-fS,<-e.len a,List.drop_left]
theorem Enc.fl_take {τ:Type} (e:Enc τ) (l:List τ) (k:Nat):e.fl (l.take k)=(e.fl l).take (k*e.sz):=by
 induction k generalizing l with
 | zero=>simp[Enc.fl]
 | succ k ih=>
  cases l with
  | nil=>simp[Enc.fl]
  | cons a r=>
   rw[List.take_succ_cons]
   simp only[Enc.fl,dU,aU,cy]at ih ⊢
   rw[ih,cw (k*e.sz),List.take_append]
   simp[e.len,aA]
theorem Enc.fl_get {τ:Type} (e:Enc τ) (l:List τ) (i:Nat) (t:τ) (h:l[i]? = some t) (j:Nat) (k:j<e.sz):(e.fl l)[i*e.sz+j]? = (e.cells t)[j]?:=by
 have y:(e.fl l)[i*e.sz+j]? = ((e.fl l).drop (i*e.sz))[j]?:=by rw[dL]
 rw[y,<-e.fl_drop]
 have z:l.drop i=t :: l.drop (i+1):=by
  obtain⟨hi,A⟩:=aP.1 h
  rw[aS hi,A]
 rw[z]
 simp only[Enc.fl,dU]
 rw[List.getElem?_append_left (by rw[e.len]; exact k)]
def RO (w:World) {τ:Type} (e:Enc τ) (v:Value) (l:List τ):Prop:=
 ∃a c,v=.slice a l.length c/\l.length<=c/\(l≠[]->∃b off,a=some ⟨b,off,none⟩/\∀j u,(e.fl l)[j]? = some u->w.cell? ⟨b,off+j,none⟩=some u)
structure Fr (S:List Nat) (w w':World):Prop where
 os:w'.os=w.os
 tape:w'.tape=w.tape
 output:w'.output=w.output
 size:w.heap.size<=w'.heap.size
 block:∀k,k<w.heap.size->k ∉ S->w'.heap[k]? = w.heap[k]?
theorem Fr.refl (S:List Nat) (w:World):Fr S w w:=⟨rfl,rfl,rfl,ax _,fun _ _ _=>rfl⟩
theorem Fr.trans {S:List Nat} {a b c:World} (h:Fr S a b) (k:Fr S b c):Fr S a c:=
 ⟨k.os.trans h.os,k.tape.trans h.tape,k.output.trans h.output,ba h.size k.size,fun i hi hn=>(k.block i (aW hi h.size) hn).trans (h.block i hi hn)⟩
theorem Fr.step {S R:List Nat} {a b c:World} (h:Fr S a b) (k:Fr R b c) (y:∀x∈R,a.heap.size<=x\/x∈S):Fr S a c:=
 ⟨k.os.trans h.os,k.tape.trans h.tape,k.output.trans h.output,ba h.size k.size,fun i hi hn=>by
  refine (k.block i (aW hi h.size) fun hx=>?_).trans (h.block i hi hn)
  rcases y i hx with j | j
  ·omega
  ·exact hn j⟩
theorem Fr.mono {S R:List Nat} {a b:World} (h:Fr S a b) (hs:∀x∈S,x∈R):Fr R a b:=
 ⟨h.os,h.tape,h.output,h.size,fun k j hn=>h.block k j fun hx=>hn (hs k hx)⟩
theorem Fr.below {w w':World} (h:Fr [] w w'):Below w.heap.size w w':=⟨h.os,h.tape,h.output,h.size,fun k j=>h.block k j (by simp)⟩
theorem Fr.alloc (S:List Nat) (w:World) (o:Obj):Fr S w (w.alloc o):=⟨rfl,rfl,rfl,by simp,fun k j _=>heap_alloc_old w o k j⟩
theorem Fr.drew (S:List Nat) (w:World):Fr S w w.drew:=⟨rfl,rfl,rfl,ax _,fun _ _ _=>rfl⟩
theorem Fr.setRow (w:World) (g:Nat) (cs:Array Value):Fr [g] w (w.setRow g cs):=by
 refine⟨rfl,rfl,rfl,by simp[World.setRow],fun k _ hn=>setRow_other w g k cs (by simpa using hn)⟩
theorem Fr.cell {S:List Nat} {w w':World} (h:Fr S w w') {p:Addr} (hp:p.block<w.heap.size) (hs:p.block ∉ S):w'.cell? p=w.cell? p:=
 World.cell?_of_block (h.block p.block hp hs)
theorem mh {w:World} {p:Addr} {u:Value} (h:w.cell? p=some u):p.block<w.heap.size:=World.block_lt_of_cell? w p h
abbrev Ax (v:Value):Option Nat:=v.ownBlock
theorem RO.fr {S:List Nat} {w w':World} {τ:Type} {e:Enc τ} {v:Value} {l:List τ} (h:RO w e v l) (hf:Fr S w w') (hs:l≠[]->∀k∈S,Ax v≠some k):RO w' e v l:=by
 obtain⟨a,c,rfl,hc,A⟩:=h
 refine⟨a,c,rfl,hc,fun hl=>?_⟩
 obtain⟨b,off,rfl,y⟩:=A hl
 refine⟨b,off,rfl,fun j u B=>?_⟩
 have z:=y j u B
 rw[hf.cell (mh z) (fun hx=>hs hl _ hx rfl)]
 exact z
def RP (S:List Nat) (w:World) {τ:Type} (e:Enc τ) (v:Value) (l:List τ):Prop:=RO w e v l/\(l≠[]->∀k∈S,Ax v≠some k)
theorem RP.now {S:List Nat} {w w':World} {τ:Type} {e:Enc τ} {v:Value} {l:List τ} (h:RP S w e v l) (hf:Fr S w w'):RO w' e v l:=h.1.fr hf h.2
theorem RO.rp {w:World} {τ:Type} {e:Enc τ} {v:Value} {l:List τ} (h:RO w e v l):RP [] w e v l:=⟨h,by simp⟩
theorem RO.nil (w:World) {τ:Type} (e:Enc τ):RO w e (.slice none 0 0) ([]:List τ):=⟨none,0,rfl,ax _,fun h=>absurd rfl h⟩
def slV (v:Value) (sz lo hi:Nat):Value:=match v with
 | .slice a _ c=>.slice (if c=lo then a else a.map (·.add (lo*sz))) (hi - lo) (c - lo)
 | v=>v
def slV3 (v:Value) (sz lo hi m:Nat):Value:=match v with
 | .slice a _ _=>.slice (if m=lo then a else a.map (·.add (lo*sz))) (hi - lo) (m - lo)
 | v=>v
theorem iS (b off k:Nat):(⟨b,off,none⟩:Addr).add k=⟨b,off+k,none⟩:=by
 unfold Addr.add; split <;> simp_all
theorem RO.sub {w:World} {τ:Type} {e:Enc τ} {v:Value} {l:List τ} (h:RO w e v l) {lo hi:Nat} (N:lo<=hi) (O:hi<=l.length) :
  RO w e (slV v e.sz lo hi) ((l.drop lo).take (hi - lo)):=by
 obtain⟨a,c,rfl,hc,I⟩:=h
 have k:((l.drop lo).take (hi - lo)).length=hi - lo:=by simp; omega
 refine⟨if c=lo then a else a.map (·.add (lo*e.sz)),c - lo,by rw[k]; rfl,by rw[k]; omega,fun y=>?_⟩
 have hl:l≠[]:=by rintro rfl; simp at y
 have J:0<hi - lo:=by
  rcases bQ (hi - lo) with B | B
  ·rw[B]at y; simp at y
  ·exact B
 obtain⟨b,off,rfl,A⟩:=I hl
 have G:¬c=lo:=by omega
 refine⟨b,off+lo*e.sz,by simp[G,iS],fun j u z=>?_⟩
 rw[e.fl_take,e.fl_drop,bR]at z
 split at z
 ·rw[dL]at z
  have:=A _ _ z
  rw[dn]
  exact this
 ·cases z
theorem RO.sub3 {w:World} {τ:Type} {e:Enc τ} {v:Value} {l:List τ} (h:RO w e v l) {lo hi m:Nat} (N:lo<=hi) (O:hi<=l.length) (R:hi<=m) :
  RO w e (slV3 v e.sz lo hi m) ((l.drop lo).take (hi - lo)):=by
 obtain⟨a,c,rfl,hc,I⟩:=h
 have k:((l.drop lo).take (hi - lo)).length=hi - lo:=by simp; omega
 refine⟨if m=lo then a else a.map (·.add (lo*e.sz)),m - lo,by rw[k]; rfl,by rw[k]; omega,fun y=>?_⟩
 have hl:l≠[]:=by rintro rfl; simp at y
 have J:0<hi - lo:=by
  rcases bQ (hi - lo) with B | B
  ·rw[B]at y; simp at y
  ·exact B
 obtain⟨b,off,rfl,A⟩:=I hl
 have G:¬m=lo:=by omega
 refine⟨b,off+lo*e.sz,by simp[G,iS],fun j u z=>?_⟩
 rw[e.fl_take,e.fl_drop,bR]at z
 split at z
 ·rw[dL]at z
  have:=A _ _ z
  rw[dn]
  exact this
 ·cases z
def ixA (v:Value) (sz i:Nat):Addr:=match v with
 | .slice (some a) _ _=>a.add (i*sz)
 | _=>default
theorem RO.cellAt {w:World} {τ:Type} {e:Enc τ} {v:Value} {l:List τ} (h:RO w e v l) {i:Nat} {t:τ} (hi:l[i]? = some t) {j:Nat} (y:j<e.sz) {u:Value} (hu:(e.cells t)[j]? = some u) :
  w.cell? ((ixA v e.sz i).add j)=some u:=by
 obtain⟨a,c,rfl,hc,z⟩:=h
 have hl:l≠[]:=by rintro rfl; simp at hi
 obtain⟨b,off,rfl,k⟩:=z hl
 have:=k (i*e.sz+j) u (by rw[e.fl_get l i t hi j y]; exact hu)
 simp only[ixA,iS]
 rw[dn]
 exact this
theorem RO.cellAt0 {w:World} {τ:Type} {e:Enc τ} {v:Value} {l:List τ} (h:RO w e v l) {i:Nat} {t:τ} (hi:l[i]? = some t) {u:Value} (hu:e.cells t=[u]) :
  w.cell? (ixA v e.sz i)=some u:=by
 have k:e.sz=1:=by rw[<-e.len t,hu]; rfl
 have:=h.cellAt hi (j:=0) (by omega) (u:=u) (by rw[hu]; rfl)
 simpa [Addr.add] using this
def Row (w:World) (g:Nat) (cur:Array Value) (T:TypeId):Prop:=∃mk:Nat×Nat,w.heap[g]? = some (.cells cur T mk)/\(mk=(0,0)\/cur.size<=mk.1)
theorem Row.of {w:World} {g:Nat} {j:Array Value} {T:TypeId} (h:w.heap[g]? = some (.cells j T (0,0))):Row w g j T:=⟨_,h,.inl rfl⟩
theorem Row.new (w:World) (cs:Array Value) (T:TypeId):Row (w.alloc (.cells cs T)) w.heap.size cs T:=.of (heap_alloc_new w _)
theorem Row.lt {w:World} {g:Nat} {j:Array Value} {T:TypeId} (h:Row w g j T):g<w.heap.size:=by
 obtain⟨mk,h,_⟩:=h
 exact (cg.1 h).1
theorem Row.cell {w:World} {g:Nat} {k:Array Value} {T:TypeId} (h:Row w g k T) (j:Nat):w.cell? ⟨g,j,none⟩=k[j]?:=by
 obtain⟨mk,h,_⟩:=h
 exact cell_of_row w g j k T mk h
theorem Row.mv {w w':World} {g:Nat} {j:Array Value} {T:TypeId} (h:Row w g j T) (k:w'.heap[g]? = w.heap[g]?):Row w' g j T:=by
 obtain⟨mk,h,y⟩:=h
 exact⟨mk,k.trans h,y⟩
theorem Row.set {w:World} {g:Nat} {j:Array Value} {T:TypeId} (h:Row w g j T) (cs:Array Value) (hc:cs.size=j.size):Row (w.setRow g cs) g cs T:=by
 obtain⟨mk,h,k⟩:=h
 exact⟨mk,setRow_heap w g j cs T mk h,by rw[hc]; exact k⟩
theorem iZ (P:Program) (g o:Nat) (t:TypeId):∀(vs:List Value) (i:Nat) (j:Array Value) (w:World),Row w g j t->o+i+vs.length<=j.size->(∀v∈vs,v.oneCell'=true) ->
  (storeCells ⟨g,o,none⟩ vs i).run P w=.ok () (w.setRow g (j.toList.take (o+i)++vs++j.toList.drop (o+i+vs.length)).toArray)
 | [],i,j,w,hr,_,_=>by
  obtain⟨fz,hg,_⟩:=hr
  simp only[storeCells,bP,dK,bm,cD,Array.toArray_toList]
  rw[setRow_self w g j t fz hg]
  rfl
 | v :: rest,i,j,w,hr,hl,h1=>by
  have hi:o+i<j.size:=by simp at hl; omega
  have z:(⟨g,o,none⟩:Addr).add i=⟨g,o+i,none⟩:=by unfold Addr.add; split <;> simp_all
  have B:=hr.set (j.setIfInBounds (o+i) v) (by simp)
  obtain⟨fz,hg,k⟩:=hr
  have y:w.cell? ⟨g,o+i,none⟩=some j[o+i]:=by simp[World.cell?,hg,hi]
  have A:w.frozen? ⟨g,o+i,none⟩=false:=by
   rcases k with rfl | k
   ·simp[World.frozen?,hg]
   ·obtain⟨lo,J⟩:=fz
    simp only[World.frozen?,hg,Bool.and_eq_false_iff,iA]
    left
    simp only at k
    omega
  have G:(store ((⟨g,o,none⟩:Addr).add i) v).run P w=.ok () (w.setRow g (j.setIfInBounds (o+i) v)):=by
   rw[z,run_store P w _ v _ (h1 v (by simp)),y]
   simp[A,setCell_eq_setRow w g (o+i) j t fz v hg]
  have I:=iZ P g o t rest (i+1) (j.setIfInBounds (o+i) v) (w.setRow g (j.setIfInBounds (o+i) v)) B (by simp at hl ⊢; omega) (fun x hx=>h1 x (by simp[hx]))
  simp only[storeCells,Sem.run_bind,G,Result.andThen_ok,I,setRow_setRow]
  congr 3
  have e:=list_seg_step j.toList (o+i) v rest (by simp at hl ⊢; omega)
  simpa [Array.toList_setIfInBounds,dn] using e
inductive OE where
 | sl (v:Value) (sz n:Nat) (cs:List Value)
 | rd (v:Value) (sz n:Nat) (cs:List Value)
 | bx (b:Nat) (cs:List Value)
def OE.blk:OE->Option Nat
 | .sl v _ _ _=>Ax v
 | .rd v _ n _=>if n=0 then none else Ax v
 | .bx b _=>some b
def fre (S:List Nat) (B b:Nat):Prop:=B<=b\/b∈S
def OE.ok (S:List Nat) (B:Nat) (w:World):OE->Prop
 | .sl v sz n cs=>cs.length=n*sz/\((v=.slice none 0 0/\n=0) \/
   ∃g cap cur T,v=.slice (some ⟨g,0,none⟩) n cap/\fre S B g/\Row w g cur T/\n<=cap/\cap<=maxLen/\cap*sz<=cur.size/\cur.toList.take (n*sz)=cs)
 | .rd v sz n cs=>cs.length=n*sz/\∃a c,v=.slice a n c/\n<=c /\
   (n≠0->∃b off,a=some ⟨b,off,none⟩/\b<w.heap.size/\fre S B b/\∀j u,cs[j]? = some u->w.cell? ⟨b,off+j,none⟩=some u)
 | .bx b cs=>fre S B b/\∃T cur,w.heap[b]? = some (.cells cur T (0,0))/\cur.toList=cs
theorem OE.ok.lt {S:List Nat} {B:Nat} {w:World} {o:OE} (h:o.ok S B w) {k:Nat} (j:o.blk=some k):k<w.heap.size/\fre S B k:=by
 cases o with
 | sl v sz n cs=>
  rcases h.2 with⟨rfl,_⟩ | ⟨g,z,y,T,rfl,hf,hg,_⟩
  ·simp[OE.blk,Value.ownBlock]at j
  ·simp[OE.blk,Value.ownBlock]at j
   subst j
   exact⟨hg.lt,hf⟩
 | rd v sz n cs=>
  obtain⟨_,a,c,rfl,_,hx⟩:=h
  simp only[OE.blk]at j
  split at j
  ·cases j
  ·rename_i hn
   obtain⟨b,off,rfl,hb,hf,_⟩:=hx hn
   simp[Value.ownBlock]at j
   subst j
   exact⟨hb,hf⟩
 | bx b cs=>
  obtain⟨hf,T,y,hg,_⟩:=h
  simp[OE.blk]at j
  subst j
  exact⟨(cg.1 hg).1,hf⟩
theorem OE.ok.fr {S R:List Nat} {B:Nat} {w w':World} {o:OE} (h:o.ok S B w) (hf:Fr R w w') (I:∀k∈R,o.blk≠some k):o.ok S B w':=by
 cases o with
 | sl v sz n cs=>
  refine⟨h.1,?_⟩
  rcases h.2 with hn | ⟨g,N,y,T,rfl,z,hg,rest⟩
  ·exact .inl hn
  ·exact .inr ⟨g,N,y,T,rfl,z,hg.mv (hf.block g hg.lt (fun hx=>I g hx rfl)),rest⟩
 | rd v sz n cs=>
  obtain⟨hl,a,c,rfl,hc,A⟩:=h
  refine⟨hl,a,c,rfl,hc,fun G=>?_⟩
  obtain⟨b,off,rfl,O,J,hh⟩:=A G
  refine⟨b,off,rfl,aW O hf.size,J,fun j u X=>?_⟩
  have U:=hh j u X
  rw[hf.cell (mh U) (fun hx=>I _ hx (by simp[OE.blk,G,Value.ownBlock]))]
  exact U
 | bx b cs=>
  obtain⟨z,T,y,hg,V⟩:=h
  refine⟨z,T,y,?_,V⟩
  rw[hf.block b (cg.1 hg).1 (fun hx=>I b hx rfl)]
  exact hg
def OE.dj (o p:OE):Prop:=∀k,o.blk=some k->p.blk≠some k
theorem OE.dj.symm {o p:OE} (h:o.dj p):p.dj o:=fun k hp j=>h k j hp
structure St (S:List Nat) (w0 w:World) (os:List OE):Prop where
 fr:Fr S w0 w
 ok:∀o∈os,o.ok S w0.heap.size w
 dj:os.Pairwise OE.dj
theorem St.start (w:World):St [] w w []:=⟨Fr.refl _ _,by simp,List.Pairwise.nil⟩
theorem St.step {S:List Nat} {w0 w w':World} {os:List OE} (h:St S w0 w os) (hf:Fr [] w w'):St S w0 w' os:=
 ⟨h.fr.step hf (by simp),fun o j=>(h.ok o j).fr hf (by simp),h.dj⟩
theorem St.push {S:List Nat} {w0 w w':World} {os:List OE} (h:St S w0 w os) (hf:Fr [] w w') {o:OE} (y:o.ok S w0.heap.size w') (hn:∀k,o.blk=some k->w.heap.size<=k):St S w0 w' (o :: os):=by
 refine⟨h.fr.step hf (by simp),?_,?_⟩
 ·intro p hp
  rcases aG.1 hp with rfl | hp
  ·exact y
  ·exact (h.ok p hp).fr hf (by simp)
 ·refine List.Pairwise.cons (fun p hp k z j=>?_) h.dj
  have:=(h.ok p hp).lt j
  have:=hn k z
  omega
theorem St.set {S:List Nat} {w0 w w':World} {os:List OE} (h:St S w0 w os) {i:Nat} {o o':OE} (hi:os[i]? = some o) (hf:Fr o.blk.toList w w') (ho:o'.ok S w0.heap.size w')
  (hn:∀k,o'.blk=some k->o.blk=some k\/w.heap.size<=k):St S w0 w' (os.set i o'):=by
 have Y:=bd hi
 refine⟨h.fr.step hf fun x hx=>?_,?_,?_⟩
 ·cases hb:o.blk with
  | none=>rw[hb]at hx; simp at hx
  | some k=>
   rw[hb]at hx
   simp at hx
   subst hx
   exact ((h.ok o Y).lt hb).2
 ·intro p hp
  obtain⟨j,A⟩:=List.getElem?_of_mem hp
  rw[gm]at A
  split at A
  ·split at A
   ·simp at A; subst A; exact ho
   ·cases A
  ·rename_i Z
   refine (h.ok p (bd A)).fr hf fun k z hb=>?_
   have hd:∀x y (hx:x<os.length) (G:y<os.length),x<y->(os[x]).dj (os[y]):=ff.1 h.dj
   obtain⟨J,B⟩:=aP.1 hi
   obtain⟨U,V⟩:=aP.1 A
   have X:o.blk=some k:=by
    cases hbk:o.blk with
    | none=>rw[hbk]at z; simp at z
    | some q=>rw[hbk]at z; simp at z; rw[z]
   rcases Nat.lt_or_gt_of_ne Z with N | N
   ·have:=hd i j J U N; rw[B,V]at this; exact this k X hb
   ·have:=hd j i U J N; rw[B,V]at this; exact this k hb X
 ·rw[ff]
  intro x y hx G O
  have hd:∀x y (hx:x<os.length) (G:y<os.length),x<y->(os[x]).dj (os[y]):=ff.1 h.dj
  obtain⟨J,B⟩:=aP.1 hi
  simp only[dJ]at hx G
  rw[List.getElem_set,List.getElem_set]
  split
  ·split
   ·omega
   ·rename_i h1 h2
    subst h1
    intro k z I
    rcases hn k z with R | R
    ·have:=hd i y hx G O; rw[B]at this; exact this k R I
    ·have:=((h.ok _ (cV G)).lt I).1; omega
  ·split
   ·rename_i h1 h2
    subst h2
    intro k z I
    rcases hn k I with R | R
    ·have:=hd x i hx G O; rw[B]at this; exact this k z R
    ·have:=((h.ok _ (cV hx)).lt z).1; omega
   ·exact hd x y hx G O
theorem St.sub {S:List Nat} {w0 w:World} {os os':List OE} (h:St S w0 w os) (hs:os'.Sublist os):St S w0 w os':=
 ⟨h.fr,fun o j=>h.ok o (hs.subset j),h.dj.sublist hs⟩
abbrev own {τ:Type} (e:Enc τ) (v:Value) (l:List τ):OE:=.sl v e.sz l.length (e.fl l)
abbrev red {τ:Type} (e:Enc τ) (v:Value) (l:List τ):OE:=.rd v e.sz l.length (e.fl l)
theorem OE.ok.ro {S:List Nat} {B:Nat} {w:World} {τ:Type} {e:Enc τ} {v:Value} {l:List τ} (h:(own e v l).ok S B w):RO w e v l:=by
 rcases h.2 with⟨rfl,hn⟩ | ⟨g,z,G,T,rfl,I,hg,A,J,N,k⟩
 ·have:l=[]:=bp hn
  subst this
  exact RO.nil w e
 ·refine⟨_,z,rfl,A,fun _=>⟨g,0,rfl,fun j u y=>?_⟩⟩
  rw[<-k,bR]at y
  split at y
  ·rw[bk,hg.cell j]
   simpa using y
  ·cases y
theorem OE.ok.rro {S:List Nat} {B:Nat} {w:World} {τ:Type} {e:Enc τ} {v:Value} {l:List τ} (h:(red e v l).ok S B w):RO w e v l:=by
 obtain⟨_,a,c,rfl,hc,j⟩:=h
 refine⟨a,c,rfl,hc,fun hl=>?_⟩
 obtain⟨b,off,k,_,_,y⟩:=j (by simpa using hl)
 exact⟨b,off,k,y⟩
theorem St.ro {S:List Nat} {w0 w:World} {os:List OE} (h:St S w0 w os) (i:Nat) {τ:Type} {e:Enc τ} {v:Value} {l:List τ} (hi:os[i]? = some (own e v l)):RO w e v l:=
 (h.ok _ (bd hi)).ro
theorem St.rro {S:List Nat} {w0 w:World} {os:List OE} (h:St S w0 w os) (i:Nat) {τ:Type} {e:Enc τ} {v:Value} {l:List τ} (hi:os[i]? = some (red e v l)):RO w e v l:=
 (h.ok _ (bd hi)).rro
section
variable {P:Program} {n:Nat} {L:Env} {w:World} {Q:Exit->Act->World->Prop}
variable {d:Option Tmp} {ty:TypeId} {pos:String} {after:Array Edge}
theorem qi (l:List UInt8):(⟨⟨l⟩⟩:ByteArray).size=l.length:=rfl
def TI (P:Program) (E:TypeId) (z:Value) (sz bytes:Nat):Prop:=(P.info? E).map (fun i=>(i.zero,i.size,i.bytes))=some (some z,sz,bytes)
theorem TI.get {E:TypeId} {z:Value} {j bytes:Nat} (h:TI P E z j bytes):∃i,P.info? E=some i/\i.zero=some z/\i.size=j/\i.bytes=bytes:=by
 unfold TI at h
 cases hi:P.info? E with
 | none=>rw[hi]at h; cases h
 | some i=>
  rw[hi]at h
  simp only[bO,dR,iu]at h
  exact⟨i,rfl,h.1,h.2.1,h.2.2⟩
def OpX (P:Program) (n:Nat) (L:Env) (w:World) (o:Oper) (Φ:Value->World->Prop):Prop:=∃v w',OpV P n L w o v w'/\Φ v w'
theorem kP {ops:Array Oper} {rest:List Oper} {d:Nat} {op:Op} {Φ:Value->World->Prop}
  (j:OpX P n L w ⟨some d,op,ty,pos,after,none⟩ Φ) (hd:Nat.blt d n=true)
  (h:∀v w',Φ v w'->wpR P n ops Q rest ((d,v) :: L) w'):wpR P n ops Q (⟨some d,op,ty,pos,after,none⟩ :: rest) L w:=by
 obtain⟨v,w',k,y⟩:=j
 exact aO k hd (h v w' y)
theorem qh {ops:Array Oper} {rest:List Oper} {d:Nat} {op:Op} {α:Type} {V:α->Value} {R:α->World->Prop}
  (j:OpX P n L w ⟨some d,op,ty,pos,after,none⟩ fun v w'=>∃a,v=V a/\R a w') (hd:Nat.blt d n=true)
  (h:∀a w',R a w'->wpR P n ops Q rest ((d,V a) :: L) w'):wpR P n ops Q (⟨some d,op,ty,pos,after,none⟩ :: rest) L w:=
 kP j hd fun v w' ⟨a,e,k⟩=>by subst e; exact h a w' k
def OpY (P:Program) (n:Nat) (L:Env) (w:World) (o:Oper) (Φ:World->Prop):Prop:=∃w',OpS P n L w o w'/\Φ w'
theorem ii {ops:Array Oper} {rest:List Oper} {op:Op} {Φ:World->Prop}
  (j:OpY P n L w ⟨none,op,ty,pos,after,none⟩ Φ)
  (h:∀w',Φ w'->wpR P n ops Q rest L w'):wpR P n ops Q (⟨none,op,ty,pos,after,none⟩ :: rest) L w:=by
 obtain⟨w',k,y⟩:=j
 exact Qu k (h w' y)
theorem gx {x:Operand} {T E:TypeId} {τ:Type} {e:Enc τ} {v:Value} {l:List τ} (hT:P.underlying T=some (.slice E)) (hx:L.ev x=some v) (h:RO w e v l) :
  OpV P n L w ⟨d,.call ⟨.builtin .len,#[x],#[T]⟩,ty,pos,after,none⟩ (vI l.length) w:=fun a ha=>by
 obtain⟨b,c,rfl,_⟩:=h
 simp[execOp,resolve,invoke,builtin,Builtin.len_,ha.ev hx,run_underlying hT,goInt]
theorem B7 {x:Operand} {T:TypeId} {l:List UInt8} (hT:P.underlying T=some .string) (hx:L.ev x=some (vS l)) :
  OpV P n L w ⟨d,.call ⟨.builtin .len,#[x],#[T]⟩,ty,pos,after,none⟩ (vI l.length) w:=fun a ha=>by
 simp[execOp,resolve,invoke,builtin,Builtin.len_,ha.ev hx,run_underlying hT,goInt,qi]
theorem CS {T E:TypeId} {k:IntKind} {i:Int} {τ:Type} {e:Enc τ} {v:Value} {l:List τ} {z:Value} {bytes:Nat} (hT:P.underlying T=some (.slice E)) (hE:TI P E z e.sz bytes)
  (h:RO w e v l) (j:0<=i) (y:i.toNat<l.length):(Instr.indexAt T v (.int k i)).run P w=.ok (pP (ixA v e.sz i.toNat)) w:=by
 obtain⟨a,c,rfl,hc,A⟩:=h
 obtain⟨b,off,rfl,_⟩:=A (by rintro rfl; simp at y)
 obtain⟨G,hi,_,hs,_⟩:=hE.get
 have B:i<l.length:=by omega
 simp[Instr.indexAt,asIntOf,run_underlying hT,j,B,sizeOf,typeInfo,hi,hs,ixA]
theorem O4 {x y:Operand} {T E:TypeId} {k:IntKind} {i:Int} {τ:Type} {e:Enc τ} {v:Value} {l:List τ} {z:Value} {bytes:Nat} (hT:P.underlying T=some (.slice E)) (hE:TI P E z e.sz bytes)
  (hx:L.ev x=some v) (j:L.ev y=some (.int k i)) (h:RO w e v l) (A:0<=i) (B:i.toNat<l.length) :
  OpV P n L w ⟨d,.indexAddr T x y,ty,pos,after,none⟩ (pP (ixA v e.sz i.toNat)) w:=fun a ha=>by
 simp[execOp,ha.ev hx,ha.ev j,CS (k:=k) hT hE h A B]
theorem Bi {x:Operand} {T:TypeId} {D:TypeDesc} {p:Addr} {u:Value} (hT:P.underlying T=some D) (j:(match D with | .struct _ | .array _ _=>true | _=>false)=false)
  (hx:L.ev x=some (pP p)) (h:w.cell? p=some u) :
  OpV P n L w ⟨d,.load T x,ty,pos,after,none⟩ u w:=fun a ha=>by
 have:(isAgg T).run P w=.ok false w:=by
  simp only[isAgg,Sem.run_bind,run_underlying hT,Result.andThen_ok]
  cases D <;> simp_all
 simp[execOp,ha.ev hx,Instr.loadAt,Instr.sureAddr,loadVar,this,load,Sem.run,h]
theorem G4 {x:Operand} {T:TypeId} {D:TypeDesc} {τ:Type} {e:Enc τ} {v:Value} {l:List τ} {i:Nat} {t:τ} {u:Value} (hT:P.underlying T=some D) (j:(match D with | .struct _ | .array _ _=>true | _=>false)=false)
  (hx:L.ev x=some (pP (ixA v e.sz i))) (h:RO w e v l) (hi:l[i]? = some t) (hu:e.cells t=[u]) :
  OpV P n L w ⟨d,.load T x,ty,pos,after,none⟩ u w:=Bi hT j hx (h.cellAt0 hi hu)
theorem Mx {x y:Operand} {T:TypeId} {k:IntKind} {i:Int} {l:List UInt8} {t:UInt8} (hT:P.underlying T=some .string)
  (hx:L.ev x=some (vS l)) (j:L.ev y=some (.int k i)) (z:0<=i) (A:l[i.toNat]? = some t) :
  OpV P n L w ⟨d,.index T x y,ty,pos,after,none⟩ (v8 t) w:=fun a ha=>by
 have hg:(⟨⟨l⟩⟩:ByteArray)[i.toNat]? = some t:=by
  obtain⟨hl,B⟩:=aP.1 A
  rw[ByteArray.getElem?_lt' _ _ (by simpa [qi] using hl)]
  rw[<-B]; rfl
 simp[execOp,ha.ev hx,ha.ev j,Instr.index,asIntOf,run_underlying hT,z,hg]
def mQ (l:List UInt8) (lo hi:Nat):List UInt8:=(l.drop lo).take (hi - lo)
theorem Ag (l:List UInt8) (lo hi:Nat):(⟨⟨l⟩⟩:ByteArray).extract lo hi=⟨⟨mQ l lo hi⟩⟩:=by
 rw[ByteArray.extract_mk]; simp[mQ]
theorem Ko {x y:Operand} {T:TypeId} {k:IntKind} {lo:Int} {l:List UInt8} (hT:P.underlying T=some .string)
  (hx:L.ev x=some (vS l)) (j:L.ev y=some (.int k lo)) (z:0<=lo) (G:lo.toNat<=l.length) :
  OpV P n L w ⟨d,.slice T x (some y) none none,ty,pos,after,none⟩ (vS (l.drop lo.toNat)) w:=fun a ha=>by
 have A:lo<=((⟨⟨l⟩⟩:ByteArray).size:Int):=by rw[qi]; omega
 have B:mQ l lo.toNat (⟨⟨l⟩⟩:ByteArray).size=l.drop lo.toNat:=by
  unfold mQ; rw[aA]; simp[qi]
 simp[execOp,ha.ev hx,ha.ev j,Instr.sliceAt,Instr.slice,run_underlying hT,Instr.sliceBounds,run_sliceBound,z,A,Ag,B]
theorem Pg (T:TypeId) (x y:List UInt8):cj P .eql T (vS x) (vS y) (vB (x == y)):=fun _ _ w=>by
 simp[eqGuard,binOp,Op.stringOp,sk]
theorem Oj (T:TypeId) (x y:List UInt8):cj P .neq T (vS x) (vS y) (vB (x != y)):=fun _ _ w=>by
 simp[eqGuard,binOp,Op.stringOp,sk,bne]
section
variable {T E:TypeId} {τ:Type} {e:Enc τ} {v:Value} {l:List τ} {z0:Value} {bytes:Nat}
theorem Oy {x y z:Operand} {k A:IntKind} {lo hi:Int} (hT:P.underlying T=some (.slice E)) (hE:TI P E z0 e.sz bytes)
  (hx:L.ev x=some v) (B:L.ev y=some (.int k lo)) (hz:L.ev z=some (.int A hi)) (h:RO w e v l) (G:0<=lo) (I:lo<=hi) (R:hi.toNat<=l.length) :
  OpV P n L w ⟨d,.slice T x (some y) (some z) none,ty,pos,after,none⟩ (slV v e.sz lo.toNat hi.toNat) w:=fun a ha=>by
 obtain⟨b,c,rfl,hc,_⟩:=h
 obtain⟨O,j,_,hs,_⟩:=hE.get
 have J:hi<=(c:Int):=by omega
 have N:(hi.toNat:Int)=hi:=ik (by omega)
 simp[execOp,ha.ev hx,ha.ev B,ha.ev hz,Instr.sliceAt,Instr.slice,run_underlying hT,Instr.sliceBounds,run_sliceBound,G,J,N,I,(by omega:0<=hi),sizeOf,typeInfo,j,hs,slV]
theorem Nz {x y:Operand} {k:IntKind} {lo:Int} (hT:P.underlying T=some (.slice E)) (hE:TI P E z0 e.sz bytes)
  (hx:L.ev x=some v) (z:L.ev y=some (.int k lo)) (h:RO w e v l) (A:0<=lo) (I:lo.toNat<=l.length) :
  OpV P n L w ⟨d,.slice T x (some y) none none,ty,pos,after,none⟩ (slV v e.sz lo.toNat l.length) w:=fun a ha=>by
 obtain⟨b,c,rfl,hc,_⟩:=h
 obtain⟨G,j,_,hs,_⟩:=hE.get
 have B:lo<=(l.length:Int):=by omega
 simp[execOp,ha.ev hx,ha.ev z,Instr.sliceAt,Instr.slice,run_underlying hT,Instr.sliceBounds,run_sliceBound,A,B,sizeOf,typeInfo,j,hs,slV]
theorem Mi {x z:Operand} {k:IntKind} {hi:Int} (hT:P.underlying T=some (.slice E)) (hE:TI P E z0 e.sz bytes)
  (hx:L.ev x=some v) (hz:L.ev z=some (.int k hi)) (h:RO w e v l) (y:0<=hi) (G:hi.toNat<=l.length) :
  OpV P n L w ⟨d,.slice T x none (some z) none,ty,pos,after,none⟩ (slV v e.sz 0 hi.toNat) w:=fun a ha=>by
 obtain⟨b,c,rfl,hc,_⟩:=h
 obtain⟨B,j,_,hs,_⟩:=hE.get
 have A:hi<=(c:Int):=by omega
 simp[execOp,ha.ev hx,ha.ev hz,Instr.sliceAt,Instr.slice,run_underlying hT,Instr.sliceBounds,run_sliceBound,y,A,sizeOf,typeInfo,j,hs,slV]
theorem RO.subl (h:RO w e v l) {lo:Nat} (j:lo<=l.length):RO w e (slV v e.sz lo l.length) (l.drop lo):=by
 have:=h.sub (lo:=lo) (hi:=l.length) j (ax _)
 rwa [aA (by simp)]at this
theorem RO.subh (h:RO w e v l) {hi:Nat} (j:hi<=l.length):RO w e (slV v e.sz 0 hi) (l.take hi):=by
 have:=h.sub (lo:=0) (hi:=hi) (ft _) j
 simpa using this
theorem RP.sub {S:List Nat} (h:RP S w e v l) {lo hi:Nat} (y:lo<=hi) (z:hi<=l.length):RP S w e (slV v e.sz lo hi) ((l.drop lo).take (hi - lo)):=by
 refine⟨h.1.sub y z,fun j k A hb=>h.2 (fun e=>j (by rw[e]; simp)) k A ?_⟩
 obtain⟨a,c,rfl,_⟩:=h.1
 cases a with
 | none=>simp[slV,Value.ownBlock]at hb
 | some x=>
  by_cases hc:c=lo
  ·simpa [slV,hc,Value.ownBlock] using hb
  ·simp[slV,hc,Value.ownBlock]at hb ⊢
   rw[<-hb]; unfold Addr.add; split <;> rfl
theorem RP.subl {S:List Nat} (h:RP S w e v l) {lo:Nat} (j:lo<=l.length):RP S w e (slV v e.sz lo l.length) (l.drop lo):=by
 have:=h.sub (lo:=lo) (hi:=l.length) j (ax _)
 rwa [aA (by simp)]at this
theorem RP.subh {S:List Nat} (h:RP S w e v l) {hi:Nat} (j:hi<=l.length):RP S w e (slV v e.sz 0 hi) (l.take hi):=by
 have:=h.sub (lo:=0) (hi:=hi) (ft _) j
 simpa using this
end
theorem Fv (l:List UInt8):strOfNums (l.map fun x=>(x.toNat:Int))=⟨⟨l⟩⟩:=by
 have:(strOfNums (l.map fun x=>(x.toNat:Int))).data.toList=l:=by
  rw[strOfNums_data,List.map_map]
  conv=>rhs; rw[<-List.map_id l]
  apply List.map_congr_left
  intro x _
  simp
 cases h:strOfNums (l.map fun x=>(x.toNat:Int)) with
 | mk data=>rw[h]at this; simp only at this; rw[<-this]
theorem wu (l:List UInt8):e8.fl l=l.map v8:=by
 induction l with
 | nil=>rfl
 | cons a r ih=>simp only[Enc.fl,dU,db]at ih ⊢; rw[ih]; rfl
theorem QK {S D E:TypeId} {v:Value} {l:List UInt8} (hS:P.underlying S=some (.slice E)) (hE:P.underlying E=some (.int .u8)) (k:P.underlying D=some .string) (h:RO w e8 v l) :
  (convert S D v).run P w=.ok (vS l) w:=by
 obtain⟨a,c,rfl,hc,y⟩:=h
 cases a with
 | none=>
  have hl:l=[]:=by
   cases l with
   | nil=>rfl
   | cons x r=>obtain⟨b,off,h,_⟩:=y (by simp); cases h
  subst hl
  exact run_convert_bytes_nil w S E hS hE _ _ D k
 | some p=>
  by_cases hl:l=[]
  ·subst hl
   rw[run_convert_bytes_string w S D E _ _ c hS hE k]
   simp[Conv.bytesToString,loadCells,loadCellsFrom,vS]
   rfl
  ·obtain⟨b,off,hp,j⟩:=y hl
   cases hp
   rw[run_convert_bytes_arg w S E hS hE b off l.length c (l.map fun x=>(x.toNat:Int)) (by simp) (fun i hi=>?_) D k]
   ·rw[Fv]
   ·have:=j i (v8 l[i]) (by rw[wu]; simp[hi])
    rw[this]
    simp[List.getD,hi]
theorem DO {S D E:TypeId} {x:Operand} {v:Value} {l:List UInt8} (hS:P.underlying S=some (.slice E)) (hE:P.underlying E=some (.int .u8)) (j:P.underlying D=some .string)
  (hx:L.ev x=some v) (h:RO w e8 v l):OpV P n L w ⟨d,.convert S D x,ty,pos,after,none⟩ (vS l) w:=fun a ha=>by
 simp[execOp,ha.ev hx,QK hS hE j h]
end
section
variable {P:Program} {ops:Array Oper} {C D:World->Prop} {Q:Exit->Act->World->Prop} {fl:Nat->Bool}
def Ins (P:Program) (ops:Array Oper) (C:World->Prop) (o:Oper) (v:Value) (a:Act):Prop:=
 (Region.wanted o (yielded ops a.tmps)=true/\∀w,C w->(execOp a.eval o).run P w=.ok (.value v) w) \/
 (Region.wanted o (yielded ops a.tmps)=false/\v=undef)
theorem Ins.of_same {o:Oper} {v:Value} {a j:Act} (k:Ins P ops C o v a) (y:execOp j.eval o=execOp a.eval o)
  (hw:Region.wanted o (yielded ops j.tmps)=Region.wanted o (yielded ops a.tmps)):Ins P ops C o v j:=by
 unfold Ins at *
 rw[y,hw]
 exact k
theorem Ins.unique {o:Oper} {u v:Value} {a:Act} {w:World} (hw:C w) (h:Ins P ops C o u a) (y:Ins P ops C o v a):u=v:=by
 rcases h with⟨j,k⟩ | ⟨j,k⟩ <;> rcases y with⟨h3,h4⟩ | ⟨h3,h4⟩
 ·have e:=(k w hw).symm.trans (h4 w hw)
  simpa using e
 ·rw[j]at h3; cases h3
 ·rw[j]at h3; cases h3
 ·rw[k,h4]
def BB (P:Program) (ops:Array Oper) (o:Oper) (v:Value) (a:Act) (w:World):Prop:=Region.wanted o (yielded ops a.tmps)=true/\(execOp a.eval o).run P w=.ok (.value v) w
theorem BB.of_same {o:Oper} {v:Value} {a j:Act} {w:World} (k:BB P ops o v a w) (y:execOp j.eval o=execOp a.eval o)
  (hw:Region.wanted o (yielded ops j.tmps)=Region.wanted o (yielded ops a.tmps)):BB P ops o v j w:=by
 unfold BB at *
 rw[y,hw]
 exact k
def InR (P:Program) (ops:Array Oper) (C:World->Prop) (fl:Nat->Bool) (i:Nat) (o:Oper) (v:Value) (a:Act) (w:World):Prop:=Ins P ops C o v a\/(fl (i+1000)=false/\BB P ops o v a w)
theorem InR.of_same {i:Nat} {o:Oper} {v:Value} {a j:Act} {w:World} (y:InR P ops C fl i o v a w) (k:execOp j.eval o=execOp a.eval o)
  (hw:Region.wanted o (yielded ops j.tmps)=Region.wanted o (yielded ops a.tmps)):InR P ops C fl i o v j w:=y.imp (fun h=>h.of_same k hw) fun h=>⟨h.1,h.2.of_same k hw⟩
theorem InR.ins {i:Nat} {o:Oper} {v:Value} {a:Act} {w:World} (j:InR P ops C fl i o v a w) (h:fl (i+1000)=true):Ins P ops C o v a:=by
 rcases j with j | ⟨j,_⟩
 ·exact j
 ·rw[h]at j; cases j
def qZ (fl:Nat->Bool) (i j:Nat):Bool:=(fl i&&fl j) || (fl i&&fl (i+1000)) || (fl j&&fl (j+1000))
def lx (P:Program) (ops:Array Oper) (C D:World->Prop) (Q:Exit->Act->World->Prop) (fl:Nat->Bool):List Nat->Act->World->Prop
 | [],a,w=>D w/\Q .normal a w
 | i :: r,a,w=>C w/\match ops[i]? with
  | none=>lx P ops C D Q fl r a w
  | some o=>if fl i then ∃v,InR P ops C fl i o v a w/\lx P ops C D Q fl r (a.put o.dst v) w else wpOp P ops Q i (lx P ops C D Q fl r) a w
theorem Od {l:List Nat} {a:Act} {w:World} (h:lx P ops C D Q fl l a w) (hl:l=[]->∀w,D w->C w):C w:=by
 cases l
 ·exact hl rfl _ h.1
 ·exact h.1
def nV (ops:Array Oper):Prop:=∀(j:Nat) (o:Oper) cs b,ops[j]? = some o->o.op≠.select cs b
theorem IN (hp:∀c a w,¬Q (.panic c) a w) {j:Nat} {y z:Oper} {v:Value} (V:ops[j]? = some z) (B:y.apart ops z=true)
  (G:∀cs b,y.op≠.select cs b) (I:∀cs b,z.op≠.select cs b) {K:Act->World->Prop} {a:Act} {w:World}
  (X:Ins P ops C y v a) (h:wpOp P ops Q j K (a.put y.dst v) w) :
  wpOp P ops Q j (fun J w'=>Ins P ops C y v J/\K (J.put y.dst v) w') a w:=by
 obtain⟨N,A,O⟩:=Oper.apart_spec B
 have k:∀u,Ins P ops C y v (a.put z.dst u):=fun u=>
  X.of_same (execOp_put y G a z.dst u O) (wanted_put y a z.dst u O)
 unfold wpOp at *
 simp only[V]at *
 rw[wanted_put z a y.dst v N]at h
 have R:=execOp_put z I a y.dst v N
 split
 ·rename_i hw
  simp only[hw,al]at h
  rcases h with h | h
  ·left
   unfold Oper.wp at *
   rw[R]at h
   generalize (execOp a.eval z).run P w=r at *
   cases r with
   | ok nx w'=>
    cases nx <;> simp only[Oper.upon]at h ⊢
    case value u=>exact⟨k u,by rw[<-Act.put_comm a v u A]; exact h⟩
    case skip=>exact⟨k undef,by rw[<-Act.put_comm a v undef A]; exact h⟩
    case defer dd=>
     refine⟨?_,?_⟩
     ·have:=k undef
      refine this.of_same ?_ ?_
      ·cases z.dst <;> rfl
      ·cases z.dst <;> rfl
     ·rw[Act.put_defers]at h
      rw[<-Act.put_comm _ v undef A]
      exact h
    case enter f args=>
     refine Calls.mono h fun e U hh=>?_
     cases e with
     | returned u=>exact⟨k u,by rw[<-Act.put_comm a v u A]; exact hh⟩
     | panicked c=>exact absurd hh (hp _ _ _)
     | outgrown=>exact hh
    case row rw_ args=>
     exact Rows.mono h fun u U hh=>⟨k u,by rw[<-Act.put_comm a v u A]; exact hh⟩
   | halt x w'=>
    cases x <;> simp only[Oper.upon]at h ⊢
    exact absurd h (hp _ _ _)
  ·right
   refine⟨?_,h.2⟩
   have:=h.1
   unfold Oper.asks at *
   rw[R]at this
   exact this
 ·rename_i hw
  simp only[hw]at h
  exact⟨k _,by rw[<-Act.put_comm a v undef A]; exact h⟩
theorem GC (hp:∀c a w,¬Q (.panic c) a w) (y:∀a w,¬Q .outgrown a w) {i:Nat} {k:Oper} (hi:ops[i]? = some k) {K:Act->World->Prop} {a:Act} {w:World}
  (h:wpOp P ops Q i K a w):∃z w' u B,K z w'/\z=({ a with defers:=B }:Act).put k.dst u:=by
 unfold wpOp at h
 simp only[hi]at h
 split at h
 ·rcases h with h | ⟨_,G,I,h⟩
  ·unfold Oper.wp at h
   generalize (execOp a.eval k).run P w=r at *
   cases r with
   | ok nx w'=>
    cases nx <;> simp only[Oper.upon]at h
    case value u=>exact⟨_,_,u,a.defers,h,rfl⟩
    case skip=>exact⟨_,_,undef,a.defers,h,rfl⟩
    case defer dd=>exact⟨_,_,undef,dd :: a.defers,h,rfl⟩
    case enter f args=>
     obtain⟨e,A,fr,j,_⟩:=h []
     cases e with
     | returned u=>exact⟨_,_,u,a.defers,j,rfl⟩
     | panicked c=>exact absurd j (hp _ _ _)
     | outgrown=>obtain⟨G,I,J⟩:=j; exact absurd J (y _ _)
    case row rw_ args=>
     obtain⟨u,A,j,_⟩:=h default []
     exact⟨_,_,u,a.defers,j,rfl⟩
   | halt x w'=>
    cases x <;> simp only[Oper.upon]at h
    exact absurd h (hp _ _ _)
  ·exact absurd h (y _ _)
 ·exact⟨_,_,undef,a.defers,h,rfl⟩
theorem L6 (hp:∀c a w,¬Q (.panic c) a w) (ho:∀a w,¬Q .outgrown a w) (hs:nV ops) {i j:Nat} {r:List Nat} {a:Act} {w:World}
  (b5:∀z k,ops[i]? = some z->ops[j]? = some k->z.apart ops k=true/\qZ fl i j=true) (_hne:i≠j) (hE:r=[]->∀w,D w->C w)
  (h:lx P ops C D Q fl (i :: j :: r) a w):lx P ops C D Q fl (j :: i :: r) a w:=by
 obtain⟨U,h⟩:=h
 refine⟨U,?_⟩
 cases hi:ops[i]? with
 | none=>
  simp only[hi]at h
  obtain⟨_,h⟩:=h
  cases hj:ops[j]? with
  | none=>simp only[hj]at h; exact⟨U,by simp only[hi]; exact h⟩
  | some k=>
   simp only[hj]at h ⊢
   split
   ·rename_i hf
    simp only[hf,al]at h
    obtain⟨v,V,B⟩:=h
    exact⟨v,V,U,by simp only[hi]; exact B⟩
   ·rename_i hf
    rw[ae hf]at h
    exact wpOp_mono (fun I w' A=>⟨Od A hE,by simp only[hi]; exact A⟩) h
 | some z=>
  simp only[hi]at h
  cases hj:ops[j]? with
  | none=>
   simp only[]
   refine⟨U,?_⟩
   simp only[hi]
   split
   ·rename_i hf
    simp only[hf,al]at h
    obtain⟨v,V,_,B⟩:=h
    simp only[hj]at B
    exact⟨v,V,B⟩
   ·rename_i hf
    simp only[hf]at h
    exact wpOp_mono (fun I w' A=>by have:=A.2; simp only[hj]at this; exact this) h
  | some k=>
   obtain⟨ap,R⟩:=b5 z k hi hj
   obtain⟨p1,p2,p3⟩:=Oper.apart_spec ap
   have X:=fun cs b=>hs i z cs b hi
   have J:=fun cs b=>hs j k cs b hj
   simp only[]
   by_cases hfi:fl i=true
   ·simp only[hfi,al]at h
    obtain⟨v,hv,_,B⟩:=h
    simp only[hj]at B
    by_cases G:fl j=true
    ·simp only[G,al]at B ⊢
     obtain⟨u,hu,N⟩:=B
     refine⟨u,hu.of_same (execOp_put k J a z.dst v p1).symm (wanted_put k a z.dst v p1).symm,U,?_⟩
     simp only[hi,hfi,al]
     refine⟨v,hv.of_same (execOp_put z X a k.dst u p3) (wanted_put z a k.dst u p3),?_⟩
     rw[<-Act.put_comm a v u p2]; exact N
    ·simp only[G]at B ⊢
     have hv:=hv.ins (by unfold qZ at R; simpa [hfi,G] using R)
     refine wpOp_mono (fun I w' A=>?_) (IN hp hj ap X J hv B)
     refine⟨Od A.2 hE,?_⟩
     simp only[hi,hfi,al]
     exact⟨v,.inl A.1,A.2⟩
   ·simp only[hfi]at h
    have b2:fl i=false:=by simpa using hfi
    have b3:fl j=true/\fl (j+1000)=true:=by unfold qZ at R; simpa [b2] using R
    obtain⟨G,b4⟩:=b3
    simp only[G,al]
    have hK:∀I w',lx P ops C D Q fl (j :: r) I w'->C w'/\∃u,Ins P ops C k u I/\lx P ops C D Q fl r (I.put k.dst u) w':=fun I w' A=>by
     obtain⟨c,bx⟩:=A
     simp only[hj,G,al]at bx
     obtain⟨u,hu,N⟩:=bx
     exact⟨c,u,hu.ins b4,N⟩
    obtain⟨I,w',x,df,V,rfl⟩:=GC hp ho hi h
    obtain⟨c',u,hu,B⟩:=hK _ _ V
    have Y:Ins P ops C k u a:=by
     refine hu.of_same ?_ ?_
     ·have:=execOp_put k J ({ a with defers:=df }:Act) z.dst x p1
      rw[this]; rfl
     ·have:=wanted_put (ops:=ops) k ({ a with defers:=df }:Act) z.dst x p1
      rw[this]
    refine⟨u,.inl Y,U,?_⟩
    simp only[hi,hfi]
    -- the operation,done with the other one's value in its place
    show wpOp P ops Q i (lx P ops C D Q fl r) (a.put k.dst u) w
    have he:=execOp_put z X a k.dst u p3
    have b8:=wanted_put (ops:=ops) z a k.dst u p3
    have next:∀(y:Value) w',lx P ops C D Q fl (j :: r) (a.put z.dst y) w'->lx P ops C D Q fl r ((a.put k.dst u).put z.dst y) w':=fun y w' A=>by
     obtain⟨c,O,Z,N⟩:=hK _ _ A
     have:O=u:=by
      refine Ins.unique c (Z.of_same ?_ ?_:Ins P ops C k O a) Y
      ·rw[execOp_put k J a z.dst y p1]
      ·rw[wanted_put k a z.dst y p1]
     subst this
     rw[<-Act.put_comm a y O p2]; exact N
    have ad:∀(y:Value) (dd:Deferred) w',lx P ops C D Q fl (j :: r) (({ a with defers:=dd :: a.defers }:Act).put z.dst y) w' ->
      lx P ops C D Q fl r (({ (a.put k.dst u) with defers:=dd :: (a.put k.dst u).defers }:Act).put z.dst y) w':=fun y dd w' A=>by
     obtain⟨c,O,Z,N⟩:=hK _ _ A
     have:O=u:=by
      refine Ins.unique c (Z.of_same ?_ ?_:Ins P ops C k O a) Y
      ·rw[execOp_put k J _ z.dst y p1]; rfl
      ·rw[wanted_put k _ z.dst y p1]
     subst this
     rw[Act.put_defers,<-Act.put_comm _ y O p2]; exact N
    unfold wpOp at h ⊢
    simp only[hi]at h ⊢
    rw[b8]
    split
    ·rename_i hw
     simp only[hw,al]at h
     rcases h with h | h
     ·left
      unfold Oper.wp at *
      rw[he]
      generalize (execOp a.eval z).run P w=rr at *
      cases rr with
      | ok nx w'=>
       cases nx <;> simp only[Oper.upon]at h ⊢
       case value y=>exact next y _ h
       case skip=>exact next undef _ h
       case defer dd=>exact ad undef dd _ h
       case enter f args=>
        refine Calls.mono h fun e b9 hh=>?_
        cases e with
        | returned y=>exact next y _ hh
        | panicked c=>exact absurd hh (hp _ _ _)
        | outgrown=>exact hh
       case row rw_ args=>exact Rows.mono h fun y b9 hh=>next y _ hh
      | halt x w'=>
       cases x <;> simp only[Oper.upon]at h ⊢
       exact absurd h (hp _ _ _)
     ·right
      refine⟨?_,h.2⟩
      have:=h.1
      unfold Oper.asks at *
      rw[he]
      exact this
    ·rename_i hw
     simp only[hw]at h
     exact next undef _ h
def gj (ops:Array Oper):Nat->Nat->Nat->Bool
 | 0,_,_=>false
 | f+1,j,i=>match ops[j]? with
  | none=>false
  | some o=>o.after.toList.any fun e=>Region.binds .any e&&(Nat.beq e.on i || gj ops f e.on i)
def qa (ops:Array Oper):Bool:=
 (List.range ops.size).all fun j=>match ops[j]? with
  | some o=>o.after.toList.all fun e=>!Region.binds .any e || Nat.blt e.on j
  | none=>true
def pX (ops:Array Oper) (fl:Nat->Bool):Bool:=
 (List.range ops.size).all fun j=>(List.range j).all fun i=>gj ops ops.size j i || (match ops[i]?,ops[j]? with
  | some oi,some oj=>oi.apart ops oj&&qZ fl i j
  | _,_=>true)
def mp (ops:Array Oper):Bool:=ops.toList.all fun o=>match o.op with | .select ..=>false | _=>true
theorem pZ (h:mp ops=true):nV ops:=by
 intro j o cs b k y
 have:=ci.1 h o (Array.mem_toList_iff.2 (Array.mem_of_getElem? k))
 rw[y]at this
 cases this
def closed (ops:Array Oper) (listed:Array Bool):Prop:=
 ∀j oj,ops[j]? = some oj->listed.getD j false=true->∀e∈oj.after,Region.binds .any e=true->listed.getD e.on false=true
theorem iL {listed:Array Bool} (hc:closed ops listed):∀(f j i:Nat) (k:Oper),ops[j]? = some k->(∀e∈k.after,Region.binds .any e=true->listed.getD e.on false=true) ->
  gj ops f j i=true->listed.getD i false=true
 | 0,_,_,_,_,_,h=>by simp[gj]at h
 | f+1,j,i,k,hj,hall,h=>by
  simp only[gj,hj,List.any_eq_true,aK,fD]at h
  obtain⟨e,y,hb,h | h⟩:=h
  ·rw[<-bK h]; exact hall e (by simpa using y) hb
  ·have hl:=hall e (by simpa using y) hb
   cases ho:ops[e.on]? with
   | none=>cases f <;> simp[gj,ho]at h
   | some oe=>exact iL hc f e.on i oe ho (fun B z A=>hc e.on oe ho hl B z A) h
theorem AP (hp:∀c a w,¬Q (.panic c) a w) (B:∀a w,¬Q .outgrown a w) (hs:nV ops) {j:Nat} :
  ∀(l1 y:List Nat) (a:Act) (w:World),(∀i∈l1,i≠j/\∀z G,ops[i]? = some z->ops[j]? = some G->z.apart ops G=true/\qZ fl i j=true)->(l1≠[]->y=[]->∀w,D w->C w) ->
   lx P ops C D Q fl (l1++j :: y) a w->lx P ops C D Q fl (j :: (l1++y)) a w
 | [],_,_,_,_,_,h=>h
 | i :: l1,y,a,w,hall,hE,h=>by
  have A:∀a w,lx P ops C D Q fl (l1++j :: y) a w->lx P ops C D Q fl (j :: (l1++y)) a w:=fun a w h=>
   AP hp B hs l1 y a w (fun k I=>hall k (by simp[I])) (fun _ J=>hE (by simp) J) h
  have N:lx P ops C D Q fl (i :: j :: (l1++y)) a w:=by
   obtain⟨O,h⟩:=h
   refine⟨O,?_⟩
   cases hi:ops[i]? with
   | none=>simp only[hi]at h ⊢; exact A _ _ h
   | some z=>
    simp only[hi]at h ⊢
    split
    ·rename_i hf
     simp only[hf,al]at h
     obtain⟨v,R,h⟩:=h
     exact⟨v,R,A _ _ h⟩
    ·rename_i hf
     simp only[hf]at h
     exact wpOp_mono (fun X w' U=>A _ _ U) h
  have hi:=hall i (by simp)
  exact L6 hp B hs hi.2 hi.1 (fun V=>hE (by simp) (List.append_eq_nil_iff.1 V).2) N
theorem mJ {listed:Array Bool} {i:Nat} (h:i<listed.size) (d:Bool):(listed.setIfInBounds i true).getD i d=true:=by
 simp[h]
theorem Bs (hp:∀c a w,¬Q (.panic c) a w) (ho:∀a w,¬Q .outgrown a w) (hs:nV ops)
  (Z:∀j R,ops[j]? = some R->∀e∈R.after,Region.binds .any e=true->e.on<j)
  (ab:∀i j,i<j->j<ops.size->gj ops ops.size j i=false->∀oi R,ops[i]? = some oi->ops[j]? = some R->oi.apart ops R=true/\qZ fl i j=true)
  :
  ∀(m:Nat) (l:List Nat) (listed:Array Bool) (a:Act) (w:World),l.length=m->l.Pairwise (·<·)->listed.size=ops.size->closed ops listed ->
   (∀i,i∈l↔i<ops.size/\listed.getD i true=false)->((∀w,D w->C w)\/((∀i,i<ops.size - 1->gj ops ops.size (ops.size - 1) i=true)/\(l≠[]->ops.size - 1∈l)))->lx P ops C D Q fl l a w->wpAny P .any ops Q m listed a w
 | 0,l,listed,a,w,hm,_,_,_,hmem,_,h=>by
  have hl:l=[]:=bp hm
  subst hl
  refine⟨?_,h.2⟩
  refine List.eq_nil_iff_forall_not_mem.2 fun i hi=>?_
  obtain⟨G,o,c0,_⟩:=mem_ready.1 hi
  have:=(hmem i).2 ⟨(cg.1 c0).1,G⟩
  cases this
 | m+1,l,listed,a,w,hm,hsort,hsz,hcl,hmem,N,h=>by
  refine⟨fun b6=>?_,fun j hj=>?_⟩
  ·
   exfalso
   cases l with
   | nil=>simp at hm
   | cons i r=>
    obtain⟨b4,G⟩:=(hmem i).1 (by simp)
    have hi:i∈Region.ready .any ops listed:=by
     refine mem_ready.2 ⟨G,ops[i],by simp[b4],fun e he hb=>?_⟩
     have I:=Z i ops[i] (by simp[b4]) e he hb
     cases hl:listed.getD e.on false with
     | true=>rfl
     | false=>
      have c1:e.on<listed.size:=by rw[hsz]; omega
      have c2:listed.getD e.on true=false:=by simp[c1]at hl ⊢; exact hl
      have c3:=(hmem e.on).2 ⟨by omega,c2⟩
      rcases aG.1 c3 with J | J
      ·omega
      ·have:=(gc.1 hsort).1 e.on J
       omega
    rw[b6]at hi
    cases hi
  ·obtain⟨G,R,O,U⟩:=mem_ready.1 hj
   have V:j<ops.size:=(cg.1 O).1
   have c4:j∈l:=(hmem j).2 ⟨V,G⟩
   obtain⟨l1,A,rfl⟩:=List.append_of_mem c4
   have I:∀i∈l1,i<j:=fun i hi=>(cd.1 hsort).2.2 i hi j (by simp)
   have G:∀i∈l1++A,gj ops ops.size j i=false:=fun i hi=>by
    cases hr:gj ops ops.size j i with
    | false=>rfl
    | true=>
     have B:=iL hcl ops.size j i R O U hr
     have y:=(hmem i).1 (by rcases bG.1 hi with h | h <;> simp[h])
     rw[bT]at B
     have z:=y.2
     rw[bT]at z
     have:i<listed.size:=by rw[hsz]; exact y.1
     simp[this]at B z
     rw[B]at z; cases z
   have X:(∀i,i<ops.size - 1->gj ops ops.size (ops.size - 1) i=true)->ops.size - 1=j->l1=[]:=fun y b5=>by
    cases hl:l1 with
    | nil=>rfl
    | cons i r=>
     exfalso
     have hi:i∈l1:=by rw[hl]; simp
     have:=y i (by have:=I i hi; omega)
     rw[b5,G i (by simp[hi])]at this
     cases this
   have c5:ops.size - 1=j->A=[]:=fun b5=>by
    cases A with
    | nil=>rfl
    | cons k r=>
     have hk:=((hmem k).1 (by simp)).1
     have h5:=(cd.1 hsort).2.1
     have:=(gc.1 h5).1 k (by simp)
     omega
   have c6:l1≠[]->A=[]->∀w,D w->C w:=fun J B=>by
    rcases N with y | ⟨y,N⟩
    ·exact y
    ·exfalso
     subst B
     have hn:=N (by simp)
     refine J (X y ?_)
     rcases bG.1 hn with z | z
     ·have:=I _ z; omega
     ·simpa using z
   have b8:(∀w,D w->C w)\/((∀i,i<ops.size - 1->gj ops ops.size (ops.size - 1) i=true)/\(l1++A≠[]->ops.size - 1∈l1++A)):=by
    rcases N with y | ⟨y,N⟩
    ·exact .inl y
    ·refine .inr ⟨y,fun dc=>?_⟩
     have hn:=N (by simp)
     rcases bG.1 hn with z | z
     ·exact bW _ z
     ·rcases aG.1 z with z | z
      ·exfalso
       exact dc (by rw[X y z,c5 z]; rfl)
      ·exact bC _ z
   have J:=AP hp ho hs l1 A a w (fun i hi=>⟨Nat.ne_of_lt (I i hi),fun oi dd df b9=>by
    refine ab i j (I i hi) V ?_ oi dd df b9
    cases hr:gj ops ops.size j i with
    | false=>rfl
    | true=>
     have B:=iL hcl ops.size j i R O U hr
     have y:=((hmem i).1 (by simp[hi])).2
     rw[bT]at B y
     have:i<listed.size:=by rw[hsz]; exact fZ (I i hi) V
     simp[this]at B y
     rw[B]at y; cases y⟩) c6 h
   have ac:(l1++A).Pairwise (·<·):=by
    refine hsort.sublist ?_
    exact List.Sublist.append_left (List.sublist_cons_self j A) l1
   have ce:(l1++A).length=m:=by simp at hm ⊢; omega
   have cf:closed ops (listed.setIfInBounds j true):=by
    intro k ok hk hl e he hb
    by_cases hkj:j=k
    ·subst hkj
     have:ok=R:=et (hk.symm.trans O)
     subst this
     exact getD_set_true (U e he hb)
    ·rw[getD_set_ne false hkj]at hl
     exact getD_set_true (hcl k ok hk hl e he hb)
   have dk:j ∉ l1++A:=by
    intro hx
    rcases bG.1 hx with hx | hx
    ·exact absurd (I j hx) (jn _)
    ·have:=(cd.1 hsort).2.1
     have:=(gc.1 this).1 j hx
     exact absurd this (jn _)
   have b2:∀i,i∈l1++A↔i<ops.size/\(listed.setIfInBounds j true).getD i true=false:=by
    intro i
    by_cases hij:j=i
    ·subst hij
     constructor
     ·intro hx; exact absurd hx dk
     ·intro hx
      have:=mJ (listed:=listed) (i:=j) (by rw[hsz]; exact V) true
      rw[this]at hx; cases hx.2
    ·rw[getD_set_ne true hij,<-hmem i]
     simp only[bG,aG]
     constructor
     ·rintro (hx | hx)
      ·exact .inl hx
      ·exact .inr (.inr hx)
     ·rintro (hx | hx | hx)
      ·exact .inl hx
      ·exact absurd hx.symm hij
      ·exact .inr hx
   have ih:∀Y w',lx P ops C D Q fl (l1++A) Y w'->wpAny P .any ops Q m (listed.setIfInBounds j true) Y w':=fun Y w' h'=>
    Bs hp ho hs Z ab m (l1++A) _ Y w' ce ac (by simp[hsz]) cf b2 b8 h'
   obtain⟨hC,J⟩:=J
   simp only[O]at J
   split at J
   ·obtain⟨v,hv,B⟩:=J
    unfold wpOp
    simp only[O]
    rcases hv with (⟨hw,hv⟩ | ⟨hw,rfl⟩) | ⟨_,hw,hv⟩
    ·rw[ag hw]
     left
     unfold Oper.wp
     rw[hv w hC]
     exact ih _ _ B
    ·rw[ae (by rw[hw]; simp)]
     exact ih _ _ B
    ·rw[ag hw]
     left
     unfold Oper.wp
     rw[hv]
     exact ih _ _ B
   ·exact wpOp_mono (fun Y w' h'=>ih Y w' h') J
theorem r7 (h:pX ops fl=true):∀i j,i<j->j<ops.size->gj ops ops.size j i=false->∀k y,ops[i]? = some k->ops[j]? = some y->k.apart ops y=true/\qZ fl i j=true:=by
 intro i j z G I k y hi A
 have B:=ci.1 (ci.1 h j (dH.2 G)) i (dH.2 z)
 simp only[I,Bool.false_or,hi,A,aK]at B
 exact B
theorem su (h:qa ops=true):∀j k,ops[j]? = some k->∀e∈k.after,Region.binds .any e=true->e.on<j:=by
 intro j k y e B hb
 have z:=ci.1 h j (dH.2 (cg.1 y).1)
 simp only[y]at z
 have A:=ci.1 z e (by simpa using B)
 simp only[hb,cF,Bool.false_or,fN]at A
 exact A
def zQ (ops:Array Oper):Bool:=(List.range (ops.size - 1)).all fun i=>gj ops ops.size (ops.size - 1) i
theorem vY {id:Nat} {l:List Oper} {a:Act} {w:World} (z:P.follows .mixedOrders=true) (hp:∀c a w,¬Q (.panic c) a w) (A:∀a w,¬Q .outgrown a w)
  (y:(mp l.toArray&&qa l.toArray&&pX l.toArray fl)=true) (k:(∀w,D w->C w)\/(zQ l.toArray=true/\l≠[])) (h:lx P l.toArray C D Q fl (List.range l.length) a w.drew):(Code.region id l.toArray true).wp P Q a w:=by
 simp only[aK]at y
 refine wp_region_any z ?_
 refine Bs hp A (pZ y.1.1) (su y.1.2) (r7 y.2) _ (List.range l.length) _ a _ (by simp) List.pairwise_lt_range (by simp) (fun j B G hl=>?_) (fun i=>?_) ?_ h
 ·rw[bT,eA]at hl
  split at hl <;> simp at hl
 ·rw[bT,eA]
  by_cases h1:i<l.length
  ·simp[h1]
  ·simp[h1]
 ·rcases k with k | ⟨k,hl⟩
  ·exact .inl k
  ·refine .inr ⟨fun i hi=>?_,fun _=>?_⟩
   ·exact ci.1 k i (dH.2 hi)
   ·have:=fb.2 hl
    simp; omega
variable {n:Nat} {L:Env} {w:World}
def lxE (P:Program) (n:Nat) (ops:Array Oper) (C D:World->Prop) (Q:Exit->Act->World->Prop) (fl:Nat->Bool) (l:List Nat) (L:Env) (w:World):Prop:=∀a,Rep n L a->lx P ops C D Q fl l a w
theorem kL {id:Nat} {l:List Oper} (C:World->Prop) (fl:Nat->Bool) (j:P.follows .mixedOrders=true) (hp:∀c a w,¬Q (.panic c) a w) (k:∀a w,¬Q .outgrown a w)
  (y:(mp l.toArray&&qa l.toArray&&pX l.toArray fl)=true) (h:lxE P n l.toArray C C Q fl (List.range l.length) L w.drew):wpC P n (.region id l.toArray true) Q L w:=
 fun a ha=>vY j hp k y (.inl fun _ h=>h) (h a ha)
theorem lG {id:Nat} {l:List Oper} (C:World->Prop) (fl:Nat->Bool) (k:P.follows .mixedOrders=true) (hp:∀c a w,¬Q (.panic c) a w) (y:∀a w,¬Q .outgrown a w)
  (j:(mp l.toArray&&qa l.toArray&&pX l.toArray fl&&zQ l.toArray&&!l.isEmpty)=true) (h:lxE P n l.toArray C (fun _=>True) Q fl (List.range l.length) L w.drew):wpC P n (.region id l.toArray true) Q L w:=
 fun a ha=>by
  simp only[aK]at j
  refine vY k hp y (by simp only[aK]; exact j.1.1) (.inr ⟨j.1.2,fun z=>?_⟩) (h a ha)
  have:=j.2
  rw[z]at this
  cases this
theorem iG (j:D w) (h:QE n Q .normal L w):lxE P n ops C D Q fl [] L w:=fun a ha=>⟨j,h a ha⟩
theorem cC {i:Nat} {r:List Nat} {d:Nat} {op:Op} {ty:TypeId} {pos:String} {after:Array Edge} {v:Value} (k:C w) (y:ops[i]? = some ⟨some d,op,ty,pos,after,none⟩) (hf:fl i=true)
  (z:∀w,C w->OpV P n L w ⟨some d,op,ty,pos,after,none⟩ v w) (hd:Nat.blt d n=true) (h:lxE P n ops C D Q fl r ((d,v) :: L) w):lxE P n ops C D Q fl (i :: r) L w:=fun a ha=>by
 refine⟨k,?_⟩
 simp only[y,hf,al]
 exact⟨v,.inl (.inl ⟨by simp[Region.wanted],fun w' j=>z w' j a ha⟩),h _ (ha.put hd)⟩
theorem q7 {i:Nat} {r:List Nat} {d:Nat} {op:Op} {ty:TypeId} {pos:String} {after:Array Edge} {v:Value} (j:C w) (k:ops[i]? = some ⟨some d,op,ty,pos,after,none⟩) (hf:fl i=true) (y:fl (i+1000)=false)
  (z:OpV P n L w ⟨some d,op,ty,pos,after,none⟩ v w) (hd:Nat.blt d n=true) (h:lxE P n ops C D Q fl r ((d,v) :: L) w):lxE P n ops C D Q fl (i :: r) L w:=fun a ha=>by
 refine⟨j,?_⟩
 simp only[k,hf,al]
 exact⟨v,.inr ⟨y,by simp[Region.wanted],z a ha⟩,h _ (ha.put hd)⟩
theorem vP {i:Nat} {r:List Nat} {d:Nat} {op:Op} {ty:TypeId} {pos:String} {after:Array Edge} {Φ:Value->World->Prop} (k:C w) (j:ops[i]? = some ⟨some d,op,ty,pos,after,none⟩) (hf:fl i=false)
  (y:OpX P n L w ⟨some d,op,ty,pos,after,none⟩ Φ) (hd:Nat.blt d n=true) (h:∀v w',Φ v w'->lxE P n ops C D Q fl r ((d,v) :: L) w'):lxE P n ops C D Q fl (i :: r) L w:=fun a ha=>by
 refine⟨k,?_⟩
 simp only[j,hf,ah,aj]
 obtain⟨v,w',z,A⟩:=y
 unfold wpOp
 simp only[j]
 rw[ag (by simp[Region.wanted])]
 left
 unfold Oper.wp
 rw[z a ha]
 exact h v w' A _ (ha.put hd)
theorem qS {i:Nat} {r:List Nat} {op:Op} {ty:TypeId} {pos:String} {after:Array Edge} {Φ:World->Prop} (k:C w) (j:ops[i]? = some ⟨none,op,ty,pos,after,none⟩) (hf:fl i=false)
  (y:OpY P n L w ⟨none,op,ty,pos,after,none⟩ Φ) (h:∀w',Φ w'->lxE P n ops C D Q fl r L w'):lxE P n ops C D Q fl (i :: r) L w:=fun a ha=>by
 refine⟨k,?_⟩
 simp only[j,hf,ah,aj]
 obtain⟨w',z,A⟩:=y
 unfold wpOp
 simp only[j]
 rw[ag (by simp[Region.wanted])]
 left
 unfold Oper.wp
 rw[z a ha]
 exact h w' A _ ha
end
section
variable {P:Program} {n:Nat} {L:Env} {w w0:World} {Q:Exit->Act->World->Prop} {S:List Nat} {os:List OE}
variable {d:Option Tmp} {ty:TypeId} {pos:String} {after:Array Edge}
theorem iH {o:Oper} {Φ:Value->World->Prop} (v:Value) (w':World) (j:OpV P n L w o v w') (h:Φ v w'):OpX P n L w o Φ:=⟨v,w',j,h⟩
theorem tq {o:Oper} {Φ:World->Prop} (w':World) (j:OpS P n L w o w') (h:Φ w'):OpY P n L w o Φ:=⟨w',j,h⟩
theorem St.fresh (h:St S w0 w os):fre S w0.heap.size w.heap.size:=.inl h.fr.size
theorem HG (z:Array Value) (sz c l:Nat) {τ:Type} (e:Enc τ) (t0:τ) (hz:z.toList=e.cells t0) (hs:e.sz=sz) (hl:l<=c) :
  (madeCells z (c*sz)).toList.take (l*sz)=e.fl (List.replicate l t0):=by
 have y:z.size=sz:=by rw[<-fc,hz,e.len,hs]
 apply iY
 intro k
 rw[bR]
 split
 ·rename_i B
  have A:0<sz:=by
   rcases bQ sz with h | h
   ·subst h; simp at B
   ·exact h
  have I:k<c*sz:=aW B (aT _ hl)
  have j:k%sz<sz:=bH _ A
  have G:k / sz<l:=(fh A).2 B
  have N:k=k / sz*e.sz+k%sz:=by rw[hs,aM]; exact (de k sz).symm
  have J:=e.fl_get (List.replicate l t0) (k / sz) t0 (by simp[gt,G]) (k%sz) (by rw[hs]; exact j)
  rw[<-N]at J
  rw[J,<-hz]
  simp only[madeCells,Array.toList_map,Array.toList_range,fF,List.getElem?_range I,bO,y]
  rw[getElem!_pos z (k%sz) (by rw[y]; exact j)]
  simp[y,j]
 ·rename_i B
  rw[c9]
  rw[e.fl_length,bq,hs]
  omega
theorem JU {T E:TypeId} {x y:Operand} {k A:IntKind} {l c:Int} {τ:Type} {e:Enc τ} {t0:τ} {z:Value} {bytes:Nat} (hT:P.underlying T=some (.slice E)) (hE:TI P E z e.sz bytes) (hz:z.cells.toList=e.cells t0)
  (hx:L.ev x=some (.int k l)) (G:L.ev y=some (.int A c)) (hS:St S w0 w os) (I:0<=l) (J:l<=c) (N:(bytes:Int)*c<=281474976710656) (O:c<=9223372036854775807) :
  OpX P n L w ⟨d,.makeSlice T x y,ty,pos,after,none⟩ (fun v w'=>St S w0 w' (own e v (List.replicate l.toNat t0) :: os)):=by
 obtain⟨j,hi,B,hs,hb⟩:=hE.get
 have R:=run_make (P:=P) w T E j z hT hi B k A l c I J (by rw[hb]; exact N) O
 refine iH (.slice (some ⟨w.heap.size,0,none⟩) l.toNat c.toNat) (w.alloc (.cells (madeCells z.cells (c.toNat*j.size)) E)) (fun a ha=>?_) ?_
 ·simp only[execOp,ha.ev hx,ha.ev G,Sem.run_bind,R,Result.andThen_ok]; rfl
 ·refine hS.push (Fr.alloc _ _ _) (o:=own e _ _) ?_ ?_
  ·refine⟨e.fl_length _,.inr ⟨w.heap.size,c.toNat,madeCells z.cells (c.toNat*j.size),E,?_,hS.fresh,Row.new w _ _,?_,?_,?_,?_⟩⟩
   ·simp
   ·simp; omega
   ·simp[maxLen]; omega
   ·rw[size_madeCells,hs]; exact ax _
   ·rw[hs,bq]
    exact HG z.cells e.sz c.toNat l.toNat e t0 hz rfl (by omega)
  ·intro k U
   simp[OE.blk,Value.ownBlock]at U
   omega
theorem AT (j:Nat) (y:j=1):∀(vs:List Value) (k:Nat) (cells:Array Value),(∀v∈vs,v.oneCell'=true)->k+vs.length<=cells.size ->
  Instr.fill (fun i=>some (i*j,j)) cells (vs.zipIdx k |>.map fun p=>(p.2,p.1))=some (cells.toList.take k++vs++cells.toList.drop (k+vs.length)).toArray
 | [],k,cells,_,_=>by simp[Instr.fill]
 | v :: r,k,cells,h1,hk=>by
  subst y
  have A:v.cells=#[v]:=by have:=h1 v (by simp); cases v <;> simp_all [Value.cells,Value.oneCell']
  have B:=AT 1 rfl r (k+1) (cells.setIfInBounds k v) (fun u hu=>h1 u (by simp[hu])) (by simp at hk ⊢; omega)
  simp only[List.zipIdx_cons,db,Instr.fill,A]
  rw[ae (by simp at hk ⊢; omega)]
  have z:(#[v]:Array Value).zipIdx.foldl (fun cs (x:Value×Nat)=>cs.setIfInBounds (k*1+x.2) x.1) cells=cells.setIfInBounds k v:=by
   have:(#[v]:Array Value).zipIdx=#[(v,0)]:=rfl
   rw[this]; simp
  rw[z,B]
  congr 2
  have e:=list_seg_step cells.toList k v r (by simp at hk ⊢; omega)
  simpa [Array.toList_setIfInBounds,dn] using e
def Env.parts (L:Env):List (Nat×Operand)->Nat->Option (List Value)
 | [],_=>some []
 | (i,x) :: r,k=>if i=k then match L.ev x,Env.parts L r (k+1) with
  | some v,some vs=>some (v :: vs)
  | _,_=>none
  else none
theorem Env.parts_eq {L:Env} {a:Act} (ha:Rep n L a):∀{j:List (Nat×Operand)} {k:Nat} {vs:List Value},L.parts j k=some vs->j.map (fun p=>(p.1,a.eval p.2))=(vs.zipIdx k).map fun p=>(p.2,p.1)
 | [],k,vs,h=>by simp[Env.parts]at h; subst h; rfl
 | (i,x) :: r,k,vs,h=>by
  simp only[Env.parts]at h
  split at h
  ·rename_i y
   cases hx:L.ev x with
   | none=>simp[hx]at h
   | some v=>
    cases hr:L.parts r (k+1) with
    | none=>simp[hx,hr]at h
    | some us=>
     simp[hx,hr]at h
     subst h
     simp only[db,List.zipIdx_cons,ha.ev hx,Env.parts_eq ha hr,y]
  ·cases h
theorem kw {T E:TypeId} {m:Nat} {B:List (Nat×Operand)} {vs:List Value} {τ:Type} {e:Enc τ} {l:List τ} {z:Value} {bytes:Nat} (hT:P.underlying T=some (.slice E)) (hE:TI P E z 1 bytes)
  (hp:L.parts B 0=some vs) (G:vs.length=m) (j:e.sz=1) (hl:e.fl l=vs) (U:0<m) (V:m<=16777216) (hS:St S w0 w os) :
  OpX P n L w ⟨d,.buildSlice T m B.toArray,ty,pos,after,none⟩ (fun v w'=>St S w0 w' (own e v l :: os)):=by
 obtain⟨y,hi,J,hs,hb⟩:=hE.get
 have A:l.length=m:=by have:=e.fl_length l; rw[hl,G,j]at this; omega
 have I:∀v∈vs,v.oneCell'=true:=by rw[<-hl]; exact e.fl_one l
 have hf:=AT y.size hs vs 0 ((Array.range (m*y.size)).map (z.cells[·%z.cells.size]!)) I (by simp[hs,G])
 simp only[fX,bN,bk]at hf
 rw[gE (by simp[hs,G]),bP]at hf
 refine iH (.slice (some ⟨w.heap.size,0,none⟩) m m) (w.alloc (.cells vs.toArray E)) (fun a ha=>?_) ?_
 ·have N:(B.toArray.map fun x=>(x.1,a.eval x.2)).toList=(vs.zipIdx 0).map fun p=>(p.2,p.1):=by
   simp only[Array.toList_map]
   exact Env.parts_eq ha hp
  have O:=run_buildSlice (P:=P) w T E m (B.toArray.map fun x=>(x.1,a.eval x.2)) vs.toArray y z hT hi J (by rw[hs]; simp; omega) (by rw[hs]; simp; omega) (by rw[N]; exact hf)
  simp only[execOp,Sem.run_bind,O,Result.andThen_ok]; rfl
 ·refine hS.push (Fr.alloc _ _ _) (o:=own e _ _) ?_ ?_
  ·refine⟨e.fl_length _,.inr ⟨w.heap.size,m,vs.toArray,E,?_,hS.fresh,Row.new w _ _,?_,?_,?_,?_⟩⟩
   ·rw[A]
   ·omega
   ·simp[maxLen]; omega
   ·simp[j,G]
   ·rw[A,j,hl]; simp; exact aA (by omega)
  ·intro k R
   simp[OE.blk,Value.ownBlock]at R
   omega
theorem x9 {j k bytes:Nat} (h:k<j) (hb:j*bytes<=225000000000000) (z:bytes<=65536):Builtin.nextslicecap j k*bytes<=281474976710656:=by
 have y:Builtin.nextslicecap j k<=j+j / 4+512:=by
  unfold Builtin.nextslicecap
  split
  ·omega
  ·split
   ·omega
   ·rename_i A B
    rw[growBy_four]
    repeat' split
    all_goals omega
 calc Builtin.nextslicecap j k*bytes<=(j+j / 4+512)*bytes:=aT _ y
  _=j*bytes+j / 4*bytes+512*bytes:=by rw[aU,aU]
  _<=281474976710656:=by
   have:j / 4*bytes<=j*bytes / 4:=by
    rw[Nat.le_div_iff_mul_le (by omega)]
    calc j / 4*bytes*4=j / 4*4*bytes:=by rw[aF,aM bytes 4,<-aF]
     _<=j*bytes:=aT _ (Nat.div_mul_le_self _ _)
   omega
theorem uQ (t ty e:TypeId) (i:TypeInfo) (J:P.underlying t=some (.slice e)) (hi:P.info? e=some i)
  (g k z:Nat) (y:Array Value) (T:TypeId) (hg:Row w g y T)
  (a:Addr) (m c:Nat) (news:List Value) (hl:news.length=m*i.size) (A:∀j u,news[j]? = some u->w.cell? (a.add j)=some u) (N:∀u∈news,u.oneCell'=true)
  (B:k+m<=z) (I:k*i.size+news.length<=y.size) :
  (Builtin.append_ #[t,t] ty #[.slice (some ⟨g,0,none⟩) k z,.slice (some a) m c]).run P w =
   .ok (.slice (some ⟨g,0,none⟩) (k+m) z) (w.setRow g (y.toList.take (k*i.size)++news++y.toList.drop (k*i.size+news.length)).toArray):=by
 have hf:=run_firstCells_some (P:=P) w i.size m a m c news hl A
 have G:=iZ P g (k*i.size) T news 0 y w hg (by simpa using I) N
 simp only[bm]at G
 simp[Builtin.append_,run_underlying J,sizeOf,typeInfo,hi,Builtin.lenOf,B,hf,Addr.add_lit,G]
theorem py (t ty e:TypeId) (i:TypeInfo) (z:P.underlying t=some (.slice e)) (hi:P.info? e=some i) (v:Value) (b:Option Addr) (j k c:Nat) (A:v=.slice b j k) (y:j<=k) (x:Option Addr) :
  (Builtin.append_ #[t,t] ty #[v,.slice x 0 c]).run P w=.ok v w:=by
 subst A
 cases b <;> cases x <;> simp[Builtin.append_,run_underlying z,sizeOf,typeInfo,hi,Builtin.lenOf,y,Builtin.firstCells,loadCells,loadCellsFrom,storeCells]
theorem om {T E ty:TypeId} {τ:Type} {e:Enc τ} {z:Value} {bytes:Nat} {v u:Value} {l m:List τ} {B:Nat} (hT:P.underlying T=some (.slice E)) (hE:TI P E z e.sz bytes) (hz:z.cells.size=e.sz) (b6:bytes<=65536) (b3:0<bytes)
  (X:(own e v l).ok S B w) (hu:RO w e u m) (hB:B<=w.heap.size) (hb:(l.length+m.length)*bytes<=225000000000000) :
  ∃v' w',(Builtin.append_ #[T,T] ty #[v,u]).run P w=.ok v' w'/\(own e v' (l++m)).ok S B w'/\Fr (own e v l).blk.toList w w'/\(∀k,(own e v' (l++m)).blk=some k->(own e v l).blk=some k\/w.heap.size<=k):=by
 obtain⟨A,hi,ab,hs,ac⟩:=hE.get
 obtain⟨ua,c,rfl,hc,hr⟩:=hu
 by_cases hm:m=[]
 ·subst hm
  rcases X.2 with⟨rfl,hn⟩ | ⟨g,y,V,T',rfl,ad,hg,ap,bx,b2,J⟩
  ·have hl:l=[]:=bp hn
   subst hl
   refine⟨_,w,py T ty E A hT hi _ none 0 0 c rfl (ax _) ua,?_,Fr.refl _ _,fun k N=>.inl (by simpa using N)⟩
   simpa using X
  ·refine⟨_,w,py T ty E A hT hi _ (some ⟨g,0,none⟩) l.length y c rfl ap ua,?_,Fr.refl _ _,fun k N=>.inl (by simpa using N)⟩
   simpa using X
 ·obtain⟨b,off,rfl,Y⟩:=hr hm
  have G:∀j x,(e.fl m)[j]? = some x->w.cell? ((⟨b,off,none⟩:Addr).add j)=some x:=fun j x U=>by rw[iS]; exact Y j x U
  have R:(e.fl m).length=m.length*A.size:=by rw[hs]; exact e.fl_length m
  have b9:0<m.length:=fb.2 hm
  have ce:l.length+m.length<=225000000000000:=ba (eJ _ b3) hb
  rcases X.2 with⟨rfl,hn⟩ | ⟨g,y,V,T',rfl,ad,hg,ap,bx,b2,J⟩
  ·have hl:l=[]:=bp hn
   subst hl
   simp only[dK,bk]at hb ce
   have I:=run_append_nil (P:=P) w T ty E A z hT hi ab ⟨b,off,none⟩ m.length c (e.fl m) R G b9 (by omega) (by rw[ac]; omega)
   refine⟨_,_,I,⟨e.fl_length _,.inr ⟨w.heap.size,grownCap w m.length 0 E,_,E,?_,?_,Row.new w.drew _ _,?_,?_,?_,?_⟩⟩,?_,?_⟩
   ·simp
   ·exact .inl hB
   ·simp; exact grownCap_ge w m.length 0 E
   ·exact grownCap_le_maxLen w m.length 0 E (by simp[maxLen]; omega)
   ·have:=grownCap_ge w m.length 0 E
    simp only[iT,eo,size_zeroCells,hz,e.fl_length,<-aU]
    exact aT _ (by omega)
   ·simp only[bN,ij,List.toList_toArray]
    rw[<-e.fl_length]
    exact ia
   ·exact (Fr.drew _ w).trans (Fr.alloc _ _ _)
   ·intro k N
    simp[OE.blk,Value.ownBlock]at N
    right; omega
  ·by_cases hroom:l.length+m.length<=y
   ·have O:l.length*A.size+(e.fl m).length<=V.size:=by
     rw[R,<-aU]
     exact ba (aT _ hroom) (by rw[hs]; exact b2)
    have I:=uQ (w:=w) T ty E A hT hi g l.length y V T' hg ⟨b,off,none⟩ m.length c (e.fl m) R G (e.fl_one m) hroom O
    refine⟨_,_,I,⟨e.fl_length _,.inr ⟨g,y,_,T',?_,ad,hg.set _ ?_,?_,bx,?_,?_⟩⟩,?_,?_⟩
    ·simp
    ·simp only[eo,aQ,aJ,ca,fc]at O ⊢
     omega
    ·simpa using hroom
    ·simp only[eo,aQ,aJ,ca,fc]at O ⊢
     omega
    ·rw[hs,J,aQ,aU]
     simp only[aN]
     rw[<-aN,<-e.fl_append]
     have:l.length*e.sz+m.length*e.sz=(e.fl (l++m)).length:=by rw[e.fl_length,aQ,aU]
     rw[this]
     exact ia
    ·exact Fr.setRow w g _
    ·intro k N
     left
     simpa [OE.blk,Value.ownBlock] using N
   ·have Z:∀j x,(e.fl l)[j]? = some x->w.cell? ((⟨g,0,none⟩:Addr).add j)=some x:=fun j x U=>by
     rw[iS,bk,hg.cell j]
     rw[<-J,bR]at U
     split at U
     ·simpa using U
     ·cases U
    have cf:(e.fl l).length=l.length*A.size:=by rw[hs]; exact e.fl_length l
    have I:=run_append_grow (P:=P) w T ty E A z hT hi ab ⟨g,0,none⟩ l.length y (e.fl l) cf Z ⟨b,off,none⟩ m.length c (e.fl m) R G (by omega) (by omega)
     (by rw[ac]; exact x9 (by omega) hb b6)
    refine⟨_,_,I,⟨e.fl_length _,.inr ⟨w.heap.size,grownCap w (l.length+m.length) y E,_,E,?_,?_,Row.new w.drew _ _,?_,?_,?_,?_⟩⟩,?_,?_⟩
    ·simp
    ·exact .inl hB
    ·simp; exact grownCap_ge w (l.length+m.length) y E
    ·exact grownCap_le_maxLen w (l.length+m.length) y E (by simp[maxLen]; omega)
    ·have:=grownCap_ge w (l.length+m.length) y E
     simp only[iT,eo,size_zeroCells,hz,e.fl_length,<-aU]
     exact aT _ (by omega)
    ·simp only[ij,aN]
     rw[<-aN,<-e.fl_append,<-e.fl_length]
     exact ia
    ·exact (Fr.drew _ w).trans (Fr.alloc _ _ _)
    ·intro k N
     simp[OE.blk,Value.ownBlock]at N
     right; omega
theorem FR {x y:Operand} {T E:TypeId} {τ:Type} {e:Enc τ} {z:Value} {bytes:Nat} {v u:Value} {l m:List τ} {i:Nat} (hT:P.underlying T=some (.slice E)) (hE:TI P E z e.sz bytes) (hz:z.cells.size=e.sz) (A:bytes<=65536) (j:0<bytes)
  (hx:L.ev x=some v) (B:L.ev y=some u) (hS:St S w0 w os) (hi:os[i]? = some (own e v l)) (hu:RO w e u m) (hb:(l.length+m.length)*bytes<=225000000000000) :
  OpX P n L w ⟨d,.call ⟨.builtin .append,#[x,y],#[T,T]⟩,ty,pos,after,none⟩ (fun k w'=>St S w0 w' (os.set i (own e k (l++m)))):=by
 obtain⟨k,w',G,I,J,N⟩:=om (ty:=ty) hT hE hz A j (hS.ok _ (bd hi)) hu hS.fr.size hb
 refine iH k w' (fun a ha=>?_) (hS.set hi J I N)
 simp[execOp,resolve,invoke,builtin,ha.ev hx,ha.ev B,G]
theorem Db {x y:Operand} {T E:TypeId} {τ:Type} {e:Enc τ} {z:Value} {bytes:Nat} {u:Value} {m:List τ} (hT:P.underlying T=some (.slice E)) (hE:TI P E z e.sz bytes) (hz:z.cells.size=e.sz) (B:bytes<=65536) (j:0<bytes)
  (hx:L.ev x=some (.slice none 0 0)) (G:L.ev y=some u) (hS:St S w0 w os) (hu:RO w e u m) (hb:m.length*bytes<=225000000000000) :
  OpX P n L w ⟨d,.call ⟨.builtin .append,#[x,y],#[T,T]⟩,ty,pos,after,none⟩ (fun A w'=>St S w0 w' (own e A m :: os)):=by
 have hn:(own e (.slice none 0 0) ([]:List τ)).ok S w0.heap.size w:=⟨by simp,.inl ⟨rfl,rfl⟩⟩
 obtain⟨A,w',I,J,N,O⟩:=om (ty:=ty) hT hE hz B j hn hu hS.fr.size (by simpa using hb)
 refine iH A w' (fun a ha=>?_) (hS.push (by simpa [OE.blk,Value.ownBlock] using N) J fun k R=>?_)
 ·simp[execOp,resolve,invoke,builtin,ha.ev hx,ha.ev G,I]
 ·rcases O k R with h | h
  ·simp[OE.blk,Value.ownBlock]at h
  ·exact h
theorem NQ {τ:Type} (e:Enc τ) (l:List τ) (j:Nat) (t:τ) (u:Value) (hu:e.cells t=[u]) (k:j<l.length):e.fl (l.set j t)=(e.fl l).set (j*e.sz) u:=by
 have y:e.sz=1:=by rw[<-e.len t,hu]; rfl
 have z:∀(l:List τ) (j:Nat),j<l.length->e.fl (l.set j t)=(e.fl l).set j u:=by
  intro l
  induction l with
  | nil=>intro j k; simp at k
  | cons a r ih=>
   intro j k
   have ha:∃b,e.cells a=[b]:=List.length_eq_one_iff.1 (by rw[e.len,y])
   obtain⟨b,hb⟩:=ha
   cases j with
   | zero=>simp[Enc.fl,hu,hb]
   | succ j=>
    have:=ih j (by simpa using k)
    simp only[Enc.fl,List.set_cons_succ,dU,hb,ge]at this ⊢
    rw[this]
 rw[z l j k,y,cE]
theorem y7 {T:TypeId} {z:Value} {bytes:Nat} (hT:TI P T z 1 bytes) {g j:Nat} {k:Array Value} {A:TypeId} {u:Value} (hg:Row w g k A) (B:j<k.size) (hu:u.oneCell'=true) :
  (storeVar T ⟨g,j,none⟩ u).run P w=.ok () (w.setRow g (k.toList.set j u).toArray):=by
 obtain⟨I,hi,_,hs,_⟩:=hT.get
 have hc:u.cells=#[u]:=by cases u <;> simp_all [Value.cells,Value.oneCell']
 have y:=iZ P g j A [u] 0 k w hg (by simp; omega) (by simpa using hu)
 have G:(k.toList.take (j+0)++[u]++k.toList.drop (j+0+[u].length))=k.toList.set j u:=by
  simp only[bm,List.length_singleton]
  rw[fI,ag (by simpa using B)]
  simp
 rw[G]at y
 simp[storeVar,sizeOf,typeInfo,hi,hs,hc,y]
theorem vh {x y:Operand} {T:TypeId} {τ:Type} {e:Enc τ} {z:Value} {bytes:Nat} {v u:Value} {l:List τ} {i j:Nat} {t:τ} (hT:TI P T z 1 bytes)
  (hx:L.ev x=some (pP (ixA v e.sz j))) (Z:L.ev y=some u) (hu:e.cells t=[u]) (hS:St S w0 w os) (hi:os[i]? = some (own e v l)) (hj:j<l.length) :
  OpY P n L w ⟨none,.store T x y,ty,pos,after,none⟩ (fun w'=>St S w0 w' (os.set i (own e v (l.set j t)))):=by
 have N:=hS.ok _ (bd hi)
 have A:e.sz=1:=by rw[<-e.len t,hu]; rfl
 have O:u.oneCell'=true:=e.one t u (by rw[hu]; simp)
 rcases N.2 with⟨rfl,hn⟩ | ⟨g,G,I,T',rfl,R,hg,U,V,J,B⟩
 ·omega
 ·have X:j<I.size:=by rw[A]at J; omega
  have Y:ixA (.slice (some ⟨g,0,none⟩) l.length G) e.sz j=⟨g,j,none⟩:=by simp[ixA,iS,A]
  rw[Y]at hx
  have hr:=y7 (P:=P) (T:=T) hT hg X O
  refine tq (w.setRow g (I.toList.set j u).toArray) (fun a ha=>?_) (hS.set hi (Fr.setRow w g _) (o':=own e _ _) ⟨e.fl_length _,.inr ⟨g,G,_,T',by simp,R,hg.set _ (by simp),by simpa using U,V,by simpa using J,?_⟩⟩ fun k hk=>.inl hk)
  ·simp[execOp,ha.ev hx,ha.ev Z,Instr.storeAt,Instr.sureAddr,hr]
  ·simp only[dJ]
   rw[NQ e l j t u hu hj,<-B,A,cE,cE,List.take_set]
theorem Hs {D T E:TypeId} {x:Operand} {l:List UInt8} (J:P.underlying D=some .string) (hT:P.underlying T=some (.slice E)) (hE:P.underlying E=some (.int .u8))
  (hx:L.ev x=some (vS l)) (hS:St S w0 w os) :
  OpX P n L w ⟨d,.convert D T x,ty,pos,after,none⟩ (fun v w'=>St S w0 w' (red e8 v l :: os)):=by
 have N:=Lib.run_convert_string_bytes (P:=P) w D T E ⟨⟨l⟩⟩ J hT hE
 have B:Fr [] w (Lib.bytesWorld w E ⟨⟨l⟩⟩):=⟨rfl,rfl,rfl,by rw[Lib.bytesWorld_size]; omega,fun k y _=>Lib.bytesWorld_at_old w E ⟨⟨l⟩⟩ k y⟩
 have G:(red e8 (.slice (some ⟨w.heap.size,0,none⟩) l.length (grownCap w (⟨⟨l⟩⟩:ByteArray).size 0 E)) l).ok S w0.heap.size (Lib.bytesWorld w E ⟨⟨l⟩⟩):=by
  refine⟨e8.fl_length l,_,_,rfl,grownCap_ge w _ 0 E,fun _=>⟨w.heap.size,0,rfl,?_,hS.fresh,fun j u A=>?_⟩⟩
  ·rw[Lib.bytesWorld_size]; exact Nat.lt_succ_self _
  ·rw[wu]at A
   have z:j<l.length:=by
    have:=(aP.1 A).1
    simpa using this
   rw[bk,Lib.bytesWorld_cell w E ⟨⟨l⟩⟩ j z]
   simp[z]at A
   subst A
   simp[List.getD,z]
 have I:St S w0 (Lib.bytesWorld w E ⟨⟨l⟩⟩) (red e8 (.slice (some ⟨w.heap.size,0,none⟩) l.length (grownCap w (⟨⟨l⟩⟩:ByteArray).size 0 E)) l :: os):=hS.push B G fun k y=>by
  simp only[OE.blk]at y
  split at y
  ·cases y
  ·simp[Value.ownBlock]at y; omega
 refine iH _ _ (fun a ha=>?_) I
 simp only[execOp,ha.ev hx,Sem.run_bind,N,Result.andThen_ok]; rfl
def Ret (φ:Value->World->Prop):Ending->World->Prop:=fun e w=>match e with
 | .returned v=>φ v w
 | _=>False
def ki (P:Program) (f:FuncId):Bool:=match P.funcs[f]? with
 | some fn => fn.body.isSome && fn.name != "runtime.NumGoroutine"
 | none=>false
theorem rR {f:FuncId} {args:Array Value} (h:ki P f=true):(callFunc f args).run P w=.ok (.enter f args) w:=by
 unfold ki at h
 split at h
 ·rename_i fn hf
  simp only[aK]at h
  have j : ¬ (fn.name == "runtime.NumGoroutine") = true := by simpa using h.2
  have k:fn.body.isNone=false:=by cases hb:fn.body <;> simp_all
  simp only[callFunc,Sem.run_bind,program,Sem.run,Result.andThen_ok,hf,j,k]
  rfl
 ·cases h
theorem Bl {o:Oper} {f:FuncId} {xs:List Operand} {j:Array TypeId} {vs:List Value} {a:Act} (k:o.op=.call ⟨.value (.func f),xs.toArray,j⟩)
  (hf:ki P f=true) (hargs:xs.map a.eval=vs):(execOp a.eval o).run P w=.ok (.enter f vs.toArray) w:=by
 simp only[execOp,k,resolve,Act.eval,Deferred.ofValue,Sem.run_bind,Sem.run_pure,Result.andThen_ok,invoke]
 have:(#[]++Array.map a.eval xs.toArray++#[]:Array Value)=vs.toArray:=by simp[hargs]
 rw[this]
 exact rR hf
theorem tc {o:Oper} {f:FuncId} {xs:List Operand} {y:Array TypeId} {vs:List Value} {φ:Value->World->Prop} {K:Act->World->Prop} {a:Act} (z:o.op=.call ⟨.value (.func f),xs.toArray,y⟩)
  (hf:ki P f=true) (hargs:xs.map a.eval=vs) (hc:Calls P f vs.toArray w (Ret φ)) (k:∀v w',φ v w'->K (a.put o.dst v) w'):o.wp P a w K Q:=by
 unfold Oper.wp
 rw[Bl z hf hargs]
 refine Calls.mono hc fun e w' j=>?_
 cases e with
 | returned v=>exact k v w' j
 | panicked c=>exact j.elim
 | outgrown=>exact j.elim
theorem mM {ops:Array Oper} {rest:List Oper} {d:Nat} {f:FuncId} {xs:List Operand} {j:Array TypeId} {vs:List Value} {φ:Value->World->Prop}
  (hf:ki P f=true) (hargs:L.evs xs=some vs) (hc:Calls P f vs.toArray w (Ret φ)) (hd:Nat.blt d n=true)
  (k:∀v w',φ v w'->wpR P n ops Q rest ((d,v) :: L) w'):wpR P n ops Q (⟨some d,.call ⟨.value (.func f),xs.toArray,j⟩,ty,pos,after,none⟩ :: rest) L w:=fun a ha=>by
 unfold wpList
 rw[ag (by simp[Region.wanted])]
 exact .inl (tc rfl hf (ha.evs hargs) hc fun v w' h=>k v w' h _ (ha.put hd))
theorem lV {ops:Array Oper} {rest:List Oper} {d:Nat} {f:FuncId} {xs:List Operand} {j:Array TypeId} {vs:List Value} {φ:Value->World->Prop}
  (hargs:L.evs xs=some vs) (hc:Calls P f vs.toArray w (Ret φ)) (hd:Nat.blt d n=true)
  (k:∀v w',φ v w'->wpR P n ops Q rest ((d,v) :: L) w') (hf:ki P f=true:=by kernel_rfl):wpR P n ops Q (⟨some d,.call ⟨.value (.func f),xs.toArray,j⟩,ty,pos,after,none⟩ :: rest) L w:=mM hf hargs hc hd k
theorem jQ {ops:Array Oper} {C D:World->Prop} {fl:Nat->Bool} {i:Nat} {r:List Nat} {d:Nat} {f:FuncId} {xs:List Operand} {z:Array TypeId} {vs:List Value} {φ:Value->World->Prop} (A:C w)
  (j:ops[i]? = some ⟨some d,.call ⟨.value (.func f),xs.toArray,z⟩,ty,pos,after,none⟩) (y:fl i=false)
  (hf:ki P f=true) (hargs:L.evs xs=some vs) (hc:Calls P f vs.toArray w (Ret φ)) (hd:Nat.blt d n=true)
  (k:∀v w',φ v w'->lxE P n ops C D Q fl r ((d,v) :: L) w'):lxE P n ops C D Q fl (i :: r) L w:=fun a ha=>by
 refine⟨A,?_⟩
 simp only[j,y,ah,aj]
 unfold wpOp
 simp only[j]
 rw[ag (by simp[Region.wanted])]
 exact .inl (tc rfl hf (ha.evs hargs) hc fun v w' h=>k v w' h _ (ha.put hd))
theorem jm {fn:Func} {t:Tmp} {v:Value} {φ:Value->World->Prop} (j:fn.results=#[.tmp t]) (k:L.get t=some v) (h:φ v w):QE n (bodyPost P fn (Ret φ)) .ret L w:=fun a ha=>by
 refine⟨ha.defers,v,?_,h⟩
 have:=ha.get t v k
 simp[results,j,this]
theorem tg {fn:Func} {φ:Value->World->Prop} (j:fn.results=#[]) (h:φ (.tuple #[]) w):QE n (bodyPost P fn (Ret φ)) .normal L w:=fun a ha=>by
 refine⟨ha.defers,.tuple #[],?_,h⟩
 simp[results,j]
theorem jP {fn:Func} {y z:Tmp} {j k:Value} {φ:Value->World->Prop} (A:fn.results=#[.tmp y,.tmp z]) (B:L.get y=some j) (G:L.get z=some k) (h:φ (.tuple #[j,k]) w):QE n (bodyPost P fn (Ret φ)) .ret L w:=fun a ha=>by
 refine⟨ha.defers,.tuple #[j,k],?_,h⟩
 have I:=ha.get y j B
 have J:=ha.get z k G
 simp[results,A,I,J]
theorem NN {fn:Func} {y z t3:Tmp} {j k v3:Value} {φ:Value->World->Prop} (A:fn.results=#[.tmp y,.tmp z,.tmp t3]) (B:L.get y=some j) (G:L.get z=some k) (I:L.get t3=some v3) (h:φ (.tuple #[j,k,v3]) w):QE n (bodyPost P fn (Ret φ)) .ret L w:=fun a ha=>by
 refine⟨ha.defers,.tuple #[j,k,v3],?_,h⟩
 have J:=ha.get y j B
 have N:=ha.get z k G
 have g3:=ha.get t3 v3 I
 simp[results,A,J,N,g3]
theorem qo {fn:Func} {z A t3 t4 t5 B:Tmp} {j k v3 v4 v5 y:Value} {φ:Value->World->Prop} (G:fn.results=#[.tmp z,.tmp A,.tmp t3,.tmp t4,.tmp t5,.tmp B]) (I:L.get z=some j) (J:L.get A=some k) (N:L.get t3=some v3) (O:L.get t4=some v4) (R:L.get t5=some v5) (U:L.get B=some y) (h:φ (.tuple #[j,k,v3,v4,v5,y]) w):QE n (bodyPost P fn (Ret φ)) .ret L w:=fun a ha=>by
 refine⟨ha.defers,.tuple #[j,k,v3,v4,v5,y],?_,h⟩
 have V:=ha.get z j I
 have X:=ha.get A k J
 have g3:=ha.get t3 v3 N
 have g4:=ha.get t4 v4 O
 have Y:=ha.get t5 v5 R
 have Z:=ha.get B y U
 simp[results,G,V,X,g3,g4,Y,Z]
def qj:Nat->List Value->Env
 | _,[]=>[]
 | k,v :: r=>(k,v) :: qj (k+1) r
theorem vE:∀(vs:List Value) (k i:Nat) (v:Value),(qj k vs).get i=some v->k<=i/\vs[i - k]? = some v
 | [],k,i,v,h=>by simp[qj,Env.get]at h
 | u :: r,k,i,v,h=>by
  simp only[qj,Env.get]at h
  by_cases hk:Nat.beq k i=true
  ·rw[hk]at h
   simp at h
   have:=bK hk
   subst this
   simp[h]
  ·simp only[hk]at h
   have:=vE r (k+1) i v (by simpa using h)
   refine⟨by omega,?_⟩
   rw[show i - k=(i - (k+1))+1 by omega]
   simpa using this.2
theorem KH {f:FuncId} {fn:Func} {c:Code} {vs:List Value} {φ:Value->World->Prop} (hf:P.funcs[f]? = some fn) (hb:fn.body=some c) (hn:Nat.ble vs.length fn.ntmps=true)
  (h:wpC P fn.ntmps c (bodyPost P fn (Ret φ)) (qj 0 vs) w):Calls P f vs.toArray w (Ret φ):=by
 refine calls_of_wp hf hb (h _ ⟨rfl,?_,fun i v hi=>?_⟩)
 ·have:=ao hn
  simp; omega
 ·have:=(vE vs 0 i v hi).2
  simp only[f9]at this
  have hl:i<vs.length:=(aP.1 this).1
  rw[Array.getElem?_append_left (by simpa using hl)]
  simpa using this
end
section
variable {P:Program} {n:Nat} {L:Env} {w w0:World} {Q:Exit->Act->World->Prop} {S:L02} {os:List OE}
variable {d:Option Tmp} {ty:TypeId} {pos:String} {after:Array Edge}
theorem o8 {x y:Operand} {T E:TypeId} {k:IntKind} {i:Int} {τ:Type} {e:Enc τ} {v:Value} {l:List τ} {t:τ} {z:Value} {bytes:Nat} (hT:P.underlying T=some (.slice E)) (hE:TI P E z e.sz bytes)
  (hx:L.ev x=some v) (j:L.ev y=some (.int k i)) (h:RO w e v l) (hg:aw l i=some t) :
  OpV P n L w ⟨d,.indexAddr T x y,ty,pos,after,none⟩ (pP (ixA v e.sz i.toNat)) w:=
 O4 hT hE hx j h (fO hg).1 (fO hg).2.1
theorem o7 {x:Operand} {T:TypeId} {D:TypeDesc} {τ:Type} {e:Enc τ} {v:Value} {l:List τ} {i:Int} {t:τ} {u:Value} (hT:P.underlying T=some D) (j:(match D with | .struct _ | .array _ _=>true | _=>false)=false)
  (hx:L.ev x=some (pP (ixA v e.sz i.toNat))) (h:RO w e v l) (hg:aw l i=some t) (hu:e.cells t=[u]) :
  OpV P n L w ⟨d,.load T x,ty,pos,after,none⟩ u w:=G4 hT j hx h (fO hg).2.2 hu
theorem Q1 {x y:Operand} {T:TypeId} {k:IntKind} {i:Int} {l:L01} {t:UInt8} (hT:P.underlying T=some .string)
  (hx:L.ev x=some (vS l)) (j:L.ev y=some (.int k i)) (hg:aw l i=some t) :
  OpV P n L w ⟨d,.index T x y,ty,pos,after,none⟩ (v8 t) w:=Mx hT hx j (fO hg).1 (fO hg).2.2
theorem rf {x y:Operand} {T:TypeId} {τ:Type} {e:Enc τ} {z:Value} {bytes:Nat} {v u:Value} {l:List τ} {i:Nat} {j:Int} {t k:τ} (hT:TI P T z 1 bytes)
  (hx:L.ev x=some (pP (ixA v e.sz j.toNat))) (A:L.ev y=some u) (hS:St S w0 w os) (hi:os[i]? = some (own e v l)) (hg:aw l j=some k) (hu:e.cells t=[u]) :
  OpY P n L w ⟨none,.store T x y,ty,pos,after,none⟩ (fun w'=>St S w0 w' (os.set i (own e v (l.set j.toNat t)))):=
 vh hT hx A hu hS hi (fO hg).2.1
theorem Py {x y:Operand} {T:TypeId} {k:IntKind} {lo:Int} {l r:L01} (hT:P.underlying T=some .string)
  (hx:L.ev x=some (vS l)) (j:L.ev y=some (.int k lo)) (hg:drO l lo=some r) :
  OpV P n L w ⟨d,.slice T x (some y) none none,ty,pos,after,none⟩ (vS r) w:=by
 obtain⟨⟨z,A⟩,rfl⟩:=lC hg
 exact Ko hT hx j z A
section
variable {T E:TypeId} {τ:Type} {e:Enc τ} {v:Value} {l r:List τ} {z0:Value} {bytes:Nat}
theorem PS {x y z:Operand} {k j:IntKind} {lo hi:Int} (hT:P.underlying T=some (.slice E)) (hE:TI P E z0 e.sz bytes)
  (hx:L.ev x=some v) (A:L.ev y=some (.int k lo)) (hz:L.ev z=some (.int j hi)) (h:RO w e v l) (hg:slO l lo hi=some r) :
  OpV P n L w ⟨d,.slice T x (some y) (some z) none,ty,pos,after,none⟩ (slV v e.sz lo.toNat hi.toNat) w:=
 Oy hT hE hx A hz h (fY hg).1.1 (fY hg).1.2.1 (fY hg).1.2.2
theorem u7 {x y:Operand} {k:IntKind} {lo:Int} (hT:P.underlying T=some (.slice E)) (hE:TI P E z0 e.sz bytes)
  (hx:L.ev x=some v) (j:L.ev y=some (.int k lo)) (h:RO w e v l) (hg:drO l lo=some r) :
  OpV P n L w ⟨d,.slice T x (some y) none none,ty,pos,after,none⟩ (slV v e.sz lo.toNat l.length) w:=
 Nz hT hE hx j h (lC hg).1.1 (lC hg).1.2
theorem Lq {x z:Operand} {k:IntKind} {hi:Int} (hT:P.underlying T=some (.slice E)) (hE:TI P E z0 e.sz bytes)
  (hx:L.ev x=some v) (hz:L.ev z=some (.int k hi)) (h:RO w e v l) (hg:tkO l hi=some r) :
  OpV P n L w ⟨d,.slice T x none (some z) none,ty,pos,after,none⟩ (slV v e.sz 0 hi.toNat) w:=
 Mi hT hE hx hz h (oO hg).1.1 (oO hg).1.2
theorem RO.g_sl {lo hi:Int} (h:RO w e v l) (hg:slO l lo hi=some r):RO w e (slV v e.sz lo.toNat hi.toNat) r:=by
 obtain⟨⟨k,y,j⟩,rfl⟩:=fY hg
 exact h.sub (by omega) j
theorem RO.g_sll {lo:Int} (h:RO w e v l) (hg:drO l lo=some r):RO w e (slV v e.sz lo.toNat l.length) r:=by
 obtain⟨⟨k,j⟩,rfl⟩:=lC hg
 exact h.subl j
theorem RO.g_slh {hi:Int} (h:RO w e v l) (hg:tkO l hi=some r):RO w e (slV v e.sz 0 hi.toNat) r:=by
 obtain⟨⟨k,j⟩,rfl⟩:=oO hg
 exact h.subh j
theorem RP.g_sl {lo hi:Int} (h:RP S w e v l) (hg:slO l lo hi=some r):RP S w e (slV v e.sz lo.toNat hi.toNat) r:=by
 obtain⟨⟨k,y,j⟩,rfl⟩:=fY hg
 exact h.sub (by omega) j
theorem RP.g_sll {lo:Int} (h:RP S w e v l) (hg:drO l lo=some r):RP S w e (slV v e.sz lo.toNat l.length) r:=by
 obtain⟨⟨k,j⟩,rfl⟩:=lC hg
 exact h.subl j
theorem RP.g_slh {hi:Int} (h:RP S w e v l) (hg:tkO l hi=some r):RP S w e (slV v e.sz 0 hi.toNat) r:=by
 obtain⟨⟨k,j⟩,rfl⟩:=oO hg
 exact h.subh j
theorem RP.nil (S:L02) (w:World):RP S w e (.slice none 0 0) ([]:List τ):=⟨RO.nil w e,by simp[Value.ownBlock]⟩
end
theorem Co {T E:TypeId} {x y:Operand} {k j:IntKind} {l c:Int} {τ:Type} {e:Enc τ} {t0:τ} {r:List τ} {z:Value} {bytes:Nat} (hT:P.underlying T=some (.slice E)) (hE:TI P E z e.sz bytes) (hz:z.cells.toList=e.cells t0)
  (hx:L.ev x=some (.int k l)) (A:L.ev y=some (.int j c)) (hS:St S w0 w os) (hg:mkO bytes l c t0=some r) :
  OpX P n L w ⟨d,.makeSlice T x y,ty,pos,after,none⟩ (fun v w'=>St S w0 w' (own e v r :: os)):=by
 obtain⟨rfl,B,G,I,J⟩:=JM hg
 exact JU hT hE hz hx A hS B G I J
theorem qE {x y:Operand} {T E:TypeId} {τ:Type} {e:Enc τ} {z:Value} {bytes:Nat} {v u:Value} {l m r:List τ} {i:Nat} (hT:P.underlying T=some (.slice E)) (hE:TI P E z e.sz bytes) (hz:(Nat.beq z.cells.size e.sz&&Nat.ble bytes 65536&&Nat.blt 0 bytes)=true)
  (hx:L.ev x=some v) (j:L.ev y=some u) (hS:St S w0 w os) (hi:os[i]? = some (own e v l)) (hu:RO w e u m) (hg:apO bytes l m=some r) :
  OpX P n L w ⟨d,.call ⟨.builtin .append,#[x,y],#[T,T]⟩,ty,pos,after,none⟩ (fun k w'=>St S w0 w' (os.set i (own e k r))):=by
 obtain⟨rfl,hb⟩:=q9 hg
 simp only[aK,fN]at hz
 exact FR hT hE (bK hz.1.1) (ao hz.1.2) hz.2 hx j hS hi hu hb
theorem He {x y:Operand} {T E:TypeId} {τ:Type} {e:Enc τ} {z:Value} {bytes:Nat} {u:Value} {m r:List τ} (hT:P.underlying T=some (.slice E)) (hE:TI P E z e.sz bytes) (hz:(Nat.beq z.cells.size e.sz&&Nat.ble bytes 65536&&Nat.blt 0 bytes)=true)
  (hx:L.ev x=some (.slice none 0 0)) (j:L.ev y=some u) (hS:St S w0 w os) (hu:RO w e u m) (hg:apO bytes [] m=some r) :
  OpX P n L w ⟨d,.call ⟨.builtin .append,#[x,y],#[T,T]⟩,ty,pos,after,none⟩ (fun k w'=>St S w0 w' (own e k r :: os)):=by
 obtain⟨rfl,hb⟩:=q9 hg
 simp only[aK,fN]at hz
 exact Db hT hE (bK hz.1.1) (ao hz.1.2) hz.2 hx j hS hu (by simpa using hb)
theorem St.call {w':World} {os':List OE} (h:St S w0 w os) (B:St [] w w' os'):St S w0 w' (os'++os):=by
 have hf:Fr [] w w':=B.fr
 have I:∀o∈os',∀k,o.blk=some k->w.heap.size<=k:=fun o y k J=>by
  rcases ((B.ok o y).lt J).2 with j | j
  ·exact j
  ·simp at j
 refine⟨h.fr.step hf (by simp),fun o y=>?_,?_⟩
 ·rcases bG.1 y with y | y
  ·have z:=B.ok o y
   have Y:=h.fr.size
   cases o with
   | sl v sz m cs=>
    refine⟨z.1,?_⟩
    rcases z.2 with hn | ⟨g,O,R,T,N,A,rest⟩
    ·exact .inl hn
    ·refine .inr ⟨g,O,R,T,N,.inl ?_,rest⟩
     rcases A with j | j
     ·omega
     ·simp at j
   | rd v sz m cs=>
    obtain⟨hl,a,c,N,hc,hx⟩:=z
    refine⟨hl,a,c,N,hc,fun hn=>?_⟩
    obtain⟨b,off,j,U,G,X⟩:=hx hn
    refine⟨b,off,j,U,.inl ?_,X⟩
    rcases G with G | G
    ·omega
    ·simp at G
   | bx b cs=>
    obtain⟨A,hh⟩:=z
    refine⟨.inl ?_,hh⟩
    rcases A with j | j
    ·omega
    ·simp at j
  ·exact (h.ok o y).fr hf (by simp)
 ·rw[cd]
  refine⟨B.dj,h.dj,fun o y p hp k J V=>?_⟩
  have j:=I o y k J
  have U:=((h.ok p hp).lt V).1
  omega
theorem St.pick {os':List OE} (h:St S w0 w os) (j:L02) (hn:j.Nodup) (J:os'.map some=j.map (fun i=>os[i]?)):St S w0 w os':=by
 have Z:os'.length=j.length:=by have:=da List.length J; simpa using this
 have z:∀k (I:k<os'.length),∃(A:k<j.length),os[j[k]]? = some os'[k]:=fun k I=>by
  have B:(os'.map some)[k]? = (j.map (fun i=>os[i]?))[k]?:=by rw[J]
  have A:k<j.length:=by omega
  simp[I,A]at B
  exact⟨A,B.symm⟩
 refine⟨h.fr,fun o ho=>?_,?_⟩
 ·obtain⟨k,I,rfl⟩:=List.getElem_of_mem ho
  obtain⟨A,B⟩:=z k I
  exact h.ok _ (bd B)
 ·rw[ff]
  intro a b ha hb N
  obtain⟨O,B⟩:=z a ha
  obtain⟨R,h2⟩:=z b hb
  have U:j[a]≠j[b]:=by
   have:=ff.1 hn a b O R N
   exact this
  have hd:∀x y (hx:x<os.length) (hy:y<os.length),x<y->(os[x]).dj (os[y]):=ff.1 h.dj
  obtain⟨l1,V⟩:=aP.1 B
  obtain⟨X,Y⟩:=aP.1 h2
  rcases Nat.lt_or_gt_of_ne U with G | G
  ·have:=hd _ _ l1 X G; rw[V,Y]at this; exact this
  ·have:=hd _ _ X l1 G; rw[V,Y]at this; exact this.symm
def ndB:L02->Bool
 | []=>true
 | x :: l=>!(l.any (Nat.beq x))&&ndB l
theorem yE:∀l:L02,ndB l=true->l.Nodup
 | [],_=>List.nodup_nil
 | x :: l,h=>by
  unfold ndB at h
  rw[aK]at h
  refine List.nodup_cons.2 ⟨fun k=>?_,yE l h.2⟩
  have j:=h.1
  rw[List.any_eq_true.2 ⟨x,k,Nat.beq_refl x⟩]at j
  cases j
theorem St.pk {os':List OE} (h:St S w0 w os) (j:L02) (hn:ndB j=true) (k:os'.map some=j.map (fun i=>os[i]?)):St S w0 w os':=h.pick j (yE j hn) k
theorem St.drew (h:St S w0 w os):St S w0 w.drew os:=h.step (Fr.drew [] w)
theorem St.nil {τ:Type} (e:Enc τ) (h:St S w0 w os):St S w0 w (own e (.slice none 0 0) ([]:List τ) :: os):=
 ⟨h.fr,fun o j=>by
  rcases aG.1 j with rfl | j
  ·exact⟨by simp,.inl ⟨rfl,rfl⟩⟩
  ·exact h.ok o j,List.Pairwise.cons (fun p _ k y=>by simp[OE.blk,Value.ownBlock]at y) h.dj⟩
theorem kY {ops:Array Oper} {o:Oper} {a:Act} {j:Nat} {k b:Bool} {t:Tmp} (ha:Rep n L a) (hg:o.guard=some (j,k)) (y:(ops[j]?).bind (·.dst)=some t) (hb:L.get t=some (vB b)) :
  Region.wanted o (yielded ops a.tmps)=(b == k):=by
 have:=ha.get t _ hb
 simp[Region.wanted,hg,yielded,y,this]
theorem dM {ops:Array Oper} {rest:List Oper} {d:Nat} {op:Op} {v:Value} {w':World} {j:Nat} {k:Bool} {t:Tmp}
  (y:(ops[j]?).bind (·.dst)=some t) (hb:L.get t=some (vB k))
  (z:OpV P n L w ⟨some d,op,ty,pos,after,none⟩ v w') (hd:Nat.blt d n=true)
  (h:wpR P n ops Q rest ((d,v) :: L) w'):wpR P n ops Q (⟨some d,op,ty,pos,after,some (j,k)⟩ :: rest) L w:=fun a ha=>by
 unfold wpList
 rw[ag (by rw[kY ha rfl y hb]; simp)]
 refine .inl ?_
 have:=z a ha
 unfold Oper.wp
 have A:execOp a.eval ⟨some d,op,ty,pos,after,some (j,k)⟩=execOp a.eval ⟨some d,op,ty,pos,after,none⟩:=by cases op <;> rfl
 rw[A,this]
 exact h _ (ha.put hd)
theorem xY {ops:Array Oper} {rest:List Oper} {d:Nat} {op:Op} {j:Nat} {k b:Bool} {t:Tmp}
  (z:(ops[j]?).bind (·.dst)=some t) (hb:L.get t=some (vB b)) (y:(b == k)=false) (hd:Nat.blt d n=true)
  (h:wpR P n ops Q rest ((d,undef) :: L) w):wpR P n ops Q (⟨some d,op,ty,pos,after,some (j,k)⟩ :: rest) L w:=fun a ha=>by
 unfold wpList
 rw[ae (by rw[kY ha rfl z hb,y]; simp)]
 exact h _ (ha.put hd)
theorem rB {ops:Array Oper} {o:Oper} {a:Act} {j:Nat} {k:Bool} {t:Tmp} (ha:Rep n L a) (hg:o.guard=some (j,k)) (y:(ops[j]?).bind (·.dst)=some t) (hb:L.get t=some undef) :
  Region.wanted o (yielded ops a.tmps)=false:=by
 have:=ha.get t _ hb
 simp[Region.wanted,hg,yielded,y,this,undef]
theorem EE {ops:Array Oper} {rest:List Oper} {d:Nat} {op:Op} {j:Nat} {k:Bool} {t:Tmp}
  (y:(ops[j]?).bind (·.dst)=some t) (hb:L.get t=some undef) (hd:Nat.blt d n=true)
  (h:wpR P n ops Q rest ((d,undef) :: L) w):wpR P n ops Q (⟨some d,op,ty,pos,after,some (j,k)⟩ :: rest) L w:=fun a ha=>by
 unfold wpList
 rw[ae (by rw[rB ha rfl y hb]; simp)]
 exact h _ (ha.put hd)
theorem Fy {ops:Array Oper} {C D:World->Prop} {fl:Nat->Bool} {i:Nat} {r:L02} {d:Nat} {op:Op} {j:Nat} {k:Bool} {t:Tmp} (y:C w) (z:ops[i]? = some ⟨some d,op,ty,pos,after,some (j,k)⟩) (hf:fl i=true)
  (A:(ops[j]?).bind (·.dst)=some t) (hb:L.get t=some undef) (hd:Nat.blt d n=true) (h:lxE P n ops C D Q fl r ((d,undef) :: L) w):lxE P n ops C D Q fl (i :: r) L w:=fun a ha=>by
 refine⟨y,?_⟩
 simp only[z,hf,al]
 exact⟨undef,.inl (.inr ⟨rB ha rfl A hb,rfl⟩),h _ (ha.put hd)⟩
theorem Gr {ops:Array Oper} {rest:List Oper} {d:Nat} {f:FuncId} {xs:List Operand} {z:Array TypeId} {vs:List Value} {φ:Value->World->Prop} {j:Nat} {y:Bool} {t:Tmp}
  (A:(ops[j]?).bind (·.dst)=some t) (hb:L.get t=some (vB y))
  (hf:ki P f=true) (hargs:L.evs xs=some vs) (hc:Calls P f vs.toArray w (Ret φ)) (hd:Nat.blt d n=true)
  (k:∀v w',φ v w'->wpR P n ops Q rest ((d,v) :: L) w'):wpR P n ops Q (⟨some d,.call ⟨.value (.func f),xs.toArray,z⟩,ty,pos,after,some (j,y)⟩ :: rest) L w:=fun a ha=>by
 unfold wpList
 rw[ag (by rw[kY ha rfl A hb]; simp)]
 exact .inl (tc rfl hf (ha.evs hargs) hc fun v w' h=>k v w' h _ (ha.put hd))
theorem pi {ops:Array Oper} {rest:List Oper} {d:Nat} {f:FuncId} {xs:List Operand} {j:Array TypeId} {vs:List Value} {V:Value} {os':List OE}
  (hS:St S w0 w os) (hargs:L.evs xs=some vs) (hc:Calls P f vs.toArray w (Ret fun v w'=>v=V/\St [] w w' os')) (hd:Nat.blt d n=true)
  (k:∀w',St S w0 w' (os'++os)->wpR P n ops Q rest ((d,V) :: L) w') (hf:ki P f=true:=by kernel_rfl):wpR P n ops Q (⟨some d,.call ⟨.value (.func f),xs.toArray,j⟩,ty,pos,after,none⟩ :: rest) L w:=
 mM hf hargs hc hd fun v w' ⟨e,h⟩=>by subst e; exact k w' (hS.call h)
theorem O2 {ops:Array Oper} {rest:List Oper} {d:Nat} {f:FuncId} {xs:List Operand} {j:Array TypeId} {vs:List Value} {α:Type} {V:α->Value} {os':α->List OE}
  (hS:St S w0 w os) (hargs:L.evs xs=some vs) (hc:Calls P f vs.toArray w (Ret fun v w'=>∃a,v=V a/\St [] w w' (os' a))) (hd:Nat.blt d n=true)
  (k:∀a w',St S w0 w' (os' a++os)->wpR P n ops Q rest ((d,V a) :: L) w') (hf:ki P f=true:=by kernel_rfl):wpR P n ops Q (⟨some d,.call ⟨.value (.func f),xs.toArray,j⟩,ty,pos,after,none⟩ :: rest) L w:=
 mM hf hargs hc hd fun v w' ⟨a,e,h⟩=>by subst e; exact k a w' (hS.call h)
theorem vA {ops:Array Oper} {rest:List Oper} {d:Nat} {f:FuncId} {xs:List Operand} {j:Array TypeId} {vs:List Value} {os':Value->List OE}
  (hS:St S w0 w os) (hargs:L.evs xs=some vs) (hc:Calls P f vs.toArray w (Ret fun v w'=>St [] w w' (os' v))) (hd:Nat.blt d n=true)
  (k:∀v w',St S w0 w' (os' v++os)->wpR P n ops Q rest ((d,v) :: L) w') (hf:ki P f=true:=by kernel_rfl):wpR P n ops Q (⟨some d,.call ⟨.value (.func f),xs.toArray,j⟩,ty,pos,after,none⟩ :: rest) L w:=
 mM hf hargs hc hd fun v w' h=>k v w' (hS.call h)
theorem gN {ops:Array Oper} {C D:World->Prop} {fl:Nat->Bool} {i:Nat} {r:L02} {d:Nat} {op:Op} {v:Value} {j:Nat} {k:Bool} {t:Tmp} (z:C w) (A:ops[i]? = some ⟨some d,op,ty,pos,after,some (j,k)⟩) (hf:fl i=true)
  (B:(ops[j]?).bind (·.dst)=some t) (hb:L.get t=some (vB k))
  (G:∀w,C w->OpV P n L w ⟨some d,op,ty,pos,after,none⟩ v w) (hd:Nat.blt d n=true) (h:lxE P n ops C D Q fl r ((d,v) :: L) w):lxE P n ops C D Q fl (i :: r) L w:=fun a ha=>by
 refine⟨z,?_⟩
 simp only[A,hf,al]
 have I:execOp a.eval ⟨some d,op,ty,pos,after,some (j,k)⟩=execOp a.eval ⟨some d,op,ty,pos,after,none⟩:=by cases op <;> rfl
 exact⟨v,.inl (.inl ⟨by rw[kY ha rfl B hb]; simp,fun w' y=>by rw[I]; exact G w' y a ha⟩),h _ (ha.put hd)⟩
theorem eK {ops:Array Oper} {C D:World->Prop} {fl:Nat->Bool} {i:Nat} {r:L02} {d:Nat} {op:Op} {j:Nat} {k b:Bool} {t:Tmp} (z:C w) (A:ops[i]? = some ⟨some d,op,ty,pos,after,some (j,k)⟩) (hf:fl i=true)
  (B:(ops[j]?).bind (·.dst)=some t) (hb:L.get t=some (vB b)) (y:(b == k)=false) (hd:Nat.blt d n=true) (h:lxE P n ops C D Q fl r ((d,undef) :: L) w):lxE P n ops C D Q fl (i :: r) L w:=fun a ha=>by
 refine⟨z,?_⟩
 simp only[A,hf,al]
 exact⟨undef,.inl (.inr ⟨by rw[kY ha rfl B hb,y],rfl⟩),h _ (ha.put hd)⟩
theorem HJ {ops:Array Oper} {C D:World->Prop} {fl:Nat->Bool} {i:Nat} {r:L02} {d:Nat} {f:FuncId} {xs:List Operand} {B:Array TypeId} {vs:List Value} {φ:Value->World->Prop} {j:Nat} {y:Bool} {t:Tmp} (G:C w)
  (z:ops[i]? = some ⟨some d,.call ⟨.value (.func f),xs.toArray,B⟩,ty,pos,after,some (j,y)⟩) (A:fl i=false) (I:(ops[j]?).bind (·.dst)=some t) (hb:L.get t=some (vB y))
  (hf:ki P f=true) (hargs:L.evs xs=some vs) (hc:Calls P f vs.toArray w (Ret φ)) (hd:Nat.blt d n=true)
  (k:∀v w',φ v w'->lxE P n ops C D Q fl r ((d,v) :: L) w'):lxE P n ops C D Q fl (i :: r) L w:=fun a ha=>by
 refine⟨G,?_⟩
 simp only[z,A,ah,aj]
 unfold wpOp
 simp only[z]
 rw[ag (by rw[kY ha rfl I hb]; simp)]
 exact .inl (tc rfl hf (ha.evs hargs) hc fun v w' h=>k v w' h _ (ha.put hd))
theorem vu {ops:Array Oper} {C D:World->Prop} {fl:Nat->Bool} {i:Nat} {r:L02} {d:Nat} {op:Op} {j:Nat} {k b:Bool} {t:Tmp} (A:C w) (y:ops[i]? = some ⟨some d,op,ty,pos,after,some (j,k)⟩) (hf:fl i=false)
  (B:(ops[j]?).bind (·.dst)=some t) (hb:L.get t=some (vB b)) (z:(b == k)=false) (hd:Nat.blt d n=true) (h:lxE P n ops C D Q fl r ((d,undef) :: L) w):lxE P n ops C D Q fl (i :: r) L w:=fun a ha=>by
 refine⟨A,?_⟩
 simp only[y,hf,ah,aj]
 unfold wpOp
 simp only[y]
 rw[ae (by rw[kY ha rfl B hb,z]; simp)]
 exact h _ (ha.put hd)
theorem dY {f:FuncId} {fn:Func} {c:Code} {vs:List Value} {φ:Value->World->Prop} (n:Nat) (hf:P.funcs[f]? = some fn) (hb:fn.body=some c) (hn:fn.ntmps=n) (hl:Nat.ble vs.length n=true)
  (h:wpC P n c (bodyPost P fn (Ret φ)) (qj 0 vs) w):Calls P f vs.toArray w (Ret φ):=by
 subst hn
 exact KH hf hb hl h
theorem kJ {σ ρ:Type} {c:Code} {r:ρ} (f:σ->Option (σ⊕ρ)) (I:σ->Env->World->Prop)
  (j:∀k s L w x,I s L w->(∀z A w',I z A w'->jS f k z=some r->wpN P n c Q k A w')->f s=some x->lk f k r x->wpC P n c (Exit.then (Code.rounds P c Q k) Q) L w)
  (s:σ) (y:I s L w) (h:loop f s=some r):wpC P n (.loop c) Q L w:=by
 obtain⟨k,G⟩:=rN h
 refine zZ k ?_
 have B:∀k s L w,I s L w->jS f k s=some r->wpN P n c Q k L w:=by
  intro k
  induction k with
  | zero=>intro s L w _ h; simp[jS]at h
  | succ k ih=>
   intro s L w y h
   obtain⟨x,J,N⟩:=Mt h
   exact kK (j k s L w x y ih J N)
 exact B k s L w y G
theorem jd {γ ρ:Type} {x y:Code} {r:ρ} (J:γ->Env->World->Prop) (f:γ->Option ρ)
  (j:∀g L w,J g L w->f g=some r->wpC P n y Q L w)
  (hx:(∀g L w,J g L w->f g=some r->wpC P n y Q L w)->wpC P n x (Exit.then (y.wp P Q) Q) L w):wpC P n (.seq x y) Q L w:=
 cJ (hx j)
end
section
variable {P:Program} {n:Nat} {L:Env} {w w0:World} {Q:Exit->Act->World->Prop} {S:L02} {os:List OE}
variable {d:Option Tmp} {ty:TypeId} {pos:String} {after:Array Edge}
structure ExtF (P:Program) (f:FuncId) (e:Array Value->Sem Value):Prop where
 fn : ∃ fn, P.funcs[f]? = some fn /\ fn.body.isNone = true /\ (fn.name == "runtime.NumGoroutine") = false /\ (Extern.findNext fn).isNone = true /\ Extern.find fn = some e
end
section
variable {P:Program} {n:Nat} {L:Env} {w w0:World} {Q:Exit->Act->World->Prop} {S:L02} {os:List OE}
variable {d:Option Tmp} {ty:TypeId} {pos:String} {after:Array Edge}
theorem ow {τ:Type} {e:Enc τ} {v:Value} {l:List τ} (h:RO w e v l) (k:Nat) (G:k<=l.length) :
  (Builtin.firstCells e.sz k v).run P w=.ok (e.fl (l.take k)).toArray w:=by
 obtain⟨a,c,rfl,hc,B⟩:=h
 cases a with
 | none=>
  have hl:l=[]:=by
   cases l with
   | nil=>rfl
   | cons x r=>obtain⟨b,off,h,_⟩:=B (by simp); cases h
  subst hl
  simp[Builtin.firstCells,Enc.fl]
 | some p=>
  by_cases hl:l=[]
  ·subst hl
   have:k=0:=by simpa using G
   subst this
   simp[Builtin.firstCells,loadCells,loadCellsFrom,Enc.fl]
  ·obtain⟨b,off,hp,y⟩:=B hl
   cases hp
   have A:(e.fl (l.take k)).length=k*e.sz:=by rw[e.fl_length,aJ]; congr 1; omega
   have:=run_loadCells_list (P:=P) w ⟨b,off,none⟩ (e.fl (l.take k)) (fun j u z=>by
    rw[iS]
    rw[e.fl_take,bR]at z
    split at z
    ·exact y j u z
    ·cases z)
   rw[A]at this
   exact this
theorem C9 {T T2 E ty:TypeId} {τ:Type} {e:Enc τ} {z:Value} {bytes:Nat} {v u:Value} {l m:List τ} {B lo hi:Nat} (hT:P.underlying T=some (.slice E)) (hE:TI P E z e.sz bytes) (j:e.sz=1)
  (Z:(own e v l).ok S B w) (hu:RO w e u m) (h1:lo<=hi) (V:hi<=l.length) :
  ∃w',(Builtin.copy_ #[T,T2] ty #[slV v e.sz lo hi,u]).run P w=.ok (vI (min m.length (hi - lo):Nat)) w'/\(own e v (cpL l m lo hi)).ok S B w'/\Fr (own e v l).blk.toList w w':=by
 obtain⟨b8,N,_,hs,_⟩:=hE.get
 have O:=ow (P:=P) hu (min m.length (hi - lo)) (Nat.min_le_left _ _)
 obtain⟨ua,uc,rfl,b9,ce⟩:=hu
 have R:cpL l m lo hi=l.take lo++m.take (min m.length (hi - lo))++l.drop (lo+min m.length (hi - lo)):=by
  unfold cpL
  congr 2
  by_cases h:m.length<=hi - lo
  ·rw[bf h,aA h,aA (ax _)]
  ·rw[Nat.min_eq_right (by omega)]
 rcases Z.2 with⟨rfl,hn⟩ | ⟨g,y,A,T',rfl,ad,hg,ap,bx,Y,I⟩
 ·have hl:l=[]:=bp hn
  subst hl
  have e1:hi=0:=by simpa using V
  have e2:lo=0:=by omega
  subst e1 e2
  have G:slV (.slice none 0 0) e.sz 0 0=.slice none 0 0:=rfl
  refine⟨w,?_,?_,Fr.refl _ _⟩
  ·rw[G]
   simp at O
   simp[Builtin.copy_,run_underlying hT,Builtin.lenOf,sizeOf,typeInfo,N,hs,O,goInt]
  ·rw[R]; simpa using Z
 ·have b2:e.fl (m.take (min m.length (hi - lo)))=(e.fl m).take (min m.length (hi - lo)):=by rw[e.fl_take,j,cE]
  have k:(e.fl (m.take (min m.length (hi - lo)))).length=min m.length (hi - lo):=by rw[e.fl_length,j]; simp
  have b6:lo+min m.length (hi - lo)<=A.size:=by rw[j]at Y; omega
  by_cases hcl:y=lo
  ·
   have hz:hi - lo=0:=by omega
   refine⟨w,?_,?_,Fr.refl _ _⟩
   ·have G:slV (.slice (some ⟨g,0,none⟩) l.length y) e.sz lo hi=.slice (some ⟨g,0,none⟩) (hi - lo) (y - lo):=by simp[slV,hcl]
    rw[G]
    simp only[hz,Nat.min_zero]at O ⊢
    simp[Builtin.copy_,run_underlying hT,Builtin.lenOf,sizeOf,typeInfo,N,hs,O,goInt,Enc.fl,storeCells]
   ·rw[R,hz]; simpa using Z
  ·have G:slV (.slice (some ⟨g,0,none⟩) l.length y) e.sz lo hi=.slice (some ⟨g,lo,none⟩) (hi - lo) (y - lo):=by simp[slV,hcl,iS,j]
   have U:=iZ P g lo T' (e.fl (m.take (min m.length (hi - lo)))) 0 A w hg (by rw[k]; omega) (e.fl_one _)
   simp only[bm]at U
   obtain⟨X,J⟩:∃X,X=(A.toList.take lo++e.fl (m.take (min m.length (hi - lo)))++A.toList.drop (lo+(e.fl (m.take (min m.length (hi - lo)))).length)).toArray:=⟨_,rfl⟩
   rw[<-J]at U
   refine⟨w.setRow g X,?_,⟨e.fl_length _,.inr ⟨g,y,X,T',?_,ad,hg.set _ ?_,?_,bx,?_,?_⟩⟩,Fr.setRow w g _⟩
   ·rw[G]
    simp[Builtin.copy_,run_underlying hT,Builtin.lenOf,sizeOf,typeInfo,N,hs,O,U,goInt]
   ·rw[jC l m lo hi h1 V]
   ·rw[J]
    simp only[eo,aQ,aJ,ca,fc,k]
    omega
   ·rw[jC l m lo hi h1 V]; exact ap
   ·rw[J]
    simp only[eo,aQ,aJ,ca,fc,k,j]at Y ⊢
    omega
   ·rw[jC l m lo hi h1 V,R,e.fl_append,e.fl_append]
    have e3:A.toList.take lo=e.fl (l.take lo):=by
     rw[e.fl_take,<-I,List.take_take,j]; congr 1; omega
    rw[J,e3,k]
    simp only[List.toList_toArray]
    rw[List.take_append]
    have e4:(e.fl (l.take lo)++e.fl (m.take (min m.length (hi - lo)))).length=lo+min m.length (hi - lo):=by
     rw[aQ,k,e.fl_length,j,aJ]; omega
    rw[aA (by rw[e4,j]; omega),e4]
    congr 1
    rw[e.fl_drop,<-I,j,List.take_drop]
    simp only[cE]
    congr 1
    congr 1
    omega
theorem K8 {v:Value} {τ:Type} {e:Enc τ} {l:List τ} (h:RO w e v l):slV v e.sz 0 l.length=v:=by
 obtain⟨a,c,rfl,hc,j⟩:=h
 simp only[slV,f9,fu]
 congr 1
 split
 ·rfl
 ·cases a <;> simp[Addr.add]
theorem CD {x y:Operand} {T T2 E:TypeId} {τ:Type} {e:Enc τ} {z:Value} {bytes:Nat} {v u:Value} {l m:List τ} {i lo hi:Nat} (hT:P.underlying T=some (.slice E)) (hE:TI P E z e.sz bytes) (A:e.sz=1)
  (hx:L.ev x=some (slV v e.sz lo hi)) (B:L.ev y=some u) (hS:St S w0 w os) (j:os[i]? = some (own e v l)) (hu:RO w e u m) (G:lo<=hi) (I:hi<=l.length) :
  OpX P n L w ⟨d,.call ⟨.builtin .copy,#[x,y],#[T,T2]⟩,ty,pos,after,none⟩ (fun r w'=>r=vI (min m.length (hi - lo):Nat)/\St S w0 w' (os.set i (own e v (cpL l m lo hi)))):=by
 obtain⟨w',J,N,O⟩:=C9 (T2:=T2) (ty:=ty) hT hE A (hS.ok _ (bd j)) hu G I
 refine iH _ w' (fun a ha=>?_) ⟨rfl,hS.set j O N fun k R=>.inl R⟩
 simp[execOp,resolve,invoke,builtin,ha.ev hx,ha.ev B,J]
theorem Iy {x y:Operand} {T T2 E:TypeId} {τ:Type} {e:Enc τ} {z:Value} {bytes:Nat} {v u:Value} {l m:List τ} {i:Nat} (hT:P.underlying T=some (.slice E)) (hE:TI P E z e.sz bytes) (k:e.sz=1)
  (hx:L.ev x=some v) (A:L.ev y=some u) (hS:St S w0 w os) (j:os[i]? = some (own e v l)) (hu:RO w e u m) :
  OpX P n L w ⟨d,.call ⟨.builtin .copy,#[x,y],#[T,T2]⟩,ty,pos,after,none⟩ (fun r w'=>r=vI (min m.length l.length:Nat)/\St S w0 w' (os.set i (own e v (cpL l m 0 l.length)))):=by
 have h:=CD (P:=P) (n:=n) (d:=d) (ty:=ty) (pos:=pos) (after:=after) (T2:=T2) (lo:=0) (hi:=l.length) hT hE k (by rw[K8 (hS.ro i j)]; exact hx) A hS j hu (ft _) (ax _)
 exact h
theorem IX {τ:Type} {e:Enc τ} {v:Value} {l:List τ} (h:RO w e v l) (k i:Nat):ixA (slV v e.sz 0 k) e.sz i=ixA v e.sz i:=by
 obtain⟨a,c,rfl,hc,j⟩:=h
 simp only[slV,fu]
 cases a with
 | none=>split <;> rfl
 | some p=>
  have:p.add 0=p:=by simp[Addr.add]
  split <;> simp[ixA,this]
theorem RO.tk {τ:Type} {e:Enc τ} {v:Value} {l:List τ} (h:RO w e v l) {k:Nat} (j:k<=l.length):RO w e (slV v e.sz 0 k) (l.take k):=h.subh j
section
variable {T E:TypeId} {τ:Type} {e:Enc τ} {v:Value} {l r:List τ} {z0:Value} {bytes:Nat}
theorem FY {x z:Operand} {A:IntKind} {hi:Int} {k:Nat} (hT:P.underlying T=some (.slice E)) (hE:TI P E z0 e.sz bytes)
  (hx:L.ev x=some (slV v e.sz 0 k)) (hz:L.ev z=some (.int A hi)) (h:RO w e v l) (hg:tkO l hi=some r) :
  OpV P n L w ⟨d,.slice T x none (some z) none,ty,pos,after,none⟩ (slV v e.sz 0 hi.toNat) w:=fun a ha=>by
 obtain⟨⟨B,J⟩,_⟩:=oO hg
 obtain⟨b,c,rfl,hc,_⟩:=h
 obtain⟨I,y,_,hs,_⟩:=hE.get
 have G:hi<=(c:Int):=by omega
 have j:L.ev x=some (.slice (if c=0 then b else b.map (·.add (0*e.sz))) (k - 0) (c - 0)):=hx
 have hb:(if c=0 then b else b.map (·.add (0*e.sz)))=b:=by
  split
  ·rfl
  ·cases b <;> simp[Addr.add]
 rw[hb]at j
 simp[execOp,ha.ev j,ha.ev hz,Instr.sliceAt,Instr.slice,run_underlying hT,Instr.sliceBounds,run_sliceBound,B,G,sizeOf,typeInfo,y,hs,slV]
theorem G7 {x y:Operand} {j:IntKind} {i:Int} {t:τ} {k:Nat} (hT:P.underlying T=some (.slice E)) (hE:TI P E z0 e.sz bytes)
  (hx:L.ev x=some (slV v e.sz 0 k)) (z:L.ev y=some (.int j i)) (h:RO w e v l) (A:k<=l.length) (hg:aw (l.take k) i=some t) :
  OpV P n L w ⟨d,.indexAddr T x y,ty,pos,after,none⟩ (pP (ixA v e.sz i.toNat)) w:=by
 rw[<-IX h k]
 exact o8 hT hE hx z (h.tk A) hg
end
theorem H4 {τ:Type} {l:List τ} {k:Nat} {i:Int} {t:τ} (h:aw (l.take k) i=some t):aw l i=some t:=by
 unfold aw at h ⊢
 split at h
 ·rw[ag ‹_›]
  rw[bR]at h
  split at h
  ·exact h
  ·cases h
 ·cases h
end
end Go.Gk
end
