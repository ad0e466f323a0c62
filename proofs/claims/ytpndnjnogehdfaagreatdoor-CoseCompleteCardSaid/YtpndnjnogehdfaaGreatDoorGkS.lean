import Derived.Tactics
import Derived.LoopN
import Derived.Below
import Derived.KernelRfl
import Derived.Lib.Strings
import Derived.Laws.CopyOwn
import Derived.Laws.MakeOwn
import Derived.Laws.AppendOwn
import Derived.Great.BuildSlice
import Derived.Deep.Draws
import Derived.Laws.BytesArg
import Derived.Laws.Slices
import Derived.Deep.Quiet
import Derived.Lib.ConvBytes
import Derived.Lib.Bytealg
set_option linter.unusedVariables false
set_option linter.unusedSimpArgs false
set_option linter.unusedSectionVars false
abbrev Y0:=List UInt32
abbrev Y3:=List UInt8
abbrev Y4:=List Nat
section
namespace Go.Gk
theorem bO:type_of% @Array.getD_eq_getD_getElem?:=@Array.getD_eq_getD_getElem?
theorem cn:type_of% @Array.getElem?_eq_some_iff:=@Array.getElem?_eq_some_iff
theorem eg:type_of% @Array.getElem?_replicate:=@Array.getElem?_replicate
theorem gv:type_of% @Array.getElem?_toList:=@Array.getElem?_toList
theorem dn:type_of% @Array.length_toList:=@Array.length_toList
theorem fZ:type_of% @Array.size_append:=@Array.size_append
theorem fy:type_of% @Array.toList_append:=@Array.toList_append
theorem aK:type_of% @Bool.and_eq_true:=@Bool.and_eq_true
theorem cO:type_of% @Bool.eq_iff_iff:=@Bool.eq_iff_iff
theorem dV:type_of% @Bool.false_and:=@Bool.false_and
theorem ai:type_of% @Bool.false_eq_true:=@Bool.false_eq_true
theorem iJ:type_of% @Bool.not_false:=@Bool.not_false
theorem dB:type_of% @Bool.not_true:=@Bool.not_true
theorem fW:type_of% @Bool.or_eq_true:=@Bool.or_eq_true
theorem el:type_of% @Bool.true_and:=@Bool.true_and
theorem fb:type_of% @Classical.byContradiction:=@Classical.byContradiction
theorem iq:type_of% @Fin.ext:=@Fin.ext
theorem eN:type_of% @Int.emod_eq_of_lt:=@Int.emod_eq_of_lt
theorem im:type_of% @Int.emod_nonneg:=@Int.emod_nonneg
theorem fw:type_of% @Int.eq_ofNat_of_zero_le:=@Int.eq_ofNat_of_zero_le
theorem gw:type_of% @Int.fdiv_eq_ediv_of_nonneg:=@Int.fdiv_eq_ediv_of_nonneg
theorem ej:type_of% @Int.lt_irrefl:=@Int.lt_irrefl
theorem fJ:type_of% @Int.mul_nonneg:=@Int.mul_nonneg
theorem cy:type_of% @Int.natAbs_natCast:=@Int.natAbs_natCast
theorem gt:type_of% @Int.natCast_add:=@Int.natCast_add
theorem bN:type_of% @Int.natCast_emod:=@Int.natCast_emod
theorem cZ:type_of% @Int.natCast_mul:=@Int.natCast_mul
theorem dG:type_of% @Int.natCast_nonneg:=@Int.natCast_nonneg
theorem ce:type_of% @Int.tdiv_eq_ediv_of_nonneg:=@Int.tdiv_eq_ediv_of_nonneg
theorem cI:type_of% @Int.tmod_eq_emod_of_nonneg:=@Int.tmod_eq_emod_of_nonneg
theorem aq:type_of% @Int.toNat_natCast:=@Int.toNat_natCast
theorem gY:type_of% @Int.toNat_of_nonneg:=@Int.toNat_of_nonneg
theorem ee:type_of% @List.Perm.append_left:=@List.Perm.append_left
theorem cq:type_of% @List.all_eq_true:=@List.all_eq_true
theorem aP:type_of% @List.append_assoc:=@List.append_assoc
theorem bR:type_of% @List.append_nil:=@List.append_nil
theorem gq:type_of% @List.cons.injEq:=@List.cons.injEq
theorem di:type_of% @List.cons_append:=@List.cons_append
theorem f6:type_of% @List.drop_drop:=@List.drop_drop
theorem bk:type_of% @List.drop_eq_getElem_cons:=@List.drop_eq_getElem_cons
theorem gj:type_of% @List.drop_eq_nil_of_le:=@List.drop_eq_nil_of_le
theorem ik:type_of% @List.drop_left':=@List.drop_left'
theorem ew:type_of% @List.drop_length:=@List.drop_length
theorem cu:type_of% @List.drop_of_length_le:=@List.drop_of_length_le
theorem fj:type_of% @List.drop_zero:=@List.drop_zero
theorem aZ:type_of% @List.eq_nil_of_length_eq_zero:=@List.eq_nil_of_length_eq_zero
theorem iH:type_of% @List.ext_getElem?:=@List.ext_getElem?
theorem eK:type_of% @List.filter_congr:=@List.filter_congr
theorem dM:type_of% @List.flatMap_cons:=@List.flatMap_cons
theorem d9:type_of% @List.foldl_cons:=@List.foldl_cons
theorem ao:type_of% @List.getD_eq_getElem?_getD:=@List.getD_eq_getElem?_getD
theorem eJ:type_of% @List.getElem?_append_right:=@List.getElem?_append_right
theorem ep:type_of% @List.getElem?_drop:=@List.getElem?_drop
theorem aE:type_of% @List.getElem?_eq_getElem:=@List.getElem?_eq_getElem
theorem dA:type_of% @List.getElem?_eq_none:=@List.getElem?_eq_none
theorem aD:type_of% @List.getElem?_eq_some_iff:=@List.getElem?_eq_some_iff
theorem d6:type_of% @List.getElem?_map:=@List.getElem?_map
theorem f9:type_of% @List.getElem?_replicate:=@List.getElem?_replicate
theorem da:type_of% @List.getElem?_set:=@List.getElem?_set
theorem dt:type_of% @List.getElem?_set_self:=@List.getElem?_set_self
theorem bK:type_of% @List.getElem?_take:=@List.getElem?_take
theorem cC:type_of% @List.getElem_mem:=@List.getElem_mem
theorem iy:type_of% @List.getElem_replicate:=@List.getElem_replicate
theorem ay:type_of% @List.length_append:=@List.length_append
theorem cg:type_of% @List.length_cons:=@List.length_cons
theorem bU:type_of% @List.length_drop:=@List.length_drop
theorem dw:type_of% @List.length_nil:=@List.length_nil
theorem d8:type_of% @List.length_pos_iff:=@List.length_pos_iff
theorem bd:type_of% @List.length_replicate:=@List.length_replicate
theorem ig:type_of% @List.length_set:=@List.length_set
theorem aQ:type_of% @List.length_take:=@List.length_take
theorem dc:type_of% @List.map_cons:=@List.map_cons
theorem bG:type_of% @List.mem_append:=@List.mem_append
theorem bX:type_of% @List.mem_append_left:=@List.mem_append_left
theorem bD:type_of% @List.mem_append_right:=@List.mem_append_right
theorem aJ:type_of% @List.mem_cons:=@List.mem_cons
theorem dS:type_of% @List.mem_cons_of_mem:=@List.mem_cons_of_mem
theorem eu:type_of% @List.mem_cons_self:=@List.mem_cons_self
theorem jb:type_of% @List.mem_filter:=@List.mem_filter
theorem iV:type_of% @List.mem_flatMap:=@List.mem_flatMap
theorem iC:type_of% @List.mem_map:=@List.mem_map
theorem ba:type_of% @List.mem_of_getElem?:=@List.mem_of_getElem?
theorem cW:type_of% @List.mem_range:=@List.mem_range
theorem iL:type_of% @List.mem_range'_1:=@List.mem_range'_1
theorem bJ:type_of% @List.nil_append:=@List.nil_append
theorem aU:type_of% @List.not_mem_nil:=@List.not_mem_nil
theorem ci:type_of% @List.pairwise_append:=@List.pairwise_append
theorem fS:type_of% @List.pairwise_cons:=@List.pairwise_cons
theorem fe:type_of% @List.pairwise_iff_getElem:=@List.pairwise_iff_getElem
theorem iz:type_of% @List.pairwise_lt_range:=@List.pairwise_lt_range
theorem gV:type_of% @List.perm_middle:=@List.perm_middle
theorem gW:type_of% @List.range'_succ:=@List.range'_succ
theorem gL:type_of% @List.replicate_succ':=@List.replicate_succ'
theorem eb:type_of% @List.set_append_right:=@List.set_append_right
theorem fx:type_of% @List.set_eq_take_append_cons_drop:=@List.set_eq_take_append_cons_drop
theorem gy:type_of% @List.singleton_append:=@List.singleton_append
theorem cJ:type_of% @List.size_toArray:=@List.size_toArray
theorem cD:type_of% @List.take_append_drop:=@List.take_append_drop
theorem eD:type_of% @List.take_left:=@List.take_left
theorem fu:type_of% @List.take_left':=@List.take_left'
theorem dk:type_of% @List.take_length:=@List.take_length
theorem aA:type_of% @List.take_of_length_le:=@List.take_of_length_le
theorem fC:type_of% @List.take_set_of_le:=@List.take_set_of_le
theorem dL:type_of% @List.take_succ_eq_append_getElem:=@List.take_succ_eq_append_getElem
theorem gS:type_of% @List.take_zero:=@List.take_zero
theorem gX:type_of% @List.toList_toArray:=@List.toList_toArray
theorem eo:type_of% @Nat.add_assoc:=@Nat.add_assoc
theorem ch:type_of% @Nat.add_comm:=@Nat.add_comm
theorem aW:type_of% @Nat.add_mul:=@Nat.add_mul
theorem gG:type_of% @Nat.add_mul_div_left:=@Nat.add_mul_div_left
theorem gz:type_of% @Nat.add_mul_div_right:=@Nat.add_mul_div_right
theorem gF:type_of% @Nat.add_mul_mod_self_left:=@Nat.add_mul_mod_self_left
theorem gx:type_of% @Nat.add_mul_mod_self_right:=@Nat.add_mul_mod_self_right
theorem fo:type_of% @Nat.add_sub_cancel:=@Nat.add_sub_cancel
theorem dE:type_of% @Nat.add_sub_cancel_left:=@Nat.add_sub_cancel_left
theorem bA:type_of% @Nat.add_zero:=@Nat.add_zero
theorem fp:type_of% @Nat.blt_eq:=@Nat.blt_eq
theorem cQ:type_of% @Nat.div_add_mod:=@Nat.div_add_mod
theorem du:type_of% @Nat.div_div_eq_div_mul:=@Nat.div_div_eq_div_mul
theorem cp:type_of% @Nat.div_eq_of_lt:=@Nat.div_eq_of_lt
theorem dO:type_of% @Nat.div_le_self:=@Nat.div_le_self
theorem fg:type_of% @Nat.div_lt_iff_lt_mul:=@Nat.div_lt_iff_lt_mul
theorem jc:type_of% @Nat.div_lt_self:=@Nat.div_lt_self
theorem eX:type_of% @Nat.dvd_of_mod_eq_zero:=@Nat.dvd_of_mod_eq_zero
theorem bf:type_of% @Nat.eq_of_beq_eq_true:=@Nat.eq_of_beq_eq_true
theorem bS:type_of% @Nat.eq_zero_or_pos:=@Nat.eq_zero_or_pos
theorem fT:type_of% @Nat.gcd_comm:=@Nat.gcd_comm
theorem iG:type_of% @Nat.gcd_dvd_right:=@Nat.gcd_dvd_right
theorem fK:type_of% @Nat.le_add_right:=@Nat.le_add_right
theorem dP:type_of% @Nat.le_mul_of_pos_right:=@Nat.le_mul_of_pos_right
theorem an:type_of% @Nat.le_of_ble_eq_true:=@Nat.le_of_ble_eq_true
theorem fa:type_of% @Nat.le_of_dvd:=@Nat.le_of_dvd
theorem cE:type_of% @Nat.le_of_lt:=@Nat.le_of_lt
theorem av:type_of% @Nat.le_refl:=@Nat.le_refl
theorem bz:type_of% @Nat.le_trans:=@Nat.le_trans
theorem i7:type_of% @Nat.lt_irrefl:=@Nat.lt_irrefl
theorem et:type_of% @Nat.lt_of_le_of_lt:=@Nat.lt_of_le_of_lt
theorem bg:type_of% @Nat.lt_of_lt_of_le:=@Nat.lt_of_lt_of_le
theorem cj:type_of% @Nat.lt_or_ge:=@Nat.lt_or_ge
theorem gH:type_of% @Nat.lt_trans:=@Nat.lt_trans
theorem bm:type_of% @Nat.min_eq_left:=@Nat.min_eq_left
theorem ax:type_of% @Nat.mod_eq_of_lt:=@Nat.mod_eq_of_lt
theorem bM:type_of% @Nat.mod_lt:=@Nat.mod_lt
theorem fL:type_of% @Nat.mod_mod:=@Nat.mod_mod
theorem aG:type_of% @Nat.mul_add:=@Nat.mul_add
theorem aF:type_of% @Nat.mul_assoc:=@Nat.mul_assoc
theorem aN:type_of% @Nat.mul_comm:=@Nat.mul_comm
theorem dW:type_of% @Nat.mul_le_mul:=@Nat.mul_le_mul
theorem bo:type_of% @Nat.mul_le_mul_left:=@Nat.mul_le_mul_left
theorem aR:type_of% @Nat.mul_le_mul_right:=@Nat.mul_le_mul_right
theorem cT:type_of% @Nat.mul_left_comm:=@Nat.mul_left_comm
theorem eO:type_of% @Nat.mul_lt_mul_of_pos_left:=@Nat.mul_lt_mul_of_pos_left
theorem dD:type_of% @Nat.mul_mod:=@Nat.mul_mod
theorem jd:type_of% @Nat.mul_mod_mod:=@Nat.mul_mod_mod
theorem cH:type_of% @Nat.mul_one:=@Nat.mul_one
theorem cK:type_of% @Nat.mul_zero:=@Nat.mul_zero
theorem cL:type_of% @Nat.one_mul:=@Nat.one_mul
theorem fk:type_of% @Nat.pos_of_ne_zero:=@Nat.pos_of_ne_zero
theorem bW:type_of% @Nat.pow_add:=@Nat.pow_add
theorem br:type_of% @Nat.pow_le_pow_right:=@Nat.pow_le_pow_right
theorem dh:type_of% @Nat.pow_mul:=@Nat.pow_mul
theorem eL:type_of% @Nat.pow_pos:=@Nat.pow_pos
theorem bn:type_of% @Nat.pow_succ:=@Nat.pow_succ
theorem jg:type_of% @Nat.pow_zero:=@Nat.pow_zero
theorem gM:type_of% @Nat.sub_zero:=@Nat.sub_zero
theorem dv:type_of% @Nat.two_pow_pos:=@Nat.two_pow_pos
theorem bh:type_of% @Nat.zero_add:=@Nat.zero_add
theorem eM:type_of% @Nat.zero_le:=@Nat.zero_le
theorem jl:type_of% @Nat.zero_mod:=@Nat.zero_mod
theorem fN:type_of% @Nat.zero_mul:=@Nat.zero_mul
theorem ij:type_of% @Option.map_none:=@Option.map_none
theorem bQ:type_of% @Option.map_some:=@Option.map_some
theorem eQ:type_of% @Option.some.inj:=@Option.some.inj
theorem dZ:type_of% @Option.some.injEq:=@Option.some.injEq
theorem eY:type_of% @UInt32.le_iff_toNat_le:=@UInt32.le_iff_toNat_le
theorem dr:type_of% @UInt32.lt_iff_toNat_lt:=@UInt32.lt_iff_toNat_lt
theorem c7:type_of% @UInt32.toNat_inj:=@UInt32.toNat_inj
theorem dm:type_of% @UInt32.toNat_ofNat':=@UInt32.toNat_ofNat'
theorem db:type_of% @UInt64.le_iff_toNat_le:=@UInt64.le_iff_toNat_le
theorem bq:type_of% @UInt64.lt_iff_toNat_lt:=@UInt64.lt_iff_toNat_lt
theorem fI:type_of% @UInt64.toNat_add:=@UInt64.toNat_add
theorem fh:type_of% @UInt64.toNat_div:=@UInt64.toNat_div
theorem cA:type_of% @UInt64.toNat_inj:=@UInt64.toNat_inj
theorem dH:type_of% @UInt64.toNat_mod:=@UInt64.toNat_mod
theorem iQ:type_of% @UInt64.toNat_mul:=@UInt64.toNat_mul
theorem bL:type_of% @UInt64.toNat_ofNat':=@UInt64.toNat_ofNat'
theorem fi:type_of% @UInt64.toNat_sub:=@UInt64.toNat_sub
theorem fH:type_of% @UInt64.toNat_sub_of_le:=@UInt64.toNat_sub_of_le
theorem dN:type_of% @UInt8.le_iff_toNat_le:=@UInt8.le_iff_toNat_le
theorem iM:type_of% @UInt8.lt_iff_toNat_lt:=@UInt8.lt_iff_toNat_lt
theorem fX:type_of% @UInt8.toNat_inj:=@UInt8.toNat_inj
theorem dQ:type_of% @UInt8.toNat_ofNat':=@UInt8.toNat_ofNat'
theorem fF:type_of% @beq_eq_false_iff_ne:=@beq_eq_false_iff_ne
theorem iF:type_of% @beq_iff_eq:=@beq_iff_eq
theorem ez:type_of% @beq_self_eq_true:=@beq_self_eq_true
theorem iE:type_of% @bne_iff_ne:=@bne_iff_ne
theorem d5:type_of% @bne_self_eq_false:=@bne_self_eq_false
theorem cv:type_of% @congrArg:=@congrArg
theorem az:type_of% @decide_eq_false:=@decide_eq_false
theorem aj:type_of% @decide_eq_true:=@decide_eq_true
theorem ar:type_of% @decide_eq_true_eq:=@decide_eq_true_eq
theorem dq:type_of% @decide_false:=@decide_false
theorem ib:type_of% @decide_true:=@decide_true
theorem ak:type_of% @if_false:=@if_false
theorem ae:type_of% @if_neg:=@if_neg
theorem ah:type_of% @if_pos:=@if_pos
theorem am:type_of% @if_true:=@if_true
theorem iD:type_of% @not_false_eq_true:=@not_false_eq_true
theorem dp:type_of% @not_not_intro:=@not_not_intro
theorem iK:type_of% @not_true_eq_false:=@not_true_eq_false
theorem bH:type_of% @or_false:=@or_false
theorem iU:type_of% @true_and:=@true_and
def au {τ:Type} (l:List τ) (i:Int):Option τ:=if 0<=i then l[i.toNat]? else none
theorem gp {τ:Type} {l:List τ} {i:Int} {x:τ} (h:au l i=some x):0<=i/\i.toNat<l.length/\l[i.toNat]? = some x:=by
 unfold au at h
 split at h
 ·exact⟨‹_›,(aD.1 h).1,h⟩
 ·cases h
theorem mJ {τ:Type} (l:List τ) (i:Nat):au l (i:Int)=l[i]?:=by
 simp[au]
def slO {τ:Type} (l:List τ) (lo hi:Int):Option (List τ):=if 0<=lo/\lo<=hi/\hi.toNat<=l.length then some ((l.drop lo.toNat).take (hi.toNat - lo.toNat)) else none
theorem fM {τ:Type} {l r:List τ} {lo hi:Int} (h:slO l lo hi=some r):(0<=lo/\lo<=hi/\hi.toNat<=l.length)/\r=(l.drop lo.toNat).take (hi.toNat - lo.toNat):=by
 unfold slO at h
 split at h
 ·simp at h; exact⟨‹_›,h.symm⟩
 ·cases h
def drO {τ:Type} (l:List τ) (lo:Int):Option (List τ):=if 0<=lo/\lo.toNat<=l.length then some (l.drop lo.toNat) else none
theorem kD {τ:Type} {l r:List τ} {lo:Int} (h:drO l lo=some r):(0<=lo/\lo.toNat<=l.length)/\r=l.drop lo.toNat:=by
 unfold drO at h
 split at h
 ·simp at h; exact⟨‹_›,h.symm⟩
 ·cases h
def tkO {τ:Type} (l:List τ) (hi:Int):Option (List τ):=if 0<=hi/\hi.toNat<=l.length then some (l.take hi.toNat) else none
theorem ot {τ:Type} {l r:List τ} {hi:Int} (h:tkO l hi=some r):(0<=hi/\hi.toNat<=l.length)/\r=l.take hi.toNat:=by
 unfold tkO at h
 split at h
 ·simp at h; exact⟨‹_›,h.symm⟩
 ·cases h
theorem G7 {τ:Type} {l:List τ} {hi:Int} (h:0<=hi/\hi.toNat<=l.length):tkO l hi=some (l.take hi.toNat):=ah h
def mkO {τ:Type} (bytes:Nat) (l c:Int) (t0:τ):Option (List τ):=
 if 0<=l/\l<=c/\(bytes:Int)*c<=281474976710656/\c<=9223372036854775807 then some (List.replicate l.toNat t0) else none
theorem Ia {τ:Type} {bytes:Nat} {l c:Int} {t0:τ} {r:List τ} (h:mkO bytes l c t0=some r) :
  r=List.replicate l.toNat t0/\0<=l/\l<=c/\(bytes:Int)*c<=281474976710656/\c<=9223372036854775807:=by
 unfold mkO at h
 split at h
 ·rename_i hc; simp at h; exact⟨h.symm,hc⟩
 ·cases h
def apO {τ:Type} (bytes:Nat) (l m:List τ):Option (List τ):=if (l.length+m.length)*bytes<=225000000000000 then some (l++m) else none
theorem oC {τ:Type} {bytes:Nat} {l m r:List τ} (h:apO bytes l m=some r):r=l++m/\(l.length+m.length)*bytes<=225000000000000:=by
 unfold apO at h
 split at h
 ·simp at h; exact⟨h.symm,‹_›⟩
 ·cases h
def pK (x y:Y3):Option Y3:=if x.length+y.length<=9223372036854775807 then some (x++y) else none
def grd {ρ:Type} (p:Prop) [Decidable p] (k:Option ρ):Option ρ:=if p then k else none
theorem mF {ρ:Type} {p:Prop} [Decidable p] {k:Option ρ} {r:ρ} (h:grd p k=some r):p/\k=some r:=by
 unfold grd at h
 split at h
 ·exact⟨‹_›,h⟩
 ·cases h
@[simp] theorem grd_true {ρ:Type} {p:Prop} [Decidable p] (k:Option ρ) (h:p):grd p k=k:=by simp[grd,h]
def bI {α ρ:Type} (a:α) (k:α->Option ρ):Option ρ:=k a
theorem ic {α ρ:Type} {a:α} {k:α->Option ρ} {r:ρ} (h:bI a k=some r):∃x,a=x/\k x=some r:=⟨a,rfl,h⟩
abbrev af {α ρ:Type} (x:Option α) (k:α->Option ρ):Option ρ:=x.bind k
theorem ge {α ρ:Type} {x:Option α} {k:α->Option ρ} {r:ρ} (h:af x k=some r):∃a,x=some a/\k a=some r:=Option.bind_eq_some_iff.1 h
theorem bZ {α ρ:Type} {x:Option α} {k:α->Option ρ} {r:ρ} {C:Prop} (h:af x k=some r) (f:∀a,x=some a->k a=some r->C):C:=by
 obtain⟨a,j,q⟩:=ge h
 exact f a j q
theorem sa {ρ:Type} {p:Prop} [Decidable p] {k:Option ρ} {r:ρ} {C:Prop} (h:grd p k=some r) (f:p->k=some r->C):C:=f (mF h).1 (mF h).2
theorem kI {α ρ:Type} {x:α} {k:α->Option ρ} {r:ρ} {C:Prop} (h:bI x k=some r) (f:∀a,x=a->k a=some r->C):C:=f x rfl h
theorem fD {ρ:Type} {b:Bool} {x y:Option ρ} {r:ρ} (h:(if b=true then x else y)=some r) (j:b=true):x=some r:=by rw[ah j]at h; exact h
theorem fE {ρ:Type} {b:Bool} {x y:Option ρ} {r:ρ} (h:(if b=true then x else y)=some r) (j:b=false):y=some r:=by
 rw[ae (by rw[j]; exact Bool.false_ne_true)]at h; exact h
def cpL {τ:Type} (l m:List τ) (lo hi:Nat):List τ:=l.take lo++m.take (hi - lo)++l.drop (lo+min m.length (hi - lo))
theorem ka {τ:Type} (l m:List τ) (lo hi:Nat) (j:lo<=hi) (q:hi<=l.length):(cpL l m lo hi).length=l.length:=by
 simp[cpL]; omega
def gm {α ρ:Type} (o:Option α) (x:Option ρ) (y:α->Option ρ):Option ρ:=match o with
 | none=>x
 | some a=>y a
theorem pL {α ρ:Type} {o:Option α} {x:Option ρ} {y:α->Option ρ} {r:ρ} (h:gm o x y=some r) (j:o=none):x=some r:=by subst j; exact h
theorem p8 {α ρ:Type} {o:Option α} {x:Option ρ} {y:α->Option ρ} {r:ρ} {a:α} (h:gm o x y=some r) (j:o=some a):y a=some r:=by subst j; exact h
def vwL (l:Y3) (c:Nat×Nat):Y3:=(l.drop c.1).take (c.2 - c.1)
def jE {σ ρ:Type} (f:σ->Option (σ⊕ρ)):Nat->σ->Option ρ
 | 0,_=>none
 | n+1,s=>match f s with
  | none=>none
  | some (.inl s')=>jE f n s'
  | some (.inr r)=>some r
theorem rm {σ ρ:Type} {f:σ->Option (σ⊕ρ)}:∀{n:Nat} {s:σ} {r:ρ},jE f n s=some r->∀{m:Nat},n<=m->jE f m s=some r
 | 0,_,_,h,_,_=>by simp[jE]at h
 | n+1,s,r,h,0,hm=>by omega
 | n+1,s,r,h,m+1,hm=>by
  simp only[jE]at h ⊢
  split at h
  ·cases h
  ·exact rm h (by omega)
  ·exact h
open Classical in
noncomputable def loop {σ ρ:Type} (f:σ->Option (σ⊕ρ)) (s:σ):Option ρ:=
 if h:∃n r,jE f n s=some r then some h.choose_spec.choose else none
theorem ru {σ ρ:Type} {f:σ->Option (σ⊕ρ)} {n:Nat} {s:σ} {r:ρ} (h:jE f n s=some r):loop f s=some r:=by
 have hx:∃n r,jE f n s=some r:=⟨n,r,h⟩
 unfold loop
 rw[dif_pos hx]
 have q:=hx.choose_spec.choose_spec
 have y:=rm q (Nat.le_max_left hx.choose n)
 have j:=rm h (Nat.le_max_right hx.choose n)
 rw[y]at j
 exact j
theorem q7 {σ ρ:Type} {f:σ->Option (σ⊕ρ)} {s:σ} {r:ρ} (h:loop f s=some r):∃n,jE f n s=some r:=by
 unfold loop at h
 split at h
 ·rename_i hx
  simp only[dZ]at h
  exact⟨_,h ▸ hx.choose_spec.choose_spec⟩
 ·cases h
theorem mP {σ ρ:Type} (f:σ->Option (σ⊕ρ)) (s:σ):loop f s=match f s with
  | none=>none
  | some (.inl s')=>loop f s'
  | some (.inr r)=>some r:=by
 cases hl:loop f s with
 | some r=>
  obtain⟨n,hn⟩:=q7 hl
  cases n with
  | zero=>simp[jE]at hn
  | succ n=>
   simp only[jE]at hn
   split at hn
   ·cases hn
   ·simp only[ru hn]
   ·simp[hn]
 | none=>
  cases hf:f s with
  | none=>rfl
  | some x=>
   cases x with
   | inl s'=>
    simp only
    cases hl':loop f s' with
    | none=>rfl
    | some r=>
     obtain⟨n,hn⟩:=q7 hl'
     have:jE f (n+1) s=some r:=by simp[jE,hf,hn]
     rw[ru this]at hl
     cases hl
   | inr r=>
    have:jE f 1 s=some r:=by simp[jE,hf]
    rw[ru this]at hl
    cases hl
theorem bB {σ ρ:Type} {f:σ->Option (σ⊕ρ)} {s j:σ} (h:f s=some (.inl j)):loop f s=loop f j:=by rw[mP,h]
theorem bP {σ ρ:Type} {f:σ->Option (σ⊕ρ)} {s:σ} {r:ρ} (h:f s=some (.inr r)):loop f s=some r:=by rw[mP,h]
def bV {σ ρ:Type} (s:σ):Option (σ⊕ρ):=some (.inl s)
def bj {σ ρ:Type} (x:Option ρ):Option (σ⊕ρ):=x.map .inr
def lk {σ ρ:Type} (f:σ->Option (σ⊕ρ)) (k:Nat) (r:ρ):σ⊕ρ->Prop
 | .inl s=>jE f k s=some r
 | .inr r'=>r'=r
theorem ia {σ ρ:Type} {f:σ->Option (σ⊕ρ)} {k:Nat} {r:ρ} {s:σ} {x:σ⊕ρ} (h:bV s=some x) (j:lk f k r x):jE f k s=some r:=by
 cases h; exact j
theorem fV {σ ρ:Type} {f:σ->Option (σ⊕ρ)} {k:Nat} {r:ρ} {y:Option ρ} {x:σ⊕ρ} (h:bj y=some x) (j:lk f k r x):y=some r:=by
 cases y with
 | none=>cases h
 | some z=>cases h; rw[<-(j:z=r)]
theorem Kf {σ ρ:Type} {f:σ->Option (σ⊕ρ)} {k:Nat} {s:σ} {r:ρ} (h:jE f (k+1) s=some r):∃x,f s=some x/\lk f k r x:=by
 simp only[jE]at h
 split at h
 ·cases h
 ·rename_i j hs; exact⟨_,hs,h⟩
 ·rename_i q hs; exact⟨_,hs,by simpa [lk] using h⟩
theorem zV {σ ρ:Type} {f:σ->Option (σ⊕ρ)} (I:σ->Prop) (μ:σ->Nat) (R:σ->ρ->Prop) (q:∀s,I s->(∃j,f s=some (.inl j)/\I j/\μ j<μ s/\∀r,R j r->R s r)\/(∃r,f s=some (.inr r)/\R s r)) :
  ∀s,I s->∃r,loop f s=some r/\R s r:=by
 intro s
 generalize hn:μ s=n
 induction n using Nat.strongRecOn generalizing s with
 | _ n ih=>
  intro B
  rcases q s B with⟨j,y,A,G,J⟩ | ⟨r,y,A⟩
  ·obtain⟨r,N,O⟩:=ih (μ j) (hn ▸ G) j rfl A
   exact⟨r,by rw[bB y,N],J r O⟩
  ·exact⟨r,bP y,A⟩
end Go.Gk
end
section
namespace Go.Gk
open Go Go.RowKit
abbrev Env:=List (Nat×Value)
def Env.get:Env->Nat->Option Value
 | [],_=>none
 | (k,v) :: r,i=>bif Nat.beq k i then some v else Env.get r i
def Env.ev (L:Env):Operand->Option Value
 | .tmp t=>L.get t
 | .const v=>some v
 | .global g=>some (.pointer (some ⟨g,0,none⟩))
 | .func f=>some (.func (.func f) #[] #[])
def Env.evs (L:Env):List Operand->Option (List Value)
 | []=>some []
 | x :: r=>match L.ev x,Env.evs L r with
  | some v,some vs=>some (v :: vs)
  | _,_=>none
structure Rep (n:Nat) (L:Env) (a:Act):Prop where
 defers:a.defers=[]
 size:a.tmps.size=n
 get:∀i v,L.get i=some v->a.tmps[i]? = some v
theorem Rep.ev {n:Nat} {L:Env} {a:Act} {x:Operand} {v:Value} (h:Rep n L a) (hx:L.ev x=some v):a.eval x=v:=by
 cases x with
 | tmp t=>
  have:=h.get t v hx
  simp[Act.eval,this]
 | const u=>simpa [Env.ev,Act.eval] using hx
 | global g=>simpa [Env.ev,Act.eval] using hx
 | func f=>simpa [Env.ev,Act.eval] using hx
theorem Rep.evs {n:Nat} {L:Env} {a:Act} (h:Rep n L a):∀{xs:List Operand} {vs:List Value},L.evs xs=some vs->xs.map a.eval=vs
 | [],vs,hx=>by simp[Env.evs]at hx; simp[hx]
 | x :: r,vs,hx=>by
  simp only[Env.evs]at hx
  cases h1:L.ev x with
  | none=>simp[h1]at hx
  | some v=>
   cases h2:L.evs r with
   | none=>simp[h1,h2]at hx
   | some ws=>
    simp[h1,h2]at hx
    subst hx
    simp[h.ev h1,Rep.evs h h2]
theorem Rep.put {n:Nat} {L:Env} {a:Act} {d:Nat} {v:Value} (h:Rep n L a) (hd:Nat.blt d n=true):Rep n ((d,v) :: L) (a.put (some d) v):=by
 have j:d<n:=by simpa [fp] using hd
 refine⟨h.defers,by simp[Act.put,h.size],fun i u hi=>?_⟩
 simp only[Env.get]at hi
 by_cases hk:d=i
 ·subst hk
  simp at hi
  simp[Act.put,h.size,j,hi]
 ·have:Nat.beq d i=false:=by
   cases hb:Nat.beq d i with
   | false=>rfl
   | true=>exact absurd (bf hb) hk
  rw[this]at hi
  simp only[cond_false]at hi
  have:=h.get i u hi
  simp only[Act.put]
  rw[Array.getElem?_setIfInBounds_ne hk]
  exact this
def Env.Le:Env->Env->Prop
 | [],_=>True
 | (k,v) :: r,L=>L.get k=some v/\Env.Le r L
theorem Env.Le.get {L:Env}:∀{j:Env},j.Le L->∀i v,j.get i=some v->L.get i=some v
 | [],_,i,v,h=>by simp[Env.get]at h
 | (k,u) :: r,hle,i,v,h=>by
  obtain⟨q,y⟩:=hle
  simp only[Env.get]at h
  by_cases hk:Nat.beq k i=true
  ·rw[hk]at h
   simp only[cond_true,dZ]at h
   subst h
   rw[<-bf hk]
   exact q
  ·simp only[hk]at h
   exact Env.Le.get y i v (by simpa using h)
theorem Rep.le {n:Nat} {L j:Env} {a:Act} (h:Rep n L a) (hl:j.Le L):Rep n j a:=
 ⟨h.defers,h.size,fun i v hi=>h.get i v (hl.get i v hi)⟩
section
variable {P:Program} {n:Nat} {Q:Exit->Act->World->Prop} {L:Env} {w:World}
def wpC (P:Program) (n:Nat) (c:Code) (Q:Exit->Act->World->Prop) (L:Env) (w:World):Prop:=∀a,Rep n L a->c.wp P Q a w
def wpR (P:Program) (n:Nat) (ops:Array Oper) (Q:Exit->Act->World->Prop) (l:List Oper) (L:Env) (w:World):Prop:=∀a,Rep n L a->wpList P ops Q l a w
def QE (n:Nat) (Q:Exit->Act->World->Prop) (e:Exit) (L:Env) (w:World):Prop:=∀a,Rep n L a->Q e a w
def wpN (P:Program) (n:Nat) (c:Code) (Q:Exit->Act->World->Prop) (k:Nat) (L:Env) (w:World):Prop:=∀a,Rep n L a->Code.rounds P c Q k a w
theorem lL {c:Code} (j:Env) (hl:j.Le L) (h:wpC P n c Q j w):wpC P n c Q L w:=fun a q=>h a (q.le hl)
theorem Gu {c:Code} {k:Nat} (j:Env) (hl:j.Le L) (h:wpN P n c Q k j w):wpN P n c Q k L w:=fun a q=>h a (q.le hl)
theorem cb {x y:Code} (h:wpC P n x (Exit.then (y.wp P Q) Q) L w):wpC P n (.seq x y) Q L w:=fun a j=>wp_seq (h a j)
theorem kC (h:QE n Q .normal L w):wpC P n .skip Q L w:=fun a j=>wp_skip (h a j)
theorem eE {id:Nat} (h:QE n Q (.exit id) L w):wpC P n (.exit id) Q L w:=fun a j=>wp_exit (h a j)
theorem f5 (h:QE n Q .ret L w):wpC P n .ret Q L w:=fun a j=>wp_ret (h a j)
theorem zQ {c:Operand} {x y:Code} {t:Bool} (hc:L.ev c=some (.bool t)) (q:t=true->wpC P n x Q L w) (hf:t=false->wpC P n y Q L w) :
  wpC P n (.cond c x y) Q L w:=fun a j=>wp_cond_split (j.ev hc) (fun h=>q h a j) (fun h=>hf h a j)
theorem ja {c:Operand} {x y:Code} (hc:L.ev c=some (.bool true)) (h:wpC P n x Q L w):wpC P n (.cond c x y) Q L w:=fun a j=>wp_cond_true (j.ev hc) (h a j)
theorem rE {c:Operand} {x y:Code} (hc:L.ev c=some (.bool false)) (h:wpC P n y Q L w):wpC P n (.cond c x y) Q L w:=fun a j=>wp_cond_false (j.ev hc) (h a j)
theorem cx {id:Nat} {c:Code} (h:wpC P n c (Exit.inBlock id Q) L w):wpC P n (.block id c) Q L w:=fun a j=>wp_block (h a j)
theorem yV {c:Code} (k:Nat) (h:wpN P n c Q k L w):wpC P n (.loop c) Q L w:=fun a j=>wp_loop_rounds k (h a j)
theorem ki {c:Code} {k:Nat} (h:wpC P n c (Exit.then (Code.rounds P c Q k) Q) L w):wpN P n c Q (k+1) L w:=fun a j=>by rw[rounds_succ]; exact h a j
theorem bC {id:Nat} {l:List Oper} (h:wpR P n l.toArray Q l L w):wpC P n (.region id l.toArray false) Q L w:=fun a j=>wp_region_lit (h a j)
theorem bp {y:Code} (h:wpC P n y Q L w):QE n (Exit.then (y.wp P Q) Q) .normal L w:=h
theorem bu {K:Act->World->Prop} {id:Nat} (h:QE n Q (.exit id) L w):QE n (Exit.then K Q) (.exit id) L w:=h
theorem de {K:Act->World->Prop} (h:QE n Q .ret L w):QE n (Exit.then K Q) .ret L w:=h
theorem gZ {c:Code} {k:Nat} (h:wpN P n c Q k L w):QE n (Exit.then (Code.rounds P c Q k) Q) .normal L w:=h
theorem ef {id:Nat} (h:QE n Q .normal L w):QE n (Exit.inBlock id Q) .normal L w:=h
theorem dR {id:Nat} (h:QE n Q .ret L w):QE n (Exit.inBlock id Q) .ret L w:=h
theorem eF {id:Nat} (h:QE n Q .normal L w):QE n (Exit.inBlock id Q) (.exit id) L w:=fun a j=>by
 show (if id=id then Q .normal a w else Q (.exit id) a w)
 rw[ah rfl]; exact h a j
theorem dC {id j:Nat} (q:Nat.beq j id=false) (h:QE n Q (.exit j) L w):QE n (Exit.inBlock id Q) (.exit j) L w:=fun a y=>by
 show (if j=id then Q .normal a w else Q (.exit j) a w)
 rw[ae (Nat.ne_of_beq_eq_false q)]; exact h a y
theorem c6 {ops:Array Oper} (h:QE n Q .normal L w):wpR P n ops Q [] L w:=h
theorem gl1 {ops:Array Oper} {x y:Code} (h:wpC P n x (Exit.then (y.wp P Q) Q) L w):wpR P n ops (Exit.then ((Code.seq x y).wp P Q) Q) [] L w:=c6 (bp (cb h))
theorem gl2 {ops:Array Oper} {id:Nat} {l:List Oper} {y:Code} (h:wpR P n l.toArray (Exit.then (y.wp P Q) Q) l L w):wpR P n ops (Exit.then ((Code.seq (.region id l.toArray false) y).wp P Q) Q) [] L w:=c6 (bp (cb (bC h)))
theorem gl3 {ops:Array Oper} {y:Code} (h:wpC P n y Q L w):wpR P n ops (Exit.then (y.wp P Q) Q) [] L w:=c6 (bp h)
theorem gl4 {id:Nat} {l:List Oper} {y:Code} (h:wpR P n l.toArray (Exit.then (y.wp P Q) Q) l L w):wpC P n (.seq (.region id l.toArray false) y) Q L w:=cb (bC h)
theorem gl5 {y:Code} (h:wpC P n y Q L w):wpC P n .skip (Exit.then (y.wp P Q) Q) L w:=kC (bp h)
theorem gl6 {id:Nat} {l:List Oper} {y:Code} (h:wpR P n l.toArray (Exit.then (y.wp P Q) Q) l L w):wpC P n .skip (Exit.then ((Code.seq (.region id l.toArray false) y).wp P Q) Q) L w:=kC (bp (cb (bC h)))
theorem gl8 {ops:Array Oper} {K:Act->World->Prop} (h:QE n Q .ret L w):wpR P n ops (Exit.then (Code.ret.wp P (Exit.then K Q)) (Exit.then K Q)) [] L w:=c6 (bp (f5 (de h)))
theorem Env.le_of:∀{j L:Env},j.map (fun p=>L.get p.1)=j.map (fun p=>some p.2)->j.Le L
 | [],_,_=>trivial
 | (k,v) :: r,L,h=>by
  rw[dc,dc]at h
  exact⟨(List.cons.inj h).1,Env.le_of (List.cons.inj h).2⟩
theorem gl {c:Code} (j:Env) (hl:j.map (fun p=>L.get p.1)=j.map (fun p=>some p.2)) (h:wpC P n c Q j w):wpC P n c Q L w:=lL j (Env.le_of hl) h
theorem cz {c:Code} {j:Env} (h:wpC P n c Q j w) (hl:j.map (fun p=>L.get p.1)=j.map (fun p=>some p.2)):wpC P n c Q L w:=lL j (Env.le_of hl) h
theorem ko {c:Code} {k:Nat} {j:Env} (h:wpN P n c Q k j w) (hl:j.map (fun p=>L.get p.1)=j.map (fun p=>some p.2)):wpN P n c Q k L w:=Gu j (Env.le_of hl) h
theorem gl9 {c:Operand} {x y:Code} {t:Bool} {ρ:Type} {A B:Option ρ} {r:ρ} (hc:L.ev c=some (.bool t)) (h:(if t=true then A else B)=some r) (j:A=some r->wpC P n x Q L w) (hf:B=some r->wpC P n y Q L w) :
  wpC P n (.cond c x y) Q L w:=zQ hc (fun q=>j (fD h q)) (fun q=>hf (fE h q))
def OpV (P:Program) (n:Nat) (L:Env) (w:World) (o:Oper) (v:Value) (w':World):Prop:=
 ∀a,Rep n L a->(execOp a.eval o).run P w=.ok (.value v) w'
theorem aT {ops:Array Oper} {rest:List Oper} {d:Nat} {op:Op} {ty:TypeId} {pos:String} {after:Array Edge} {v:Value} {w':World}
  (q:OpV P n L w ⟨some d,op,ty,pos,after,none⟩ v w') (hd:Nat.blt d n=true)
  (h:wpR P n ops Q rest ((d,v) :: L) w'):wpR P n ops Q (⟨some d,op,ty,pos,after,none⟩ :: rest) L w:=fun a j=>by
 unfold wpList
 rw[ah (by simp[Region.wanted])]
 refine .inl ?_
 unfold Oper.wp
 rw[q a j]
 exact h _ (j.put hd)
def OpS (P:Program) (n:Nat) (L:Env) (w:World) (o:Oper) (w':World):Prop:=
 ∀a,Rep n L a->(execOp a.eval o).run P w=.ok .skip w'
theorem Oh {ops:Array Oper} {rest:List Oper} {op:Op} {ty:TypeId} {pos:String} {after:Array Edge} {w':World}
  (q:OpS P n L w ⟨none,op,ty,pos,after,none⟩ w')
  (h:wpR P n ops Q rest L w'):wpR P n ops Q (⟨none,op,ty,pos,after,none⟩ :: rest) L w:=fun a j=>by
 unfold wpList
 rw[ah (by simp[Region.wanted])]
 refine .inl ?_
 unfold Oper.wp
 rw[q a j]
 exact h _ j
theorem ow {w:World} {d:Option Tmp} {x:Operand} {v:Value} {ty:TypeId} {pos:String} {after:Array Edge} (hx:L.ev x=some v) :
  OpV P n L w ⟨d,.move x,ty,pos,after,none⟩ v w:=fun a j=>by
 simp[execOp,j.ev hx]
end
abbrev vI (x:Int):Value:=.int .i64 x
abbrev vB (b:Bool):Value:=.bool b
abbrev vS (l:List UInt8):Value:=.string ⟨⟨l⟩⟩
abbrev v8 (x:UInt8):Value:=.int .u8 (x.toNat:Int)
abbrev v32 (x:UInt32):Value:=.int .u32 (x.toNat:Int)
abbrev v64 (x:UInt64):Value:=.int .u64 (x.toNat:Int)
abbrev pP (a:Addr):Value:=.pointer (some a)
def wI (x:Int):Int:=IntKind.i64.wrap x
theorem O0 (x:Int):wI x=if x%18446744073709551616 >= 9223372036854775808 then x%18446744073709551616 - 18446744073709551616 else x%18446744073709551616:=by
 simp[wI,IntKind.wrap,IntKind.bits,IntKind.signed]
theorem aO {x:Int} (j:-9223372036854775808<=x) (q:x<=9223372036854775807):wI x=x:=by
 rw[O0]; split <;> omega
def Qd (x y:Int):Int:=wI ((BitVec.ofInt 64 x &&& BitVec.ofInt 64 y).toNat:Int)
def gA (x:Int) (n:Nat):Int:=wI (x*2^(min n 64))
def nA (x:Int) (n:Nat):Int:=x.fdiv (2^(min n 64))
section
variable {P:Program}
def cr (P:Program) (op:BinOp) (T:TypeId) (a b v:Value):Prop:=
 ∀(x y:Operand) (w:World),(do eqGuard op T x y a b; binOp op T a b:Sem Value).run P w=.ok v w
def UnR (P:Program) (op:UnOp) (a v:Value):Prop:=∀(w:World),(Op.unary op a).run P w=.ok v w
def mw (P:Program) (src dst:TypeId) (a v:Value):Prop:=∀(w:World),(convert src dst a).run P w=.ok v w
variable {n:Nat} {L:Env} {w:World}
theorem bE {d:Option Tmp} {op:BinOp} {T T2:TypeId} {x y:Operand} {a b v:Value} {ty:TypeId} {pos:String} {after:Array Edge}
  (hx:L.ev x=some a) (q:L.ev y=some b) (h:cr P op T a b v):OpV P n L w ⟨d,.binOp op T x y T2,ty,pos,after,none⟩ v w:=fun A j=>by
 have:=h x y w
 simp only[Sem.run_bind]at this
 simp[execOp,j.ev hx,j.ev q,Sem.run_bind]
 generalize (eqGuard op T x y a b).run P w=r at *
 cases r with
 | halt h w'=>simp[Result.andThen]at this
 | ok u w'=>simp[Result.andThen]at this ⊢; rw[this]
theorem Fc {d:Option Tmp} {op:UnOp} {T:TypeId} {x:Operand} {a v:Value} {ty:TypeId} {pos:String} {after:Array Edge}
  (hx:L.ev x=some a) (h:UnR P op a v):OpV P n L w ⟨d,.unOp op T x,ty,pos,after,none⟩ v w:=fun q j=>by
 simp[execOp,j.ev hx,h w]
theorem gr {d:Option Tmp} {S T:TypeId} {x:Operand} {a v:Value} {ty:TypeId} {pos:String} {after:Array Edge}
  (hx:L.ev x=some a) (h:mw P S T a v):OpV P n L w ⟨d,.convert S T x,ty,pos,after,none⟩ v w:=fun q j=>by
 simp[execOp,j.ev hx,h w]
theorem dz {d:Option Tmp} {x:Operand} {v:Value} {ty:TypeId} {pos:String} {after:Array Edge} (hx:L.ev x=some v) :
  OpV P n L w ⟨d,.assign x,ty,pos,after,none⟩ v w:=fun a j=>by
 simp[execOp,j.ev hx]
theorem xe {d:Option Tmp} {c x y:Operand} {u:Value} {ty:TypeId} {pos:String} {after:Array Edge}
  (hc:L.ev c=some (vB true)) (hx:L.ev x=some u) :
  OpV P n L w ⟨d,.pick c x y,ty,pos,after,none⟩ u w:=fun a j=>by
 simp[execOp,j.ev hc,j.ev hx,asBool]
theorem xH {d:Option Tmp} {c x y:Operand} {v:Value} {ty:TypeId} {pos:String} {after:Array Edge}
  (hc:L.ev c=some (vB false)) (q:L.ev y=some v) :
  OpV P n L w ⟨d,.pick c x y,ty,pos,after,none⟩ v w:=fun a j=>by
 simp[execOp,j.ev hc,j.ev q,asBool]
theorem sU {d:Option Tmp} {x:Operand} {i:Nat} {vs:Array Value} {v:Value} {ty:TypeId} {pos:String} {after:Array Edge}
  (hx:L.ev x=some (.tuple vs)) (j:vs[i]? = some v) :
  OpV P n L w ⟨d,.extract x i,ty,pos,after,none⟩ v w:=fun a q=>by
 simp[execOp,q.ev hx,Instr.extract,j]
theorem lH (T:TypeId) (x y:Int):cr P .add T (vI x) (vI y) (vI (wI (x+y))):=fun _ _ _=>rfl
theorem lO (T:TypeId) (x y:Int):cr P .sub T (vI x) (vI y) (vI (wI (x - y))):=fun _ _ _=>rfl
theorem lI (T:TypeId) (x y:Int):cr P .mul T (vI x) (vI y) (vI (wI (x*y))):=fun _ _ _=>rfl
theorem Fu (T:TypeId) (x y:Int) (h:¬y=0):cr P .quo T (vI x) (vI y) (vI (wI (x.tdiv y))):=fun _ _ _=>by
 simp[eqGuard,binOp,Op.intDiv,h,wI]
theorem Bb (T:TypeId) (x y:Int) (h:¬y=0):cr P .rem T (vI x) (vI y) (vI (x.tmod y)):=fun _ _ _=>by
 simp[eqGuard,binOp,Op.intDiv,h]
theorem NR (T:TypeId) (x y:Int):cr P .and T (vI x) (vI y) (vI (Qd x y)):=fun _ _ _=>rfl
theorem Nh (T:TypeId) (x y:Int) (h:0<=y):cr P .shl T (vI x) (vI y) (vI (gA x y.toNat)):=fun _ _ _=>by
 have:¬y<0:=by omega
 simp[eqGuard,binOp,Op.shift,this,gA,wI,IntKind.bits]
theorem IL (T:TypeId) (x:Int) (y:UInt64):cr P .shl T (vI x) (v64 y) (vI (gA x y.toNat)):=fun _ _ _=>by
 have:¬(y.toNat:Int)<0:=by omega
 simp[eqGuard,binOp,Op.shift,this,gA,wI,IntKind.bits]
theorem Ih (T:TypeId) (x:Int) (y:UInt64):cr P .shr T (vI x) (v64 y) (vI (nA x y.toNat)):=fun _ _ _=>by
 have:¬(y.toNat:Int)<0:=by omega
 simp[eqGuard,binOp,Op.shift,this,nA,IntKind.bits]
theorem AM (T:TypeId) (x y:Int):cr P .eql T (vI x) (vI y) (vB (x == y)):=fun _ _ _=>rfl
theorem GD (T:TypeId) (x y:Int):cr P .neq T (vI x) (vI y) (vB (x != y)):=fun _ _ _=>rfl
theorem kV (T:TypeId) (x y:Int):cr P .lss T (vI x) (vI y) (vB (decide (x<y))):=fun _ _ _=>rfl
theorem qa (T:TypeId) (x y:Int):cr P .leq T (vI x) (vI y) (vB (decide (x<=y))):=fun _ _ _=>rfl
theorem uy (T:TypeId) (x y:Int):cr P .gtr T (vI x) (vI y) (vB (decide (y<x))):=fun _ _ _=>rfl
theorem Ga (T:TypeId) (x y:Int):cr P .geq T (vI x) (vI y) (vB (decide (y<=x))):=fun _ _ _=>rfl
theorem MZ (x:Int):UnR P .neg (vI x) (vI (wI (0 - x))):=fun _=>rfl
theorem Jt (b:Bool):UnR P .not (vB b) (vB (!b)):=fun _=>rfl
theorem rC (l:List UInt8):(⟨⟨l⟩⟩:ByteArray).toList=l:=by
 exact Lib.toList_data _
def oo (x:UInt8) (n:Nat):UInt8:=UInt8.ofNat (x.toNat*2^(min n 8))
def qt (x:UInt8) (n:Nat):UInt8:=UInt8.ofNat (x.toNat / 2^(min n 8))
theorem nm (x:Nat):IntKind.u8.wrap (x:Int)=((UInt8.ofNat x).toNat:Int):=by
 simp[IntKind.wrap,IntKind.bits,IntKind.signed,dQ]
theorem KZ (x:Int):IntKind.u8.wrap x=((UInt8.ofInt x).toNat:Int):=by
 simp[IntKind.wrap,IntKind.bits,IntKind.signed,UInt8.ofInt,dQ]
 omega
theorem bv8 (x:UInt8):BitVec.ofInt 8 (x.toNat:Int)=x.toBitVec:=by
 apply BitVec.eq_of_toNat_eq
 simp
theorem LO (T:TypeId) (x y:UInt8):cr P .add T (v8 x) (v8 y) (v8 (x+y)):=fun _ _ w=>by
 have:(v8 (x+y))=.int .u8 (IntKind.u8.wrap ((x.toNat:Int)+y.toNat)):=by
  rw[show (x.toNat:Int)+y.toNat=((x.toNat+y.toNat:Nat):Int) by simp,nm]
  simp[v8,UInt8.toNat_add]
 rw[this]; rfl
theorem Nz (T:TypeId) (x y:UInt8):cr P .sub T (v8 x) (v8 y) (v8 (x - y)):=fun _ _ w=>by
 have:(v8 (x - y))=.int .u8 (IntKind.u8.wrap ((x.toNat:Int) - y.toNat)):=by
  simp only[v8,Value.int.injEq,iU,UInt8.toNat_sub]
  simp[IntKind.wrap,IntKind.bits,IntKind.signed]
  have:=x.toNat_lt; have:=y.toNat_lt
  omega
 rw[this]; rfl
theorem Mp (T:TypeId) (x y:UInt8) (h:¬y=0):cr P .rem T (v8 x) (v8 y) (v8 (x%y)):=fun _ _ w=>by
 have j:¬(y.toNat:Int)=0:=fun e=>h (fX.1 (by simpa using e))
 have:((x.toNat:Int)).tmod y.toNat=((x%y).toNat:Int):=by rw[UInt8.toNat_mod]; rfl
 simp only[eqGuard,binOp,Op.intDiv,ae j,this]; rfl
theorem Nf (T:TypeId) (x y:UInt8):cr P .and T (v8 x) (v8 y) (v8 (x &&& y)):=fun _ _ w=>by
 have:(v8 (x &&& y))=.int .u8 (IntKind.u8.wrap ((BitVec.ofInt 8 (x.toNat:Int) &&& BitVec.ofInt 8 (y.toNat:Int)).toNat:Int)):=by
  rw[bv8,bv8,nm]
  simp[v8]
 rw[this]; rfl
theorem yo (T:TypeId) (x y:UInt8):cr P .or T (v8 x) (v8 y) (v8 (x ||| y)):=fun _ _ w=>by
 have:(v8 (x ||| y))=.int .u8 (IntKind.u8.wrap ((BitVec.ofInt 8 (x.toNat:Int) ||| BitVec.ofInt 8 (y.toNat:Int)).toNat:Int)):=by
  rw[bv8,bv8,nm]
  simp[v8]
 rw[this]; rfl
theorem NF (T:TypeId) (x y:UInt8):cr P .xor T (v8 x) (v8 y) (v8 (x ^^^ y)):=fun _ _ w=>by
 have:(v8 (x ^^^ y))=.int .u8 (IntKind.u8.wrap ((BitVec.ofInt 8 (x.toNat:Int) ^^^ BitVec.ofInt 8 (y.toNat:Int)).toNat:Int)):=by
  rw[bv8,bv8,nm]
  simp[v8]
 rw[this]; rfl
theorem Fk (T:TypeId) (x y:UInt8):cr P .andNot T (v8 x) (v8 y) (v8 (x &&& ~~~ y)):=fun _ _ w=>by
 have:(v8 (x &&& ~~~ y))=.int .u8 (IntKind.u8.wrap ((BitVec.ofInt 8 (x.toNat:Int) &&& ~~~ BitVec.ofInt 8 (y.toNat:Int)).toNat:Int)):=by
  rw[bv8,bv8,nm,<-UInt8.toBitVec_not,<-UInt8.toBitVec_and,UInt8.toNat_toBitVec]
  simp only[v8,dQ,Value.int.injEq,iU]
  exact_mod_cast (ax (x &&& ~~~ y).toNat_lt).symm
 rw[this]; rfl
theorem NP (T:TypeId) (k:IntKind) (x:UInt8) (y:Int) (h:0<=y):cr P .shl T (v8 x) (.int k y) (v8 (oo x y.toNat)):=fun _ _ w=>by
 have j:¬y<0:=by omega
 have:IntKind.u8.wrap ((x.toNat:Int)*2^(min y.toNat 8))=((oo x y.toNat).toNat:Int):=by
  rw[show (x.toNat:Int)*2^(min y.toNat 8)=((x.toNat*2^(min y.toNat 8):Nat):Int) by simp,nm]; rfl
 simp[eqGuard,binOp,Op.shift,j,IntKind.bits,this]
theorem Fw (T:TypeId) (k:IntKind) (x:UInt8) (y:Int) (h:0<=y):cr P .shr T (v8 x) (.int k y) (v8 (qt x y.toNat)):=fun _ _ w=>by
 have j:¬y<0:=by omega
 have:(x.toNat:Int).fdiv (2^(min y.toNat 8))=((qt x y.toNat).toNat:Int):=by
  rw[gw _ (Int.le_of_lt (Int.pow_pos (by omega)))]
  simp only[qt,dQ]
  have:=x.toNat_lt
  rw[ax (et (dO _ _) this)]
  simp
 simp[eqGuard,binOp,Op.shift,j,IntKind.bits,this]
theorem Gp (T:TypeId) (x:UInt8) (y:UInt64):cr P .shl T (v8 x) (v64 y) (v8 (oo x y.toNat)):=by
 have:=NP (P:=P) T .u64 x y.toNat (by omega); simpa using this
theorem G1 (T:TypeId) (x:UInt8) (y:UInt64):cr P .shr T (v8 x) (v64 y) (v8 (qt x y.toNat)):=by
 have:=Fw (P:=P) T .u64 x y.toNat (by omega); simpa using this
theorem Hq (T:TypeId) (x:UInt8) (y:Int) (h:0<=y):cr P .shr T (v8 x) (vI y) (v8 (qt x y.toNat)):=Fw T .i64 x y h
theorem Nl (T:TypeId) (x y:UInt8):cr P .eql T (v8 x) (v8 y) (vB (x == y)):=fun _ _ w=>by
 have:(x == y)=((x.toNat:Int) == (y.toNat:Int)):=by
  rw[cO]; simp[<-fX]; omega
 rw[this]; rfl
theorem mj (T:TypeId) (x y:UInt8):cr P .neq T (v8 x) (v8 y) (vB (x != y)):=fun _ _ w=>by
 have:(x != y)=((x.toNat:Int) != (y.toNat:Int)):=by
  rw[cO]; simp[<-fX]; omega
 rw[this]; rfl
theorem M3 (T:TypeId) (x y:UInt8):cr P .lss T (v8 x) (v8 y) (vB (decide (x<y))):=fun _ _ w=>by
 have:decide (x<y)=decide ((x.toNat:Int)<(y.toNat:Int)):=by
  rw[cO]; simp[iM]
 rw[this]; rfl
theorem Ns (T:TypeId) (x y:UInt8):cr P .leq T (v8 x) (v8 y) (vB (decide (x<=y))):=fun _ _ w=>by
 have:decide (x<=y)=decide ((x.toNat:Int)<=(y.toNat:Int)):=by
  rw[cO]; simp[dN]
 rw[this]; rfl
theorem Nr (T:TypeId) (x y:UInt8):cr P .gtr T (v8 x) (v8 y) (vB (decide (y<x))):=fun _ _ w=>by
 have:decide (y<x)=decide ((y.toNat:Int)<(x.toNat:Int)):=by
  rw[cO]; simp[iM]
 rw[this]; rfl
theorem ND (T:TypeId) (x y:UInt8):cr P .geq T (v8 x) (v8 y) (vB (decide (y<=x))):=fun _ _ w=>by
 have:decide (y<=x)=decide ((y.toNat:Int)<=(x.toNat:Int)):=by
  rw[cO]; simp[dN]
 rw[this]; rfl
def iu (x:UInt32) (n:Nat):UInt32:=UInt32.ofNat (x.toNat*2^(min n 32))
def ff (x:UInt32) (n:Nat):UInt32:=UInt32.ofNat (x.toNat / 2^(min n 32))
theorem mb (x:Nat):IntKind.u32.wrap (x:Int)=((UInt32.ofNat x).toNat:Int):=by
 simp[IntKind.wrap,IntKind.bits,IntKind.signed,dm]
theorem tn (x:UInt32):BitVec.ofInt 32 (x.toNat:Int)=x.toBitVec:=by
 apply BitVec.eq_of_toNat_eq
 simp
theorem LH (T:TypeId) (x y:UInt32):cr P .add T (v32 x) (v32 y) (v32 (x+y)):=fun _ _ w=>by
 have:(v32 (x+y))=.int .u32 (IntKind.u32.wrap ((x.toNat:Int)+y.toNat)):=by
  rw[show (x.toNat:Int)+y.toNat=((x.toNat+y.toNat:Nat):Int) by simp,mb]
  simp[v32,UInt32.toNat_add]
 rw[this]; rfl
theorem LD (T:TypeId) (x y:UInt32):cr P .sub T (v32 x) (v32 y) (v32 (x - y)):=fun _ _ w=>by
 have:(v32 (x - y))=.int .u32 (IntKind.u32.wrap ((x.toNat:Int) - y.toNat)):=by
  simp only[v32,Value.int.injEq,iU,UInt32.toNat_sub]
  simp[IntKind.wrap,IntKind.bits,IntKind.signed]
  have:=x.toNat_lt; have:=y.toNat_lt
  omega
 rw[this]; rfl
theorem KL (T:TypeId) (x y:UInt32):cr P .and T (v32 x) (v32 y) (v32 (x &&& y)):=fun _ _ w=>by
 have:(v32 (x &&& y))=.int .u32 (IntKind.u32.wrap ((BitVec.ofInt 32 (x.toNat:Int) &&& BitVec.ofInt 32 (y.toNat:Int)).toNat:Int)):=by
  rw[tn,tn,mb]
  simp[v32]
 rw[this]; rfl
theorem L7 (T:TypeId) (x y:UInt32):cr P .or T (v32 x) (v32 y) (v32 (x ||| y)):=fun _ _ w=>by
 have:(v32 (x ||| y))=.int .u32 (IntKind.u32.wrap ((BitVec.ofInt 32 (x.toNat:Int) ||| BitVec.ofInt 32 (y.toNat:Int)).toNat:Int)):=by
  rw[tn,tn,mb]
  simp[v32]
 rw[this]; rfl
theorem Lp (T:TypeId) (x y:UInt32):cr P .xor T (v32 x) (v32 y) (v32 (x ^^^ y)):=fun _ _ w=>by
 have:(v32 (x ^^^ y))=.int .u32 (IntKind.u32.wrap ((BitVec.ofInt 32 (x.toNat:Int) ^^^ BitVec.ofInt 32 (y.toNat:Int)).toNat:Int)):=by
  rw[tn,tn,mb]
  simp[v32]
 rw[this]; rfl
theorem B9 (T:TypeId) (k:IntKind) (x:UInt32) (y:Int) (h:0<=y):cr P .shl T (v32 x) (.int k y) (v32 (iu x y.toNat)):=fun _ _ w=>by
 have j:¬y<0:=by omega
 have:IntKind.u32.wrap ((x.toNat:Int)*2^(min y.toNat 32))=((iu x y.toNat).toNat:Int):=by
  rw[show (x.toNat:Int)*2^(min y.toNat 32)=((x.toNat*2^(min y.toNat 32):Nat):Int) by simp,mb]; rfl
 simp[eqGuard,binOp,Op.shift,j,IntKind.bits,this]
theorem C9 (T:TypeId) (k:IntKind) (x:UInt32) (y:Int) (h:0<=y):cr P .shr T (v32 x) (.int k y) (v32 (ff x y.toNat)):=fun _ _ w=>by
 have j:¬y<0:=by omega
 have:(x.toNat:Int).fdiv (2^(min y.toNat 32))=((ff x y.toNat).toNat:Int):=by
  rw[gw _ (Int.le_of_lt (Int.pow_pos (by omega)))]
  simp only[ff,dm]
  have:=x.toNat_lt
  rw[ax (et (dO _ _) this)]
  simp
 simp[eqGuard,binOp,Op.shift,j,IntKind.bits,this]
theorem Dq (T:TypeId) (x:UInt32) (y:UInt64):cr P .shl T (v32 x) (v64 y) (v32 (iu x y.toNat)):=by
 have:=B9 (P:=P) T .u64 x y.toNat (by omega); simpa using this
theorem Ed (T:TypeId) (x:UInt32) (y:UInt64):cr P .shr T (v32 x) (v64 y) (v32 (ff x y.toNat)):=by
 have:=C9 (P:=P) T .u64 x y.toNat (by omega); simpa using this
theorem Ft (T:TypeId) (x:UInt32) (y:Int) (h:0<=y):cr P .shl T (v32 x) (vI y) (v32 (iu x y.toNat)):=B9 T .i64 x y h
theorem G4 (T:TypeId) (x:UInt32) (y:Int) (h:0<=y):cr P .shr T (v32 x) (vI y) (v32 (ff x y.toNat)):=C9 T .i64 x y h
theorem Ct (T:TypeId) (x y:UInt32):cr P .eql T (v32 x) (v32 y) (vB (x == y)):=fun _ _ w=>by
 have:(x == y)=((x.toNat:Int) == (y.toNat:Int)):=by
  rw[cO]; simp[<-c7]; omega
 rw[this]; rfl
theorem KK (T:TypeId) (x y:UInt32):cr P .neq T (v32 x) (v32 y) (vB (x != y)):=fun _ _ w=>by
 have:(x != y)=((x.toNat:Int) != (y.toNat:Int)):=by
  rw[cO]; simp[<-c7]; omega
 rw[this]; rfl
theorem KU (T:TypeId) (x y:UInt32):cr P .lss T (v32 x) (v32 y) (vB (decide (x<y))):=fun _ _ w=>by
 have:decide (x<y)=decide ((x.toNat:Int)<(y.toNat:Int)):=by
  rw[cO]; simp[dr]
 rw[this]; rfl
theorem Kv (T:TypeId) (x y:UInt32):cr P .leq T (v32 x) (v32 y) (vB (decide (x<=y))):=fun _ _ w=>by
 have:decide (x<=y)=decide ((x.toNat:Int)<=(y.toNat:Int)):=by
  rw[cO]; simp[eY]
 rw[this]; rfl
theorem Lh (T:TypeId) (x y:UInt32):cr P .gtr T (v32 x) (v32 y) (vB (decide (y<x))):=fun _ _ w=>by
 have:decide (y<x)=decide ((y.toNat:Int)<(x.toNat:Int)):=by
  rw[cO]; simp[dr]
 rw[this]; rfl
theorem KW (T:TypeId) (x y:UInt32):cr P .geq T (v32 x) (v32 y) (vB (decide (y<=x))):=fun _ _ w=>by
 have:decide (y<=x)=decide ((y.toNat:Int)<=(x.toNat:Int)):=by
  rw[cO]; simp[eY]
 rw[this]; rfl
theorem JX (x:UInt32):UnR P .xor (v32 x) (v32 (~~~ x)):=fun _=>by
 have:(v32 (~~~ x))=.int .u32 (IntKind.u32.wrap ((BitVec.ofInt 32 IntKind.u32.max ^^^ BitVec.ofInt 32 (x.toNat:Int)).toNat:Int)):=by
  rw[tn,mb]
  have j:BitVec.ofInt 32 IntKind.u32.max=BitVec.allOnes 32:=by decide
  rw[j,BitVec.allOnes_xor,<-UInt32.toBitVec_not,UInt32.toNat_toBitVec]
  simp only[v32,dm,Value.int.injEq,iU]
  exact_mod_cast (ax (~~~ x).toNat_lt).symm
 rw[this]; rfl
def c9 (x:UInt64) (n:Nat):UInt64:=UInt64.ofNat (x.toNat*2^(min n 64))
def bb (x:UInt64) (n:Nat):UInt64:=UInt64.ofNat (x.toNat / 2^(min n 64))
theorem kZ (x:Nat):IntKind.u64.wrap (x:Int)=((UInt64.ofNat x).toNat:Int):=by
 simp[IntKind.wrap,IntKind.bits,IntKind.signed,bL]
theorem IA (x:Int):IntKind.u64.wrap x=((UInt64.ofInt x).toNat:Int):=by
 simp[IntKind.wrap,IntKind.bits,IntKind.signed,UInt64.ofInt,bL]
 omega
theorem vq (x:UInt64):BitVec.ofInt 64 (x.toNat:Int)=x.toBitVec:=by
 apply BitVec.eq_of_toNat_eq
 simp
theorem Cy (T:TypeId) (x y:UInt64):cr P .add T (v64 x) (v64 y) (v64 (x+y)):=fun _ _ w=>by
 have:(v64 (x+y))=.int .u64 (IntKind.u64.wrap ((x.toNat:Int)+y.toNat)):=by
  rw[show (x.toNat:Int)+y.toNat=((x.toNat+y.toNat:Nat):Int) by simp,kZ]
  simp[v64,fI]
 rw[this]; rfl
theorem KD (T:TypeId) (x y:UInt64):cr P .sub T (v64 x) (v64 y) (v64 (x - y)):=fun _ _ w=>by
 have:(v64 (x - y))=.int .u64 (IntKind.u64.wrap ((x.toNat:Int) - y.toNat)):=by
  simp only[v64,Value.int.injEq,iU,fi]
  simp[IntKind.wrap,IntKind.bits,IntKind.signed]
  have:=x.toNat_lt; have:=y.toNat_lt
  omega
 rw[this]; rfl
theorem K5 (T:TypeId) (x y:UInt64):cr P .mul T (v64 x) (v64 y) (v64 (x*y)):=fun _ _ w=>by
 have:(v64 (x*y))=.int .u64 (IntKind.u64.wrap ((x.toNat:Int)*y.toNat)):=by
  rw[show (x.toNat:Int)*y.toNat=((x.toNat*y.toNat:Nat):Int) by simp,kZ]
  simp[v64,iQ]
 rw[this]; rfl
theorem Kt (T:TypeId) (x y:UInt64) (h:¬y=0):cr P .quo T (v64 x) (v64 y) (v64 (x / y)):=fun _ _ w=>by
 have j:¬(y.toNat:Int)=0:=fun e=>h (cA.1 (by simpa using e))
 have:IntKind.u64.wrap (((x.toNat:Int)).tdiv y.toNat)=((x / y).toNat:Int):=by
  rw[show ((x.toNat:Int)).tdiv y.toNat=((x.toNat / y.toNat:Nat):Int) from rfl,kZ]
  rw[fh,bL,ax (et (dO _ _) x.toNat_lt)]
 simp only[eqGuard,binOp,Op.intDiv,ae j,this]; rfl
theorem Ch (T:TypeId) (x y:UInt64) (h:¬y=0):cr P .rem T (v64 x) (v64 y) (v64 (x%y)):=fun _ _ w=>by
 have j:¬(y.toNat:Int)=0:=fun e=>h (cA.1 (by simpa using e))
 have:((x.toNat:Int)).tmod y.toNat=((x%y).toNat:Int):=by rw[dH]; rfl
 simp only[eqGuard,binOp,Op.intDiv,ae j,this]; rfl
theorem LF (T:TypeId) (x y:UInt64):cr P .and T (v64 x) (v64 y) (v64 (x &&& y)):=fun _ _ w=>by
 have:(v64 (x &&& y))=.int .u64 (IntKind.u64.wrap ((BitVec.ofInt 64 (x.toNat:Int) &&& BitVec.ofInt 64 (y.toNat:Int)).toNat:Int)):=by
  rw[vq,vq,kZ]
  simp[v64]
 rw[this]; rfl
theorem Ny (T:TypeId) (x y:UInt64):cr P .or T (v64 x) (v64 y) (v64 (x ||| y)):=fun _ _ w=>by
 have:(v64 (x ||| y))=.int .u64 (IntKind.u64.wrap ((BitVec.ofInt 64 (x.toNat:Int) ||| BitVec.ofInt 64 (y.toNat:Int)).toNat:Int)):=by
  rw[vq,vq,kZ]
  simp[v64]
 rw[this]; rfl
theorem Ka (T:TypeId) (x y:UInt64):cr P .xor T (v64 x) (v64 y) (v64 (x ^^^ y)):=fun _ _ w=>by
 have:(v64 (x ^^^ y))=.int .u64 (IntKind.u64.wrap ((BitVec.ofInt 64 (x.toNat:Int) ^^^ BitVec.ofInt 64 (y.toNat:Int)).toNat:Int)):=by
  rw[vq,vq,kZ]
  simp[v64]
 rw[this]; rfl
theorem Dg (T:TypeId) (k:IntKind) (x:UInt64) (y:Int) (h:0<=y):cr P .shl T (v64 x) (.int k y) (v64 (c9 x y.toNat)):=fun _ _ w=>by
 have j:¬y<0:=by omega
 have:IntKind.u64.wrap ((x.toNat:Int)*2^(min y.toNat 64))=((c9 x y.toNat).toNat:Int):=by
  rw[show (x.toNat:Int)*2^(min y.toNat 64)=((x.toNat*2^(min y.toNat 64):Nat):Int) by simp,kZ]; rfl
 simp[eqGuard,binOp,Op.shift,j,IntKind.bits,this]
theorem Cj (T:TypeId) (k:IntKind) (x:UInt64) (y:Int) (h:0<=y):cr P .shr T (v64 x) (.int k y) (v64 (bb x y.toNat)):=fun _ _ w=>by
 have j:¬y<0:=by omega
 have:(x.toNat:Int).fdiv (2^(min y.toNat 64))=((bb x y.toNat).toNat:Int):=by
  rw[gw _ (Int.le_of_lt (Int.pow_pos (by omega)))]
  simp only[bb,bL]
  have:=x.toNat_lt
  rw[ax (et (dO _ _) this)]
  simp
 simp[eqGuard,binOp,Op.shift,j,IntKind.bits,this]
theorem DG (T:TypeId) (x:UInt64) (y:UInt64):cr P .shl T (v64 x) (v64 y) (v64 (c9 x y.toNat)):=by
 have:=Dg (P:=P) T .u64 x y.toNat (by omega); simpa using this
theorem Ei (T:TypeId) (x:UInt64) (y:UInt64):cr P .shr T (v64 x) (v64 y) (v64 (bb x y.toNat)):=by
 have:=Cj (P:=P) T .u64 x y.toNat (by omega); simpa using this
theorem FX (T:TypeId) (x:UInt64) (y:Int) (h:0<=y):cr P .shl T (v64 x) (vI y) (v64 (c9 x y.toNat)):=Dg T .i64 x y h
theorem kb (T:TypeId) (x:UInt64) (y:Int) (h:0<=y):cr P .shr T (v64 x) (vI y) (v64 (bb x y.toNat)):=Cj T .i64 x y h
theorem KI (T:TypeId) (x y:UInt64):cr P .eql T (v64 x) (v64 y) (vB (x == y)):=fun _ _ w=>by
 have:(x == y)=((x.toNat:Int) == (y.toNat:Int)):=by
  rw[cO]; simp[<-cA]; omega
 rw[this]; rfl
theorem wm (T:TypeId) (x y:UInt64):cr P .neq T (v64 x) (v64 y) (vB (x != y)):=fun _ _ w=>by
 have:(x != y)=((x.toNat:Int) != (y.toNat:Int)):=by
  rw[cO]; simp[<-cA]; omega
 rw[this]; rfl
theorem Df (T:TypeId) (x y:UInt64):cr P .lss T (v64 x) (v64 y) (vB (decide (x<y))):=fun _ _ w=>by
 have:decide (x<y)=decide ((x.toNat:Int)<(y.toNat:Int)):=by
  rw[cO]; simp[bq]
 rw[this]; rfl
theorem CO (T:TypeId) (x y:UInt64):cr P .gtr T (v64 x) (v64 y) (vB (decide (y<x))):=fun _ _ w=>by
 have:decide (y<x)=decide ((y.toNat:Int)<(x.toNat:Int)):=by
  rw[cO]; simp[bq]
 rw[this]; rfl
theorem JQ (T:TypeId) (x y:UInt64):cr P .geq T (v64 x) (v64 y) (vB (decide (y<=x))):=fun _ _ w=>by
 have:decide (y<=x)=decide ((y.toNat:Int)<=(x.toNat:Int)):=by
  rw[cO]; simp[db]
 rw[this]; rfl
theorem Km (x:UInt64):UnR P .neg (v64 x) (v64 (0 - x)):=fun _=>by
 have:(v64 (0 - x))=.int .u64 (IntKind.u64.wrap (0 - (x.toNat:Int))):=by
  simp only[v64,Value.int.injEq,iU,fi]
  simp[IntKind.wrap,IntKind.bits,IntKind.signed]
  have:=x.toNat_lt
  omega
 rw[this]; rfl
theorem FV {S T:TypeId} (hS:P.underlying S=some (.int .i64)) (hT:P.underlying T=some (.int .u8)) (x:Int):mw P S T (vI x) (v8 (UInt8.ofInt x)):=fun w=>by
 have:IntKind.u8.wrap x=((UInt8.ofInt x).toNat:Int):=by rw[KZ]
 simp[convert,run_underlying hS,run_underlying hT,Conv.intToInt,this]
theorem oa {S T:TypeId} (hS:P.underlying S=some (.int .i64)) (hT:P.underlying T=some (.int .u64)) (x:Int):mw P S T (vI x) (v64 (UInt64.ofInt x)):=fun w=>by
 have:IntKind.u64.wrap x=((UInt64.ofInt x).toNat:Int):=by rw[IA]
 simp[convert,run_underlying hS,run_underlying hT,Conv.intToInt,this]
theorem NH {S T:TypeId} (hS:P.underlying S=some (.int .u8)) (hT:P.underlying T=some (.int .i64)) (x:UInt8):mw P S T (v8 x) (vI ((x.toNat:Int))):=fun w=>by
 have:IntKind.i64.wrap (x.toNat:Int)=(x.toNat:Int):=by have:=x.toNat_lt; exact aO (by omega) (by omega)
 simp[convert,run_underlying hS,run_underlying hT,Conv.intToInt,this]
theorem KF {S T:TypeId} (hS:P.underlying S=some (.int .u8)) (hT:P.underlying T=some (.int .u32)) (x:UInt8):mw P S T (v8 x) (v32 (x.toUInt32)):=fun w=>by
 have:IntKind.u32.wrap (x.toNat:Int)=((x.toUInt32).toNat:Int):=by rw[mb]; simp
 simp[convert,run_underlying hS,run_underlying hT,Conv.intToInt,this]
theorem KY {S T:TypeId} (hS:P.underlying S=some (.int .u8)) (hT:P.underlying T=some (.int .u64)) (x:UInt8):mw P S T (v8 x) (v64 (x.toUInt64)):=fun w=>by
 have:IntKind.u64.wrap (x.toNat:Int)=((x.toUInt64).toNat:Int):=by rw[kZ]; simp
 simp[convert,run_underlying hS,run_underlying hT,Conv.intToInt,this]
theorem K6 {S T:TypeId} (hS:P.underlying S=some (.int .u32)) (hT:P.underlying T=some (.int .u8)) (x:UInt32):mw P S T (v32 x) (v8 (x.toUInt8)):=fun w=>by
 have:IntKind.u8.wrap (x.toNat:Int)=((x.toUInt8).toNat:Int):=by rw[nm]; simp
 simp[convert,run_underlying hS,run_underlying hT,Conv.intToInt,this]
theorem Ib {S T:TypeId} (hS:P.underlying S=some (.int .u32)) (hT:P.underlying T=some (.int .u64)) (x:UInt32):mw P S T (v32 x) (v64 (x.toUInt64)):=fun w=>by
 have:IntKind.u64.wrap (x.toNat:Int)=((x.toUInt64).toNat:Int):=by rw[kZ]; simp
 simp[convert,run_underlying hS,run_underlying hT,Conv.intToInt,this]
theorem Cg {S T:TypeId} (hS:P.underlying S=some (.int .u64)) (hT:P.underlying T=some (.int .i64)) (x:UInt64):mw P S T (v64 x) (vI (wI (x.toNat:Int))):=fun w=>by
 have:IntKind.i64.wrap (x.toNat:Int)=wI (x.toNat:Int):=by rfl
 simp[convert,run_underlying hS,run_underlying hT,Conv.intToInt,this]
theorem kq {S T:TypeId} (hS:P.underlying S=some (.int .u64)) (hT:P.underlying T=some (.int .u8)) (x:UInt64):mw P S T (v64 x) (v8 (x.toUInt8)):=fun w=>by
 have:IntKind.u8.wrap (x.toNat:Int)=((x.toUInt8).toNat:Int):=by rw[nm]; simp
 simp[convert,run_underlying hS,run_underlying hT,Conv.intToInt,this]
theorem I9 {S T:TypeId} (hS:P.underlying S=some (.int .u64)) (hT:P.underlying T=some (.int .u32)) (x:UInt64):mw P S T (v64 x) (v32 (x.toUInt32)):=fun w=>by
 have:IntKind.u32.wrap (x.toNat:Int)=((x.toUInt32).toNat:Int):=by rw[mb]; simp
 simp[convert,run_underlying hS,run_underlying hT,Conv.intToInt,this]
end
structure Enc (τ:Type) where
 sz:Nat
 cells:τ->List Value
 len:∀t,(cells t).length=sz
 one:∀t,∀u∈cells t,u.oneCell'=true
def e8:Enc UInt8:=⟨1,fun x=>[v8 x],fun _=>rfl,fun _ u h=>by simp at h; subst h; rfl⟩
def e32:Enc UInt32:=⟨1,fun x=>[v32 x],fun _=>rfl,fun _ u h=>by simp at h; subst h; rfl⟩
def e64:Enc UInt64:=⟨1,fun x=>[v64 x],fun _=>rfl,fun _ u h=>by simp at h; subst h; rfl⟩
def eI:Enc Int:=⟨1,fun x=>[vI x],fun _=>rfl,fun _ u h=>by simp at h; subst h; rfl⟩
def eS:Enc (List UInt8):=⟨1,fun x=>[vS x],fun _=>rfl,fun _ u h=>by simp at h; subst h; rfl⟩
structure SV where
 a:Option Addr
 n:Nat
 c:Nat
abbrev SV.v (s:SV):Value:=.slice s.a s.n s.c
def eV:Enc SV:=⟨1,fun x=>[x.v],fun _=>rfl,fun _ u h=>by simp at h; subst h; rfl⟩
abbrev Enc.fl {τ:Type} (e:Enc τ) (l:List τ):List Value:=l.flatMap e.cells
theorem Enc.fl_length {τ:Type} (e:Enc τ) (l:List τ):(e.fl l).length=l.length*e.sz:=by
 induction l with
 | nil=>simp[Enc.fl]
 | cons a r ih=>
  simp only[Enc.fl,dM,ay,cg,e.len,aW]at ih ⊢
  omega
theorem Enc.fl_append {τ:Type} (e:Enc τ) (l m:List τ):e.fl (l++m)=e.fl l++e.fl m:=by simp[Enc.fl]
theorem Enc.fl_one {τ:Type} (e:Enc τ) (l:List τ):∀u∈e.fl l,u.oneCell'=true:=by
 intro u hu
 simp only[Enc.fl,iV]at hu
 obtain⟨t,_,j⟩:=hu
 exact e.one t u j
theorem Enc.fl_drop {τ:Type} (e:Enc τ) (l:List τ) (k:Nat):e.fl (l.drop k)=(e.fl l).drop (k*e.sz):=by
 induction k generalizing l with
 | zero=>simp
 | succ k ih=>
  cases l with
  | nil=>simp[Enc.fl]
  | cons a r=>
   rw[List.drop_succ_cons,ih]
   simp only[Enc.fl,dM,aW,cL]
   rw[ch,<-f6,<-e.len a,List.drop_left]
theorem Enc.fl_take {τ:Type} (e:Enc τ) (l:List τ) (k:Nat):e.fl (l.take k)=(e.fl l).take (k*e.sz):=by
 induction k generalizing l with
 | zero=>simp[Enc.fl]
 | succ k ih=>
  cases l with
  | nil=>simp[Enc.fl]
  | cons a r=>
   rw[List.take_succ_cons]
   simp only[Enc.fl,dM,aW,cL]at ih ⊢
   rw[ih,ch (k*e.sz),List.take_append]
   simp[e.len,aA]
theorem Enc.fl_get {τ:Type} (e:Enc τ) (l:List τ) (i:Nat) (t:τ) (h:l[i]? = some t) (j:Nat) (q:j<e.sz):(e.fl l)[i*e.sz+j]? = (e.cells t)[j]?:=by
 have y:(e.fl l)[i*e.sz+j]? = ((e.fl l).drop (i*e.sz))[j]?:=by rw[ep]
 rw[y,<-e.fl_drop]
 have A:l.drop i=t :: l.drop (i+1):=by
  obtain⟨hi,B⟩:=aD.1 h
  rw[bk hi,B]
 rw[A]
 simp only[Enc.fl,dM]
 rw[List.getElem?_append_left (by rw[e.len]; exact q)]
def RO (w:World) {τ:Type} (e:Enc τ) (v:Value) (l:List τ):Prop:=
 ∃a c,v=.slice a l.length c/\l.length<=c/\(l≠[]->∃b off,a=some ⟨b,off,none⟩/\∀j u,(e.fl l)[j]? = some u->w.cell? ⟨b,off+j,none⟩=some u)
structure Fr (S:List Nat) (w w':World):Prop where
 os:w'.os=w.os
 tape:w'.tape=w.tape
 output:w'.output=w.output
 size:w.heap.size<=w'.heap.size
 block:∀k,k<w.heap.size->k ∉ S->w'.heap[k]? = w.heap[k]?
theorem Fr.refl (S:List Nat) (w:World):Fr S w w:=⟨rfl,rfl,rfl,av _,fun _ _ _=>rfl⟩
theorem Fr.trans {S:List Nat} {a b c:World} (h:Fr S a b) (k:Fr S b c):Fr S a c:=
 ⟨k.os.trans h.os,k.tape.trans h.tape,k.output.trans h.output,bz h.size k.size,fun i hi hn=>(k.block i (bg hi h.size) hn).trans (h.block i hi hn)⟩
theorem Fr.step {S R:List Nat} {a b c:World} (h:Fr S a b) (k:Fr R b c) (q:∀x∈R,a.heap.size<=x\/x∈S):Fr S a c:=
 ⟨k.os.trans h.os,k.tape.trans h.tape,k.output.trans h.output,bz h.size k.size,fun i hi hn=>by
  refine (k.block i (bg hi h.size) fun hx=>?_).trans (h.block i hi hn)
  rcases q i hx with j | j
  ·omega
  ·exact hn j⟩
theorem Fr.mono {S R:List Nat} {a b:World} (h:Fr S a b) (hs:∀x∈S,x∈R):Fr R a b:=
 ⟨h.os,h.tape,h.output,h.size,fun k j hn=>h.block k j fun hx=>hn (hs k hx)⟩
theorem Fr.below {w w':World} (h:Fr [] w w'):Below w.heap.size w w':=⟨h.os,h.tape,h.output,h.size,fun k j=>h.block k j (by simp)⟩
theorem Fr.alloc (S:List Nat) (w:World) (o:Obj):Fr S w (w.alloc o):=⟨rfl,rfl,rfl,by simp,fun k j _=>heap_alloc_old w o k j⟩
theorem Fr.drew (S:List Nat) (w:World):Fr S w w.drew:=⟨rfl,rfl,rfl,av _,fun _ _ _=>rfl⟩
theorem Fr.setRow (w:World) (g:Nat) (cs:Array Value):Fr [g] w (w.setRow g cs):=by
 refine⟨rfl,rfl,rfl,by simp[World.setRow],fun k _ hn=>setRow_other w g k cs (by simpa using hn)⟩
theorem Fr.cell {S:List Nat} {w w':World} (h:Fr S w w') {p:Addr} (hp:p.block<w.heap.size) (hs:p.block ∉ S):w'.cell? p=w.cell? p:=
 World.cell?_of_block (h.block p.block hp hs)
theorem lC {w:World} {p:Addr} {u:Value} (h:w.cell? p=some u):p.block<w.heap.size:=World.block_lt_of_cell? w p h
abbrev zA (v:Value):Option Nat:=v.ownBlock
theorem RO.fr {S:List Nat} {w w':World} {τ:Type} {e:Enc τ} {v:Value} {l:List τ} (h:RO w e v l) (hf:Fr S w w') (hs:l≠[]->∀k∈S,zA v≠some k):RO w' e v l:=by
 obtain⟨a,c,rfl,hc,A⟩:=h
 refine⟨a,c,rfl,hc,fun hl=>?_⟩
 obtain⟨b,off,rfl,q⟩:=A hl
 refine⟨b,off,rfl,fun j u B=>?_⟩
 have y:=q j u B
 rw[hf.cell (lC y) (fun hx=>hs hl _ hx rfl)]
 exact y
def RP (S:List Nat) (w:World) {τ:Type} (e:Enc τ) (v:Value) (l:List τ):Prop:=RO w e v l/\(l≠[]->∀k∈S,zA v≠some k)
theorem RP.now {S:List Nat} {w w':World} {τ:Type} {e:Enc τ} {v:Value} {l:List τ} (h:RP S w e v l) (hf:Fr S w w'):RO w' e v l:=h.1.fr hf h.2
theorem RO.rp {w:World} {τ:Type} {e:Enc τ} {v:Value} {l:List τ} (h:RO w e v l):RP [] w e v l:=⟨h,by simp⟩
theorem RO.nil (w:World) {τ:Type} (e:Enc τ):RO w e (.slice none 0 0) ([]:List τ):=⟨none,0,rfl,av _,fun h=>absurd rfl h⟩
def slV (v:Value) (sz lo hi:Nat):Value:=match v with
 | .slice a _ c=>.slice (if c=lo then a else a.map (·.add (lo*sz))) (hi - lo) (c - lo)
 | v=>v
def slV3 (v:Value) (sz lo hi m:Nat):Value:=match v with
 | .slice a _ _=>.slice (if m=lo then a else a.map (·.add (lo*sz))) (hi - lo) (m - lo)
 | v=>v
theorem gK (b off k:Nat):(⟨b,off,none⟩:Addr).add k=⟨b,off+k,none⟩:=by
 unfold Addr.add; split <;> simp_all
theorem RO.sub {w:World} {τ:Type} {e:Enc τ} {v:Value} {l:List τ} (h:RO w e v l) {lo hi:Nat} (O:lo<=hi) (R:hi<=l.length) :
  RO w e (slV v e.sz lo hi) ((l.drop lo).take (hi - lo)):=by
 obtain⟨a,c,rfl,hc,J⟩:=h
 have q:((l.drop lo).take (hi - lo)).length=hi - lo:=by simp; omega
 refine⟨if c=lo then a else a.map (·.add (lo*e.sz)),c - lo,by rw[q]; rfl,by rw[q]; omega,fun y=>?_⟩
 have hl:l≠[]:=by rintro rfl; simp at y
 have N:0<hi - lo:=by
  rcases bS (hi - lo) with G | G
  ·rw[G]at y; simp at y
  ·exact G
 obtain⟨b,off,rfl,B⟩:=J hl
 have I:¬c=lo:=by omega
 refine⟨b,off+lo*e.sz,by simp[I,gK],fun j u A=>?_⟩
 rw[e.fl_take,e.fl_drop,bK]at A
 split at A
 ·rw[ep]at A
  have:=B _ _ A
  rw[eo]
  exact this
 ·cases A
theorem RO.sub3 {w:World} {τ:Type} {e:Enc τ} {v:Value} {l:List τ} (h:RO w e v l) {lo hi m:Nat} (O:lo<=hi) (R:hi<=l.length) (U:hi<=m) :
  RO w e (slV3 v e.sz lo hi m) ((l.drop lo).take (hi - lo)):=by
 obtain⟨a,c,rfl,hc,J⟩:=h
 have q:((l.drop lo).take (hi - lo)).length=hi - lo:=by simp; omega
 refine⟨if m=lo then a else a.map (·.add (lo*e.sz)),m - lo,by rw[q]; rfl,by rw[q]; omega,fun y=>?_⟩
 have hl:l≠[]:=by rintro rfl; simp at y
 have N:0<hi - lo:=by
  rcases bS (hi - lo) with G | G
  ·rw[G]at y; simp at y
  ·exact G
 obtain⟨b,off,rfl,B⟩:=J hl
 have I:¬m=lo:=by omega
 refine⟨b,off+lo*e.sz,by simp[I,gK],fun j u A=>?_⟩
 rw[e.fl_take,e.fl_drop,bK]at A
 split at A
 ·rw[ep]at A
  have:=B _ _ A
  rw[eo]
  exact this
 ·cases A
def ixA (v:Value) (sz i:Nat):Addr:=match v with
 | .slice (some a) _ _=>a.add (i*sz)
 | _=>default
theorem RO.cellAt {w:World} {τ:Type} {e:Enc τ} {v:Value} {l:List τ} (h:RO w e v l) {i:Nat} {t:τ} (hi:l[i]? = some t) {j:Nat} (y:j<e.sz) {u:Value} (hu:(e.cells t)[j]? = some u) :
  w.cell? ((ixA v e.sz i).add j)=some u:=by
 obtain⟨a,c,rfl,hc,A⟩:=h
 have hl:l≠[]:=by rintro rfl; simp at hi
 obtain⟨b,off,rfl,q⟩:=A hl
 have:=q (i*e.sz+j) u (by rw[e.fl_get l i t hi j y]; exact hu)
 simp only[ixA,gK]
 rw[eo]
 exact this
theorem RO.cellAt0 {w:World} {τ:Type} {e:Enc τ} {v:Value} {l:List τ} (h:RO w e v l) {i:Nat} {t:τ} (hi:l[i]? = some t) {u:Value} (hu:e.cells t=[u]) :
  w.cell? (ixA v e.sz i)=some u:=by
 have q:e.sz=1:=by rw[<-e.len t,hu]; rfl
 have:=h.cellAt hi (j:=0) (by omega) (u:=u) (by rw[hu]; rfl)
 simpa [Addr.add] using this
def Row (w:World) (g:Nat) (cur:Array Value) (T:TypeId):Prop:=∃mk:Nat×Nat,w.heap[g]? = some (.cells cur T mk)/\(mk=(0,0)\/cur.size<=mk.1)
theorem Row.of {w:World} {g:Nat} {j:Array Value} {T:TypeId} (h:w.heap[g]? = some (.cells j T (0,0))):Row w g j T:=⟨_,h,.inl rfl⟩
theorem Row.new (w:World) (cs:Array Value) (T:TypeId):Row (w.alloc (.cells cs T)) w.heap.size cs T:=.of (heap_alloc_new w _)
theorem Row.lt {w:World} {g:Nat} {j:Array Value} {T:TypeId} (h:Row w g j T):g<w.heap.size:=by
 obtain⟨mk,h,_⟩:=h
 exact (cn.1 h).1
theorem Row.cell {w:World} {g:Nat} {q:Array Value} {T:TypeId} (h:Row w g q T) (j:Nat):w.cell? ⟨g,j,none⟩=q[j]?:=by
 obtain⟨mk,h,_⟩:=h
 exact cell_of_row w g j q T mk h
theorem Row.mv {w w':World} {g:Nat} {j:Array Value} {T:TypeId} (h:Row w g j T) (q:w'.heap[g]? = w.heap[g]?):Row w' g j T:=by
 obtain⟨mk,h,hm⟩:=h
 exact⟨mk,q.trans h,hm⟩
theorem Row.set {w:World} {g:Nat} {j:Array Value} {T:TypeId} (h:Row w g j T) (cs:Array Value) (hc:cs.size=j.size):Row (w.setRow g cs) g cs T:=by
 obtain⟨mk,h,hm⟩:=h
 exact⟨mk,setRow_heap w g j cs T mk h,by rw[hc]; exact hm⟩
theorem gO (P:Program) (g o:Nat) (t:TypeId):∀(vs:List Value) (i:Nat) (j:Array Value) (w:World),Row w g j t->o+i+vs.length<=j.size->(∀v∈vs,v.oneCell'=true) ->
  (storeCells ⟨g,o,none⟩ vs i).run P w=.ok () (w.setRow g (j.toList.take (o+i)++vs++j.toList.drop (o+i+vs.length)).toArray)
 | [],i,j,w,hr,_,_=>by
  obtain⟨fz,q,_⟩:=hr
  simp only[storeCells,bR,dw,bA,cD,Array.toArray_toList]
  rw[setRow_self w g j t fz q]
  rfl
 | v :: rest,i,j,w,hr,hl,h1=>by
  have hi:o+i<j.size:=by simp at hl; omega
  have B:(⟨g,o,none⟩:Addr).add i=⟨g,o+i,none⟩:=by unfold Addr.add; split <;> simp_all
  have I:=hr.set (j.setIfInBounds (o+i) v) (by simp)
  obtain⟨fz,q,y⟩:=hr
  have A:w.cell? ⟨g,o+i,none⟩=some j[o+i]:=by simp[World.cell?,q,hi]
  have G:w.frozen? ⟨g,o+i,none⟩=false:=by
   rcases y with rfl | y
   ·simp[World.frozen?,q]
   ·obtain⟨lo,O⟩:=fz
    simp only[World.frozen?,q,Bool.and_eq_false_iff,decide_eq_false_iff_not]
    left
    simp only at y
    omega
  have J:(store ((⟨g,o,none⟩:Addr).add i) v).run P w=.ok () (w.setRow g (j.setIfInBounds (o+i) v)):=by
   rw[B,run_store P w _ v _ (h1 v (by simp)),A]
   simp[G,setCell_eq_setRow w g (o+i) j t fz v q]
  have N:=gO P g o t rest (i+1) (j.setIfInBounds (o+i) v) (w.setRow g (j.setIfInBounds (o+i) v)) I (by simp at hl ⊢; omega) (fun x hx=>h1 x (by simp[hx]))
  simp only[storeCells,Sem.run_bind,J,Result.andThen_ok,N,setRow_setRow]
  congr 3
  have e:=list_seg_step j.toList (o+i) v rest (by simp at hl ⊢; omega)
  simpa [Array.toList_setIfInBounds,eo] using e
inductive OE where
 | sl (v:Value) (sz n:Nat) (cs:List Value)
 | rd (v:Value) (sz n:Nat) (cs:List Value)
 | bx (b:Nat) (cs:List Value)
def OE.blk:OE->Option Nat
 | .sl v _ _ _=>zA v
 | .rd v _ n _=>if n=0 then none else zA v
 | .bx b _=>some b
def fre (S:List Nat) (B b:Nat):Prop:=B<=b\/b∈S
def OE.ok (S:List Nat) (B:Nat) (w:World):OE->Prop
 | .sl v sz n cs=>cs.length=n*sz/\((v=.slice none 0 0/\n=0) \/
   ∃g cap cur T,v=.slice (some ⟨g,0,none⟩) n cap/\fre S B g/\Row w g cur T/\n<=cap/\cap<=maxLen/\cap*sz<=cur.size/\cur.toList.take (n*sz)=cs)
 | .rd v sz n cs=>cs.length=n*sz/\∃a c,v=.slice a n c/\n<=c /\
   (n≠0->∃b off,a=some ⟨b,off,none⟩/\b<w.heap.size/\fre S B b/\∀j u,cs[j]? = some u->w.cell? ⟨b,off+j,none⟩=some u)
 | .bx b cs=>fre S B b/\∃T cur,w.heap[b]? = some (.cells cur T (0,0))/\cur.toList=cs
theorem OE.ok.lt {S:List Nat} {B:Nat} {w:World} {o:OE} (h:o.ok S B w) {k:Nat} (j:o.blk=some k):k<w.heap.size/\fre S B k:=by
 cases o with
 | sl v sz n cs=>
  rcases h.2 with⟨rfl,_⟩ | ⟨g,G,y,T,rfl,hf,q,_⟩
  ·simp[OE.blk,Value.ownBlock]at j
  ·simp[OE.blk,Value.ownBlock]at j
   subst j
   exact⟨q.lt,hf⟩
 | rd v sz n cs=>
  obtain⟨_,a,c,rfl,_,hx⟩:=h
  simp only[OE.blk]at j
  split at j
  ·cases j
  ·rename_i hn
   obtain⟨b,off,rfl,A,hf,_⟩:=hx hn
   simp[Value.ownBlock]at j
   subst j
   exact⟨A,hf⟩
 | bx b cs=>
  obtain⟨hf,T,y,q,_⟩:=h
  simp[OE.blk]at j
  subst j
  exact⟨(cn.1 q).1,hf⟩
theorem OE.ok.fr {S R:List Nat} {B:Nat} {w w':World} {o:OE} (h:o.ok S B w) (hf:Fr R w w') (J:∀k∈R,o.blk≠some k):o.ok S B w':=by
 cases o with
 | sl v sz n cs=>
  refine⟨h.1,?_⟩
  rcases h.2 with hn | ⟨g,O,q,T,rfl,y,A,rest⟩
  ·exact .inl hn
  ·exact .inr ⟨g,O,q,T,rfl,y,A.mv (hf.block g A.lt (fun hx=>J g hx rfl)),rest⟩
 | rd v sz n cs=>
  obtain⟨hl,a,c,rfl,hc,G⟩:=h
  refine⟨hl,a,c,rfl,hc,fun I=>?_⟩
  obtain⟨b,off,rfl,U,N,hh⟩:=G I
  refine⟨b,off,rfl,bg U hf.size,N,fun j u Y=>?_⟩
  have V:=hh j u Y
  rw[hf.cell (lC V) (fun hx=>J _ hx (by simp[OE.blk,I,Value.ownBlock]))]
  exact V
 | bx b cs=>
  obtain⟨y,T,q,A,X⟩:=h
  refine⟨y,T,q,?_,X⟩
  rw[hf.block b (cn.1 A).1 (fun hx=>J b hx rfl)]
  exact A
def OE.dj (o p:OE):Prop:=∀k,o.blk=some k->p.blk≠some k
theorem OE.dj.symm {o p:OE} (h:o.dj p):p.dj o:=fun k hp j=>h k j hp
structure St (S:List Nat) (w0 w:World) (os:List OE):Prop where
 fr:Fr S w0 w
 ok:∀o∈os,o.ok S w0.heap.size w
 dj:os.Pairwise OE.dj
theorem St.start (w:World):St [] w w []:=⟨Fr.refl _ _,by simp,List.Pairwise.nil⟩
theorem St.step {S:List Nat} {w0 w w':World} {os:List OE} (h:St S w0 w os) (hf:Fr [] w w'):St S w0 w' os:=
 ⟨h.fr.step hf (by simp),fun o j=>(h.ok o j).fr hf (by simp),h.dj⟩
theorem St.push {S:List Nat} {w0 w w':World} {os:List OE} (h:St S w0 w os) (hf:Fr [] w w') {o:OE} (q:o.ok S w0.heap.size w') (hn:∀k,o.blk=some k->w.heap.size<=k):St S w0 w' (o :: os):=by
 refine⟨h.fr.step hf (by simp),?_,?_⟩
 ·intro p hp
  rcases aJ.1 hp with rfl | hp
  ·exact q
  ·exact (h.ok p hp).fr hf (by simp)
 ·refine List.Pairwise.cons (fun p hp k y j=>?_) h.dj
  have:=(h.ok p hp).lt j
  have:=hn k y
  omega
theorem St.set {S:List Nat} {w0 w w':World} {os:List OE} (h:St S w0 w os) {i:Nat} {o o':OE} (hi:os[i]? = some o) (hf:Fr o.blk.toList w w') (ho:o'.ok S w0.heap.size w')
  (hn:∀k,o'.blk=some k->o.blk=some k\/w.heap.size<=k):St S w0 w' (os.set i o'):=by
 have ab:=ba hi
 refine⟨h.fr.step hf fun x hx=>?_,?_,?_⟩
 ·cases N:o.blk with
  | none=>rw[N]at hx; simp at hx
  | some k=>
   rw[N]at hx
   simp at hx
   subst hx
   exact ((h.ok o ab).lt N).2
 ·intro p hp
  obtain⟨j,B⟩:=List.getElem?_of_mem hp
  rw[da]at B
  split at B
  ·split at B
   ·simp at B; subst B; exact ho
   ·cases B
  ·rename_i ac
   refine (h.ok p (ba B)).fr hf fun k A N=>?_
   have hd:∀x y (hx:x<os.length) (I:y<os.length),x<y->(os[x]).dj (os[y]):=fe.1 h.dj
   obtain⟨O,G⟩:=aD.1 hi
   obtain⟨X,Y⟩:=aD.1 B
   have Z:o.blk=some k:=by
    cases hbk:o.blk with
    | none=>rw[hbk]at A; simp at A
    | some q=>rw[hbk]at A; simp at A; rw[A]
   rcases Nat.lt_or_gt_of_ne ac with R | R
   ·have:=hd i j O X R; rw[G,Y]at this; exact this k Z N
   ·have:=hd j i X O R; rw[G,Y]at this; exact this k N Z
 ·rw[fe]
  intro x y hx I U
  have hd:∀x y (hx:x<os.length) (I:y<os.length),x<y->(os[x]).dj (os[y]):=fe.1 h.dj
  obtain⟨O,G⟩:=aD.1 hi
  simp only[ig]at hx I
  rw[List.getElem_set,List.getElem_set]
  split
  ·split
   ·omega
   ·rename_i h1 h2
    subst h1
    intro k A J
    rcases hn k A with V | V
    ·have:=hd i y hx I U; rw[G]at this; exact this k V J
    ·have:=((h.ok _ (cC I)).lt J).1; omega
  ·split
   ·rename_i h1 h2
    subst h2
    intro k A J
    rcases hn k J with V | V
    ·have:=hd x i hx I U; rw[G]at this; exact this k A V
    ·have:=((h.ok _ (cC hx)).lt A).1; omega
   ·exact hd x y hx I U
theorem St.sub {S:List Nat} {w0 w:World} {os os':List OE} (h:St S w0 w os) (hs:os'.Sublist os):St S w0 w os':=
 ⟨h.fr,fun o j=>h.ok o (hs.subset j),h.dj.sublist hs⟩
abbrev own {τ:Type} (e:Enc τ) (v:Value) (l:List τ):OE:=.sl v e.sz l.length (e.fl l)
abbrev red {τ:Type} (e:Enc τ) (v:Value) (l:List τ):OE:=.rd v e.sz l.length (e.fl l)
theorem OE.ok.ro {S:List Nat} {B:Nat} {w:World} {τ:Type} {e:Enc τ} {v:Value} {l:List τ} (h:(own e v l).ok S B w):RO w e v l:=by
 rcases h.2 with⟨rfl,hn⟩ | ⟨g,A,J,T,rfl,N,I,G,O,R,q⟩
 ·have:l=[]:=aZ hn
  subst this
  exact RO.nil w e
 ·refine⟨_,A,rfl,G,fun _=>⟨g,0,rfl,fun j u y=>?_⟩⟩
  rw[<-q,bK]at y
  split at y
  ·rw[bh,I.cell j]
   simpa using y
  ·cases y
theorem OE.ok.rro {S:List Nat} {B:Nat} {w:World} {τ:Type} {e:Enc τ} {v:Value} {l:List τ} (h:(red e v l).ok S B w):RO w e v l:=by
 obtain⟨_,a,c,rfl,hc,j⟩:=h
 refine⟨a,c,rfl,hc,fun hl=>?_⟩
 obtain⟨b,off,q,_,_,y⟩:=j (by simpa using hl)
 exact⟨b,off,q,y⟩
theorem St.ro {S:List Nat} {w0 w:World} {os:List OE} (h:St S w0 w os) (i:Nat) {τ:Type} {e:Enc τ} {v:Value} {l:List τ} (hi:os[i]? = some (own e v l)):RO w e v l:=
 (h.ok _ (ba hi)).ro
theorem St.rro {S:List Nat} {w0 w:World} {os:List OE} (h:St S w0 w os) (i:Nat) {τ:Type} {e:Enc τ} {v:Value} {l:List τ} (hi:os[i]? = some (red e v l)):RO w e v l:=
 (h.ok _ (ba hi)).rro
section
variable {P:Program} {n:Nat} {L:Env} {w:World} {Q:Exit->Act->World->Prop}
variable {d:Option Tmp} {ty:TypeId} {pos:String} {after:Array Edge}
theorem pQ (l:List UInt8):(⟨⟨l⟩⟩:ByteArray).size=l.length:=rfl
def TI (P:Program) (E:TypeId) (z:Value) (sz bytes:Nat):Prop:=(P.info? E).map (fun i=>(i.zero,i.size,i.bytes))=some (some z,sz,bytes)
theorem TI.get {E:TypeId} {z:Value} {j bytes:Nat} (h:TI P E z j bytes):∃i,P.info? E=some i/\i.zero=some z/\i.size=j/\i.bytes=bytes:=by
 unfold TI at h
 cases hi:P.info? E with
 | none=>rw[hi]at h; cases h
 | some i=>
  rw[hi]at h
  simp only[bQ,dZ,Prod.mk.injEq]at h
  exact⟨i,rfl,h.1,h.2.1,h.2.2⟩
def OpX (P:Program) (n:Nat) (L:Env) (w:World) (o:Oper) (Φ:Value->World->Prop):Prop:=∃v w',OpV P n L w o v w'/\Φ v w'
theorem jC {ops:Array Oper} {rest:List Oper} {d:Nat} {op:Op} {Φ:Value->World->Prop}
  (j:OpX P n L w ⟨some d,op,ty,pos,after,none⟩ Φ) (hd:Nat.blt d n=true)
  (h:∀v w',Φ v w'->wpR P n ops Q rest ((d,v) :: L) w'):wpR P n ops Q (⟨some d,op,ty,pos,after,none⟩ :: rest) L w:=by
 obtain⟨v,w',q,y⟩:=j
 exact aT q hd (h v w' y)
theorem oq {ops:Array Oper} {rest:List Oper} {d:Nat} {op:Op} {α:Type} {V:α->Value} {R:α->World->Prop}
  (j:OpX P n L w ⟨some d,op,ty,pos,after,none⟩ fun v w'=>∃a,v=V a/\R a w') (hd:Nat.blt d n=true)
  (h:∀a w',R a w'->wpR P n ops Q rest ((d,V a) :: L) w'):wpR P n ops Q (⟨some d,op,ty,pos,after,none⟩ :: rest) L w:=
 jC j hd fun v w' ⟨a,e,q⟩=>by subst e; exact h a w' q
def OpY (P:Program) (n:Nat) (L:Env) (w:World) (o:Oper) (Φ:World->Prop):Prop:=∃w',OpS P n L w o w'/\Φ w'
theorem gh {ops:Array Oper} {rest:List Oper} {op:Op} {Φ:World->Prop}
  (j:OpY P n L w ⟨none,op,ty,pos,after,none⟩ Φ)
  (h:∀w',Φ w'->wpR P n ops Q rest L w'):wpR P n ops Q (⟨none,op,ty,pos,after,none⟩ :: rest) L w:=by
 obtain⟨w',q,y⟩:=j
 exact Oh q (h w' y)
theorem fc {x:Operand} {T E:TypeId} {τ:Type} {e:Enc τ} {v:Value} {l:List τ} (hT:P.underlying T=some (.slice E)) (hx:L.ev x=some v) (h:RO w e v l) :
  OpV P n L w ⟨d,.call ⟨.builtin .len,#[x],#[T]⟩,ty,pos,after,none⟩ (vI l.length) w:=fun a j=>by
 obtain⟨b,c,rfl,_⟩:=h
 simp[execOp,resolve,invoke,builtin,Builtin.len_,j.ev hx,run_underlying hT,goInt]
theorem A6 {x:Operand} {T:TypeId} {l:List UInt8} (hT:P.underlying T=some .string) (hx:L.ev x=some (vS l)) :
  OpV P n L w ⟨d,.call ⟨.builtin .len,#[x],#[T]⟩,ty,pos,after,none⟩ (vI l.length) w:=fun a j=>by
 simp[execOp,resolve,invoke,builtin,Builtin.len_,j.ev hx,run_underlying hT,goInt,pQ]
theorem BG {T E:TypeId} {k:IntKind} {i:Int} {τ:Type} {e:Enc τ} {v:Value} {l:List τ} {z:Value} {bytes:Nat} (hT:P.underlying T=some (.slice E)) (hE:TI P E z e.sz bytes)
  (h:RO w e v l) (j:0<=i) (q:i.toNat<l.length):(Instr.indexAt T v (.int k i)).run P w=.ok (pP (ixA v e.sz i.toNat)) w:=by
 obtain⟨a,c,rfl,hc,y⟩:=h
 obtain⟨b,off,rfl,_⟩:=y (by rintro rfl; simp at q)
 obtain⟨B,hi,_,hs,_⟩:=hE.get
 have A:i<l.length:=by omega
 simp[Instr.indexAt,asIntOf,run_underlying hT,j,A,sizeOf,typeInfo,hi,hs,ixA]
theorem MK {x y:Operand} {T E:TypeId} {k:IntKind} {i:Int} {τ:Type} {e:Enc τ} {v:Value} {l:List τ} {z:Value} {bytes:Nat} (hT:P.underlying T=some (.slice E)) (hE:TI P E z e.sz bytes)
  (hx:L.ev x=some v) (q:L.ev y=some (.int k i)) (h:RO w e v l) (A:0<=i) (B:i.toNat<l.length) :
  OpV P n L w ⟨d,.indexAddr T x y,ty,pos,after,none⟩ (pP (ixA v e.sz i.toNat)) w:=fun a j=>by
 simp[execOp,j.ev hx,j.ev q,BG (k:=k) hT hE h A B]
theorem Ar {x:Operand} {T:TypeId} {D:TypeDesc} {p:Addr} {u:Value} (hT:P.underlying T=some D) (q:(match D with | .struct _ | .array _ _=>true | _=>false)=false)
  (hx:L.ev x=some (pP p)) (h:w.cell? p=some u) :
  OpV P n L w ⟨d,.load T x,ty,pos,after,none⟩ u w:=fun a j=>by
 have:(isAgg T).run P w=.ok false w:=by
  simp only[isAgg,Sem.run_bind,run_underlying hT,Result.andThen_ok]
  cases D <;> simp_all
 simp[execOp,j.ev hx,Instr.loadAt,Instr.sureAddr,loadVar,this,load,Sem.run,h]
theorem FC {x:Operand} {T:TypeId} {D:TypeDesc} {τ:Type} {e:Enc τ} {v:Value} {l:List τ} {i:Nat} {t:τ} {u:Value} (hT:P.underlying T=some D) (j:(match D with | .struct _ | .array _ _=>true | _=>false)=false)
  (hx:L.ev x=some (pP (ixA v e.sz i))) (h:RO w e v l) (hi:l[i]? = some t) (hu:e.cells t=[u]) :
  OpV P n L w ⟨d,.load T x,ty,pos,after,none⟩ u w:=Ar hT j hx (h.cellAt0 hi hu)
theorem Kj {x y:Operand} {T:TypeId} {k:IntKind} {i:Int} {l:List UInt8} {t:UInt8} (hT:P.underlying T=some .string)
  (hx:L.ev x=some (vS l)) (q:L.ev y=some (.int k i)) (A:0<=i) (B:l[i.toNat]? = some t) :
  OpV P n L w ⟨d,.index T x y,ty,pos,after,none⟩ (v8 t) w:=fun a j=>by
 have G:(⟨⟨l⟩⟩:ByteArray)[i.toNat]? = some t:=by
  obtain⟨hl,I⟩:=aD.1 B
  rw[ByteArray.getElem?_lt' _ _ (by simpa [pQ] using hl)]
  rw[<-I]; rfl
 simp[execOp,j.ev hx,j.ev q,Instr.index,asIntOf,run_underlying hT,A,G]
def l9 (l:List UInt8) (lo hi:Nat):List UInt8:=(l.drop lo).take (hi - lo)
theorem zf (l:List UInt8) (lo hi:Nat):(⟨⟨l⟩⟩:ByteArray).extract lo hi=⟨⟨l9 l lo hi⟩⟩:=by
 rw[ByteArray.extract_mk]; simp[l9]
theorem IJ {x y:Operand} {T:TypeId} {k:IntKind} {lo:Int} {l:List UInt8} (hT:P.underlying T=some .string)
  (hx:L.ev x=some (vS l)) (q:L.ev y=some (.int k lo)) (A:0<=lo) (I:lo.toNat<=l.length) :
  OpV P n L w ⟨d,.slice T x (some y) none none,ty,pos,after,none⟩ (vS (l.drop lo.toNat)) w:=fun a j=>by
 have B:lo<=((⟨⟨l⟩⟩:ByteArray).size:Int):=by rw[pQ]; omega
 have G:l9 l lo.toNat (⟨⟨l⟩⟩:ByteArray).size=l.drop lo.toNat:=by
  unfold l9; rw[aA]; simp[pQ]
 simp[execOp,j.ev hx,j.ev q,Instr.sliceAt,Instr.slice,run_underlying hT,Instr.sliceBounds,run_sliceBound,A,B,zf,G]
theorem MU (T:TypeId) (x y:List UInt8):cr P .eql T (vS x) (vS y) (vB (x == y)):=fun _ _ w=>by
 simp[eqGuard,binOp,Op.stringOp,rC]
theorem L1 (T:TypeId) (x y:List UInt8):cr P .neq T (vS x) (vS y) (vB (x != y)):=fun _ _ w=>by
 simp[eqGuard,binOp,Op.stringOp,rC,bne]
section
variable {T E:TypeId} {τ:Type} {e:Enc τ} {v:Value} {l:List τ} {z0:Value} {bytes:Nat}
theorem Ma {x y z:Operand} {k A:IntKind} {lo hi:Int} (hT:P.underlying T=some (.slice E)) (hE:TI P E z0 e.sz bytes)
  (hx:L.ev x=some v) (B:L.ev y=some (.int k lo)) (hz:L.ev z=some (.int A hi)) (h:RO w e v l) (G:0<=lo) (I:lo<=hi) (R:hi.toNat<=l.length) :
  OpV P n L w ⟨d,.slice T x (some y) (some z) none,ty,pos,after,none⟩ (slV v e.sz lo.toNat hi.toNat) w:=fun a j=>by
 obtain⟨b,c,rfl,hc,_⟩:=h
 obtain⟨O,q,_,hs,_⟩:=hE.get
 have J:hi<=(c:Int):=by omega
 have N:(hi.toNat:Int)=hi:=gY (by omega)
 simp[execOp,j.ev hx,j.ev B,j.ev hz,Instr.sliceAt,Instr.slice,run_underlying hT,Instr.sliceBounds,run_sliceBound,G,J,N,I,(by omega:0<=hi),sizeOf,typeInfo,q,hs,slV]
theorem Lc {x y:Operand} {k:IntKind} {lo:Int} (hT:P.underlying T=some (.slice E)) (hE:TI P E z0 e.sz bytes)
  (hx:L.ev x=some v) (A:L.ev y=some (.int k lo)) (h:RO w e v l) (B:0<=lo) (J:lo.toNat<=l.length) :
  OpV P n L w ⟨d,.slice T x (some y) none none,ty,pos,after,none⟩ (slV v e.sz lo.toNat l.length) w:=fun a j=>by
 obtain⟨b,c,rfl,hc,_⟩:=h
 obtain⟨I,q,_,hs,_⟩:=hE.get
 have G:lo<=(l.length:Int):=by omega
 simp[execOp,j.ev hx,j.ev A,Instr.sliceAt,Instr.slice,run_underlying hT,Instr.sliceBounds,run_sliceBound,B,G,sizeOf,typeInfo,q,hs,slV]
theorem J4 {x z:Operand} {y:IntKind} {hi:Int} (hT:P.underlying T=some (.slice E)) (hE:TI P E z0 e.sz bytes)
  (hx:L.ev x=some v) (hz:L.ev z=some (.int y hi)) (h:RO w e v l) (A:0<=hi) (I:hi.toNat<=l.length) :
  OpV P n L w ⟨d,.slice T x none (some z) none,ty,pos,after,none⟩ (slV v e.sz 0 hi.toNat) w:=fun a j=>by
 obtain⟨b,c,rfl,hc,_⟩:=h
 obtain⟨G,q,_,hs,_⟩:=hE.get
 have B:hi<=(c:Int):=by omega
 simp[execOp,j.ev hx,j.ev hz,Instr.sliceAt,Instr.slice,run_underlying hT,Instr.sliceBounds,run_sliceBound,A,B,sizeOf,typeInfo,q,hs,slV]
theorem RO.subl (h:RO w e v l) {lo:Nat} (j:lo<=l.length):RO w e (slV v e.sz lo l.length) (l.drop lo):=by
 have:=h.sub (lo:=lo) (hi:=l.length) j (av _)
 rwa [aA (by simp)]at this
theorem RO.subh (h:RO w e v l) {hi:Nat} (j:hi<=l.length):RO w e (slV v e.sz 0 hi) (l.take hi):=by
 have:=h.sub (lo:=0) (hi:=hi) (eM _) j
 simpa using this
theorem RP.sub {S:List Nat} (h:RP S w e v l) {lo hi:Nat} (y:lo<=hi) (A:hi<=l.length):RP S w e (slV v e.sz lo hi) ((l.drop lo).take (hi - lo)):=by
 refine⟨h.1.sub y A,fun q k B j=>h.2 (fun e=>q (by rw[e]; simp)) k B ?_⟩
 obtain⟨a,c,rfl,_⟩:=h.1
 cases a with
 | none=>simp[slV,Value.ownBlock]at j
 | some x=>
  by_cases hc:c=lo
  ·simpa [slV,hc,Value.ownBlock] using j
  ·simp[slV,hc,Value.ownBlock]at j ⊢
   rw[<-j]; unfold Addr.add; split <;> rfl
theorem RP.subl {S:List Nat} (h:RP S w e v l) {lo:Nat} (j:lo<=l.length):RP S w e (slV v e.sz lo l.length) (l.drop lo):=by
 have:=h.sub (lo:=lo) (hi:=l.length) j (av _)
 rwa [aA (by simp)]at this
theorem RP.subh {S:List Nat} (h:RP S w e v l) {hi:Nat} (j:hi<=l.length):RP S w e (slV v e.sz 0 hi) (l.take hi):=by
 have:=h.sub (lo:=0) (hi:=hi) (eM _) j
 simpa using this
end
theorem El (l:List UInt8):strOfNums (l.map fun x=>(x.toNat:Int))=⟨⟨l⟩⟩:=by
 have:(strOfNums (l.map fun x=>(x.toNat:Int))).data.toList=l:=by
  rw[strOfNums_data,List.map_map]
  conv=>rhs; rw[<-List.map_id l]
  apply List.map_congr_left
  intro x _
  simp
 cases h:strOfNums (l.map fun x=>(x.toNat:Int)) with
 | mk data=>rw[h]at this; simp only at this; rw[<-this]
theorem vg (l:List UInt8):e8.fl l=l.map v8:=by
 induction l with
 | nil=>rfl
 | cons a r ih=>simp only[Enc.fl,dM,dc]at ih ⊢; rw[ih]; rfl
theorem OC {S D E:TypeId} {v:Value} {l:List UInt8} (hS:P.underlying S=some (.slice E)) (hE:P.underlying E=some (.int .u8)) (q:P.underlying D=some .string) (h:RO w e8 v l) :
  (convert S D v).run P w=.ok (vS l) w:=by
 obtain⟨a,c,rfl,hc,y⟩:=h
 cases a with
 | none=>
  have hl:l=[]:=by
   cases l with
   | nil=>rfl
   | cons x r=>obtain⟨b,off,h,_⟩:=y (by simp); cases h
  subst hl
  exact run_convert_bytes_nil w S E hS hE _ _ D q
 | some p=>
  by_cases hl:l=[]
  ·subst hl
   rw[run_convert_bytes_string w S D E _ _ c hS hE q]
   simp[Conv.bytesToString,loadCells,loadCellsFrom,vS]
   rfl
  ·obtain⟨b,off,hp,j⟩:=y hl
   cases hp
   rw[run_convert_bytes_arg w S E hS hE b off l.length c (l.map fun x=>(x.toNat:Int)) (by simp) (fun i hi=>?_) D q]
   ·rw[El]
   ·have:=j i (v8 l[i]) (by rw[vg]; simp[hi])
    rw[this]
    simp[List.getD,hi]
theorem CC {S D E:TypeId} {x:Operand} {v:Value} {l:List UInt8} (hS:P.underlying S=some (.slice E)) (hE:P.underlying E=some (.int .u8)) (j:P.underlying D=some .string)
  (hx:L.ev x=some v) (h:RO w e8 v l):OpV P n L w ⟨d,.convert S D x,ty,pos,after,none⟩ (vS l) w:=fun a q=>by
 simp[execOp,q.ev hx,OC hS hE j h]
end
section
variable {P:Program} {ops:Array Oper} {C D:World->Prop} {Q:Exit->Act->World->Prop} {fl:Nat->Bool}
def Ins (P:Program) (ops:Array Oper) (C:World->Prop) (o:Oper) (v:Value) (a:Act):Prop:=
 (Region.wanted o (yielded ops a.tmps)=true/\∀w,C w->(execOp a.eval o).run P w=.ok (.value v) w) \/
 (Region.wanted o (yielded ops a.tmps)=false/\v=undef)
theorem Ins.of_same {o:Oper} {v:Value} {a j:Act} (q:Ins P ops C o v a) (y:execOp j.eval o=execOp a.eval o)
  (hw:Region.wanted o (yielded ops j.tmps)=Region.wanted o (yielded ops a.tmps)):Ins P ops C o v j:=by
 unfold Ins at *
 rw[y,hw]
 exact q
theorem Ins.unique {o:Oper} {u v:Value} {a:Act} {w:World} (hw:C w) (h:Ins P ops C o u a) (y:Ins P ops C o v a):u=v:=by
 rcases h with⟨j,q⟩ | ⟨j,q⟩ <;> rcases y with⟨h3,h4⟩ | ⟨h3,h4⟩
 ·have e:=(q w hw).symm.trans (h4 w hw)
  simpa using e
 ·rw[j]at h3; cases h3
 ·rw[j]at h3; cases h3
 ·rw[q,h4]
def AI (P:Program) (ops:Array Oper) (o:Oper) (v:Value) (a:Act) (w:World):Prop:=Region.wanted o (yielded ops a.tmps)=true/\(execOp a.eval o).run P w=.ok (.value v) w
theorem AI.of_same {o:Oper} {v:Value} {a j:Act} {w:World} (q:AI P ops o v a w) (y:execOp j.eval o=execOp a.eval o)
  (hw:Region.wanted o (yielded ops j.tmps)=Region.wanted o (yielded ops a.tmps)):AI P ops o v j w:=by
 unfold AI at *
 rw[y,hw]
 exact q
def InR (P:Program) (ops:Array Oper) (C:World->Prop) (fl:Nat->Bool) (i:Nat) (o:Oper) (v:Value) (a:Act) (w:World):Prop:=Ins P ops C o v a\/(fl (i+1000)=false/\AI P ops o v a w)
theorem InR.of_same {i:Nat} {o:Oper} {v:Value} {a j:Act} {w:World} (y:InR P ops C fl i o v a w) (q:execOp j.eval o=execOp a.eval o)
  (hw:Region.wanted o (yielded ops j.tmps)=Region.wanted o (yielded ops a.tmps)):InR P ops C fl i o v j w:=y.imp (fun h=>h.of_same q hw) fun h=>⟨h.1,h.2.of_same q hw⟩
theorem InR.ins {i:Nat} {o:Oper} {v:Value} {a:Act} {w:World} (j:InR P ops C fl i o v a w) (h:fl (i+1000)=true):Ins P ops C o v a:=by
 rcases j with j | ⟨j,_⟩
 ·exact j
 ·rw[h]at j; cases j
def qx (fl:Nat->Bool) (i j:Nat):Bool:=(fl i&&fl j) || (fl i&&fl (i+1000)) || (fl j&&fl (j+1000))
def lx (P:Program) (ops:Array Oper) (C D:World->Prop) (Q:Exit->Act->World->Prop) (fl:Nat->Bool):List Nat->Act->World->Prop
 | [],a,w=>D w/\Q .normal a w
 | i :: r,a,w=>C w/\match ops[i]? with
  | none=>lx P ops C D Q fl r a w
  | some o=>if fl i then ∃v,InR P ops C fl i o v a w/\lx P ops C D Q fl r (a.put o.dst v) w else wpOp P ops Q i (lx P ops C D Q fl r) a w
theorem LU {l:List Nat} {a:Act} {w:World} (h:lx P ops C D Q fl l a w) (hl:l=[]->∀w,D w->C w):C w:=by
 cases l
 ·exact hl rfl _ h.1
 ·exact h.1
def mZ (ops:Array Oper):Prop:=∀(j:Nat) (o:Oper) cs b,ops[j]? = some o->o.op≠.select cs b
theorem Hl (hp:∀c a w,¬Q (.panic c) a w) {j:Nat} {y A:Oper} {v:Value} (X:ops[j]? = some A) (G:y.apart ops A=true)
  (I:∀cs b,y.op≠.select cs b) (J:∀cs b,A.op≠.select cs b) {K:Act->World->Prop} {a:Act} {w:World}
  (Y:Ins P ops C y v a) (h:wpOp P ops Q j K (a.put y.dst v) w) :
  wpOp P ops Q j (fun N w'=>Ins P ops C y v N/\K (N.put y.dst v) w') a w:=by
 obtain⟨O,B,R⟩:=Oper.apart_spec G
 have q:∀u,Ins P ops C y v (a.put A.dst u):=fun u=>
  Y.of_same (execOp_put y I a A.dst u R) (wanted_put y a A.dst u R)
 unfold wpOp at *
 simp only[X]at *
 rw[wanted_put A a y.dst v O]at h
 have U:=execOp_put A J a y.dst v O
 split
 ·rename_i hw
  simp only[hw,am]at h
  rcases h with h | h
  ·left
   unfold Oper.wp at *
   rw[U]at h
   generalize (execOp a.eval A).run P w=r at *
   cases r with
   | ok nx w'=>
    cases nx <;> simp only[Oper.upon]at h ⊢
    case value u=>exact⟨q u,by rw[<-Act.put_comm a v u B]; exact h⟩
    case skip=>exact⟨q undef,by rw[<-Act.put_comm a v undef B]; exact h⟩
    case defer dd=>
     refine⟨?_,?_⟩
     ·have:=q undef
      refine this.of_same ?_ ?_
      ·cases A.dst <;> rfl
      ·cases A.dst <;> rfl
     ·rw[Act.put_defers]at h
      rw[<-Act.put_comm _ v undef B]
      exact h
    case enter f args=>
     refine Calls.mono h fun e V hh=>?_
     cases e with
     | returned u=>exact⟨q u,by rw[<-Act.put_comm a v u B]; exact hh⟩
     | panicked c=>exact absurd hh (hp _ _ _)
     | outgrown=>exact hh
    case row rw_ args=>
     exact Rows.mono h fun u V hh=>⟨q u,by rw[<-Act.put_comm a v u B]; exact hh⟩
   | halt x w'=>
    cases x <;> simp only[Oper.upon]at h ⊢
    exact absurd h (hp _ _ _)
  ·right
   refine⟨?_,h.2⟩
   have:=h.1
   unfold Oper.asks at *
   rw[U]at this
   exact this
 ·rename_i hw
  simp only[hw]at h
  exact⟨q _,by rw[<-Act.put_comm a v undef B]; exact h⟩
theorem E9 (hp:∀c a w,¬Q (.panic c) a w) (y:∀a w,¬Q .outgrown a w) {i:Nat} {q:Oper} (hi:ops[i]? = some q) {K:Act->World->Prop} {a:Act} {w:World}
  (h:wpOp P ops Q i K a w):∃A w' u G,K A w'/\A=({ a with defers:=G }:Act).put q.dst u:=by
 unfold wpOp at h
 simp only[hi]at h
 split at h
 ·rcases h with h | ⟨_,I,J,h⟩
  ·unfold Oper.wp at h
   generalize (execOp a.eval q).run P w=r at *
   cases r with
   | ok nx w'=>
    cases nx <;> simp only[Oper.upon]at h
    case value u=>exact⟨_,_,u,a.defers,h,rfl⟩
    case skip=>exact⟨_,_,undef,a.defers,h,rfl⟩
    case defer dd=>exact⟨_,_,undef,dd :: a.defers,h,rfl⟩
    case enter f args=>
     obtain⟨e,B,fr,j,_⟩:=h []
     cases e with
     | returned u=>exact⟨_,_,u,a.defers,j,rfl⟩
     | panicked c=>exact absurd j (hp _ _ _)
     | outgrown=>obtain⟨I,J,N⟩:=j; exact absurd N (y _ _)
    case row rw_ args=>
     obtain⟨u,B,j,_⟩:=h default []
     exact⟨_,_,u,a.defers,j,rfl⟩
   | halt x w'=>
    cases x <;> simp only[Oper.upon]at h
    exact absurd h (hp _ _ _)
  ·exact absurd h (y _ _)
 ·exact⟨_,_,undef,a.defers,h,rfl⟩
theorem JU (hp:∀c a w,¬Q (.panic c) a w) (ho:∀a w,¬Q .outgrown a w) (hs:mZ ops) {i j:Nat} {r:List Nat} {a:Act} {w:World}
  (b3:∀A q,ops[i]? = some A->ops[j]? = some q->A.apart ops q=true/\qx fl i j=true) (_hne:i≠j) (hE:r=[]->∀w,D w->C w)
  (h:lx P ops C D Q fl (i :: j :: r) a w):lx P ops C D Q fl (j :: i :: r) a w:=by
 obtain⟨V,h⟩:=h
 refine⟨V,?_⟩
 cases hi:ops[i]? with
 | none=>
  simp only[hi]at h
  obtain⟨_,h⟩:=h
  cases hj:ops[j]? with
  | none=>simp only[hj]at h; exact⟨V,by simp only[hi]; exact h⟩
  | some q=>
   simp only[hj]at h ⊢
   split
   ·rename_i hf
    simp only[hf,am]at h
    obtain⟨v,X,G⟩:=h
    exact⟨v,X,V,by simp only[hi]; exact G⟩
   ·rename_i hf
    rw[ae hf]at h
    exact wpOp_mono (fun J w' B=>⟨LU B hE,by simp only[hi]; exact B⟩) h
 | some A=>
  simp only[hi]at h
  cases hj:ops[j]? with
  | none=>
   simp only[]
   refine⟨V,?_⟩
   simp only[hi]
   split
   ·rename_i hf
    simp only[hf,am]at h
    obtain⟨v,X,_,G⟩:=h
    simp only[hj]at G
    exact⟨v,X,G⟩
   ·rename_i hf
    simp only[hf]at h
    exact wpOp_mono (fun J w' B=>by have:=B.2; simp only[hj]at this; exact this) h
  | some q=>
   obtain⟨ap,U⟩:=b3 A q hi hj
   obtain⟨p1,p2,p3⟩:=Oper.apart_spec ap
   have Y:=fun cs b=>hs i A cs b hi
   have N:=fun cs b=>hs j q cs b hj
   simp only[]
   by_cases hfi:fl i=true
   ·simp only[hfi,am]at h
    obtain⟨v,hv,_,G⟩:=h
    simp only[hj]at G
    by_cases I:fl j=true
    ·simp only[I,am]at G ⊢
     obtain⟨u,hu,O⟩:=G
     refine⟨u,hu.of_same (execOp_put q N a A.dst v p1).symm (wanted_put q a A.dst v p1).symm,V,?_⟩
     simp only[hi,hfi,am]
     refine⟨v,hv.of_same (execOp_put A Y a q.dst u p3) (wanted_put A a q.dst u p3),?_⟩
     rw[<-Act.put_comm a v u p2]; exact O
    ·simp only[I]at G ⊢
     have hv:=hv.ins (by unfold qx at U; simpa [hfi,I] using U)
     refine wpOp_mono (fun J w' B=>?_) (Hl hp hj ap Y N hv G)
     refine⟨LU B.2 hE,?_⟩
     simp only[hi,hfi,am]
     exact⟨v,.inl B.1,B.2⟩
   ·simp only[hfi]at h
    have bx:fl i=false:=by simpa using hfi
    have bT:fl j=true/\fl (j+1000)=true:=by unfold qx at U; simpa [bx] using U
    obtain⟨I,b2⟩:=bT
    simp only[I,am]
    have hK:∀J w',lx P ops C D Q fl (j :: r) J w'->C w'/\∃u,Ins P ops C q u J/\lx P ops C D Q fl r (J.put q.dst u) w':=fun J w' B=>by
     obtain⟨c,aS⟩:=B
     simp only[hj,I,am]at aS
     obtain⟨u,hu,O⟩:=aS
     exact⟨c,u,hu.ins b2,O⟩
    obtain⟨J,w',x,df,X,rfl⟩:=E9 hp ho hi h
    obtain⟨c',u,hu,G⟩:=hK _ _ X
    have Z:Ins P ops C q u a:=by
     refine hu.of_same ?_ ?_
     ·have:=execOp_put q N ({ a with defers:=df }:Act) A.dst x p1
      rw[this]; rfl
     ·have:=wanted_put (ops:=ops) q ({ a with defers:=df }:Act) A.dst x p1
      rw[this]
    refine⟨u,.inl Z,V,?_⟩
    simp only[hi,hfi]
    -- the operation,done with the other one's value in its place
    show wpOp P ops Q i (lx P ops C D Q fl r) (a.put q.dst u) w
    have he:=execOp_put A Y a q.dst u p3
    have b6:=wanted_put (ops:=ops) A a q.dst u p3
    have next:∀(y:Value) w',lx P ops C D Q fl (j :: r) (a.put A.dst y) w'->lx P ops C D Q fl r ((a.put q.dst u).put A.dst y) w':=fun y w' B=>by
     obtain⟨c,R,ab,O⟩:=hK _ _ B
     have:R=u:=by
      refine Ins.unique c (ab.of_same ?_ ?_:Ins P ops C q R a) Z
      ·rw[execOp_put q N a A.dst y p1]
      ·rw[wanted_put q a A.dst y p1]
     subst this
     rw[<-Act.put_comm a y R p2]; exact O
    have ag:∀(y:Value) (dd:Deferred) w',lx P ops C D Q fl (j :: r) (({ a with defers:=dd :: a.defers }:Act).put A.dst y) w' ->
      lx P ops C D Q fl r (({ (a.put q.dst u) with defers:=dd :: (a.put q.dst u).defers }:Act).put A.dst y) w':=fun y dd w' B=>by
     obtain⟨c,R,ab,O⟩:=hK _ _ B
     have:R=u:=by
      refine Ins.unique c (ab.of_same ?_ ?_:Ins P ops C q R a) Z
      ·rw[execOp_put q N _ A.dst y p1]; rfl
      ·rw[wanted_put q _ A.dst y p1]
     subst this
     rw[Act.put_defers,<-Act.put_comm _ y R p2]; exact O
    unfold wpOp at h ⊢
    simp only[hi]at h ⊢
    rw[b6]
    split
    ·rename_i hw
     simp only[hw,am]at h
     rcases h with h | h
     ·left
      unfold Oper.wp at *
      rw[he]
      generalize (execOp a.eval A).run P w=rr at *
      cases rr with
      | ok nx w'=>
       cases nx <;> simp only[Oper.upon]at h ⊢
       case value y=>exact next y _ h
       case skip=>exact next undef _ h
       case defer dd=>exact ag undef dd _ h
       case enter f args=>
        refine Calls.mono h fun e b7 hh=>?_
        cases e with
        | returned y=>exact next y _ hh
        | panicked c=>exact absurd hh (hp _ _ _)
        | outgrown=>exact hh
       case row rw_ args=>exact Rows.mono h fun y b7 hh=>next y _ hh
      | halt x w'=>
       cases x <;> simp only[Oper.upon]at h ⊢
       exact absurd h (hp _ _ _)
     ·right
      refine⟨?_,h.2⟩
      have:=h.1
      unfold Oper.asks at *
      rw[he]
      exact this
    ·rename_i hw
     simp only[hw]at h
     exact next undef _ h
def fY (ops:Array Oper):Nat->Nat->Nat->Bool
 | 0,_,_=>false
 | f+1,j,i=>match ops[j]? with
  | none=>false
  | some o=>o.after.toList.any fun e=>Region.binds .any e&&(Nat.beq e.on i || fY ops f e.on i)
def pG (ops:Array Oper):Bool:=
 (List.range ops.size).all fun j=>match ops[j]? with
  | some o=>o.after.toList.all fun e=>!Region.binds .any e || Nat.blt e.on j
  | none=>true
def pz (ops:Array Oper) (fl:Nat->Bool):Bool:=
 (List.range ops.size).all fun j=>(List.range j).all fun i=>fY ops ops.size j i || (match ops[i]?,ops[j]? with
  | some oi,some oj=>oi.apart ops oj&&qx fl i j
  | _,_=>true)
def lG (ops:Array Oper):Bool:=ops.toList.all fun o=>match o.op with | .select ..=>false | _=>true
theorem pD (h:lG ops=true):mZ ops:=by
 intro j o cs b q y
 have:=cq.1 h o (Array.mem_toList_iff.2 (Array.mem_of_getElem? q))
 rw[y]at this
 cases this
def closed (ops:Array Oper) (listed:Array Bool):Prop:=
 ∀j oj,ops[j]? = some oj->listed.getD j false=true->∀e∈oj.after,Region.binds .any e=true->listed.getD e.on false=true
theorem ip {listed:Array Bool} (hc:closed ops listed):∀(f j i:Nat) (q:Oper),ops[j]? = some q->(∀e∈q.after,Region.binds .any e=true->listed.getD e.on false=true) ->
  fY ops f j i=true->listed.getD i false=true
 | 0,_,_,_,_,_,h=>by simp[fY]at h
 | f+1,j,i,q,hj,hall,h=>by
  simp only[fY,hj,List.any_eq_true,aK,fW]at h
  obtain⟨e,y,A,h | h⟩:=h
  ·rw[<-bf h]; exact hall e (by simpa using y) A
  ·have hl:=hall e (by simpa using y) A
   cases ho:ops[e.on]? with
   | none=>cases f <;> simp[fY,ho]at h
   | some oe=>exact ip hc f e.on i oe ho (fun I B G=>hc e.on oe ho hl I B G) h
theorem zW (hp:∀c a w,¬Q (.panic c) a w) (G:∀a w,¬Q .outgrown a w) (hs:mZ ops) {j:Nat} :
  ∀(q y:List Nat) (a:Act) (w:World),(∀i∈q,i≠j/\∀A I,ops[i]? = some A->ops[j]? = some I->A.apart ops I=true/\qx fl i j=true)->(q≠[]->y=[]->∀w,D w->C w) ->
   lx P ops C D Q fl (q++j :: y) a w->lx P ops C D Q fl (j :: (q++y)) a w
 | [],_,_,_,_,_,h=>h
 | i :: q,y,a,w,hall,hE,h=>by
  have B:∀a w,lx P ops C D Q fl (q++j :: y) a w->lx P ops C D Q fl (j :: (q++y)) a w:=fun a w h=>
   zW hp G hs q y a w (fun k J=>hall k (by simp[J])) (fun _ N=>hE (by simp) N) h
  have O:lx P ops C D Q fl (i :: j :: (q++y)) a w:=by
   obtain⟨R,h⟩:=h
   refine⟨R,?_⟩
   cases hi:ops[i]? with
   | none=>simp only[hi]at h ⊢; exact B _ _ h
   | some A=>
    simp only[hi]at h ⊢
    split
    ·rename_i hf
     simp only[hf,am]at h
     obtain⟨v,U,h⟩:=h
     exact⟨v,U,B _ _ h⟩
    ·rename_i hf
     simp only[hf]at h
     exact wpOp_mono (fun Y w' V=>B _ _ V) h
  have hi:=hall i (by simp)
  exact JU hp G hs hi.2 hi.1 (fun X=>hE (by simp) (List.append_eq_nil_iff.1 X).2) O
theorem lU {listed:Array Bool} {i:Nat} (h:i<listed.size) (d:Bool):(listed.setIfInBounds i true).getD i d=true:=by
 simp[h]
theorem Au (hp:∀c a w,¬Q (.panic c) a w) (ho:∀a w,¬Q .outgrown a w) (hs:mZ ops)
  (ab:∀j U,ops[j]? = some U->∀e∈U.after,Region.binds .any e=true->e.on<j)
  (ac:∀i j,i<j->j<ops.size->fY ops ops.size j i=false->∀oi U,ops[i]? = some oi->ops[j]? = some U->oi.apart ops U=true/\qx fl i j=true)
  :
  ∀(m:Nat) (l:List Nat) (listed:Array Bool) (a:Act) (w:World),l.length=m->l.Pairwise (·<·)->listed.size=ops.size->closed ops listed ->
   (∀i,i∈l↔i<ops.size/\listed.getD i true=false)->((∀w,D w->C w)\/((∀i,i<ops.size - 1->fY ops ops.size (ops.size - 1) i=true)/\(l≠[]->ops.size - 1∈l)))->lx P ops C D Q fl l a w->wpAny P .any ops Q m listed a w
 | 0,l,listed,a,w,hm,_,_,_,hmem,_,h=>by
  have hl:l=[]:=aZ hm
  subst hl
  refine⟨?_,h.2⟩
  refine List.eq_nil_iff_forall_not_mem.2 fun i hi=>?_
  obtain⟨I,o,c0,_⟩:=mem_ready.1 hi
  have:=(hmem i).2 ⟨(cn.1 c0).1,I⟩
  cases this
 | m+1,l,listed,a,w,hm,hsort,hsz,hcl,hmem,O,h=>by
  refine⟨fun b5=>?_,fun j hj=>?_⟩
  ·-- the least one that is not listed is ready,or nothing can be
   exfalso
   cases l with
   | nil=>simp at hm
   | cons i r=>
    obtain⟨b3,I⟩:=(hmem i).1 (by simp)
    have hi:i∈Region.ready .any ops listed:=by
     refine mem_ready.2 ⟨I,ops[i],by simp[b3],fun e he hb=>?_⟩
     have J:=ab i ops[i] (by simp[b3]) e he hb
     cases hl:listed.getD e.on false with
     | true=>rfl
     | false=>
      have c1:e.on<listed.size:=by rw[hsz]; omega
      have c2:listed.getD e.on true=false:=by simp[c1]at hl ⊢; exact hl
      have c3:=(hmem e.on).2 ⟨by omega,c2⟩
      rcases aJ.1 c3 with N | N
      ·omega
      ·have:=(fS.1 hsort).1 e.on N
       omega
    rw[b5]at hi
    cases hi
  ·obtain⟨I,U,R,V⟩:=mem_ready.1 hj
   have X:j<ops.size:=(cn.1 R).1
   have c4:j∈l:=(hmem j).2 ⟨X,I⟩
   obtain⟨A,B,rfl⟩:=List.append_of_mem c4
   have J:∀i∈A,i<j:=fun i hi=>(ci.1 hsort).2.2 i hi j (by simp)
   have I:∀i∈A++B,fY ops ops.size j i=false:=fun i hi=>by
    cases hr:fY ops ops.size j i with
    | false=>rfl
    | true=>
     have G:=ip hcl ops.size j i U R V hr
     have q:=(hmem i).1 (by rcases bG.1 hi with h | h <;> simp[h])
     rw[bO]at G
     have y:=q.2
     rw[bO]at y
     have:i<listed.size:=by rw[hsz]; exact q.1
     simp[this]at G y
     rw[G]at y; cases y
   have Y:(∀i,i<ops.size - 1->fY ops ops.size (ops.size - 1) i=true)->ops.size - 1=j->A=[]:=fun q b4=>by
    cases hl:A with
    | nil=>rfl
    | cons i r=>
     exfalso
     have hi:i∈A:=by rw[hl]; simp
     have:=q i (by have:=J i hi; omega)
     rw[b4,I i (by simp[hi])]at this
     cases this
   have c5:ops.size - 1=j->B=[]:=fun b4=>by
    cases B with
    | nil=>rfl
    | cons k r=>
     have hk:=((hmem k).1 (by simp)).1
     have h5:=(ci.1 hsort).2.1
     have:=(fS.1 h5).1 k (by simp)
     omega
   have dd:A≠[]->B=[]->∀w,D w->C w:=fun N G=>by
    rcases O with q | ⟨q,O⟩
    ·exact q
    ·exfalso
     subst G
     have hn:=O (by simp)
     refine N (Y q ?_)
     rcases bG.1 hn with y | y
     ·have:=J _ y; omega
     ·simpa using y
   have b7:(∀w,D w->C w)\/((∀i,i<ops.size - 1->fY ops ops.size (ops.size - 1) i=true)/\(A++B≠[]->ops.size - 1∈A++B)):=by
    rcases O with q | ⟨q,O⟩
    ·exact .inl q
    ·refine .inr ⟨q,fun df=>?_⟩
     have hn:=O (by simp)
     rcases bG.1 hn with y | y
     ·exact bX _ y
     ·rcases aJ.1 y with y | y
      ·exfalso
       exact df (by rw[Y q y,c5 y]; rfl)
      ·exact bD _ y
   have N:=zW hp ho hs A B a w (fun i hi=>⟨Nat.ne_of_lt (J i hi),fun oi dx dy b8=>by
    refine ac i j (J i hi) X ?_ oi dx dy b8
    cases hr:fY ops ops.size j i with
    | false=>rfl
    | true=>
     have G:=ip hcl ops.size j i U R V hr
     have q:=((hmem i).1 (by simp[hi])).2
     rw[bO]at G q
     have:i<listed.size:=by rw[hsz]; exact gH (J i hi) X
     simp[this]at G q
     rw[G]at q; cases q⟩) dd h
   have ad:(A++B).Pairwise (·<·):=by
    refine hsort.sublist ?_
    exact List.Sublist.append_left (List.sublist_cons_self j B) A
   have b9:(A++B).length=m:=by simp at hm ⊢; omega
   have cf:closed ops (listed.setIfInBounds j true):=by
    intro k ok hk hl e he hb
    by_cases hkj:j=k
    ·subst hkj
     have:ok=U:=eQ (hk.symm.trans R)
     subst this
     exact getD_set_true (V e he hb)
    ·rw[getD_set_ne false hkj]at hl
     exact getD_set_true (hcl k ok hk hl e he hb)
   have dX:j ∉ A++B:=by
    intro hx
    rcases bG.1 hx with hx | hx
    ·exact absurd (J j hx) (i7 _)
    ·have:=(ci.1 hsort).2.1
     have:=(fS.1 this).1 j hx
     exact absurd this (i7 _)
   have bT:∀i,i∈A++B↔i<ops.size/\(listed.setIfInBounds j true).getD i true=false:=by
    intro i
    by_cases hij:j=i
    ·subst hij
     constructor
     ·intro hx; exact absurd hx dX
     ·intro hx
      have:=lU (listed:=listed) (i:=j) (by rw[hsz]; exact X) true
      rw[this]at hx; cases hx.2
    ·rw[getD_set_ne true hij,<-hmem i]
     simp only[bG,aJ]
     constructor
     ·rintro (hx | hx)
      ·exact .inl hx
      ·exact .inr (.inr hx)
     ·rintro (hx | hx | hx)
      ·exact .inl hx
      ·exact absurd hx.symm hij
      ·exact .inr hx
   have ih:∀Z w',lx P ops C D Q fl (A++B) Z w'->wpAny P .any ops Q m (listed.setIfInBounds j true) Z w':=fun Z w' h'=>
    Au hp ho hs ab ac m (A++B) _ Z w' b9 ad (by simp[hsz]) cf bT b7 h'
   obtain⟨hC,N⟩:=N
   simp only[R]at N
   split at N
   ·obtain⟨v,hv,G⟩:=N
    unfold wpOp
    simp only[R]
    rcases hv with (⟨hw,hv⟩ | ⟨hw,rfl⟩) | ⟨_,hw,hv⟩
    ·rw[ah hw]
     left
     unfold Oper.wp
     rw[hv w hC]
     exact ih _ _ G
    ·rw[ae (by rw[hw]; simp)]
     exact ih _ _ G
    ·rw[ah hw]
     left
     unfold Oper.wp
     rw[hv]
     exact ih _ _ G
   ·exact wpOp_mono (fun Z w' h'=>ih Z w' h') N
theorem rq (h:pz ops fl=true):∀i j,i<j->j<ops.size->fY ops ops.size j i=false->∀q y,ops[i]? = some q->ops[j]? = some y->q.apart ops y=true/\qx fl i j=true:=by
 intro i j A I J q y hi B
 have G:=cq.1 (cq.1 h j (cW.2 I)) i (cW.2 A)
 simp only[J,Bool.false_or,hi,B,aK]at G
 exact G
theorem rJ (h:pG ops=true):∀j q,ops[j]? = some q->∀e∈q.after,Region.binds .any e=true->e.on<j:=by
 intro j q y e G I
 have A:=cq.1 h j (cW.2 (cn.1 y).1)
 simp only[y]at A
 have B:=cq.1 A e (by simpa using G)
 simp only[I,dB,Bool.false_or,fp]at B
 exact B
def yE (ops:Array Oper):Bool:=(List.range (ops.size - 1)).all fun i=>fY ops ops.size (ops.size - 1) i
theorem uY {id:Nat} {l:List Oper} {a:Act} {w:World} (hm:P.follows .mixedOrders=true) (hp:∀c a w,¬Q (.panic c) a w) (A:∀a w,¬Q .outgrown a w)
  (y:(lG l.toArray&&pG l.toArray&&pz l.toArray fl)=true) (q:(∀w,D w->C w)\/(yE l.toArray=true/\l≠[])) (h:lx P l.toArray C D Q fl (List.range l.length) a w.drew):(Code.region id l.toArray true).wp P Q a w:=by
 simp only[aK]at y
 refine wp_region_any hm ?_
 refine Au hp A (pD y.1.1) (rJ y.1.2) (rq y.2) _ (List.range l.length) _ a _ (by simp) iz (by simp) (fun j B G hl=>?_) (fun i=>?_) ?_ h
 ·rw[bO,eg]at hl
  split at hl <;> simp at hl
 ·rw[bO,eg]
  by_cases h1:i<l.length
  ·simp[h1]
  ·simp[h1]
 ·rcases q with q | ⟨q,hl⟩
  ·exact .inl q
  ·refine .inr ⟨fun i hi=>?_,fun _=>?_⟩
   ·exact cq.1 q i (cW.2 hi)
   ·have:=d8.2 hl
    simp; omega
variable {n:Nat} {L:Env} {w:World}
def lxE (P:Program) (n:Nat) (ops:Array Oper) (C D:World->Prop) (Q:Exit->Act->World->Prop) (fl:Nat->Bool) (l:List Nat) (L:Env) (w:World):Prop:=∀a,Rep n L a->lx P ops C D Q fl l a w
theorem kj {id:Nat} {l:List Oper} (C:World->Prop) (fl:Nat->Bool) (hm:P.follows .mixedOrders=true) (hp:∀c a w,¬Q (.panic c) a w) (j:∀a w,¬Q .outgrown a w)
  (q:(lG l.toArray&&pG l.toArray&&pz l.toArray fl)=true) (h:lxE P n l.toArray C C Q fl (List.range l.length) L w.drew):wpC P n (.region id l.toArray true) Q L w:=
 fun a y=>uY hm hp j q (.inl fun _ h=>h) (h a y)
theorem pq {id:Nat} {l:List Oper} (C:World->Prop) (fl:Nat->Bool) (hm:P.follows .mixedOrders=true) (hp:∀c a w,¬Q (.panic c) a w) (q:∀a w,¬Q .outgrown a w)
  (j:(lG l.toArray&&pG l.toArray&&pz l.toArray fl&&yE l.toArray&&!l.isEmpty)=true) (h:lxE P n l.toArray C (fun _=>True) Q fl (List.range l.length) L w.drew):wpC P n (.region id l.toArray true) Q L w:=
 fun a y=>by
  simp only[aK]at j
  refine uY hm hp q (by simp only[aK]; exact j.1.1) (.inr ⟨j.1.2,fun A=>?_⟩) (h a y)
  have:=j.2
  rw[A]at this
  cases this
theorem jk (j:D w) (h:QE n Q .normal L w):lxE P n ops C D Q fl [] L w:=fun a q=>⟨j,h a q⟩
theorem dg {i:Nat} {r:List Nat} {d:Nat} {op:Op} {ty:TypeId} {pos:String} {after:Array Edge} {v:Value} (y:C w) (A:ops[i]? = some ⟨some d,op,ty,pos,after,none⟩) (hf:fl i=true)
  (B:∀w,C w->OpV P n L w ⟨some d,op,ty,pos,after,none⟩ v w) (hd:Nat.blt d n=true) (h:lxE P n ops C D Q fl r ((d,v) :: L) w):lxE P n ops C D Q fl (i :: r) L w:=fun a j=>by
 refine⟨y,?_⟩
 simp only[A,hf,am]
 exact⟨v,.inl (.inl ⟨by simp[Region.wanted],fun w' q=>B w' q a j⟩),h _ (j.put hd)⟩
theorem uz {i:Nat} {r:List Nat} {d:Nat} {op:Op} {ty:TypeId} {pos:String} {after:Array Edge} {v:Value} (q:C w) (y:ops[i]? = some ⟨some d,op,ty,pos,after,none⟩) (hf:fl i=true) (A:fl (i+1000)=false)
  (B:OpV P n L w ⟨some d,op,ty,pos,after,none⟩ v w) (hd:Nat.blt d n=true) (h:lxE P n ops C D Q fl r ((d,v) :: L) w):lxE P n ops C D Q fl (i :: r) L w:=fun a j=>by
 refine⟨q,?_⟩
 simp only[y,hf,am]
 exact⟨v,.inr ⟨A,by simp[Region.wanted],B a j⟩,h _ (j.put hd)⟩
theorem uS {i:Nat} {r:List Nat} {d:Nat} {op:Op} {ty:TypeId} {pos:String} {after:Array Edge} {Φ:Value->World->Prop} (y:C w) (j:ops[i]? = some ⟨some d,op,ty,pos,after,none⟩) (hf:fl i=false)
  (A:OpX P n L w ⟨some d,op,ty,pos,after,none⟩ Φ) (hd:Nat.blt d n=true) (h:∀v w',Φ v w'->lxE P n ops C D Q fl r ((d,v) :: L) w'):lxE P n ops C D Q fl (i :: r) L w:=fun a q=>by
 refine⟨y,?_⟩
 simp only[j,hf,ai,ak]
 obtain⟨v,w',B,G⟩:=A
 unfold wpOp
 simp only[j]
 rw[ah (by simp[Region.wanted])]
 left
 unfold Oper.wp
 rw[B a q]
 exact h v w' G _ (q.put hd)
theorem D3 {i:Nat} {r:List Nat} {op:Op} {ty:TypeId} {pos:String} {after:Array Edge} {Φ:World->Prop} (y:C w) (j:ops[i]? = some ⟨none,op,ty,pos,after,none⟩) (hf:fl i=false)
  (A:OpY P n L w ⟨none,op,ty,pos,after,none⟩ Φ) (h:∀w',Φ w'->lxE P n ops C D Q fl r L w'):lxE P n ops C D Q fl (i :: r) L w:=fun a q=>by
 refine⟨y,?_⟩
 simp only[j,hf,ai,ak]
 obtain⟨w',B,G⟩:=A
 unfold wpOp
 simp only[j]
 rw[ah (by simp[Region.wanted])]
 left
 unfold Oper.wp
 rw[B a q]
 exact h w' G _ q
end
section
variable {P:Program} {n:Nat} {L:Env} {w w0:World} {Q:Exit->Act->World->Prop} {S:List Nat} {os:List OE}
variable {d:Option Tmp} {ty:TypeId} {pos:String} {after:Array Edge}
theorem gD {o:Oper} {Φ:Value->World->Prop} (v:Value) (w':World) (j:OpV P n L w o v w') (h:Φ v w'):OpX P n L w o Φ:=⟨v,w',j,h⟩
theorem ss {o:Oper} {Φ:World->Prop} (w':World) (j:OpS P n L w o w') (h:Φ w'):OpY P n L w o Φ:=⟨w',j,h⟩
theorem St.fresh (h:St S w0 w os):fre S w0.heap.size w.heap.size:=.inl h.fr.size
theorem Gd (z:Array Value) (sz c l:Nat) {τ:Type} (e:Enc τ) (t0:τ) (hz:z.toList=e.cells t0) (hs:e.sz=sz) (hl:l<=c) :
  (madeCells z (c*sz)).toList.take (l*sz)=e.fl (List.replicate l t0):=by
 have q:z.size=sz:=by rw[<-dn,hz,e.len,hs]
 apply iH
 intro k
 rw[bK]
 split
 ·rename_i A
  have y:0<sz:=by
   rcases bS sz with h | h
   ·subst h; simp at A
   ·exact h
  have G:k<c*sz:=bg A (aR _ hl)
  have j:k%sz<sz:=bM _ y
  have B:k / sz<l:=(fg y).2 A
  have J:k=k / sz*e.sz+k%sz:=by rw[hs,aN]; exact (cQ k sz).symm
  have I:=e.fl_get (List.replicate l t0) (k / sz) t0 (by simp[f9,B]) (k%sz) (by rw[hs]; exact j)
  rw[<-J]at I
  rw[I,<-hz]
  simp only[madeCells,Array.toList_map,Array.toList_range,d6,List.getElem?_range G,bQ,q]
  rw[getElem!_pos z (k%sz) (by rw[q]; exact j)]
  simp[q,j]
 ·rename_i A
  rw[dA]
  rw[e.fl_length,bd,hs]
  omega
theorem Ii {T E:TypeId} {x y:Operand} {k q:IntKind} {l c:Int} {τ:Type} {e:Enc τ} {t0:τ} {z:Value} {bytes:Nat} (hT:P.underlying T=some (.slice E)) (hE:TI P E z e.sz bytes) (hz:z.cells.toList=e.cells t0)
  (hx:L.ev x=some (.int k l)) (G:L.ev y=some (.int q c)) (hS:St S w0 w os) (I:0<=l) (J:l<=c) (N:(bytes:Int)*c<=281474976710656) (O:c<=9223372036854775807) :
  OpX P n L w ⟨d,.makeSlice T x y,ty,pos,after,none⟩ (fun v w'=>St S w0 w' (own e v (List.replicate l.toNat t0) :: os)):=by
 obtain⟨j,hi,A,hs,R⟩:=hE.get
 have U:=run_make (P:=P) w T E j z hT hi A k q l c I J (by rw[R]; exact N) O
 refine gD (.slice (some ⟨w.heap.size,0,none⟩) l.toNat c.toNat) (w.alloc (.cells (madeCells z.cells (c.toNat*j.size)) E)) (fun a B=>?_) ?_
 ·simp only[execOp,B.ev hx,B.ev G,Sem.run_bind,U,Result.andThen_ok]; rfl
 ·refine hS.push (Fr.alloc _ _ _) (o:=own e _ _) ?_ ?_
  ·refine⟨e.fl_length _,.inr ⟨w.heap.size,c.toNat,madeCells z.cells (c.toNat*j.size),E,?_,hS.fresh,Row.new w _ _,?_,?_,?_,?_⟩⟩
   ·simp
   ·simp; omega
   ·simp[maxLen]; omega
   ·rw[size_madeCells,hs]; exact av _
   ·rw[hs,bd]
    exact Gd z.cells e.sz c.toNat l.toNat e t0 hz rfl (by omega)
  ·intro k V
   simp[OE.blk,Value.ownBlock]at V
   omega
theorem zY (j:Nat) (q:j=1):∀(vs:List Value) (k:Nat) (cells:Array Value),(∀v∈vs,v.oneCell'=true)->k+vs.length<=cells.size ->
  Instr.fill (fun i=>some (i*j,j)) cells (vs.zipIdx k |>.map fun p=>(p.2,p.1))=some (cells.toList.take k++vs++cells.toList.drop (k+vs.length)).toArray
 | [],k,cells,_,_=>by simp[Instr.fill]
 | v :: r,k,cells,h1,hk=>by
  subst q
  have A:v.cells=#[v]:=by have:=h1 v (by simp); cases v <;> simp_all [Value.cells,Value.oneCell']
  have B:=zY 1 rfl r (k+1) (cells.setIfInBounds k v) (fun u hu=>h1 u (by simp[hu])) (by simp at hk ⊢; omega)
  simp only[List.zipIdx_cons,dc,Instr.fill,A]
  rw[ae (by simp at hk ⊢; omega)]
  have y:(#[v]:Array Value).zipIdx.foldl (fun cs (x:Value×Nat)=>cs.setIfInBounds (k*1+x.2) x.1) cells=cells.setIfInBounds k v:=by
   have:(#[v]:Array Value).zipIdx=#[(v,0)]:=rfl
   rw[this]; simp
  rw[y,B]
  congr 2
  have e:=list_seg_step cells.toList k v r (by simp at hk ⊢; omega)
  simpa [Array.toList_setIfInBounds,eo] using e
def Env.parts (L:Env):List (Nat×Operand)->Nat->Option (List Value)
 | [],_=>some []
 | (i,x) :: r,k=>if i=k then match L.ev x,Env.parts L r (k+1) with
  | some v,some vs=>some (v :: vs)
  | _,_=>none
  else none
theorem Env.parts_eq {L:Env} {a:Act} (j:Rep n L a):∀{q:List (Nat×Operand)} {k:Nat} {vs:List Value},L.parts q k=some vs->q.map (fun p=>(p.1,a.eval p.2))=(vs.zipIdx k).map fun p=>(p.2,p.1)
 | [],k,vs,h=>by simp[Env.parts]at h; subst h; rfl
 | (i,x) :: r,k,vs,h=>by
  simp only[Env.parts]at h
  split at h
  ·rename_i y
   cases hx:L.ev x with
   | none=>simp[hx]at h
   | some v=>
    cases hr:L.parts r (k+1) with
    | none=>simp[hx,hr]at h
    | some us=>
     simp[hx,hr]at h
     subst h
     simp only[dc,List.zipIdx_cons,j.ev hx,Env.parts_eq j hr,y]
  ·cases h
theorem jW {T E:TypeId} {m:Nat} {A:List (Nat×Operand)} {vs:List Value} {τ:Type} {e:Enc τ} {l:List τ} {z:Value} {bytes:Nat} (hT:P.underlying T=some (.slice E)) (hE:TI P E z 1 bytes)
  (hp:L.parts A 0=some vs) (hm:vs.length=m) (j:e.sz=1) (hl:e.fl l=vs) (R:0<m) (U:m<=16777216) (hS:St S w0 w os) :
  OpX P n L w ⟨d,.buildSlice T m A.toArray,ty,pos,after,none⟩ (fun v w'=>St S w0 w' (own e v l :: os)):=by
 obtain⟨q,hi,G,hs,V⟩:=hE.get
 have y:l.length=m:=by have:=e.fl_length l; rw[hl,hm,j]at this; omega
 have B:∀v∈vs,v.oneCell'=true:=by rw[<-hl]; exact e.fl_one l
 have hf:=zY q.size hs vs 0 ((Array.range (m*q.size)).map (z.cells[·%z.cells.size]!)) B (by simp[hs,hm])
 simp only[gS,bJ,bh]at hf
 rw[gj (by simp[hs,hm]),bR]at hf
 refine gD (.slice (some ⟨w.heap.size,0,none⟩) m m) (w.alloc (.cells vs.toArray E)) (fun a J=>?_) ?_
 ·have I:(A.toArray.map fun x=>(x.1,a.eval x.2)).toList=(vs.zipIdx 0).map fun p=>(p.2,p.1):=by
   simp only[Array.toList_map]
   exact Env.parts_eq J hp
  have N:=run_buildSlice (P:=P) w T E m (A.toArray.map fun x=>(x.1,a.eval x.2)) vs.toArray q z hT hi G (by rw[hs]; simp; omega) (by rw[hs]; simp; omega) (by rw[I]; exact hf)
  simp only[execOp,Sem.run_bind,N,Result.andThen_ok]; rfl
 ·refine hS.push (Fr.alloc _ _ _) (o:=own e _ _) ?_ ?_
  ·refine⟨e.fl_length _,.inr ⟨w.heap.size,m,vs.toArray,E,?_,hS.fresh,Row.new w _ _,?_,?_,?_,?_⟩⟩
   ·rw[y]
   ·omega
   ·simp[maxLen]; omega
   ·simp[j,hm]
   ·rw[y,j,hl]; simp; exact aA (by omega)
  ·intro k O
   simp[OE.blk,Value.ownBlock]at O
   omega
theorem rt {j q bytes:Nat} (h:q<j) (B:j*bytes<=225000000000000) (A:bytes<=65536):Builtin.nextslicecap j q*bytes<=281474976710656:=by
 have y:Builtin.nextslicecap j q<=j+j / 4+512:=by
  unfold Builtin.nextslicecap
  split
  ·omega
  ·split
   ·omega
   ·rename_i G I
    rw[growBy_four]
    repeat' split
    all_goals omega
 calc Builtin.nextslicecap j q*bytes<=(j+j / 4+512)*bytes:=aR _ y
  _=j*bytes+j / 4*bytes+512*bytes:=by rw[aW,aW]
  _<=281474976710656:=by
   have:j / 4*bytes<=j*bytes / 4:=by
    rw[Nat.le_div_iff_mul_le (by omega)]
    calc j / 4*bytes*4=j / 4*4*bytes:=by rw[aF,aN bytes 4,<-aF]
     _<=j*bytes:=aR _ (Nat.div_mul_le_self _ _)
   omega
theorem oK (t ty e:TypeId) (i:TypeInfo) (N:P.underlying t=some (.slice e)) (hi:P.info? e=some i)
  (g q A:Nat) (y:Array Value) (T:TypeId) (O:Row w g y T)
  (a:Addr) (m c:Nat) (news:List Value) (hl:news.length=m*i.size) (B:∀j u,news[j]? = some u->w.cell? (a.add j)=some u) (R:∀u∈news,u.oneCell'=true)
  (G:q+m<=A) (J:q*i.size+news.length<=y.size) :
  (Builtin.append_ #[t,t] ty #[.slice (some ⟨g,0,none⟩) q A,.slice (some a) m c]).run P w =
   .ok (.slice (some ⟨g,0,none⟩) (q+m) A) (w.setRow g (y.toList.take (q*i.size)++news++y.toList.drop (q*i.size+news.length)).toArray):=by
 have hf:=run_firstCells_some (P:=P) w i.size m a m c news hl B
 have I:=gO P g (q*i.size) T news 0 y w O (by simpa using J) R
 simp only[bA]at I
 simp[Builtin.append_,run_underlying N,sizeOf,typeInfo,hi,Builtin.lenOf,G,hf,Addr.add_lit,I]
theorem kQ (t ty e:TypeId) (i:TypeInfo) (A:P.underlying t=some (.slice e)) (hi:P.info? e=some i) (v:Value) (b:Option Addr) (j q c:Nat) (B:v=.slice b j q) (y:j<=q) (x:Option Addr) :
  (Builtin.append_ #[t,t] ty #[v,.slice x 0 c]).run P w=.ok v w:=by
 subst B
 cases b <;> cases x <;> simp[Builtin.append_,run_underlying A,sizeOf,typeInfo,hi,Builtin.lenOf,y,Builtin.firstCells,loadCells,loadCellsFrom,storeCells]
theorem nC {T E ty:TypeId} {τ:Type} {e:Enc τ} {z:Value} {bytes:Nat} {v u:Value} {l m:List τ} {B:Nat} (hT:P.underlying T=some (.slice E)) (hE:TI P E z e.sz bytes) (hz:z.cells.size=e.sz) (b4:bytes<=65536) (bx:0<bytes)
  (V:(own e v l).ok S B w) (hu:RO w e u m) (hB:B<=w.heap.size) (hb:(l.length+m.length)*bytes<=225000000000000) :
  ∃v' w',(Builtin.append_ #[T,T] ty #[v,u]).run P w=.ok v' w'/\(own e v' (l++m)).ok S B w'/\Fr (own e v l).blk.toList w w'/\(∀k,(own e v' (l++m)).blk=some k->(own e v l).blk=some k\/w.heap.size<=k):=by
 obtain⟨y,hi,ab,hs,ac⟩:=hE.get
 obtain⟨ua,c,rfl,hc,hr⟩:=hu
 by_cases hm:m=[]
 ·subst hm
  rcases V.2 with⟨rfl,hn⟩ | ⟨g,q,U,T',rfl,ad,X,ag,ap,aS,I⟩
  ·have hl:l=[]:=aZ hn
   subst hl
   refine⟨_,w,kQ T ty E y hT hi _ none 0 0 c rfl (av _) ua,?_,Fr.refl _ _,fun k J=>.inl (by simpa using J)⟩
   simpa using V
  ·refine⟨_,w,kQ T ty E y hT hi _ (some ⟨g,0,none⟩) l.length q c rfl ag ua,?_,Fr.refl _ _,fun k J=>.inl (by simpa using J)⟩
   simpa using V
 ·obtain⟨b,off,rfl,Y⟩:=hr hm
  have A:∀j x,(e.fl m)[j]? = some x->w.cell? ((⟨b,off,none⟩:Addr).add j)=some x:=fun j x R=>by rw[gK]; exact Y j x R
  have O:(e.fl m).length=m.length*y.size:=by rw[hs]; exact e.fl_length m
  have b7:0<m.length:=d8.2 hm
  have b8:l.length+m.length<=225000000000000:=bz (dP _ bx) hb
  rcases V.2 with⟨rfl,hn⟩ | ⟨g,q,U,T',rfl,ad,X,ag,ap,aS,I⟩
  ·have hl:l=[]:=aZ hn
   subst hl
   simp only[dw,bh]at hb b8
   have G:=run_append_nil (P:=P) w T ty E y z hT hi ab ⟨b,off,none⟩ m.length c (e.fl m) O A b7 (by omega) (by rw[ac]; omega)
   refine⟨_,_,G,⟨e.fl_length _,.inr ⟨w.heap.size,grownCap w m.length 0 E,_,E,?_,?_,Row.new w.drew _ _,?_,?_,?_,?_⟩⟩,?_,?_⟩
   ·simp
   ·exact .inl hB
   ·simp; exact grownCap_ge w m.length 0 E
   ·exact grownCap_le_maxLen w m.length 0 E (by simp[maxLen]; omega)
   ·have:=grownCap_ge w m.length 0 E
    simp only[fZ,cJ,size_zeroCells,hz,e.fl_length,<-aW]
    exact aR _ (by omega)
   ·simp only[bJ,fy,gX]
    rw[<-e.fl_length]
    exact eD
   ·exact (Fr.drew _ w).trans (Fr.alloc _ _ _)
   ·intro k J
    simp[OE.blk,Value.ownBlock]at J
    right; omega
  ·by_cases hroom:l.length+m.length<=q
   ·have N:l.length*y.size+(e.fl m).length<=U.size:=by
     rw[O,<-aW]
     exact bz (aR _ hroom) (by rw[hs]; exact aS)
    have G:=oK (w:=w) T ty E y hT hi g l.length q U T' X ⟨b,off,none⟩ m.length c (e.fl m) O A (e.fl_one m) hroom N
    refine⟨_,_,G,⟨e.fl_length _,.inr ⟨g,q,_,T',?_,ad,X.set _ ?_,?_,ap,?_,?_⟩⟩,?_,?_⟩
    ·simp
    ·simp only[cJ,ay,aQ,bU,dn]at N ⊢
     omega
    ·simpa using hroom
    ·simp only[cJ,ay,aQ,bU,dn]at N ⊢
     omega
    ·rw[hs,I,ay,aW]
     simp only[aP]
     rw[<-aP,<-e.fl_append]
     have:l.length*e.sz+m.length*e.sz=(e.fl (l++m)).length:=by rw[e.fl_length,ay,aW]
     rw[this]
     exact eD
    ·exact Fr.setRow w g _
    ·intro k J
     left
     simpa [OE.blk,Value.ownBlock] using J
   ·have Z:∀j x,(e.fl l)[j]? = some x->w.cell? ((⟨g,0,none⟩:Addr).add j)=some x:=fun j x R=>by
     rw[gK,bh,X.cell j]
     rw[<-I,bK]at R
     split at R
     ·simpa using R
     ·cases R
    have b9:(e.fl l).length=l.length*y.size:=by rw[hs]; exact e.fl_length l
    have G:=run_append_grow (P:=P) w T ty E y z hT hi ab ⟨g,0,none⟩ l.length q (e.fl l) b9 Z ⟨b,off,none⟩ m.length c (e.fl m) O A (by omega) (by omega)
     (by rw[ac]; exact rt (by omega) hb b4)
    refine⟨_,_,G,⟨e.fl_length _,.inr ⟨w.heap.size,grownCap w (l.length+m.length) q E,_,E,?_,?_,Row.new w.drew _ _,?_,?_,?_,?_⟩⟩,?_,?_⟩
    ·simp
    ·exact .inl hB
    ·simp; exact grownCap_ge w (l.length+m.length) q E
    ·exact grownCap_le_maxLen w (l.length+m.length) q E (by simp[maxLen]; omega)
    ·have:=grownCap_ge w (l.length+m.length) q E
     simp only[fZ,cJ,size_zeroCells,hz,e.fl_length,<-aW]
     exact aR _ (by omega)
    ·simp only[fy,aP]
     rw[<-aP,<-e.fl_append,<-e.fl_length]
     exact eD
    ·exact (Fr.drew _ w).trans (Fr.alloc _ _ _)
    ·intro k J
     simp[OE.blk,Value.ownBlock]at J
     right; omega
theorem EA {x y:Operand} {T E:TypeId} {τ:Type} {e:Enc τ} {z:Value} {bytes:Nat} {v u:Value} {l m:List τ} {i:Nat} (hT:P.underlying T=some (.slice E)) (hE:TI P E z e.sz bytes) (hz:z.cells.size=e.sz) (A:bytes<=65536) (j:0<bytes)
  (hx:L.ev x=some v) (G:L.ev y=some u) (hS:St S w0 w os) (hi:os[i]? = some (own e v l)) (hu:RO w e u m) (I:(l.length+m.length)*bytes<=225000000000000) :
  OpX P n L w ⟨d,.call ⟨.builtin .append,#[x,y],#[T,T]⟩,ty,pos,after,none⟩ (fun q w'=>St S w0 w' (os.set i (own e q (l++m)))):=by
 obtain⟨q,w',J,N,O,R⟩:=nC (ty:=ty) hT hE hz A j (hS.ok _ (ba hi)) hu hS.fr.size I
 refine gD q w' (fun a B=>?_) (hS.set hi O N R)
 simp[execOp,resolve,invoke,builtin,B.ev hx,B.ev G,J]
theorem B1 {x y:Operand} {T E:TypeId} {τ:Type} {e:Enc τ} {z:Value} {bytes:Nat} {u:Value} {m:List τ} (hT:P.underlying T=some (.slice E)) (hE:TI P E z e.sz bytes) (hz:z.cells.size=e.sz) (A:bytes<=65536) (j:0<bytes)
  (hx:L.ev x=some (.slice none 0 0)) (G:L.ev y=some u) (hS:St S w0 w os) (hu:RO w e u m) (I:m.length*bytes<=225000000000000) :
  OpX P n L w ⟨d,.call ⟨.builtin .append,#[x,y],#[T,T]⟩,ty,pos,after,none⟩ (fun q w'=>St S w0 w' (own e q m :: os)):=by
 have hn:(own e (.slice none 0 0) ([]:List τ)).ok S w0.heap.size w:=⟨by simp,.inl ⟨rfl,rfl⟩⟩
 obtain⟨q,w',J,N,O,R⟩:=nC (ty:=ty) hT hE hz A j hn hu hS.fr.size (by simpa using I)
 refine gD q w' (fun a B=>?_) (hS.push (by simpa [OE.blk,Value.ownBlock] using O) N fun k U=>?_)
 ·simp[execOp,resolve,invoke,builtin,B.ev hx,B.ev G,J]
 ·rcases R k U with h | h
  ·simp[OE.blk,Value.ownBlock]at h
  ·exact h
theorem Lv {τ:Type} (e:Enc τ) (l:List τ) (j:Nat) (t:τ) (u:Value) (hu:e.cells t=[u]) (q:j<l.length):e.fl (l.set j t)=(e.fl l).set (j*e.sz) u:=by
 have y:e.sz=1:=by rw[<-e.len t,hu]; rfl
 have A:∀(l:List τ) (j:Nat),j<l.length->e.fl (l.set j t)=(e.fl l).set j u:=by
  intro l
  induction l with
  | nil=>intro j q; simp at q
  | cons a r ih=>
   intro j q
   have G:∃b,e.cells a=[b]:=List.length_eq_one_iff.1 (by rw[e.len,y])
   obtain⟨b,B⟩:=G
   cases j with
   | zero=>simp[Enc.fl,hu,B]
   | succ j=>
    have:=ih j (by simpa using q)
    simp only[Enc.fl,List.set_cons_succ,dM,B,gy]at this ⊢
    rw[this]
 rw[A l j q,y,cH]
theorem xV {T:TypeId} {z:Value} {bytes:Nat} (hT:TI P T z 1 bytes) {g j:Nat} {q:Array Value} {A:TypeId} {u:Value} (B:Row w g q A) (G:j<q.size) (hu:u.oneCell'=true) :
  (storeVar T ⟨g,j,none⟩ u).run P w=.ok () (w.setRow g (q.toList.set j u).toArray):=by
 obtain⟨J,hi,_,hs,_⟩:=hT.get
 have hc:u.cells=#[u]:=by cases u <;> simp_all [Value.cells,Value.oneCell']
 have y:=gO P g j A [u] 0 q w B (by simp; omega) (by simpa using hu)
 have I:(q.toList.take (j+0)++[u]++q.toList.drop (j+0+[u].length))=q.toList.set j u:=by
  simp only[bA,List.length_singleton]
  rw[fx,ah (by simpa using G)]
  simp
 rw[I]at y
 simp[storeVar,sizeOf,typeInfo,hi,hs,hc,y]
theorem um {x y:Operand} {T:TypeId} {τ:Type} {e:Enc τ} {z:Value} {bytes:Nat} {v u:Value} {l:List τ} {i j:Nat} {t:τ} (hT:TI P T z 1 bytes)
  (hx:L.ev x=some (pP (ixA v e.sz j))) (hy:L.ev y=some u) (hu:e.cells t=[u]) (hS:St S w0 w os) (hi:os[i]? = some (own e v l)) (hj:j<l.length) :
  OpY P n L w ⟨none,.store T x y,ty,pos,after,none⟩ (fun w'=>St S w0 w' (os.set i (own e v (l.set j t)))):=by
 have J:=hS.ok _ (ba hi)
 have q:e.sz=1:=by rw[<-e.len t,hu]; rfl
 have N:u.oneCell'=true:=e.one t u (by rw[hu]; simp)
 rcases J.2 with⟨rfl,hn⟩ | ⟨g,B,G,T',rfl,O,R,U,V,I,A⟩
 ·omega
 ·have X:j<G.size:=by rw[q]at I; omega
  have Y:ixA (.slice (some ⟨g,0,none⟩) l.length B) e.sz j=⟨g,j,none⟩:=by simp[ixA,gK,q]
  rw[Y]at hx
  have hr:=xV (P:=P) (T:=T) hT R X N
  refine ss (w.setRow g (G.toList.set j u).toArray) (fun a Z=>?_) (hS.set hi (Fr.setRow w g _) (o':=own e _ _) ⟨e.fl_length _,.inr ⟨g,B,_,T',by simp,O,R.set _ (by simp),by simpa using U,V,by simpa using I,?_⟩⟩ fun k hk=>.inl hk)
  ·simp[execOp,Z.ev hx,Z.ev hy,Instr.storeAt,Instr.sureAddr,hr]
  ·simp only[ig]
   rw[Lv e l j t u hu hj,<-A,q,cH,cH,List.take_set]
theorem FY {D T E:TypeId} {x:Operand} {l:List UInt8} (J:P.underlying D=some .string) (hT:P.underlying T=some (.slice E)) (hE:P.underlying E=some (.int .u8))
  (hx:L.ev x=some (vS l)) (hS:St S w0 w os) :
  OpX P n L w ⟨d,.convert D T x,ty,pos,after,none⟩ (fun v w'=>St S w0 w' (red e8 v l :: os)):=by
 have N:=Lib.run_convert_string_bytes (P:=P) w D T E ⟨⟨l⟩⟩ J hT hE
 have B:Fr [] w (Lib.bytesWorld w E ⟨⟨l⟩⟩):=⟨rfl,rfl,rfl,by rw[Lib.bytesWorld_size]; omega,fun k q _=>Lib.bytesWorld_at_old w E ⟨⟨l⟩⟩ k q⟩
 have G:(red e8 (.slice (some ⟨w.heap.size,0,none⟩) l.length (grownCap w (⟨⟨l⟩⟩:ByteArray).size 0 E)) l).ok S w0.heap.size (Lib.bytesWorld w E ⟨⟨l⟩⟩):=by
  refine⟨e8.fl_length l,_,_,rfl,grownCap_ge w _ 0 E,fun _=>⟨w.heap.size,0,rfl,?_,hS.fresh,fun j u A=>?_⟩⟩
  ·rw[Lib.bytesWorld_size]; exact Nat.lt_succ_self _
  ·rw[vg]at A
   have y:j<l.length:=by
    have:=(aD.1 A).1
    simpa using this
   rw[bh,Lib.bytesWorld_cell w E ⟨⟨l⟩⟩ j y]
   simp[y]at A
   subst A
   simp[List.getD,y]
 have I:St S w0 (Lib.bytesWorld w E ⟨⟨l⟩⟩) (red e8 (.slice (some ⟨w.heap.size,0,none⟩) l.length (grownCap w (⟨⟨l⟩⟩:ByteArray).size 0 E)) l :: os):=hS.push B G fun k q=>by
  simp only[OE.blk]at q
  split at q
  ·cases q
  ·simp[Value.ownBlock]at q; omega
 refine gD _ _ (fun a O=>?_) I
 simp only[execOp,O.ev hx,Sem.run_bind,N,Result.andThen_ok]; rfl
def Ret (φ:Value->World->Prop):Ending->World->Prop:=fun e w=>match e with
 | .returned v=>φ v w
 | _=>False
def jD (P:Program) (f:FuncId):Bool:=match P.funcs[f]? with
 | some fn => fn.body.isSome && fn.name != "runtime.NumGoroutine"
 | none=>false
theorem ra {f:FuncId} {args:Array Value} (h:jD P f=true):(callFunc f args).run P w=.ok (.enter f args) w:=by
 unfold jD at h
 split at h
 ·rename_i fn hf
  simp only[aK]at h
  have j : ¬ (fn.name == "runtime.NumGoroutine") = true := by simpa using h.2
  have q:fn.body.isNone=false:=by cases hb:fn.body <;> simp_all
  simp only[callFunc,Sem.run_bind,program,Sem.run,Result.andThen_ok,hf,j,q]
  rfl
 ·cases h
theorem tQ {o:Oper} {f:FuncId} {xs:List Operand} {j:Array TypeId} {vs:List Value} {a:Act} (q:o.op=.call ⟨.value (.func f),xs.toArray,j⟩)
  (hf:jD P f=true) (hargs:xs.map a.eval=vs):(execOp a.eval o).run P w=.ok (.enter f vs.toArray) w:=by
 simp only[execOp,q,resolve,Act.eval,Deferred.ofValue,Sem.run_bind,Sem.run_pure,Result.andThen_ok,invoke]
 have:(#[]++Array.map a.eval xs.toArray++#[]:Array Value)=vs.toArray:=by simp[hargs]
 rw[this]
 exact ra hf
theorem sj {o:Oper} {f:FuncId} {xs:List Operand} {q:Array TypeId} {vs:List Value} {φ:Value->World->Prop} {K:Act->World->Prop} {a:Act} (y:o.op=.call ⟨.value (.func f),xs.toArray,q⟩)
  (hf:jD P f=true) (hargs:xs.map a.eval=vs) (hc:Calls P f vs.toArray w (Ret φ)) (k:∀v w',φ v w'->K (a.put o.dst v) w'):o.wp P a w K Q:=by
 unfold Oper.wp
 rw[tQ y hf hargs]
 refine Calls.mono hc fun e w' j=>?_
 cases e with
 | returned v=>exact k v w' j
 | panicked c=>exact j.elim
 | outgrown=>exact j.elim
theorem lW {ops:Array Oper} {rest:List Oper} {d:Nat} {f:FuncId} {xs:List Operand} {q:Array TypeId} {vs:List Value} {φ:Value->World->Prop}
  (hf:jD P f=true) (hargs:L.evs xs=some vs) (hc:Calls P f vs.toArray w (Ret φ)) (hd:Nat.blt d n=true)
  (k:∀v w',φ v w'->wpR P n ops Q rest ((d,v) :: L) w'):wpR P n ops Q (⟨some d,.call ⟨.value (.func f),xs.toArray,q⟩,ty,pos,after,none⟩ :: rest) L w:=fun a j=>by
 unfold wpList
 rw[ah (by simp[Region.wanted])]
 exact .inl (sj rfl hf (j.evs hargs) hc fun v w' h=>k v w' h _ (j.put hd))
theorem kx {ops:Array Oper} {rest:List Oper} {d:Nat} {f:FuncId} {xs:List Operand} {j:Array TypeId} {vs:List Value} {φ:Value->World->Prop}
  (hargs:L.evs xs=some vs) (hc:Calls P f vs.toArray w (Ret φ)) (hd:Nat.blt d n=true)
  (k:∀v w',φ v w'->wpR P n ops Q rest ((d,v) :: L) w') (hf:jD P f=true:=by kernel_rfl):wpR P n ops Q (⟨some d,.call ⟨.value (.func f),xs.toArray,j⟩,ty,pos,after,none⟩ :: rest) L w:=lW hf hargs hc hd k
theorem kf {ops:Array Oper} {C D:World->Prop} {fl:Nat->Bool} {i:Nat} {r:List Nat} {d:Nat} {f:FuncId} {xs:List Operand} {A:Array TypeId} {vs:List Value} {φ:Value->World->Prop} (B:C w)
  (j:ops[i]? = some ⟨some d,.call ⟨.value (.func f),xs.toArray,A⟩,ty,pos,after,none⟩) (q:fl i=false)
  (hf:jD P f=true) (hargs:L.evs xs=some vs) (hc:Calls P f vs.toArray w (Ret φ)) (hd:Nat.blt d n=true)
  (k:∀v w',φ v w'->lxE P n ops C D Q fl r ((d,v) :: L) w'):lxE P n ops C D Q fl (i :: r) L w:=fun a y=>by
 refine⟨B,?_⟩
 simp only[j,q,ai,ak]
 unfold wpOp
 simp only[j]
 rw[ah (by simp[Region.wanted])]
 exact .inl (sj rfl hf (y.evs hargs) hc fun v w' h=>k v w' h _ (y.put hd))
theorem gC {fn:Func} {t:Tmp} {v:Value} {φ:Value->World->Prop} (j:fn.results=#[.tmp t]) (y:L.get t=some v) (h:φ v w):QE n (bodyPost P fn (Ret φ)) .ret L w:=fun a q=>by
 refine⟨q.defers,v,?_,h⟩
 have:=q.get t v y
 simp[results,j,this]
theorem CT {fn:Func} {φ:Value->World->Prop} (j:fn.results=#[]) (h:φ (.tuple #[]) w):QE n (bodyPost P fn (Ret φ)) .normal L w:=fun a q=>by
 refine⟨q.defers,.tuple #[],?_,h⟩
 simp[results,j]
theorem jw {fn:Func} {y A:Tmp} {j q:Value} {φ:Value->World->Prop} (B:fn.results=#[.tmp y,.tmp A]) (I:L.get y=some j) (J:L.get A=some q) (h:φ (.tuple #[j,q]) w):QE n (bodyPost P fn (Ret φ)) .ret L w:=fun a G=>by
 refine⟨G.defers,.tuple #[j,q],?_,h⟩
 have N:=G.get y j I
 have O:=G.get A q J
 simp[results,B,N,O]
theorem sC {fn:Func} {A B t3:Tmp} {j q v3:Value} {φ:Value->World->Prop} (G:fn.results=#[.tmp A,.tmp B,.tmp t3]) (I:L.get A=some j) (J:L.get B=some q) (N:L.get t3=some v3) (h:φ (.tuple #[j,q,v3]) w):QE n (bodyPost P fn (Ret φ)) .ret L w:=fun a y=>by
 refine⟨y.defers,.tuple #[j,q,v3],?_,h⟩
 have O:=y.get A j I
 have R:=y.get B q J
 have g3:=y.get t3 v3 N
 simp[results,G,O,R,g3]
theorem pY {fn:Func} {B G t3 t4 t5 I:Tmp} {q y v3 v4 v5 A:Value} {φ:Value->World->Prop} (J:fn.results=#[.tmp B,.tmp G,.tmp t3,.tmp t4,.tmp t5,.tmp I]) (N:L.get B=some q) (O:L.get G=some y) (R:L.get t3=some v3) (U:L.get t4=some v4) (V:L.get t5=some v5) (X:L.get I=some A) (h:φ (.tuple #[q,y,v3,v4,v5,A]) w):QE n (bodyPost P fn (Ret φ)) .ret L w:=fun a j=>by
 refine⟨j.defers,.tuple #[q,y,v3,v4,v5,A],?_,h⟩
 have Y:=j.get B q N
 have Z:=j.get G y O
 have g3:=j.get t3 v3 R
 have g4:=j.get t4 v4 U
 have g5:=j.get t5 v5 V
 have g6:=j.get I A X
 simp[results,J,Y,Z,g3,g4,g5,g6]
def pR:Nat->List Value->Env
 | _,[]=>[]
 | k,v :: r=>(k,v) :: pR (k+1) r
theorem uF:∀(vs:List Value) (k i:Nat) (v:Value),(pR k vs).get i=some v->k<=i/\vs[i - k]? = some v
 | [],k,i,v,h=>by simp[pR,Env.get]at h
 | u :: r,k,i,v,h=>by
  simp only[pR,Env.get]at h
  by_cases hk:Nat.beq k i=true
  ·rw[hk]at h
   simp at h
   have:=bf hk
   subst this
   simp[h]
  ·simp only[hk]at h
   have:=uF r (k+1) i v (by simpa using h)
   refine⟨by omega,?_⟩
   rw[show i - k=(i - (k+1))+1 by omega]
   simpa using this.2
theorem I1 {f:FuncId} {fn:Func} {c:Code} {vs:List Value} {φ:Value->World->Prop} (hf:P.funcs[f]? = some fn) (j:fn.body=some c) (hn:Nat.ble vs.length fn.ntmps=true)
  (h:wpC P fn.ntmps c (bodyPost P fn (Ret φ)) (pR 0 vs) w):Calls P f vs.toArray w (Ret φ):=by
 refine calls_of_wp hf j (h _ ⟨rfl,?_,fun i v hi=>?_⟩)
 ·have:=an hn
  simp; omega
 ·have:=(uF vs 0 i v hi).2
  simp only[gM]at this
  have hl:i<vs.length:=(aD.1 this).1
  rw[Array.getElem?_append_left (by simpa using hl)]
  simpa using this
end
section
variable {P:Program} {n:Nat} {L:Env} {w w0:World} {Q:Exit->Act->World->Prop} {S:Y4} {os:List OE}
variable {d:Option Tmp} {ty:TypeId} {pos:String} {after:Array Edge}
theorem kP {x y:Operand} {T E:TypeId} {k:IntKind} {i:Int} {τ:Type} {e:Enc τ} {v:Value} {l:List τ} {t:τ} {z:Value} {bytes:Nat} (hT:P.underlying T=some (.slice E)) (hE:TI P E z e.sz bytes)
  (hx:L.ev x=some v) (q:L.ev y=some (.int k i)) (h:RO w e v l) (j:au l i=some t) :
  OpV P n L w ⟨d,.indexAddr T x y,ty,pos,after,none⟩ (pP (ixA v e.sz i.toNat)) w:=
 MK hT hE hx q h (gp j).1 (gp j).2.1
theorem kW {x:Operand} {T:TypeId} {D:TypeDesc} {τ:Type} {e:Enc τ} {v:Value} {l:List τ} {i:Int} {t:τ} {u:Value} (hT:P.underlying T=some D) (j:(match D with | .struct _ | .array _ _=>true | _=>false)=false)
  (hx:L.ev x=some (pP (ixA v e.sz i.toNat))) (h:RO w e v l) (q:au l i=some t) (hu:e.cells t=[u]) :
  OpV P n L w ⟨d,.load T x,ty,pos,after,none⟩ u w:=FC hT j hx h (gp q).2.2 hu
theorem OQ {x y:Operand} {T:TypeId} {k:IntKind} {i:Int} {l:Y3} {t:UInt8} (hT:P.underlying T=some .string)
  (hx:L.ev x=some (vS l)) (q:L.ev y=some (.int k i)) (j:au l i=some t) :
  OpV P n L w ⟨d,.index T x y,ty,pos,after,none⟩ (v8 t) w:=Kj hT hx q (gp j).1 (gp j).2.2
theorem qD {x y:Operand} {T:TypeId} {τ:Type} {e:Enc τ} {z:Value} {bytes:Nat} {v u:Value} {l:List τ} {i:Nat} {j:Int} {t q:τ} (hT:TI P T z 1 bytes)
  (hx:L.ev x=some (pP (ixA v e.sz j.toNat))) (A:L.ev y=some u) (hS:St S w0 w os) (hi:os[i]? = some (own e v l)) (B:au l j=some q) (hu:e.cells t=[u]) :
  OpY P n L w ⟨none,.store T x y,ty,pos,after,none⟩ (fun w'=>St S w0 w' (os.set i (own e v (l.set j.toNat t)))):=
 um hT hx A hu hS hi (gp B).2.1
theorem M6 {x y:Operand} {T:TypeId} {k:IntKind} {lo:Int} {l r:Y3} (hT:P.underlying T=some .string)
  (hx:L.ev x=some (vS l)) (j:L.ev y=some (.int k lo)) (q:drO l lo=some r) :
  OpV P n L w ⟨d,.slice T x (some y) none none,ty,pos,after,none⟩ (vS r) w:=by
 obtain⟨⟨A,B⟩,rfl⟩:=kD q
 exact IJ hT hx j A B
section
variable {T E:TypeId} {τ:Type} {e:Enc τ} {v:Value} {l r:List τ} {z0:Value} {bytes:Nat}
theorem Nw {x y z:Operand} {k q:IntKind} {lo hi:Int} (hT:P.underlying T=some (.slice E)) (hE:TI P E z0 e.sz bytes)
  (hx:L.ev x=some v) (A:L.ev y=some (.int k lo)) (hz:L.ev z=some (.int q hi)) (h:RO w e v l) (j:slO l lo hi=some r) :
  OpV P n L w ⟨d,.slice T x (some y) (some z) none,ty,pos,after,none⟩ (slV v e.sz lo.toNat hi.toNat) w:=
 Ma hT hE hx A hz h (fM j).1.1 (fM j).1.2.1 (fM j).1.2.2
theorem uh {x y:Operand} {k:IntKind} {lo:Int} (hT:P.underlying T=some (.slice E)) (hE:TI P E z0 e.sz bytes)
  (hx:L.ev x=some v) (q:L.ev y=some (.int k lo)) (h:RO w e v l) (j:drO l lo=some r) :
  OpV P n L w ⟨d,.slice T x (some y) none none,ty,pos,after,none⟩ (slV v e.sz lo.toNat l.length) w:=
 Lc hT hE hx q h (kD j).1.1 (kD j).1.2
theorem Ju {x z:Operand} {k:IntKind} {hi:Int} (hT:P.underlying T=some (.slice E)) (hE:TI P E z0 e.sz bytes)
  (hx:L.ev x=some v) (hz:L.ev z=some (.int k hi)) (h:RO w e v l) (j:tkO l hi=some r) :
  OpV P n L w ⟨d,.slice T x none (some z) none,ty,pos,after,none⟩ (slV v e.sz 0 hi.toNat) w:=
 J4 hT hE hx hz h (ot j).1.1 (ot j).1.2
theorem RO.g_sl {lo hi:Int} (h:RO w e v l) (j:slO l lo hi=some r):RO w e (slV v e.sz lo.toNat hi.toNat) r:=by
 obtain⟨⟨y,A,q⟩,rfl⟩:=fM j
 exact h.sub (by omega) q
theorem RO.g_sll {lo:Int} (h:RO w e v l) (j:drO l lo=some r):RO w e (slV v e.sz lo.toNat l.length) r:=by
 obtain⟨⟨y,q⟩,rfl⟩:=kD j
 exact h.subl q
theorem RO.g_slh {hi:Int} (h:RO w e v l) (j:tkO l hi=some r):RO w e (slV v e.sz 0 hi.toNat) r:=by
 obtain⟨⟨y,q⟩,rfl⟩:=ot j
 exact h.subh q
theorem RP.g_sl {lo hi:Int} (h:RP S w e v l) (j:slO l lo hi=some r):RP S w e (slV v e.sz lo.toNat hi.toNat) r:=by
 obtain⟨⟨y,A,q⟩,rfl⟩:=fM j
 exact h.sub (by omega) q
theorem RP.g_sll {lo:Int} (h:RP S w e v l) (j:drO l lo=some r):RP S w e (slV v e.sz lo.toNat l.length) r:=by
 obtain⟨⟨y,q⟩,rfl⟩:=kD j
 exact h.subl q
theorem RP.g_slh {hi:Int} (h:RP S w e v l) (j:tkO l hi=some r):RP S w e (slV v e.sz 0 hi.toNat) r:=by
 obtain⟨⟨y,q⟩,rfl⟩:=ot j
 exact h.subh q
theorem RP.nil (S:Y4) (w:World):RP S w e (.slice none 0 0) ([]:List τ):=⟨RO.nil w e,by simp[Value.ownBlock]⟩
end
theorem rV {T E:TypeId} {x y:Operand} {k j:IntKind} {l c:Int} {τ:Type} {e:Enc τ} {t0:τ} {r:List τ} {z:Value} {bytes:Nat} (hT:P.underlying T=some (.slice E)) (hE:TI P E z e.sz bytes) (hz:z.cells.toList=e.cells t0)
  (hx:L.ev x=some (.int k l)) (q:L.ev y=some (.int j c)) (hS:St S w0 w os) (A:mkO bytes l c t0=some r) :
  OpX P n L w ⟨d,.makeSlice T x y,ty,pos,after,none⟩ (fun v w'=>St S w0 w' (own e v r :: os)):=by
 obtain⟨rfl,B,G,I,J⟩:=Ia A
 exact Ii hT hE hz hx q hS B G I J
theorem qi {x y:Operand} {T E:TypeId} {τ:Type} {e:Enc τ} {z:Value} {bytes:Nat} {v u:Value} {l m r:List τ} {i:Nat} (hT:P.underlying T=some (.slice E)) (hE:TI P E z e.sz bytes) (hz:(Nat.beq z.cells.size e.sz&&Nat.ble bytes 65536&&Nat.blt 0 bytes)=true)
  (hx:L.ev x=some v) (j:L.ev y=some u) (hS:St S w0 w os) (hi:os[i]? = some (own e v l)) (hu:RO w e u m) (q:apO bytes l m=some r) :
  OpX P n L w ⟨d,.call ⟨.builtin .append,#[x,y],#[T,T]⟩,ty,pos,after,none⟩ (fun A w'=>St S w0 w' (os.set i (own e A r))):=by
 obtain⟨rfl,B⟩:=oC q
 simp only[aK,fp]at hz
 exact EA hT hE (bf hz.1.1) (an hz.1.2) hz.2 hx j hS hi hu B
theorem FN {x y:Operand} {T E:TypeId} {τ:Type} {e:Enc τ} {z:Value} {bytes:Nat} {u:Value} {m r:List τ} (hT:P.underlying T=some (.slice E)) (hE:TI P E z e.sz bytes) (hz:(Nat.beq z.cells.size e.sz&&Nat.ble bytes 65536&&Nat.blt 0 bytes)=true)
  (hx:L.ev x=some (.slice none 0 0)) (j:L.ev y=some u) (hS:St S w0 w os) (hu:RO w e u m) (q:apO bytes [] m=some r) :
  OpX P n L w ⟨d,.call ⟨.builtin .append,#[x,y],#[T,T]⟩,ty,pos,after,none⟩ (fun A w'=>St S w0 w' (own e A r :: os)):=by
 obtain⟨rfl,B⟩:=oC q
 simp only[aK,fp]at hz
 exact B1 hT hE (bf hz.1.1) (an hz.1.2) hz.2 hx j hS hu (by simpa using B)
theorem St.call {w':World} {os':List OE} (h:St S w0 w os) (B:St [] w w' os'):St S w0 w' (os'++os):=by
 have hf:Fr [] w w':=B.fr
 have I:∀o∈os',∀k,o.blk=some k->w.heap.size<=k:=fun o q k J=>by
  rcases ((B.ok o q).lt J).2 with j | j
  ·exact j
  ·simp at j
 refine⟨h.fr.step hf (by simp),fun o q=>?_,?_⟩
 ·rcases bG.1 q with q | q
  ·have y:=B.ok o q
   have Y:=h.fr.size
   cases o with
   | sl v sz m cs=>
    refine⟨y.1,?_⟩
    rcases y.2 with hn | ⟨g,O,R,T,N,A,rest⟩
    ·exact .inl hn
    ·refine .inr ⟨g,O,R,T,N,.inl ?_,rest⟩
     rcases A with j | j
     ·omega
     ·simp at j
   | rd v sz m cs=>
    obtain⟨hl,a,c,N,hc,hx⟩:=y
    refine⟨hl,a,c,N,hc,fun hn=>?_⟩
    obtain⟨b,off,j,U,G,X⟩:=hx hn
    refine⟨b,off,j,U,.inl ?_,X⟩
    rcases G with G | G
    ·omega
    ·simp at G
   | bx b cs=>
    obtain⟨A,hh⟩:=y
    refine⟨.inl ?_,hh⟩
    rcases A with j | j
    ·omega
    ·simp at j
  ·exact (h.ok o q).fr hf (by simp)
 ·rw[ci]
  refine⟨B.dj,h.dj,fun o q p hp k J V=>?_⟩
  have j:=I o q k J
  have U:=((h.ok p hp).lt V).1
  omega
theorem St.pick {os':List OE} (h:St S w0 w os) (j:Y4) (hn:j.Nodup) (J:os'.map some=j.map (fun i=>os[i]?)):St S w0 w os':=by
 have ab:os'.length=j.length:=by have:=cv List.length J; simpa using this
 have q:∀k (I:k<os'.length),∃(A:k<j.length),os[j[k]]? = some os'[k]:=fun k I=>by
  have B:(os'.map some)[k]? = (j.map (fun i=>os[i]?))[k]?:=by rw[J]
  have A:k<j.length:=by omega
  simp[I,A]at B
  exact⟨A,B.symm⟩
 refine⟨h.fr,fun o ho=>?_,?_⟩
 ·obtain⟨k,I,rfl⟩:=List.getElem_of_mem ho
  obtain⟨A,B⟩:=q k I
  exact h.ok _ (ba B)
 ·rw[fe]
  intro a b ha hb N
  obtain⟨O,B⟩:=q a ha
  obtain⟨R,h2⟩:=q b hb
  have U:j[a]≠j[b]:=by
   have:=fe.1 hn a b O R N
   exact this
  have hd:∀x y (hx:x<os.length) (hy:y<os.length),x<y->(os[x]).dj (os[y]):=fe.1 h.dj
  obtain⟨V,X⟩:=aD.1 B
  obtain⟨Y,Z⟩:=aD.1 h2
  rcases Nat.lt_or_gt_of_ne U with G | G
  ·have:=hd _ _ V Y G; rw[X,Z]at this; exact this
  ·have:=hd _ _ Y V G; rw[X,Z]at this; exact this.symm
def ndB:Y4->Bool
 | []=>true
 | x :: l=>!(l.any (Nat.beq x))&&ndB l
theorem xz:∀l:Y4,ndB l=true->l.Nodup
 | [],_=>List.nodup_nil
 | x :: l,h=>by
  unfold ndB at h
  rw[aK]at h
  refine List.nodup_cons.2 ⟨fun hm=>?_,xz l h.2⟩
  have j:=h.1
  rw[List.any_eq_true.2 ⟨x,hm,Nat.beq_refl x⟩]at j
  cases j
theorem St.pk {os':List OE} (h:St S w0 w os) (j:Y4) (hn:ndB j=true) (q:os'.map some=j.map (fun i=>os[i]?)):St S w0 w os':=h.pick j (xz j hn) q
theorem St.drew (h:St S w0 w os):St S w0 w.drew os:=h.step (Fr.drew [] w)
theorem St.nil {τ:Type} (e:Enc τ) (h:St S w0 w os):St S w0 w (own e (.slice none 0 0) ([]:List τ) :: os):=
 ⟨h.fr,fun o j=>by
  rcases aJ.1 j with rfl | j
  ·exact⟨by simp,.inl ⟨rfl,rfl⟩⟩
  ·exact h.ok o j,List.Pairwise.cons (fun p _ k q=>by simp[OE.blk,Value.ownBlock]at q) h.dj⟩
theorem kv {ops:Array Oper} {o:Oper} {a:Act} {j:Nat} {q b:Bool} {t:Tmp} (y:Rep n L a) (A:o.guard=some (j,q)) (B:(ops[j]?).bind (·.dst)=some t) (G:L.get t=some (vB b)) :
  Region.wanted o (yielded ops a.tmps)=(b == q):=by
 have:=y.get t _ G
 simp[Region.wanted,A,yielded,B,this]
theorem cc {ops:Array Oper} {rest:List Oper} {d:Nat} {op:Op} {v:Value} {w':World} {j:Nat} {q:Bool} {t:Tmp}
  (A:(ops[j]?).bind (·.dst)=some t) (B:L.get t=some (vB q))
  (G:OpV P n L w ⟨some d,op,ty,pos,after,none⟩ v w') (hd:Nat.blt d n=true)
  (h:wpR P n ops Q rest ((d,v) :: L) w'):wpR P n ops Q (⟨some d,op,ty,pos,after,some (j,q)⟩ :: rest) L w:=fun a y=>by
 unfold wpList
 rw[ah (by rw[kv y rfl A B]; simp)]
 refine .inl ?_
 have:=G a y
 unfold Oper.wp
 have I:execOp a.eval ⟨some d,op,ty,pos,after,some (j,q)⟩=execOp a.eval ⟨some d,op,ty,pos,after,none⟩:=by cases op <;> rfl
 rw[I,this]
 exact h _ (y.put hd)
theorem wT {ops:Array Oper} {rest:List Oper} {d:Nat} {op:Op} {j:Nat} {q b:Bool} {t:Tmp}
  (B:(ops[j]?).bind (·.dst)=some t) (G:L.get t=some (vB b)) (y:(b == q)=false) (hd:Nat.blt d n=true)
  (h:wpR P n ops Q rest ((d,undef) :: L) w):wpR P n ops Q (⟨some d,op,ty,pos,after,some (j,q)⟩ :: rest) L w:=fun a A=>by
 unfold wpList
 rw[ae (by rw[kv A rfl B G,y]; simp)]
 exact h _ (A.put hd)
theorem qR {ops:Array Oper} {o:Oper} {a:Act} {j:Nat} {q:Bool} {t:Tmp} (y:Rep n L a) (A:o.guard=some (j,q)) (B:(ops[j]?).bind (·.dst)=some t) (G:L.get t=some undef) :
  Region.wanted o (yielded ops a.tmps)=false:=by
 have:=y.get t _ G
 simp[Region.wanted,A,yielded,B,this,undef]
theorem Dp {ops:Array Oper} {rest:List Oper} {d:Nat} {op:Op} {j:Nat} {q:Bool} {t:Tmp}
  (A:(ops[j]?).bind (·.dst)=some t) (B:L.get t=some undef) (hd:Nat.blt d n=true)
  (h:wpR P n ops Q rest ((d,undef) :: L) w):wpR P n ops Q (⟨some d,op,ty,pos,after,some (j,q)⟩ :: rest) L w:=fun a y=>by
 unfold wpList
 rw[ae (by rw[qR y rfl A B]; simp)]
 exact h _ (y.put hd)
theorem En {ops:Array Oper} {C D:World->Prop} {fl:Nat->Bool} {i:Nat} {r:Y4} {d:Nat} {op:Op} {j:Nat} {q:Bool} {t:Tmp} (A:C w) (B:ops[i]? = some ⟨some d,op,ty,pos,after,some (j,q)⟩) (hf:fl i=true)
  (G:(ops[j]?).bind (·.dst)=some t) (I:L.get t=some undef) (hd:Nat.blt d n=true) (h:lxE P n ops C D Q fl r ((d,undef) :: L) w):lxE P n ops C D Q fl (i :: r) L w:=fun a y=>by
 refine⟨A,?_⟩
 simp only[B,hf,am]
 exact⟨undef,.inl (.inr ⟨qR y rfl G I,rfl⟩),h _ (y.put hd)⟩
theorem wQ {ops:Array Oper} {rest:List Oper} {d:Nat} {f:FuncId} {xs:List Operand} {A:Array TypeId} {vs:List Value} {φ:Value->World->Prop} {j:Nat} {q:Bool} {t:Tmp}
  (B:(ops[j]?).bind (·.dst)=some t) (G:L.get t=some (vB q))
  (hf:jD P f=true) (hargs:L.evs xs=some vs) (hc:Calls P f vs.toArray w (Ret φ)) (hd:Nat.blt d n=true)
  (k:∀v w',φ v w'->wpR P n ops Q rest ((d,v) :: L) w'):wpR P n ops Q (⟨some d,.call ⟨.value (.func f),xs.toArray,A⟩,ty,pos,after,some (j,q)⟩ :: rest) L w:=fun a y=>by
 unfold wpList
 rw[ah (by rw[kv y rfl B G]; simp)]
 exact .inl (sj rfl hf (y.evs hargs) hc fun v w' h=>k v w' h _ (y.put hd))
theorem nu {ops:Array Oper} {rest:List Oper} {d:Nat} {f:FuncId} {xs:List Operand} {j:Array TypeId} {vs:List Value} {V:Value} {os':List OE}
  (hS:St S w0 w os) (hargs:L.evs xs=some vs) (hc:Calls P f vs.toArray w (Ret fun v w'=>v=V/\St [] w w' os')) (hd:Nat.blt d n=true)
  (k:∀w',St S w0 w' (os'++os)->wpR P n ops Q rest ((d,V) :: L) w') (hf:jD P f=true:=by kernel_rfl):wpR P n ops Q (⟨some d,.call ⟨.value (.func f),xs.toArray,j⟩,ty,pos,after,none⟩ :: rest) L w:=
 lW hf hargs hc hd fun v w' ⟨e,h⟩=>by subst e; exact k w' (hS.call h)
theorem MG {ops:Array Oper} {rest:List Oper} {d:Nat} {f:FuncId} {xs:List Operand} {j:Array TypeId} {vs:List Value} {α:Type} {V:α->Value} {os':α->List OE}
  (hS:St S w0 w os) (hargs:L.evs xs=some vs) (hc:Calls P f vs.toArray w (Ret fun v w'=>∃a,v=V a/\St [] w w' (os' a))) (hd:Nat.blt d n=true)
  (k:∀a w',St S w0 w' (os' a++os)->wpR P n ops Q rest ((d,V a) :: L) w') (hf:jD P f=true:=by kernel_rfl):wpR P n ops Q (⟨some d,.call ⟨.value (.func f),xs.toArray,j⟩,ty,pos,after,none⟩ :: rest) L w:=
 lW hf hargs hc hd fun v w' ⟨a,e,h⟩=>by subst e; exact k a w' (hS.call h)
theorem uD {ops:Array Oper} {rest:List Oper} {d:Nat} {f:FuncId} {xs:List Operand} {j:Array TypeId} {vs:List Value} {os':Value->List OE}
  (hS:St S w0 w os) (hargs:L.evs xs=some vs) (hc:Calls P f vs.toArray w (Ret fun v w'=>St [] w w' (os' v))) (hd:Nat.blt d n=true)
  (k:∀v w',St S w0 w' (os' v++os)->wpR P n ops Q rest ((d,v) :: L) w') (hf:jD P f=true:=by kernel_rfl):wpR P n ops Q (⟨some d,.call ⟨.value (.func f),xs.toArray,j⟩,ty,pos,after,none⟩ :: rest) L w:=
 lW hf hargs hc hd fun v w' h=>k v w' (hS.call h)
theorem gu {ops:Array Oper} {C D:World->Prop} {fl:Nat->Bool} {i:Nat} {r:Y4} {d:Nat} {op:Op} {v:Value} {j:Nat} {q:Bool} {t:Tmp} (B:C w) (G:ops[i]? = some ⟨some d,op,ty,pos,after,some (j,q)⟩) (hf:fl i=true)
  (I:(ops[j]?).bind (·.dst)=some t) (J:L.get t=some (vB q))
  (N:∀w,C w->OpV P n L w ⟨some d,op,ty,pos,after,none⟩ v w) (hd:Nat.blt d n=true) (h:lxE P n ops C D Q fl r ((d,v) :: L) w):lxE P n ops C D Q fl (i :: r) L w:=fun a y=>by
 refine⟨B,?_⟩
 simp only[G,hf,am]
 have O:execOp a.eval ⟨some d,op,ty,pos,after,some (j,q)⟩=execOp a.eval ⟨some d,op,ty,pos,after,none⟩:=by cases op <;> rfl
 exact⟨v,.inl (.inl ⟨by rw[kv y rfl I J]; simp,fun w' A=>by rw[O]; exact N w' A a y⟩),h _ (y.put hd)⟩
theorem eG {ops:Array Oper} {C D:World->Prop} {fl:Nat->Bool} {i:Nat} {r:Y4} {d:Nat} {op:Op} {j:Nat} {q b:Bool} {t:Tmp} (B:C w) (G:ops[i]? = some ⟨some d,op,ty,pos,after,some (j,q)⟩) (hf:fl i=true)
  (I:(ops[j]?).bind (·.dst)=some t) (J:L.get t=some (vB b)) (y:(b == q)=false) (hd:Nat.blt d n=true) (h:lxE P n ops C D Q fl r ((d,undef) :: L) w):lxE P n ops C D Q fl (i :: r) L w:=fun a A=>by
 refine⟨B,?_⟩
 simp only[G,hf,am]
 exact⟨undef,.inl (.inr ⟨by rw[kv A rfl I J,y],rfl⟩),h _ (A.put hd)⟩
theorem Gh {ops:Array Oper} {C D:World->Prop} {fl:Nat->Bool} {i:Nat} {r:Y4} {d:Nat} {f:FuncId} {xs:List Operand} {G:Array TypeId} {vs:List Value} {φ:Value->World->Prop} {j:Nat} {q:Bool} {t:Tmp} (I:C w)
  (A:ops[i]? = some ⟨some d,.call ⟨.value (.func f),xs.toArray,G⟩,ty,pos,after,some (j,q)⟩) (B:fl i=false) (J:(ops[j]?).bind (·.dst)=some t) (N:L.get t=some (vB q))
  (hf:jD P f=true) (hargs:L.evs xs=some vs) (hc:Calls P f vs.toArray w (Ret φ)) (hd:Nat.blt d n=true)
  (k:∀v w',φ v w'->lxE P n ops C D Q fl r ((d,v) :: L) w'):lxE P n ops C D Q fl (i :: r) L w:=fun a y=>by
 refine⟨I,?_⟩
 simp only[A,B,ai,ak]
 unfold wpOp
 simp only[A]
 rw[ah (by rw[kv y rfl J N]; simp)]
 exact .inl (sj rfl hf (y.evs hargs) hc fun v w' h=>k v w' h _ (y.put hd))
theorem uB {ops:Array Oper} {C D:World->Prop} {fl:Nat->Bool} {i:Nat} {r:Y4} {d:Nat} {op:Op} {j:Nat} {q b:Bool} {t:Tmp} (G:C w) (y:ops[i]? = some ⟨some d,op,ty,pos,after,some (j,q)⟩) (hf:fl i=false)
  (I:(ops[j]?).bind (·.dst)=some t) (J:L.get t=some (vB b)) (A:(b == q)=false) (hd:Nat.blt d n=true) (h:lxE P n ops C D Q fl r ((d,undef) :: L) w):lxE P n ops C D Q fl (i :: r) L w:=fun a B=>by
 refine⟨G,?_⟩
 simp only[y,hf,ai,ak]
 unfold wpOp
 simp only[y]
 rw[ae (by rw[kv B rfl I J,A]; simp)]
 exact h _ (B.put hd)
theorem eZ {f:FuncId} {fn:Func} {c:Code} {vs:List Value} {φ:Value->World->Prop} (n:Nat) (hf:P.funcs[f]? = some fn) (j:fn.body=some c) (hn:fn.ntmps=n) (hl:Nat.ble vs.length n=true)
  (h:wpC P n c (bodyPost P fn (Ret φ)) (pR 0 vs) w):Calls P f vs.toArray w (Ret φ):=by
 subst hn
 exact I1 hf j hl h
theorem ji {σ ρ:Type} {c:Code} {r:ρ} (f:σ->Option (σ⊕ρ)) (I:σ->Env->World->Prop)
  (j:∀k s L w x,I s L w->(∀y A w',I y A w'->jE f k y=some r->wpN P n c Q k A w')->f s=some x->lk f k r x->wpC P n c (Exit.then (Code.rounds P c Q k) Q) L w)
  (s:σ) (q:I s L w) (h:loop f s=some r):wpC P n (.loop c) Q L w:=by
 obtain⟨k,G⟩:=q7 h
 refine yV k ?_
 have B:∀k s L w,I s L w->jE f k s=some r->wpN P n c Q k L w:=by
  intro k
  induction k with
  | zero=>intro s L w _ h; simp[jE]at h
  | succ k ih=>
   intro s L w q h
   obtain⟨x,J,N⟩:=Kf h
   exact ki (j k s L w x q ih J N)
 exact B k s L w q G
theorem gI {γ ρ:Type} {x y:Code} {r:ρ} (J:γ->Env->World->Prop) (f:γ->Option ρ)
  (j:∀g L w,J g L w->f g=some r->wpC P n y Q L w)
  (hx:(∀g L w,J g L w->f g=some r->wpC P n y Q L w)->wpC P n x (Exit.then (y.wp P Q) Q) L w):wpC P n (.seq x y) Q L w:=
 cb (hx j)
end
section
variable {P:Program} {n:Nat} {L:Env} {w w0:World} {Q:Exit->Act->World->Prop} {S:Y4} {os:List OE}
variable {d:Option Tmp} {ty:TypeId} {pos:String} {after:Array Edge}
structure ExtF (P:Program) (f:FuncId) (e:Array Value->Sem Value):Prop where
 fn : ∃ fn, P.funcs[f]? = some fn /\ fn.body.isNone = true /\ (fn.name == "runtime.NumGoroutine") = false /\ (Extern.findNext fn).isNone = true /\ Extern.find fn = some e
end
section
variable {P:Program} {n:Nat} {L:Env} {w w0:World} {Q:Exit->Act->World->Prop} {S:Y4} {os:List OE}
variable {d:Option Tmp} {ty:TypeId} {pos:String} {after:Array Edge}
theorem nM {τ:Type} {e:Enc τ} {v:Value} {l:List τ} (h:RO w e v l) (k:Nat) (G:k<=l.length) :
  (Builtin.firstCells e.sz k v).run P w=.ok (e.fl (l.take k)).toArray w:=by
 obtain⟨a,c,rfl,hc,B⟩:=h
 cases a with
 | none=>
  have hl:l=[]:=by
   cases l with
   | nil=>rfl
   | cons x r=>obtain⟨b,off,h,_⟩:=B (by simp); cases h
  subst hl
  simp[Builtin.firstCells,Enc.fl]
 | some p=>
  by_cases hl:l=[]
  ·subst hl
   have:k=0:=by simpa using G
   subst this
   simp[Builtin.firstCells,loadCells,loadCellsFrom,Enc.fl]
  ·obtain⟨b,off,hp,q⟩:=B hl
   cases hp
   have A:(e.fl (l.take k)).length=k*e.sz:=by rw[e.fl_length,aQ]; congr 1; omega
   have:=run_loadCells_list (P:=P) w ⟨b,off,none⟩ (e.fl (l.take k)) (fun j u y=>by
    rw[gK]
    rw[e.fl_take,bK]at y
    split at y
    ·exact q j u y
    ·cases y)
   rw[A]at this
   exact this
theorem BZ {T T2 E ty:TypeId} {τ:Type} {e:Enc τ} {z:Value} {bytes:Nat} {v u:Value} {l m:List τ} {B lo hi:Nat} (hT:P.underlying T=some (.slice E)) (hE:TI P E z e.sz bytes) (j:e.sz=1)
  (Z:(own e v l).ok S B w) (hu:RO w e u m) (h1:lo<=hi) (V:hi<=l.length) :
  ∃w',(Builtin.copy_ #[T,T2] ty #[slV v e.sz lo hi,u]).run P w=.ok (vI (min m.length (hi - lo):Nat)) w'/\(own e v (cpL l m lo hi)).ok S B w'/\Fr (own e v l).blk.toList w w':=by
 obtain⟨b6,N,_,hs,_⟩:=hE.get
 have O:=nM (P:=P) hu (min m.length (hi - lo)) (Nat.min_le_left _ _)
 obtain⟨ua,uc,rfl,b7,b8⟩:=hu
 have R:cpL l m lo hi=l.take lo++m.take (min m.length (hi - lo))++l.drop (lo+min m.length (hi - lo)):=by
  unfold cpL
  congr 2
  by_cases h:m.length<=hi - lo
  ·rw[bm h,aA h,aA (av _)]
  ·rw[Nat.min_eq_right (by omega)]
 rcases Z.2 with⟨rfl,hn⟩ | ⟨g,y,A,T',rfl,ad,hg,ap,aS,Y,I⟩
 ·have hl:l=[]:=aZ hn
  subst hl
  have e1:hi=0:=by simpa using V
  have e2:lo=0:=by omega
  subst e1 e2
  have G:slV (.slice none 0 0) e.sz 0 0=.slice none 0 0:=rfl
  refine⟨w,?_,?_,Fr.refl _ _⟩
  ·rw[G]
   simp at O
   simp[Builtin.copy_,run_underlying hT,Builtin.lenOf,sizeOf,typeInfo,N,hs,O,goInt]
  ·rw[R]; simpa using Z
 ·have bx:e.fl (m.take (min m.length (hi - lo)))=(e.fl m).take (min m.length (hi - lo)):=by rw[e.fl_take,j,cH]
  have q:(e.fl (m.take (min m.length (hi - lo)))).length=min m.length (hi - lo):=by rw[e.fl_length,j]; simp
  have b4:lo+min m.length (hi - lo)<=A.size:=by rw[j]at Y; omega
  by_cases hcl:y=lo
  ·-- nothing can be laid
   have hz:hi - lo=0:=by omega
   refine⟨w,?_,?_,Fr.refl _ _⟩
   ·have G:slV (.slice (some ⟨g,0,none⟩) l.length y) e.sz lo hi=.slice (some ⟨g,0,none⟩) (hi - lo) (y - lo):=by simp[slV,hcl]
    rw[G]
    simp only[hz,Nat.min_zero]at O ⊢
    simp[Builtin.copy_,run_underlying hT,Builtin.lenOf,sizeOf,typeInfo,N,hs,O,goInt,Enc.fl,storeCells]
   ·rw[R,hz]; simpa using Z
  ·have G:slV (.slice (some ⟨g,0,none⟩) l.length y) e.sz lo hi=.slice (some ⟨g,lo,none⟩) (hi - lo) (y - lo):=by simp[slV,hcl,gK,j]
   have U:=gO P g lo T' (e.fl (m.take (min m.length (hi - lo)))) 0 A w hg (by rw[q]; omega) (e.fl_one _)
   simp only[bA]at U
   obtain⟨X,J⟩:∃X,X=(A.toList.take lo++e.fl (m.take (min m.length (hi - lo)))++A.toList.drop (lo+(e.fl (m.take (min m.length (hi - lo)))).length)).toArray:=⟨_,rfl⟩
   rw[<-J]at U
   refine⟨w.setRow g X,?_,⟨e.fl_length _,.inr ⟨g,y,X,T',?_,ad,hg.set _ ?_,?_,aS,?_,?_⟩⟩,Fr.setRow w g _⟩
   ·rw[G]
    simp[Builtin.copy_,run_underlying hT,Builtin.lenOf,sizeOf,typeInfo,N,hs,O,U,goInt]
   ·rw[ka l m lo hi h1 V]
   ·rw[J]
    simp only[cJ,ay,aQ,bU,dn,q]
    omega
   ·rw[ka l m lo hi h1 V]; exact ap
   ·rw[J]
    simp only[cJ,ay,aQ,bU,dn,q,j]at Y ⊢
    omega
   ·rw[ka l m lo hi h1 V,R,e.fl_append,e.fl_append]
    have e3:A.toList.take lo=e.fl (l.take lo):=by
     rw[e.fl_take,<-I,List.take_take,j]; congr 1; omega
    rw[J,e3,q]
    simp only[gX]
    rw[List.take_append]
    have e4:(e.fl (l.take lo)++e.fl (m.take (min m.length (hi - lo)))).length=lo+min m.length (hi - lo):=by
     rw[ay,q,e.fl_length,j,aQ]; omega
    rw[aA (by rw[e4,j]; omega),e4]
    congr 1
    rw[e.fl_drop,<-I,j,List.take_drop]
    simp only[cH]
    congr 1
    congr 1
    omega
theorem Jn {v:Value} {τ:Type} {e:Enc τ} {l:List τ} (h:RO w e v l):slV v e.sz 0 l.length=v:=by
 obtain⟨a,c,rfl,hc,j⟩:=h
 simp only[slV,gM,fN]
 congr 1
 split
 ·rfl
 ·cases a <;> simp[Addr.add]
theorem tZ {x y:Operand} {T T2 E:TypeId} {τ:Type} {e:Enc τ} {z:Value} {bytes:Nat} {v u:Value} {l m:List τ} {i lo hi:Nat} (hT:P.underlying T=some (.slice E)) (hE:TI P E z e.sz bytes) (q:e.sz=1)
  (hx:L.ev x=some (slV v e.sz lo hi)) (B:L.ev y=some u) (hS:St S w0 w os) (j:os[i]? = some (own e v l)) (hu:RO w e u m) (G:lo<=hi) (I:hi<=l.length) :
  OpX P n L w ⟨d,.call ⟨.builtin .copy,#[x,y],#[T,T2]⟩,ty,pos,after,none⟩ (fun r w'=>r=vI (min m.length (hi - lo):Nat)/\St S w0 w' (os.set i (own e v (cpL l m lo hi)))):=by
 obtain⟨w',J,N,O⟩:=BZ (T2:=T2) (ty:=ty) hT hE q (hS.ok _ (ba j)) hu G I
 refine gD _ w' (fun a A=>?_) ⟨rfl,hS.set j O N fun k R=>.inl R⟩
 simp[execOp,resolve,invoke,builtin,A.ev hx,A.ev B,J]
theorem Hb {x y:Operand} {T T2 E:TypeId} {τ:Type} {e:Enc τ} {z:Value} {bytes:Nat} {v u:Value} {l m:List τ} {i:Nat} (hT:P.underlying T=some (.slice E)) (hE:TI P E z e.sz bytes) (q:e.sz=1)
  (hx:L.ev x=some v) (A:L.ev y=some u) (hS:St S w0 w os) (j:os[i]? = some (own e v l)) (hu:RO w e u m) :
  OpX P n L w ⟨d,.call ⟨.builtin .copy,#[x,y],#[T,T2]⟩,ty,pos,after,none⟩ (fun r w'=>r=vI (min m.length l.length:Nat)/\St S w0 w' (os.set i (own e v (cpL l m 0 l.length)))):=by
 have h:=tZ (P:=P) (n:=n) (d:=d) (ty:=ty) (pos:=pos) (after:=after) (T2:=T2) (lo:=0) (hi:=l.length) hT hE q (by rw[Jn (hS.ro i j)]; exact hx) A hS j hu (eM _) (av _)
 exact h
theorem Ht {τ:Type} {e:Enc τ} {v:Value} {l:List τ} (h:RO w e v l) (k i:Nat):ixA (slV v e.sz 0 k) e.sz i=ixA v e.sz i:=by
 obtain⟨a,c,rfl,hc,j⟩:=h
 simp only[slV,fN]
 cases a with
 | none=>split <;> rfl
 | some p=>
  have:p.add 0=p:=by simp[Addr.add]
  split <;> simp[ixA,this]
theorem RO.tk {τ:Type} {e:Enc τ} {v:Value} {l:List τ} (h:RO w e v l) {k:Nat} (j:k<=l.length):RO w e (slV v e.sz 0 k) (l.take k):=h.subh j
section
variable {T E:TypeId} {τ:Type} {e:Enc τ} {v:Value} {l r:List τ} {z0:Value} {bytes:Nat}
theorem EG {x z:Operand} {A:IntKind} {hi:Int} {k:Nat} (hT:P.underlying T=some (.slice E)) (hE:TI P E z0 e.sz bytes)
  (hx:L.ev x=some (slV v e.sz 0 k)) (hz:L.ev z=some (.int A hi)) (h:RO w e v l) (B:tkO l hi=some r) :
  OpV P n L w ⟨d,.slice T x none (some z) none,ty,pos,after,none⟩ (slV v e.sz 0 hi.toNat) w:=fun a q=>by
 obtain⟨⟨G,O⟩,_⟩:=ot B
 obtain⟨b,c,rfl,hc,_⟩:=h
 obtain⟨N,y,_,hs,_⟩:=hE.get
 have I:hi<=(c:Int):=by omega
 have j:L.ev x=some (.slice (if c=0 then b else b.map (·.add (0*e.sz))) (k - 0) (c - 0)):=hx
 have J:(if c=0 then b else b.map (·.add (0*e.sz)))=b:=by
  split
  ·rfl
  ·cases b <;> simp[Addr.add]
 rw[J]at j
 simp[execOp,q.ev j,q.ev hz,Instr.sliceAt,Instr.slice,run_underlying hT,Instr.sliceBounds,run_sliceBound,G,I,sizeOf,typeInfo,y,hs,slV]
theorem FF {x y:Operand} {j:IntKind} {i:Int} {t:τ} {k:Nat} (hT:P.underlying T=some (.slice E)) (hE:TI P E z0 e.sz bytes)
  (hx:L.ev x=some (slV v e.sz 0 k)) (q:L.ev y=some (.int j i)) (h:RO w e v l) (A:k<=l.length) (B:au (l.take k) i=some t) :
  OpV P n L w ⟨d,.indexAddr T x y,ty,pos,after,none⟩ (pP (ixA v e.sz i.toNat)) w:=by
 rw[<-Ht h k]
 exact kP hT hE hx q (h.tk A) B
end
theorem GG {τ:Type} {l:List τ} {k:Nat} {i:Int} {t:τ} (h:au (l.take k) i=some t):au l i=some t:=by
 unfold au at h ⊢
 split at h
 ·rw[ah ‹_›]
  rw[bK]at h
  split at h
  ·exact h
  ·cases h
 ·cases h
end
end Go.Gk
end
