import Derived.Tactics
import Derived.LoopN
import Derived.Below
import Derived.KernelRfl
import Derived.Lib.Strings
import Derived.Laws.CopyOwn
import Derived.Laws.MakeOwn
import Derived.Laws.AppendOwn
import Derived.Great.BuildSlice
import Derived.Deep.Draws
import Derived.Laws.BytesArg
import Derived.Laws.Slices
import Derived.Deep.Quiet
import Derived.Lib.ConvBytes
import Derived.Lib.Bytealg
set_option linter.unusedVariables false
set_option linter.unusedSimpArgs false
set_option linter.unusedSectionVars false
abbrev L8:=List UInt32
abbrev L00:=List UInt8
abbrev L01:=List Nat
section
namespace Go.Gk
theorem q11{p:Prop}(h:p:=by decide):p:=h
theorem q10{p:Prop}(h:p:=by omega):p:=h
theorem cG:type_of% @Array.getD_eq_getD_getElem?:=@Array.getD_eq_getD_getElem?
theorem du:type_of% @Array.getElem?_eq_some_iff:=@Array.getElem?_eq_some_iff
theorem gN:type_of% @Array.getElem?_replicate:=@Array.getElem?_replicate
theorem iI:type_of% @Array.getElem?_toList:=@Array.getElem?_toList
theorem fF:type_of% @Array.length_toList:=@Array.length_toList
theorem aW:type_of% @Bool.and_eq_true:=@Bool.and_eq_true
theorem dx:type_of% @Bool.eq_iff_iff:=@Bool.eq_iff_iff
theorem bK:type_of% @Bool.false_eq_true:=@Bool.false_eq_true
theorem fu:type_of% @Bool.or_eq_true:=@Bool.or_eq_true
theorem fH:type_of% @Bool.true_and:=@Bool.true_and
theorem iR:type_of% @Classical.byContradiction:=@Classical.byContradiction
theorem iJ:type_of% @Classical.choose_spec:=@Classical.choose_spec
theorem dI:type_of% @Fin.ext:=@Fin.ext
theorem gt:type_of% @Fin.val_mul:=@Fin.val_mul
theorem gg:type_of% @Int.emod_eq_of_lt:=@Int.emod_eq_of_lt
theorem jh:type_of% @Int.emod_nonneg:=@Int.emod_nonneg
theorem iN:type_of% @Int.fdiv_eq_ediv_of_nonneg:=@Int.fdiv_eq_ediv_of_nonneg
theorem gp:type_of% @Int.mul_nonneg:=@Int.mul_nonneg
theorem cU:type_of% @Int.natAbs_natCast:=@Int.natAbs_natCast
theorem jl:type_of% @Int.natCast_add:=@Int.natCast_add
theorem cv:type_of% @Int.natCast_emod:=@Int.natCast_emod
theorem dK:type_of% @Int.natCast_mul:=@Int.natCast_mul
theorem eb:type_of% @Int.natCast_nonneg:=@Int.natCast_nonneg
theorem bQ:type_of% @Int.tdiv_eq_ediv_of_nonneg:=@Int.tdiv_eq_ediv_of_nonneg
theorem dv:type_of% @Int.tmod_eq_emod_of_nonneg:=@Int.tmod_eq_emod_of_nonneg
theorem ao:type_of% @Int.toNat_natCast:=@Int.toNat_natCast
theorem jd:type_of% @Int.toNat_of_nonneg:=@Int.toNat_of_nonneg
theorem fL:type_of% @List.Perm.append_left:=@List.Perm.append_left
theorem cr:type_of% @List.all_eq_true:=@List.all_eq_true
theorem bh:type_of% @List.append_assoc:=@List.append_assoc
theorem dS:type_of% @List.append_nil:=@List.append_nil
theorem iG:type_of% @List.cons.injEq:=@List.cons.injEq
theorem i9:type_of% @List.cons_append:=@List.cons_append
theorem gW:type_of% @List.drop_append_of_le_length:=@List.drop_append_of_le_length
theorem ia:type_of% @List.drop_drop:=@List.drop_drop
theorem bZ:type_of% @List.drop_eq_getElem_cons:=@List.drop_eq_getElem_cons
theorem jb:type_of% @List.drop_length:=@List.drop_length
theorem bp:type_of% @List.drop_of_length_le:=@List.drop_of_length_le
theorem cR:type_of% @List.drop_zero:=@List.drop_zero
theorem bA:type_of% @List.eq_nil_of_length_eq_zero:=@List.eq_nil_of_length_eq_zero
theorem ew:type_of% @List.ext_getElem:=@List.ext_getElem
theorem jw:type_of% @List.ext_getElem?:=@List.ext_getElem?
theorem fo:type_of% @List.filter_congr:=@List.filter_congr
theorem dU:type_of% @List.flatMap_cons:=@List.flatMap_cons
theorem eo:type_of% @List.foldl_cons:=@List.foldl_cons
theorem ak:type_of% @List.getD_eq_getElem?_getD:=@List.getD_eq_getElem?_getD
theorem eK:type_of% @List.getElem?_append_left:=@List.getElem?_append_left
theorem dL:type_of% @List.getElem?_append_right:=@List.getElem?_append_right
theorem dt:type_of% @List.getElem?_drop:=@List.getElem?_drop
theorem aw:type_of% @List.getElem?_eq_getElem:=@List.getElem?_eq_getElem
theorem dw:type_of% @List.getElem?_eq_none:=@List.getElem?_eq_none
theorem br:type_of% @List.getElem?_eq_some_iff:=@List.getElem?_eq_some_iff
theorem f9:type_of% @List.getElem?_map:=@List.getElem?_map
theorem et:type_of% @List.getElem?_replicate:=@List.getElem?_replicate
theorem gd:type_of% @List.getElem?_set:=@List.getElem?_set
theorem iU:type_of% @List.getElem?_set_ne:=@List.getElem?_set_ne
theorem dp:type_of% @List.getElem?_set_self:=@List.getElem?_set_self
theorem bY:type_of% @List.getElem?_take:=@List.getElem?_take
theorem i0:type_of% @List.getElem_mem:=@List.getElem_mem
theorem js:type_of% @List.getElem_replicate:=@List.getElem_replicate
theorem aR:type_of% @List.length_append:=@List.length_append
theorem dN:type_of% @List.length_cons:=@List.length_cons
theorem bj:type_of% @List.length_drop:=@List.length_drop
theorem fw:type_of% @List.length_nil:=@List.length_nil
theorem fE:type_of% @List.length_pos_iff:=@List.length_pos_iff
theorem aZ:type_of% @List.length_replicate:=@List.length_replicate
theorem bM:type_of% @List.length_set:=@List.length_set
theorem gy:type_of% @List.length_singleton:=@List.length_singleton
theorem az:type_of% @List.length_take:=@List.length_take
theorem dm:type_of% @List.map_cons:=@List.map_cons
theorem ce:type_of% @List.mem_append:=@List.mem_append
theorem cg:type_of% @List.mem_append_left:=@List.mem_append_left
theorem bU:type_of% @List.mem_append_right:=@List.mem_append_right
theorem aJ:type_of% @List.mem_cons:=@List.mem_cons
theorem gU:type_of% @List.mem_cons_of_mem:=@List.mem_cons_of_mem
theorem fQ:type_of% @List.mem_cons_self:=@List.mem_cons_self
theorem kj:type_of% @List.mem_filter:=@List.mem_filter
theorem jN:type_of% @List.mem_flatMap:=@List.mem_flatMap
theorem bI:type_of% @List.mem_of_getElem?:=@List.mem_of_getElem?
theorem dY:type_of% @List.mem_range:=@List.mem_range
theorem jA:type_of% @List.mem_range'_1:=@List.mem_range'_1
theorem cZ:type_of% @List.nil_append:=@List.nil_append
theorem aM:type_of% @List.not_mem_nil:=@List.not_mem_nil
theorem da:type_of% @List.pairwise_append:=@List.pairwise_append
theorem jo:type_of% @List.pairwise_cons:=@List.pairwise_cons
theorem fJ:type_of% @List.pairwise_iff_getElem:=@List.pairwise_iff_getElem
theorem jE:type_of% @List.perm_middle:=@List.perm_middle
theorem gq:type_of% @List.range'_succ:=@List.range'_succ
theorem ez:type_of% @List.replicate_succ':=@List.replicate_succ'
theorem eQ:type_of% @List.set_append_right:=@List.set_append_right
theorem jC:type_of% @List.singleton_append:=@List.singleton_append
theorem eM:type_of% @List.size_toArray:=@List.size_toArray
theorem gR:type_of% @List.take_add_one:=@List.take_add_one
theorem ch:type_of% @List.take_append_drop:=@List.take_append_drop
theorem g9:type_of% @List.take_left:=@List.take_left
theorem cJ:type_of% @List.take_length:=@List.take_length
theorem aC:type_of% @List.take_of_length_le:=@List.take_of_length_le
theorem gh:type_of% @List.take_set_of_le:=@List.take_set_of_le
theorem dW:type_of% @Nat.add_assoc:=@Nat.add_assoc
theorem bW:type_of% @Nat.add_comm:=@Nat.add_comm
theorem bd:type_of% @Nat.add_mul:=@Nat.add_mul
theorem gK:type_of% @Nat.add_mul_div_left:=@Nat.add_mul_div_left
theorem gx:type_of% @Nat.add_mul_div_right:=@Nat.add_mul_div_right
theorem eJ:type_of% @Nat.add_mul_mod_self_left:=@Nat.add_mul_mod_self_left
theorem fp:type_of% @Nat.add_mul_mod_self_right:=@Nat.add_mul_mod_self_right
theorem fa:type_of% @Nat.add_sub_cancel:=@Nat.add_sub_cancel
theorem dZ:type_of% @Nat.add_sub_cancel_left:=@Nat.add_sub_cancel_left
theorem bb:type_of% @Nat.add_zero:=@Nat.add_zero
theorem dJ:type_of% @Nat.and_two_pow_sub_one_eq_mod:=@Nat.and_two_pow_sub_one_eq_mod
theorem gm:type_of% @Nat.blt_eq:=@Nat.blt_eq
theorem cQ:type_of% @Nat.div_add_mod:=@Nat.div_add_mod
theorem dq:type_of% @Nat.div_div_eq_div_mul:=@Nat.div_div_eq_div_mul
theorem bE:type_of% @Nat.div_eq_of_lt:=@Nat.div_eq_of_lt
theorem dy:type_of% @Nat.div_le_self:=@Nat.div_le_self
theorem fK:type_of% @Nat.div_lt_iff_lt_mul:=@Nat.div_lt_iff_lt_mul
theorem kn:type_of% @Nat.div_lt_self:=@Nat.div_lt_self
theorem gi:type_of% @Nat.div_mul_le_self:=@Nat.div_mul_le_self
theorem iK:type_of% @Nat.div_one:=@Nat.div_one
theorem ee:type_of% @Nat.dvd_of_mod_eq_zero:=@Nat.dvd_of_mod_eq_zero
theorem bP:type_of% @Nat.eq_of_beq_eq_true:=@Nat.eq_of_beq_eq_true
theorem bR:type_of% @Nat.eq_zero_or_pos:=@Nat.eq_zero_or_pos
theorem eg:type_of% @Nat.gcd_comm:=@Nat.gcd_comm
theorem jO:type_of% @Nat.gcd_dvd_left:=@Nat.gcd_dvd_left
theorem gO:type_of% @Nat.gcd_dvd_right:=@Nat.gcd_dvd_right
theorem jF:type_of% @Nat.gcd_rec:=@Nat.gcd_rec
theorem gv:type_of% @Nat.le_add_right:=@Nat.le_add_right
theorem dX:type_of% @Nat.le_mul_of_pos_right:=@Nat.le_mul_of_pos_right
theorem ai:type_of% @Nat.le_of_ble_eq_true:=@Nat.le_of_ble_eq_true
theorem fG:type_of% @Nat.le_of_dvd:=@Nat.le_of_dvd
theorem iT:type_of% @Nat.le_of_eq:=@Nat.le_of_eq
theorem bG:type_of% @Nat.le_of_lt:=@Nat.le_of_lt
theorem aq:type_of% @Nat.le_refl:=@Nat.le_refl
theorem aA:type_of% @Nat.le_trans:=@Nat.le_trans
theorem jW:type_of% @Nat.lt_irrefl:=@Nat.lt_irrefl
theorem dR:type_of% @Nat.lt_of_le_of_lt:=@Nat.lt_of_le_of_lt
theorem aO:type_of% @Nat.lt_of_lt_of_le:=@Nat.lt_of_lt_of_le
theorem cI:type_of% @Nat.lt_or_ge:=@Nat.lt_or_ge
theorem fT:type_of% @Nat.lt_trans:=@Nat.lt_trans
theorem aT:type_of% @Nat.min_eq_left:=@Nat.min_eq_left
theorem av:type_of% @Nat.mod_eq_of_lt:=@Nat.mod_eq_of_lt
theorem ba:type_of% @Nat.mod_lt:=@Nat.mod_lt
theorem eA:type_of% @Nat.mod_mod:=@Nat.mod_mod
theorem aF:type_of% @Nat.mul_add:=@Nat.mul_add
theorem aD:type_of% @Nat.mul_assoc:=@Nat.mul_assoc
theorem aP:type_of% @Nat.mul_comm:=@Nat.mul_comm
theorem ge:type_of% @Nat.mul_div_cancel_left:=@Nat.mul_div_cancel_left
theorem en:type_of% @Nat.mul_le_mul:=@Nat.mul_le_mul
theorem bf:type_of% @Nat.mul_le_mul_left:=@Nat.mul_le_mul_left
theorem bg:type_of% @Nat.mul_le_mul_right:=@Nat.mul_le_mul_right
theorem dO:type_of% @Nat.mul_left_comm:=@Nat.mul_left_comm
theorem ft:type_of% @Nat.mul_lt_mul_of_pos_left:=@Nat.mul_lt_mul_of_pos_left
theorem iA:type_of% @Nat.mul_lt_mul_of_pos_right:=@Nat.mul_lt_mul_of_pos_right
theorem cF:type_of% @Nat.mul_mod:=@Nat.mul_mod
theorem de:type_of% @Nat.mul_one:=@Nat.mul_one
theorem cb:type_of% @Nat.mul_zero:=@Nat.mul_zero
theorem ci:type_of% @Nat.one_mul:=@Nat.one_mul
theorem eu:type_of% @Nat.pos_of_ne_zero:=@Nat.pos_of_ne_zero
theorem bu:type_of% @Nat.pow_add:=@Nat.pow_add
theorem aE:type_of% @Nat.pow_le_pow_right:=@Nat.pow_le_pow_right
theorem iV:type_of% @Nat.pow_lt_pow_right:=@Nat.pow_lt_pow_right
theorem bB:type_of% @Nat.pow_mul:=@Nat.pow_mul
theorem dF:type_of% @Nat.pow_pos:=@Nat.pow_pos
theorem aU:type_of% @Nat.pow_succ:=@Nat.pow_succ
theorem dg:type_of% @Nat.pow_zero:=@Nat.pow_zero
theorem kv:type_of% @Nat.sub_self:=@Nat.sub_self
theorem fW:type_of% @Nat.sub_zero:=@Nat.sub_zero
theorem dz:type_of% @Nat.two_pow_pos:=@Nat.two_pow_pos
theorem bn:type_of% @Nat.zero_add:=@Nat.zero_add
theorem kw:type_of% @Nat.zero_div:=@Nat.zero_div
theorem eR:type_of% @Nat.zero_le:=@Nat.zero_le
theorem eW:type_of% @Nat.zero_mul:=@Nat.zero_mul
theorem eN:type_of% @Option.map_some:=@Option.map_some
theorem fv:type_of% @Option.some.inj:=@Option.some.inj
theorem fj:type_of% @Option.some.injEq:=@Option.some.injEq
theorem iD:type_of% @Prod.mk.injEq:=@Prod.mk.injEq
theorem fC:type_of% @UInt32.le_iff_toNat_le:=@UInt32.le_iff_toNat_le
theorem dn:type_of% @UInt32.lt_iff_toNat_lt:=@UInt32.lt_iff_toNat_lt
theorem ij:type_of% @UInt32.toNat_add:=@UInt32.toNat_add
theorem cz:type_of% @UInt32.toNat_inj:=@UInt32.toNat_inj
theorem cV:type_of% @UInt32.toNat_ofNat':=@UInt32.toNat_ofNat'
theorem ji:type_of% @UInt32.toNat_or:=@UInt32.toNat_or
theorem fb:type_of% @UInt32.toNat_toUInt8:=@UInt32.toNat_toUInt8
theorem dG:type_of% @UInt64.le_iff_toNat_le:=@UInt64.le_iff_toNat_le
theorem cM:type_of% @UInt64.lt_iff_toNat_lt:=@UInt64.lt_iff_toNat_lt
theorem iX:type_of% @UInt64.toNat_add:=@UInt64.toNat_add
theorem gr:type_of% @UInt64.toNat_div:=@UInt64.toNat_div
theorem dA:type_of% @UInt64.toNat_inj:=@UInt64.toNat_inj
theorem dM:type_of% @UInt64.toNat_mod:=@UInt64.toNat_mod
theorem bO:type_of% @UInt64.toNat_ofNat':=@UInt64.toNat_ofNat'
theorem fO:type_of% @UInt64.toNat_sub:=@UInt64.toNat_sub
theorem gn:type_of% @UInt64.toNat_sub_of_le:=@UInt64.toNat_sub_of_le
theorem cT:type_of% @UInt8.le_iff_toNat_le:=@UInt8.le_iff_toNat_le
theorem cO:type_of% @UInt8.toNat_inj:=@UInt8.toNat_inj
theorem cp:type_of% @UInt8.toNat_ofNat':=@UInt8.toNat_ofNat'
theorem jB:type_of% @UInt8.toNat_sub_of_le:=@UInt8.toNat_sub_of_le
theorem ea:type_of% @UInt8.toNat_toUInt32:=@UInt8.toNat_toUInt32
theorem cd:type_of% @beq_eq_false_iff_ne:=@beq_eq_false_iff_ne
theorem dh:type_of% @beq_iff_eq:=@beq_iff_eq
theorem jS:type_of% @beq_self_eq_true:=@beq_self_eq_true
theorem bV:type_of% @bne_iff_ne:=@bne_iff_ne
theorem gM:type_of% @bne_self_eq_false:=@bne_self_eq_false
theorem cD:type_of% @congrArg:=@congrArg
theorem cK:type_of% @decide_eq_decide:=@decide_eq_decide
theorem an:type_of% @decide_eq_false:=@decide_eq_false
theorem ah:type_of% @decide_eq_true:=@decide_eq_true
theorem aj:type_of% @decide_eq_true_eq:=@decide_eq_true_eq
theorem cC:type_of% @if_false:=@if_false
theorem ae:type_of% @if_neg:=@if_neg
theorem af:type_of% @if_pos:=@if_pos
theorem bo:type_of% @if_true:=@if_true
theorem fI:type_of% @not_not_intro:=@not_not_intro
theorem bC:type_of% @or_false:=@or_false
def au {τ:Type} (l:List τ) (i:Int):Option τ:=if 0<=i then l[i.toNat]? else none
theorem iS {τ:Type} {l:List τ} {i:Int} {x:τ} (h:au l i=some x):0<=i/\i.toNat<l.length/\l[i.toNat]? = some x:=by
 unfold au at h
 split at h
 ·exact⟨‹_›,(br.1 h).1,h⟩
 ·cases h
theorem qt {τ:Type} (l:List τ) (i:Nat):au l (i:Int)=l[i]?:=by
 simp[au]
def slO {τ:Type} (l:List τ) (lo hi:Int):Option (List τ):=if 0<=lo/\lo<=hi/\hi.toNat<=l.length then some ((l.drop lo.toNat).take (hi.toNat - lo.toNat)) else none
theorem gL {τ:Type} {l r:List τ} {lo hi:Int} (h:slO l lo hi=some r):(0<=lo/\lo<=hi/\hi.toNat<=l.length)/\r=(l.drop lo.toNat).take (hi.toNat - lo.toNat):=by
 unfold slO at h
 split at h
 ·simp at h; exact⟨‹_›,h.symm⟩
 ·cases h
def drO {τ:Type} (l:List τ) (lo:Int):Option (List τ):=if 0<=lo/\lo.toNat<=l.length then some (l.drop lo.toNat) else none
theorem oC {τ:Type} {l r:List τ} {lo:Int} (h:drO l lo=some r):(0<=lo/\lo.toNat<=l.length)/\r=l.drop lo.toNat:=by
 unfold drO at h
 split at h
 ·simp at h; exact⟨‹_›,h.symm⟩
 ·cases h
def tkO {τ:Type} (l:List τ) (hi:Int):Option (List τ):=if 0<=hi/\hi.toNat<=l.length then some (l.take hi.toNat) else none
theorem sa {τ:Type} {l r:List τ} {hi:Int} (h:tkO l hi=some r):(0<=hi/\hi.toNat<=l.length)/\r=l.take hi.toNat:=by
 unfold tkO at h
 split at h
 ·simp at h; exact⟨‹_›,h.symm⟩
 ·cases h
theorem ye {τ:Type} {l:List τ} {hi:Int} (h:0<=hi/\hi.toNat<=l.length):tkO l hi=some (l.take hi.toNat):=af h
def mkO {τ:Type} (bytes:Nat) (l c:Int) (t0:τ):Option (List τ):=
 if 0<=l/\l<=c/\(bytes:Int)*c<=281474976710656/\c<=9223372036854775807 then some (List.replicate l.toNat t0) else none
theorem LP {τ:Type} {bytes:Nat} {l c:Int} {j:τ} {r:List τ} (h:mkO bytes l c j=some r) :
  r=List.replicate l.toNat j/\0<=l/\l<=c/\(bytes:Int)*c<=281474976710656/\c<=9223372036854775807:=by
 unfold mkO at h
 split at h
 ·rename_i hc; simp at h; exact⟨h.symm,hc⟩
 ·cases h
def apO {τ:Type} (bytes:Nat) (l m:List τ):Option (List τ):=if (l.length+m.length)*bytes<=225000000000000 then some (l++m) else none
theorem qx {τ:Type} {bytes:Nat} {l m r:List τ} (h:apO bytes l m=some r):r=l++m/\(l.length+m.length)*bytes<=225000000000000:=by
 unfold apO at h
 split at h
 ·simp at h; exact⟨h.symm,‹_›⟩
 ·cases h
def grd {ρ:Type} (p:Prop) [Decidable p] (k:Option ρ):Option ρ:=if p then k else none
theorem pf {ρ:Type} {p:Prop} [Decidable p] {k:Option ρ} {r:ρ} (h:grd p k=some r):p/\k=some r:=by
 unfold grd at h
 split at h
 ·exact⟨‹_›,h⟩
 ·cases h
@[simp] theorem grd_true {ρ:Type} {p:Prop} [Decidable p] (k:Option ρ) (h:p):grd p k=k:=by simp[grd,h]
def bD {α ρ:Type} (a:α) (k:α->Option ρ):Option ρ:=k a
theorem ke {α ρ:Type} {a:α} {k:α->Option ρ} {r:ρ} (h:bD a k=some r):∃x,a=x/\k x=some r:=⟨a,rfl,h⟩
abbrev ag {α ρ:Type} (x:Option α) (k:α->Option ρ):Option ρ:=x.bind k
theorem bq {α ρ:Type} {x:Option α} {k:α->Option ρ} {r:ρ} (h:ag x k=some r):∃a,x=some a/\k a=some r:=Option.bind_eq_some_iff.1 h
theorem aK {α ρ:Type} {x:Option α} {k:α->Option ρ} {r:ρ} {C:Prop} (h:ag x k=some r) (f:∀a,x=some a->k a=some r->C):C:=by
 obtain⟨a,j,z⟩:=bq h
 exact f a j z
theorem wL {ρ:Type} {p:Prop} [Decidable p] {k:Option ρ} {r:ρ} {C:Prop} (h:grd p k=some r) (f:p->k=some r->C):C:=f (pf h).1 (pf h).2
theorem jp {α ρ:Type} {x:α} {k:α->Option ρ} {r:ρ} {C:Prop} (h:bD x k=some r) (f:∀a,x=a->k a=some r->C):C:=f x rfl h
theorem md {ρ:Type} {b:Bool} {x y:Option ρ} {r:ρ} (h:(if b=true then x else y)=some r) (hb:b=true):x=some r:=by rw[af hb]at h; exact h
theorem me {ρ:Type} {b:Bool} {x y:Option ρ} {r:ρ} (h:(if b=true then x else y)=some r) (hb:b=false):y=some r:=by
 rw[ae (by rw[hb]; exact Bool.false_ne_true)]at h; exact h
def cpL {τ:Type} (l m:List τ) (lo hi:Nat):List τ:=l.take lo++m.take (hi - lo)++l.drop (lo+min m.length (hi - lo))
theorem kA {τ:Type} (l m:List τ) (lo hi:Nat) (j:lo<=hi) (k:hi<=l.length):(cpL l m lo hi).length=l.length:=by
 simp[cpL]; omega
def nL {α ρ:Type} (o:Option α) (x:Option ρ) (y:α->Option ρ):Option ρ:=match o with
 | none=>x
 | some a=>y a
theorem EX {α ρ:Type} {o:Option α} {x:Option ρ} {y:α->Option ρ} {r:ρ} (h:nL o x y=some r) (j:o=none):x=some r:=by subst j; exact h
theorem FJ {α ρ:Type} {o:Option α} {x:Option ρ} {y:α->Option ρ} {r:ρ} {a:α} (h:nL o x y=some r) (j:o=some a):y a=some r:=by subst j; exact h
def lc {σ ρ:Type} (f:σ->Option (σ⊕ρ)):Nat->σ->Option ρ
 | 0,_=>none
 | n+1,s=>match f s with
  | none=>none
  | some (.inl s')=>lc f n s'
  | some (.inr r)=>some r
theorem tD {σ ρ:Type} {f:σ->Option (σ⊕ρ)}:∀{n:Nat} {s:σ} {r:ρ},lc f n s=some r->∀{m:Nat},n<=m->lc f m s=some r
 | 0,_,_,h,_,_=>by simp[lc]at h
 | n+1,s,r,h,0,hm=>by omega
 | n+1,s,r,h,m+1,hm=>by
  simp only[lc]at h ⊢
  split at h
  ·cases h
  ·exact tD h q10
  ·exact h
open Classical in
noncomputable def loop {σ ρ:Type} (f:σ->Option (σ⊕ρ)) (s:σ):Option ρ:=
 if h:∃n r,lc f n s=some r then some h.choose_spec.choose else none
theorem tJ {σ ρ:Type} {f:σ->Option (σ⊕ρ)} {n:Nat} {s:σ} {r:ρ} (h:lc f n s=some r):loop f s=some r:=by
 have hx:∃n r,lc f n s=some r:=⟨n,r,h⟩
 unfold loop
 rw[dif_pos hx]
 have k:=hx.choose_spec.choose_spec
 have z:=tD k (Nat.le_max_left hx.choose n)
 have j:=tD h (Nat.le_max_right hx.choose n)
 rw[z]at j
 exact j
theorem tm {σ ρ:Type} {f:σ->Option (σ⊕ρ)} {s:σ} {r:ρ} (h:loop f s=some r):∃n,lc f n s=some r:=by
 unfold loop at h
 split at h
 ·rename_i hx
  simp only[fj]at h
  exact⟨_,h ▸ hx.choose_spec.choose_spec⟩
 ·cases h
theorem rM {σ ρ:Type} (f:σ->Option (σ⊕ρ)) (s:σ):loop f s=match f s with
  | none=>none
  | some (.inl s')=>loop f s'
  | some (.inr r)=>some r:=by
 cases hl:loop f s with
 | some r=>
  obtain⟨n,hn⟩:=tm hl
  cases n with
  | zero=>simp[lc]at hn
  | succ n=>
   simp only[lc]at hn
   split at hn
   ·cases hn
   ·simp only[tJ hn]
   ·simp[hn]
 | none=>
  cases hf:f s with
  | none=>rfl
  | some x=>
   cases x with
   | inl s'=>
    simp only
    cases hl':loop f s' with
    | none=>rfl
    | some r=>
     obtain⟨n,hn⟩:=tm hl'
     have:lc f (n+1) s=some r:=by simp[lc,hf,hn]
     rw[tJ this]at hl
     cases hl
   | inr r=>
    have:lc f 1 s=some r:=by simp[lc,hf]
    rw[tJ this]at hl
    cases hl
theorem bv {σ ρ:Type} {f:σ->Option (σ⊕ρ)} {s s':σ} (h:f s=some (.inl s')):loop f s=loop f s':=by rw[rM,h]
theorem eL {σ ρ:Type} {f:σ->Option (σ⊕ρ)} {s:σ} {r:ρ} (h:f s=some (.inr r)):loop f s=some r:=by rw[rM,h]
def bJ {σ ρ:Type} (s:σ):Option (σ⊕ρ):=some (.inl s)
def bz {σ ρ:Type} (x:Option ρ):Option (σ⊕ρ):=x.map .inr
def lk {σ ρ:Type} (f:σ->Option (σ⊕ρ)) (k:Nat) (r:ρ):σ⊕ρ->Prop
 | .inl s=>lc f k s=some r
 | .inr r'=>r'=r
theorem eG {σ ρ:Type} {f:σ->Option (σ⊕ρ)} {k:Nat} {r:ρ} {s:σ} {x:σ⊕ρ} (h:bJ s=some x) (j:lk f k r x):lc f k s=some r:=by
 cases h; exact j
theorem ep {σ ρ:Type} {f:σ->Option (σ⊕ρ)} {k:Nat} {r:ρ} {y:Option ρ} {x:σ⊕ρ} (h:bz y=some x) (j:lk f k r x):y=some r:=by
 cases y with
 | none=>cases h
 | some z=>cases h; rw[<-(j:z=r)]
theorem N6 {σ ρ:Type} {f:σ->Option (σ⊕ρ)} {k:Nat} {s:σ} {r:ρ} (h:lc f (k+1) s=some r):∃x,f s=some x/\lk f k r x:=by
 simp only[lc]at h
 split at h
 ·cases h
 ·rename_i s' hs; exact⟨_,hs,h⟩
 ·rename_i j hs; exact⟨_,hs,by simpa [lk] using h⟩
end Go.Gk
end
section
namespace Go.Gk
open Go Go.RowKit
abbrev Env:=List (Nat×Value)
def Env.get:Env->Nat->Option Value
 | [],_=>none
 | (k,v) :: r,i=>bif Nat.beq k i then some v else Env.get r i
def Env.ev (L:Env):Operand->Option Value
 | .tmp t=>L.get t
 | .const v=>some v
 | .global g=>some (.pointer (some ⟨g,0,none⟩))
 | .func f=>some (.func (.func f) #[] #[])
def Env.evs (L:Env):List Operand->Option (List Value)
 | []=>some []
 | x :: r=>match L.ev x,Env.evs L r with
  | some v,some vs=>some (v :: vs)
  | _,_=>none
structure Rep (n:Nat) (L:Env) (a:Act):Prop where
 defers:a.defers=[]
 size:a.tmps.size=n
 get:∀i v,L.get i=some v->a.tmps[i]? = some v
theorem Rep.ev {n:Nat} {L:Env} {a:Act} {x:Operand} {v:Value} (h:Rep n L a) (hx:L.ev x=some v):a.eval x=v:=by
 cases x with
 | tmp t=>
  have:=h.get t v hx
  simp[Act.eval,this]
 | const u=>simpa [Env.ev,Act.eval] using hx
 | global g=>simpa [Env.ev,Act.eval] using hx
 | func f=>simpa [Env.ev,Act.eval] using hx
theorem Rep.evs {n:Nat} {L:Env} {a:Act} (h:Rep n L a):∀{xs:List Operand} {vs:List Value},L.evs xs=some vs->xs.map a.eval=vs
 | [],vs,hx=>by simp[Env.evs]at hx; simp[hx]
 | x :: r,vs,hx=>by
  simp only[Env.evs]at hx
  cases h1:L.ev x with
  | none=>simp[h1]at hx
  | some v=>
   cases h2:L.evs r with
   | none=>simp[h1,h2]at hx
   | some ws=>
    simp[h1,h2]at hx
    subst hx
    simp[h.ev h1,Rep.evs h h2]
theorem Rep.put {n:Nat} {L:Env} {a:Act} {d:Nat} {v:Value} (h:Rep n L a) (hd:Nat.blt d n=true):Rep n ((d,v) :: L) (a.put (some d) v):=by
 have j:d<n:=by simpa [gm] using hd
 refine⟨h.defers,by simp[Act.put,h.size],fun i u hi=>?_⟩
 simp only[Env.get]at hi
 by_cases hk:d=i
 ·subst hk
  simp at hi
  simp[Act.put,h.size,j,hi]
 ·have:Nat.beq d i=false:=by
   cases hb:Nat.beq d i with
   | false=>rfl
   | true=>exact absurd (bP hb) hk
  rw[this]at hi
  simp only[cond_false]at hi
  have:=h.get i u hi
  simp only[Act.put]
  rw[Array.getElem?_setIfInBounds_ne hk]
  exact this
def Env.Le:Env->Env->Prop
 | [],_=>True
 | (k,v) :: r,L=>L.get k=some v/\Env.Le r L
theorem Env.Le.get {L:Env}:∀{j:Env},j.Le L->∀i v,j.get i=some v->L.get i=some v
 | [],_,i,v,h=>by simp[Env.get]at h
 | (k,u) :: r,hle,i,v,h=>by
  obtain⟨z,A⟩:=hle
  simp only[Env.get]at h
  by_cases hk:Nat.beq k i=true
  ·rw[hk]at h
   simp only[cond_true,fj]at h
   subst h
   rw[<-bP hk]
   exact z
  ·simp only[hk]at h
   exact Env.Le.get A i v (by simpa using h)
theorem Rep.le {n:Nat} {L j:Env} {a:Act} (h:Rep n L a) (hl:j.Le L):Rep n j a:=
 ⟨h.defers,h.size,fun i v hi=>h.get i v (hl.get i v hi)⟩
section
variable {P:Program} {n:Nat} {Q:Exit->Act->World->Prop} {L:Env} {w:World}
def wpC (P:Program) (n:Nat) (c:Code) (Q:Exit->Act->World->Prop) (L:Env) (w:World):Prop:=∀a,Rep n L a->c.wp P Q a w
def wpR (P:Program) (n:Nat) (ops:Array Oper) (Q:Exit->Act->World->Prop) (l:List Oper) (L:Env) (w:World):Prop:=∀a,Rep n L a->wpList P ops Q l a w
def QE (n:Nat) (Q:Exit->Act->World->Prop) (e:Exit) (L:Env) (w:World):Prop:=∀a,Rep n L a->Q e a w
def wpN (P:Program) (n:Nat) (c:Code) (Q:Exit->Act->World->Prop) (k:Nat) (L:Env) (w:World):Prop:=∀a,Rep n L a->Code.rounds P c Q k a w
theorem jy {c:Code} (j:Env) (hl:j.Le L) (h:wpC P n c Q j w):wpC P n c Q L w:=fun a ha=>h a (ha.le hl)
theorem JH {c:Code} {k:Nat} (j:Env) (hl:j.Le L) (h:wpN P n c Q k j w):wpN P n c Q k L w:=fun a ha=>h a (ha.le hl)
theorem cw {x y:Code} (h:wpC P n x (Exit.then (y.wp P Q) Q) L w):wpC P n (.seq x y) Q L w:=fun a ha=>wp_seq (h a ha)
theorem pu (h:QE n Q .normal L w):wpC P n .skip Q L w:=fun a ha=>wp_skip (h a ha)
theorem fc {id:Nat} (h:QE n Q (.exit id) L w):wpC P n (.exit id) Q L w:=fun a ha=>wp_exit (h a ha)
theorem iY (h:QE n Q .ret L w):wpC P n .ret Q L w:=fun a ha=>wp_ret (h a ha)
theorem BW {c:Operand} {x y:Code} {t:Bool} (hc:L.ev c=some (.bool t)) (j:t=true->wpC P n x Q L w) (hf:t=false->wpC P n y Q L w) :
  wpC P n (.cond c x y) Q L w:=fun a ha=>wp_cond_split (ha.ev hc) (fun h=>j h a ha) (fun h=>hf h a ha)
theorem tu {c:Operand} {x y:Code} (hc:L.ev c=some (.bool true)) (h:wpC P n x Q L w):wpC P n (.cond c x y) Q L w:=fun a ha=>wp_cond_true (ha.ev hc) (h a ha)
theorem zZ {c:Operand} {x y:Code} (hc:L.ev c=some (.bool false)) (h:wpC P n y Q L w):wpC P n (.cond c x y) Q L w:=fun a ha=>wp_cond_false (ha.ev hc) (h a ha)
theorem cn {id:Nat} {c:Code} (h:wpC P n c (Exit.inBlock id Q) L w):wpC P n (.block id c) Q L w:=fun a ha=>wp_block (h a ha)
theorem KM {c:Code} (k:Nat) (h:wpN P n c Q k L w):wpC P n (.loop c) Q L w:=fun a ha=>wp_loop_rounds k (h a ha)
theorem L9 {c:Code} {k:Nat} (h:wpC P n c (Exit.then (Code.rounds P c Q k) Q) L w):wpN P n c Q (k+1) L w:=fun a ha=>by rw[rounds_succ]; exact h a ha
theorem bS {id:Nat} {l:List Oper} (h:wpR P n l.toArray Q l L w):wpC P n (.region id l.toArray false) Q L w:=fun a ha=>wp_region_lit (h a ha)
theorem bL {y:Code} (h:wpC P n y Q L w):QE n (Exit.then (y.wp P Q) Q) .normal L w:=h
theorem cj {K:Act->World->Prop} {id:Nat} (h:QE n Q (.exit id) L w):QE n (Exit.then K Q) (.exit id) L w:=h
theorem mp {K:Act->World->Prop} (h:QE n Q .ret L w):QE n (Exit.then K Q) .ret L w:=h
theorem iz {c:Code} {k:Nat} (h:wpN P n c Q k L w):QE n (Exit.then (Code.rounds P c Q k) Q) .normal L w:=h
theorem eH {id:Nat} (h:QE n Q .normal L w):QE n (Exit.inBlock id Q) .normal L w:=h
theorem pj {id:Nat} (h:QE n Q .ret L w):QE n (Exit.inBlock id Q) .ret L w:=h
theorem fe {id:Nat} (h:QE n Q .normal L w):QE n (Exit.inBlock id Q) (.exit id) L w:=fun a ha=>by
 show (if id=id then Q .normal a w else Q (.exit id) a w)
 rw[af rfl]; exact h a ha
theorem LM {id j:Nat} (k:Nat.beq j id=false) (h:QE n Q (.exit j) L w):QE n (Exit.inBlock id Q) (.exit j) L w:=fun a ha=>by
 show (if j=id then Q .normal a w else Q (.exit j) a w)
 rw[ae (Nat.ne_of_beq_eq_false k)]; exact h a ha
theorem d7 {ops:Array Oper} (h:QE n Q .normal L w):wpR P n ops Q [] L w:=h
theorem gl1 {ops:Array Oper} {x y:Code} (h:wpC P n x (Exit.then (y.wp P Q) Q) L w):wpR P n ops (Exit.then ((Code.seq x y).wp P Q) Q) [] L w:=d7 (bL (cw h))
theorem gl2 {ops:Array Oper} {id:Nat} {l:List Oper} {y:Code} (h:wpR P n l.toArray (Exit.then (y.wp P Q) Q) l L w):wpR P n ops (Exit.then ((Code.seq (.region id l.toArray false) y).wp P Q) Q) [] L w:=d7 (bL (cw (bS h)))
theorem gl3 {ops:Array Oper} {y:Code} (h:wpC P n y Q L w):wpR P n ops (Exit.then (y.wp P Q) Q) [] L w:=d7 (bL h)
theorem gl4 {id:Nat} {l:List Oper} {y:Code} (h:wpR P n l.toArray (Exit.then (y.wp P Q) Q) l L w):wpC P n (.seq (.region id l.toArray false) y) Q L w:=cw (bS h)
theorem gl5 {y:Code} (h:wpC P n y Q L w):wpC P n .skip (Exit.then (y.wp P Q) Q) L w:=pu (bL h)
theorem gl6 {id:Nat} {l:List Oper} {y:Code} (h:wpR P n l.toArray (Exit.then (y.wp P Q) Q) l L w):wpC P n .skip (Exit.then ((Code.seq (.region id l.toArray false) y).wp P Q) Q) L w:=pu (bL (cw (bS h)))
theorem gl8 {ops:Array Oper} {K:Act->World->Prop} (h:QE n Q .ret L w):wpR P n ops (Exit.then (Code.ret.wp P (Exit.then K Q)) (Exit.then K Q)) [] L w:=d7 (bL (iY (mp h)))
theorem Env.le_of:∀{j L:Env},j.map (fun p=>L.get p.1)=j.map (fun p=>some p.2)->j.Le L
 | [],_,_=>trivial
 | (k,v) :: r,L,h=>by
  rw[dm,dm]at h
  exact⟨(List.cons.inj h).1,Env.le_of (List.cons.inj h).2⟩
theorem eZ {c:Code} (j:Env) (hl:j.map (fun p=>L.get p.1)=j.map (fun p=>some p.2)) (h:wpC P n c Q j w):wpC P n c Q L w:=jy j (Env.le_of hl) h
theorem ef {c:Code} {j:Env} (h:wpC P n c Q j w) (hl:j.map (fun p=>L.get p.1)=j.map (fun p=>some p.2)):wpC P n c Q L w:=jy j (Env.le_of hl) h
theorem iM {c:Code} {k:Nat} {j:Env} (h:wpN P n c Q k j w) (hl:j.map (fun p=>L.get p.1)=j.map (fun p=>some p.2)):wpN P n c Q k L w:=JH j (Env.le_of hl) h
theorem gl9 {c:Operand} {x y:Code} {t:Bool} {ρ:Type} {A B:Option ρ} {r:ρ} (hc:L.ev c=some (.bool t)) (h:(if t=true then A else B)=some r) (j:A=some r->wpC P n x Q L w) (hf:B=some r->wpC P n y Q L w) :
  wpC P n (.cond c x y) Q L w:=BW hc (fun q=>j (md h q)) (fun q=>hf (me h q))
def OpV (P:Program) (n:Nat) (L:Env) (w:World) (o:Oper) (v:Value) (w':World):Prop:=
 ∀a,Rep n L a->(execOp a.eval o).run P w=.ok (.value v) w'
theorem aQ {ops:Array Oper} {rest:List Oper} {d:Nat} {op:Op} {ty:TypeId} {pos:String} {after:Array Edge} {v:Value} {w':World}
  (j:OpV P n L w ⟨some d,op,ty,pos,after,none⟩ v w') (hd:Nat.blt d n=true)
  (h:wpR P n ops Q rest ((d,v) :: L) w'):wpR P n ops Q (⟨some d,op,ty,pos,after,none⟩ :: rest) L w:=fun a ha=>by
 unfold wpList
 rw[af (by simp[Region.wanted])]
 refine .inl ?_
 unfold Oper.wp
 rw[j a ha]
 exact h _ (ha.put hd)
def OpS (P:Program) (n:Nat) (L:Env) (w:World) (o:Oper) (w':World):Prop:=
 ∀a,Rep n L a->(execOp a.eval o).run P w=.ok .skip w'
theorem R2 {ops:Array Oper} {rest:List Oper} {op:Op} {ty:TypeId} {pos:String} {after:Array Edge} {w':World}
  (j:OpS P n L w ⟨none,op,ty,pos,after,none⟩ w')
  (h:wpR P n ops Q rest L w'):wpR P n ops Q (⟨none,op,ty,pos,after,none⟩ :: rest) L w:=fun a ha=>by
 unfold wpList
 rw[af (by simp[Region.wanted])]
 refine .inl ?_
 unfold Oper.wp
 rw[j a ha]
 exact h _ ha
theorem je {w:World} {d:Option Tmp} {x:Operand} {v:Value} {ty:TypeId} {pos:String} {after:Array Edge} (hx:L.ev x=some v) :
  OpV P n L w ⟨d,.move x,ty,pos,after,none⟩ v w:=fun a ha=>by
 simp[execOp,ha.ev hx]
end
abbrev vI (x:Int):Value:=.int .i64 x
abbrev vB (b:Bool):Value:=.bool b
abbrev vS (l:List UInt8):Value:=.string ⟨⟨l⟩⟩
abbrev v8 (x:UInt8):Value:=.int .u8 (x.toNat:Int)
abbrev v32 (x:UInt32):Value:=.int .u32 (x.toNat:Int)
abbrev v64 (x:UInt64):Value:=.int .u64 (x.toNat:Int)
abbrev pP (a:Addr):Value:=.pointer (some a)
def wI (x:Int):Int:=IntKind.i64.wrap x
theorem SR (x:Int):wI x=if x%18446744073709551616 >= 9223372036854775808 then x%18446744073709551616 - 18446744073709551616 else x%18446744073709551616:=by
 simp[wI,IntKind.wrap,IntKind.bits,IntKind.signed]
theorem ay {x:Int} (j:-9223372036854775808<=x) (k:x<=9223372036854775807):wI x=x:=by
 rw[SR]; split <;> omega
def n7 (x y:Int):Int:=wI ((BitVec.ofInt 64 x &&& BitVec.ofInt 64 y).toNat:Int)
def kV (x:Int) (n:Nat):Int:=x.fdiv (2^(min n 64))
section
variable {P:Program}
def cL (P:Program) (op:BinOp) (T:TypeId) (a b v:Value):Prop:=
 ∀(x y:Operand) (w:World),(do eqGuard op T x y a b; binOp op T a b:Sem Value).run P w=.ok v w
def UnR (P:Program) (op:UnOp) (a v:Value):Prop:=∀(w:World),(Op.unary op a).run P w=.ok v w
def oW (P:Program) (src dst:TypeId) (a v:Value):Prop:=∀(w:World),(convert src dst a).run P w=.ok v w
variable {n:Nat} {L:Env} {w:World}
theorem bk {d:Option Tmp} {op:BinOp} {T T2:TypeId} {x y:Operand} {a b v:Value} {ty:TypeId} {pos:String} {after:Array Edge}
  (hx:L.ev x=some a) (hy:L.ev y=some b) (h:cL P op T a b v):OpV P n L w ⟨d,.binOp op T x y T2,ty,pos,after,none⟩ v w:=fun j ha=>by
 have:=h x y w
 simp only[Sem.run_bind]at this
 simp[execOp,ha.ev hx,ha.ev hy,Sem.run_bind]
 generalize (eqGuard op T x y a b).run P w=r at *
 cases r with
 | halt h w'=>simp[Result.andThen]at this
 | ok u w'=>simp[Result.andThen]at this ⊢; rw[this]
theorem wF {d:Option Tmp} {op:UnOp} {T:TypeId} {x:Operand} {a v:Value} {ty:TypeId} {pos:String} {after:Array Edge}
  (hx:L.ev x=some a) (h:UnR P op a v):OpV P n L w ⟨d,.unOp op T x,ty,pos,after,none⟩ v w:=fun j ha=>by
 simp[execOp,ha.ev hx,h w]
theorem io {d:Option Tmp} {S T:TypeId} {x:Operand} {a v:Value} {ty:TypeId} {pos:String} {after:Array Edge}
  (hx:L.ev x=some a) (h:oW P S T a v):OpV P n L w ⟨d,.convert S T x,ty,pos,after,none⟩ v w:=fun j ha=>by
 simp[execOp,ha.ev hx,h w]
theorem fk {d:Option Tmp} {x:Operand} {v:Value} {ty:TypeId} {pos:String} {after:Array Edge} (hx:L.ev x=some v) :
  OpV P n L w ⟨d,.assign x,ty,pos,after,none⟩ v w:=fun a ha=>by
 simp[execOp,ha.ev hx]
theorem qZ {d:Option Tmp} {c x y:Operand} {u:Value} {ty:TypeId} {pos:String} {after:Array Edge}
  (hc:L.ev c=some (vB true)) (hx:L.ev x=some u) :
  OpV P n L w ⟨d,.pick c x y,ty,pos,after,none⟩ u w:=fun a ha=>by
 simp[execOp,ha.ev hc,ha.ev hx,asBool]
theorem rk {d:Option Tmp} {c x y:Operand} {v:Value} {ty:TypeId} {pos:String} {after:Array Edge}
  (hc:L.ev c=some (vB false)) (hy:L.ev y=some v) :
  OpV P n L w ⟨d,.pick c x y,ty,pos,after,none⟩ v w:=fun a ha=>by
 simp[execOp,ha.ev hc,ha.ev hy,asBool]
theorem vg {d:Option Tmp} {x:Operand} {i:Nat} {vs:Array Value} {v:Value} {ty:TypeId} {pos:String} {after:Array Edge}
  (hx:L.ev x=some (.tuple vs)) (j:vs[i]? = some v) :
  OpV P n L w ⟨d,.extract x i,ty,pos,after,none⟩ v w:=fun a ha=>by
 simp[execOp,ha.ev hx,Instr.extract,j]
theorem IA (T:TypeId) (x y:Int):cL P .add T (vI x) (vI y) (vI (wI (x+y))):=fun _ _ _=>rfl
theorem Ki (T:TypeId) (x y:Int):cL P .sub T (vI x) (vI y) (vI (wI (x - y))):=fun _ _ _=>rfl
theorem rC (T:TypeId) (x y:Int):cL P .mul T (vI x) (vI y) (vI (wI (x*y))):=fun _ _ _=>rfl
theorem wN (T:TypeId) (x y:Int) (h:¬y=0):cL P .quo T (vI x) (vI y) (vI (wI (x.tdiv y))):=fun _ _ _=>by
 simp[eqGuard,binOp,Op.intDiv,h,wI]
theorem uo (T:TypeId) (x y:Int) (h:¬y=0):cL P .rem T (vI x) (vI y) (vI (x.tmod y)):=fun _ _ _=>by
 simp[eqGuard,binOp,Op.intDiv,h]
theorem RD (T:TypeId) (x y:Int):cL P .and T (vI x) (vI y) (vI (n7 x y)):=fun _ _ _=>rfl
theorem LZ (T:TypeId) (x:Int) (y:UInt64):cL P .shr T (vI x) (v64 y) (vI (kV x y.toNat)):=fun _ _ _=>by
 have:¬(y.toNat:Int)<0:=by omega
 simp[eqGuard,binOp,Op.shift,this,kV,IntKind.bits]
theorem JS (T:TypeId) (x y:Int):cL P .eql T (vI x) (vI y) (vB (x == y)):=fun _ _ _=>rfl
theorem JU (T:TypeId) (x y:Int):cL P .neq T (vI x) (vI y) (vB (x != y)):=fun _ _ _=>rfl
theorem Js (T:TypeId) (x y:Int):cL P .lss T (vI x) (vI y) (vB (decide (x<y))):=fun _ _ _=>rfl
theorem JY (T:TypeId) (x y:Int):cL P .leq T (vI x) (vI y) (vB (decide (x<=y))):=fun _ _ _=>rfl
theorem Jc (T:TypeId) (x y:Int):cL P .gtr T (vI x) (vI y) (vB (decide (y<x))):=fun _ _ _=>rfl
theorem xy (T:TypeId) (x y:Int):cL P .geq T (vI x) (vI y) (vB (decide (y<=x))):=fun _ _ _=>rfl
theorem QX (x:Int):UnR P .neg (vI x) (vI (wI (0 - x))):=fun _=>rfl
theorem Ng (b:Bool):UnR P .not (vB b) (vB (!b)):=fun _=>rfl
theorem Jd (l:List UInt8):(⟨⟨l⟩⟩:ByteArray).toList=l:=by
 exact Lib.toList_data _
def nB (x:UInt8) (n:Nat):UInt8:=UInt8.ofNat (x.toNat / 2^(min n 8))
theorem rL (x:Nat):IntKind.u8.wrap (x:Int)=((UInt8.ofNat x).toNat:Int):=by
 simp[IntKind.wrap,IntKind.bits,IntKind.signed,cp]
theorem O8 (x:Int):IntKind.u8.wrap x=((UInt8.ofInt x).toNat:Int):=by
 simp[IntKind.wrap,IntKind.bits,IntKind.signed,UInt8.ofInt,cp]
 omega
theorem bv8 (x:UInt8):BitVec.ofInt 8 (x.toNat:Int)=x.toBitVec:=by
 apply BitVec.eq_of_toNat_eq
 simp
theorem Rq (T:TypeId) (x y:UInt8):cL P .sub T (v8 x) (v8 y) (v8 (x - y)):=fun _ _ w=>by
 have:(v8 (x - y))=.int .u8 (IntKind.u8.wrap ((x.toNat:Int) - y.toNat)):=by
  simp only[v8,Value.int.injEq,true_and,UInt8.toNat_sub]
  simp[IntKind.wrap,IntKind.bits,IntKind.signed]
  have:=x.toNat_lt; have:=y.toNat_lt
  omega
 rw[this]; rfl
theorem Qp (T:TypeId) (x y:UInt8) (h:¬y=0):cL P .rem T (v8 x) (v8 y) (v8 (x%y)):=fun _ _ w=>by
 have hy:¬(y.toNat:Int)=0:=fun e=>h (cO.1 (by simpa using e))
 have:((x.toNat:Int)).tmod y.toNat=((x%y).toNat:Int):=by rw[UInt8.toNat_mod]; rfl
 simp only[eqGuard,binOp,Op.intDiv,ae hy,this]; rfl
theorem Ra (T:TypeId) (x y:UInt8):cL P .and T (v8 x) (v8 y) (v8 (x &&& y)):=fun _ _ w=>by
 have:(v8 (x &&& y))=.int .u8 (IntKind.u8.wrap ((BitVec.ofInt 8 (x.toNat:Int) &&& BitVec.ofInt 8 (y.toNat:Int)).toNat:Int)):=by
  rw[bv8,bv8,rL]
  simp[v8]
 rw[this]; rfl
theorem R6 (T:TypeId) (x y:UInt8):cL P .or T (v8 x) (v8 y) (v8 (x ||| y)):=fun _ _ w=>by
 have:(v8 (x ||| y))=.int .u8 (IntKind.u8.wrap ((BitVec.ofInt 8 (x.toNat:Int) ||| BitVec.ofInt 8 (y.toNat:Int)).toNat:Int)):=by
  rw[bv8,bv8,rL]
  simp[v8]
 rw[this]; rfl
theorem pQ (T:TypeId) (x y:UInt8):cL P .xor T (v8 x) (v8 y) (v8 (x ^^^ y)):=fun _ _ w=>by
 have:(v8 (x ^^^ y))=.int .u8 (IntKind.u8.wrap ((BitVec.ofInt 8 (x.toNat:Int) ^^^ BitVec.ofInt 8 (y.toNat:Int)).toNat:Int)):=by
  rw[bv8,bv8,rL]
  simp[v8]
 rw[this]; rfl
theorem ID (T:TypeId) (x y:UInt8):cL P .andNot T (v8 x) (v8 y) (v8 (x &&& ~~~ y)):=fun _ _ w=>by
 have:(v8 (x &&& ~~~ y))=.int .u8 (IntKind.u8.wrap ((BitVec.ofInt 8 (x.toNat:Int) &&& ~~~ BitVec.ofInt 8 (y.toNat:Int)).toNat:Int)):=by
  rw[bv8,bv8,rL,<-UInt8.toBitVec_not,<-UInt8.toBitVec_and,UInt8.toNat_toBitVec]
  simp only[v8,cp,Value.int.injEq,true_and]
  exact_mod_cast (av (x &&& ~~~ y).toNat_lt).symm
 rw[this]; rfl
theorem IN (T:TypeId) (k:IntKind) (x:UInt8) (y:Int) (h:0<=y):cL P .shr T (v8 x) (.int k y) (v8 (nB x y.toNat)):=fun _ _ w=>by
 have hy:¬y<0:=by omega
 have:(x.toNat:Int).fdiv (2^(min y.toNat 8))=((nB x y.toNat).toNat:Int):=by
  rw[iN _ (Int.le_of_lt (Int.pow_pos q10))]
  simp only[nB,cp]
  have:=x.toNat_lt
  rw[av (dR (dy _ _) this)]
  simp
 simp[eqGuard,binOp,Op.shift,hy,IntKind.bits,this]
theorem Kr (T:TypeId) (x:UInt8) (y:UInt64):cL P .shr T (v8 x) (v64 y) (v8 (nB x y.toNat)):=by
 have:=IN (P:=P) T .u64 x y.toNat q10; simpa using this
theorem KR (T:TypeId) (x:UInt8) (y:Int) (h:0<=y):cL P .shr T (v8 x) (vI y) (v8 (nB x y.toNat)):=IN T .i64 x y h
theorem Rh (T:TypeId) (x y:UInt8):cL P .eql T (v8 x) (v8 y) (vB (x == y)):=fun _ _ w=>by
 have:(x == y)=((x.toNat:Int) == (y.toNat:Int)):=by
  rw[dx]; simp[<-cO]; omega
 rw[this]; rfl
theorem tt (T:TypeId) (x y:UInt8):cL P .neq T (v8 x) (v8 y) (vB (x != y)):=fun _ _ w=>by
 have:(x != y)=((x.toNat:Int) != (y.toNat:Int)):=by
  rw[dx]; simp[<-cO]; omega
 rw[this]; rfl
theorem Q3 (T:TypeId) (x y:UInt8):cL P .lss T (v8 x) (v8 y) (vB (decide (x<y))):=fun _ _ w=>by
 have:decide (x<y)=decide ((x.toNat:Int)<(y.toNat:Int)):=by
  rw[dx]; simp[UInt8.lt_iff_toNat_lt]
 rw[this]; rfl
theorem Rk (T:TypeId) (x y:UInt8):cL P .leq T (v8 x) (v8 y) (vB (decide (x<=y))):=fun _ _ w=>by
 have:decide (x<=y)=decide ((x.toNat:Int)<=(y.toNat:Int)):=by
  rw[dx]; simp[cT]
 rw[this]; rfl
theorem Rt (T:TypeId) (x y:UInt8):cL P .geq T (v8 x) (v8 y) (vB (decide (y<=x))):=fun _ _ w=>by
 have:decide (y<=x)=decide ((y.toNat:Int)<=(x.toNat:Int)):=by
  rw[dx]; simp[cT]
 rw[this]; rfl
def dB (x:UInt32) (n:Nat):UInt32:=UInt32.ofNat (x.toNat*2^(min n 32))
def cq (x:UInt32) (n:Nat):UInt32:=UInt32.ofNat (x.toNat / 2^(min n 32))
theorem nj (x:Nat):IntKind.u32.wrap (x:Int)=((UInt32.ofNat x).toNat:Int):=by
 simp[IntKind.wrap,IntKind.bits,IntKind.signed,cV]
theorem vG (x:UInt32):BitVec.ofInt 32 (x.toNat:Int)=x.toBitVec:=by
 apply BitVec.eq_of_toNat_eq
 simp
theorem lZ (T:TypeId) (x y:UInt32):cL P .add T (v32 x) (v32 y) (v32 (x+y)):=fun _ _ w=>by
 have:(v32 (x+y))=.int .u32 (IntKind.u32.wrap ((x.toNat:Int)+y.toNat)):=by
  rw[show (x.toNat:Int)+y.toNat=((x.toNat+y.toNat:Nat):Int) by simp,nj]
  simp[v32,ij]
 rw[this]; rfl
theorem PP (T:TypeId) (x y:UInt32):cL P .sub T (v32 x) (v32 y) (v32 (x - y)):=fun _ _ w=>by
 have:(v32 (x - y))=.int .u32 (IntKind.u32.wrap ((x.toNat:Int) - y.toNat)):=by
  simp only[v32,Value.int.injEq,true_and,UInt32.toNat_sub]
  simp[IntKind.wrap,IntKind.bits,IntKind.signed]
  have:=x.toNat_lt; have:=y.toNat_lt
  omega
 rw[this]; rfl
theorem OO (T:TypeId) (x y:UInt32):cL P .mul T (v32 x) (v32 y) (v32 (x*y)):=fun _ _ w=>by
 have:(v32 (x*y))=.int .u32 (IntKind.u32.wrap ((x.toNat:Int)*y.toNat)):=by
  rw[show (x.toNat:Int)*y.toNat=((x.toNat*y.toNat:Nat):Int) by simp,nj]
  simp[v32,UInt32.toNat_mul]
 rw[this]; rfl
theorem Pj (T:TypeId) (x y:UInt32) (h:¬y=0):cL P .quo T (v32 x) (v32 y) (v32 (x / y)):=fun _ _ w=>by
 have hy:¬(y.toNat:Int)=0:=fun e=>h (cz.1 (by simpa using e))
 have:IntKind.u32.wrap (((x.toNat:Int)).tdiv y.toNat)=((x / y).toNat:Int):=by
  rw[show ((x.toNat:Int)).tdiv y.toNat=((x.toNat / y.toNat:Nat):Int) from rfl,nj]
  rw[UInt32.toNat_div,cV,av (dR (dy _ _) x.toNat_lt)]
 simp only[eqGuard,binOp,Op.intDiv,ae hy,this]; rfl
theorem PM (T:TypeId) (x y:UInt32) (h:¬y=0):cL P .rem T (v32 x) (v32 y) (v32 (x%y)):=fun _ _ w=>by
 have hy:¬(y.toNat:Int)=0:=fun e=>h (cz.1 (by simpa using e))
 have:((x.toNat:Int)).tmod y.toNat=((x%y).toNat:Int):=by rw[UInt32.toNat_mod]; rfl
 simp only[eqGuard,binOp,Op.intDiv,ae hy,this]; rfl
theorem nQ (T:TypeId) (x y:UInt32):cL P .and T (v32 x) (v32 y) (v32 (x &&& y)):=fun _ _ w=>by
 have:(v32 (x &&& y))=.int .u32 (IntKind.u32.wrap ((BitVec.ofInt 32 (x.toNat:Int) &&& BitVec.ofInt 32 (y.toNat:Int)).toNat:Int)):=by
  rw[vG,vG,nj]
  simp[v32]
 rw[this]; rfl
theorem wD (T:TypeId) (x y:UInt32):cL P .or T (v32 x) (v32 y) (v32 (x ||| y)):=fun _ _ w=>by
 have:(v32 (x ||| y))=.int .u32 (IntKind.u32.wrap ((BitVec.ofInt 32 (x.toNat:Int) ||| BitVec.ofInt 32 (y.toNat:Int)).toNat:Int)):=by
  rw[vG,vG,nj]
  simp[v32]
 rw[this]; rfl
theorem mm (T:TypeId) (x y:UInt32):cL P .xor T (v32 x) (v32 y) (v32 (x ^^^ y)):=fun _ _ w=>by
 have:(v32 (x ^^^ y))=.int .u32 (IntKind.u32.wrap ((BitVec.ofInt 32 (x.toNat:Int) ^^^ BitVec.ofInt 32 (y.toNat:Int)).toNat:Int)):=by
  rw[vG,vG,nj]
  simp[v32]
 rw[this]; rfl
theorem EY (T:TypeId) (k:IntKind) (x:UInt32) (y:Int) (h:0<=y):cL P .shl T (v32 x) (.int k y) (v32 (dB x y.toNat)):=fun _ _ w=>by
 have hy:¬y<0:=by omega
 have:IntKind.u32.wrap ((x.toNat:Int)*2^(min y.toNat 32))=((dB x y.toNat).toNat:Int):=by
  rw[show (x.toNat:Int)*2^(min y.toNat 32)=((x.toNat*2^(min y.toNat 32):Nat):Int) by simp,nj]; rfl
 simp[eqGuard,binOp,Op.shift,hy,IntKind.bits,this]
theorem FY (T:TypeId) (k:IntKind) (x:UInt32) (y:Int) (h:0<=y):cL P .shr T (v32 x) (.int k y) (v32 (cq x y.toNat)):=fun _ _ w=>by
 have hy:¬y<0:=by omega
 have:(x.toNat:Int).fdiv (2^(min y.toNat 32))=((cq x y.toNat).toNat:Int):=by
  rw[iN _ (Int.le_of_lt (Int.pow_pos q10))]
  simp only[cq,cV]
  have:=x.toNat_lt
  rw[av (dR (dy _ _) this)]
  simp
 simp[eqGuard,binOp,Op.shift,hy,IntKind.bits,this]
theorem qe (T:TypeId) (x:UInt32) (y:UInt64):cL P .shl T (v32 x) (v64 y) (v32 (dB x y.toNat)):=by
 have:=EY (P:=P) T .u64 x y.toNat q10; simpa using this
theorem kY (T:TypeId) (x:UInt32) (y:UInt64):cL P .shr T (v32 x) (v64 y) (v32 (cq x y.toNat)):=by
 have:=FY (P:=P) T .u64 x y.toNat q10; simpa using this
theorem IJ (T:TypeId) (x:UInt32) (y:Int) (h:0<=y):cL P .shl T (v32 x) (vI y) (v32 (dB x y.toNat)):=EY T .i64 x y h
theorem Kw (T:TypeId) (x:UInt32) (y:Int) (h:0<=y):cL P .shr T (v32 x) (vI y) (v32 (cq x y.toNat)):=FY T .i64 x y h
theorem Fk (T:TypeId) (x y:UInt32):cL P .eql T (v32 x) (v32 y) (vB (x == y)):=fun _ _ w=>by
 have:(x == y)=((x.toNat:Int) == (y.toNat:Int)):=by
  rw[dx]; simp[<-cz]; omega
 rw[this]; rfl
theorem OS (T:TypeId) (x y:UInt32):cL P .neq T (v32 x) (v32 y) (vB (x != y)):=fun _ _ w=>by
 have:(x != y)=((x.toNat:Int) != (y.toNat:Int)):=by
  rw[dx]; simp[<-cz]; omega
 rw[this]; rfl
theorem O0 (T:TypeId) (x y:UInt32):cL P .lss T (v32 x) (v32 y) (vB (decide (x<y))):=fun _ _ w=>by
 have:decide (x<y)=decide ((x.toNat:Int)<(y.toNat:Int)):=by
  rw[dx]; simp[dn]
 rw[this]; rfl
theorem Ou (T:TypeId) (x y:UInt32):cL P .leq T (v32 x) (v32 y) (vB (decide (x<=y))):=fun _ _ w=>by
 have:decide (x<=y)=decide ((x.toNat:Int)<=(y.toNat:Int)):=by
  rw[dx]; simp[fC]
 rw[this]; rfl
theorem Pz (T:TypeId) (x y:UInt32):cL P .gtr T (v32 x) (v32 y) (vB (decide (y<x))):=fun _ _ w=>by
 have:decide (y<x)=decide ((y.toNat:Int)<(x.toNat:Int)):=by
  rw[dx]; simp[dn]
 rw[this]; rfl
theorem O4 (T:TypeId) (x y:UInt32):cL P .geq T (v32 x) (v32 y) (vB (decide (y<=x))):=fun _ _ w=>by
 have:decide (y<=x)=decide ((y.toNat:Int)<=(x.toNat:Int)):=by
  rw[dx]; simp[fC]
 rw[this]; rfl
theorem E6 (x:UInt32):UnR P .xor (v32 x) (v32 (~~~ x)):=fun _=>by
 have:(v32 (~~~ x))=.int .u32 (IntKind.u32.wrap ((BitVec.ofInt 32 IntKind.u32.max ^^^ BitVec.ofInt 32 (x.toNat:Int)).toNat:Int)):=by
  rw[vG,nj]
  have j:BitVec.ofInt 32 IntKind.u32.max=BitVec.allOnes 32:=by decide
  rw[j,BitVec.allOnes_xor,<-UInt32.toBitVec_not,UInt32.toNat_toBitVec]
  simp only[v32,cV,Value.int.injEq,true_and]
  exact_mod_cast (av (~~~ x).toNat_lt).symm
 rw[this]; rfl
def di (x:UInt64) (n:Nat):UInt64:=UInt64.ofNat (x.toNat*2^(min n 64))
def bH (x:UInt64) (n:Nat):UInt64:=UInt64.ofNat (x.toNat / 2^(min n 64))
theorem nh (x:Nat):IntKind.u64.wrap (x:Int)=((UInt64.ofNat x).toNat:Int):=by
 simp[IntKind.wrap,IntKind.bits,IntKind.signed,bO]
theorem Me (x:Int):IntKind.u64.wrap x=((UInt64.ofInt x).toNat:Int):=by
 simp[IntKind.wrap,IntKind.bits,IntKind.signed,UInt64.ofInt,bO]
 omega
theorem vC (x:UInt64):BitVec.ofInt 64 (x.toNat:Int)=x.toBitVec:=by
 apply BitVec.eq_of_toNat_eq
 simp
theorem lV (T:TypeId) (x y:UInt64):cL P .add T (v64 x) (v64 y) (v64 (x+y)):=fun _ _ w=>by
 have:(v64 (x+y))=.int .u64 (IntKind.u64.wrap ((x.toNat:Int)+y.toNat)):=by
  rw[show (x.toNat:Int)+y.toNat=((x.toNat+y.toNat:Nat):Int) by simp,nh]
  simp[v64,iX]
 rw[this]; rfl
theorem OG (T:TypeId) (x y:UInt64):cL P .sub T (v64 x) (v64 y) (v64 (x - y)):=fun _ _ w=>by
 have:(v64 (x - y))=.int .u64 (IntKind.u64.wrap ((x.toNat:Int) - y.toNat)):=by
  simp only[v64,Value.int.injEq,true_and,fO]
  simp[IntKind.wrap,IntKind.bits,IntKind.signed]
  have:=x.toNat_lt; have:=y.toNat_lt
  omega
 rw[this]; rfl
theorem Pg (T:TypeId) (x y:UInt64):cL P .mul T (v64 x) (v64 y) (v64 (x*y)):=fun _ _ w=>by
 have:(v64 (x*y))=.int .u64 (IntKind.u64.wrap ((x.toNat:Int)*y.toNat)):=by
  rw[show (x.toNat:Int)*y.toNat=((x.toNat*y.toNat:Nat):Int) by simp,nh]
  simp[v64,UInt64.toNat_mul]
 rw[this]; rfl
theorem Om (T:TypeId) (x y:UInt64) (h:¬y=0):cL P .quo T (v64 x) (v64 y) (v64 (x / y)):=fun _ _ w=>by
 have hy:¬(y.toNat:Int)=0:=fun e=>h (dA.1 (by simpa using e))
 have:IntKind.u64.wrap (((x.toNat:Int)).tdiv y.toNat)=((x / y).toNat:Int):=by
  rw[show ((x.toNat:Int)).tdiv y.toNat=((x.toNat / y.toNat:Nat):Int) from rfl,nh]
  rw[gr,bO,av (dR (dy _ _) x.toNat_lt)]
 simp only[eqGuard,binOp,Op.intDiv,ae hy,this]; rfl
theorem E9 (T:TypeId) (x y:UInt64) (h:¬y=0):cL P .rem T (v64 x) (v64 y) (v64 (x%y)):=fun _ _ w=>by
 have hy:¬(y.toNat:Int)=0:=fun e=>h (dA.1 (by simpa using e))
 have:((x.toNat:Int)).tmod y.toNat=((x%y).toNat:Int):=by rw[dM]; rfl
 simp only[eqGuard,binOp,Op.intDiv,ae hy,this]; rfl
theorem px (T:TypeId) (x y:UInt64):cL P .and T (v64 x) (v64 y) (v64 (x &&& y)):=fun _ _ w=>by
 have:(v64 (x &&& y))=.int .u64 (IntKind.u64.wrap ((BitVec.ofInt 64 (x.toNat:Int) &&& BitVec.ofInt 64 (y.toNat:Int)).toNat:Int)):=by
  rw[vC,vC,nh]
  simp[v64]
 rw[this]; rfl
theorem Ke (T:TypeId) (x y:UInt64):cL P .or T (v64 x) (v64 y) (v64 (x ||| y)):=fun _ _ w=>by
 have:(v64 (x ||| y))=.int .u64 (IntKind.u64.wrap ((BitVec.ofInt 64 (x.toNat:Int) ||| BitVec.ofInt 64 (y.toNat:Int)).toNat:Int)):=by
  rw[vC,vC,nh]
  simp[v64]
 rw[this]; rfl
theorem mj (T:TypeId) (x y:UInt64):cL P .xor T (v64 x) (v64 y) (v64 (x ^^^ y)):=fun _ _ w=>by
 have:(v64 (x ^^^ y))=.int .u64 (IntKind.u64.wrap ((BitVec.ofInt 64 (x.toNat:Int) ^^^ BitVec.ofInt 64 (y.toNat:Int)).toNat:Int)):=by
  rw[vC,vC,nh]
  simp[v64]
 rw[this]; rfl
theorem F4 (T:TypeId) (k:IntKind) (x:UInt64) (y:Int) (h:0<=y):cL P .shl T (v64 x) (.int k y) (v64 (di x y.toNat)):=fun _ _ w=>by
 have hy:¬y<0:=by omega
 have:IntKind.u64.wrap ((x.toNat:Int)*2^(min y.toNat 64))=((di x y.toNat).toNat:Int):=by
  rw[show (x.toNat:Int)*2^(min y.toNat 64)=((x.toNat*2^(min y.toNat 64):Nat):Int) by simp,nh]; rfl
 simp[eqGuard,binOp,Op.shift,hy,IntKind.bits,this]
theorem Fc (T:TypeId) (k:IntKind) (x:UInt64) (y:Int) (h:0<=y):cL P .shr T (v64 x) (.int k y) (v64 (bH x y.toNat)):=fun _ _ w=>by
 have hy:¬y<0:=by omega
 have:(x.toNat:Int).fdiv (2^(min y.toNat 64))=((bH x y.toNat).toNat:Int):=by
  rw[iN _ (Int.le_of_lt (Int.pow_pos q10))]
  simp only[bH,bO]
  have:=x.toNat_lt
  rw[av (dR (dy _ _) this)]
  simp
 simp[eqGuard,binOp,Op.shift,hy,IntKind.bits,this]
theorem wJ (T:TypeId) (x:UInt64) (y:UInt64):cL P .shl T (v64 x) (v64 y) (v64 (di x y.toNat)):=by
 have:=F4 (P:=P) T .u64 x y.toNat q10; simpa using this
theorem qf (T:TypeId) (x:UInt64) (y:UInt64):cL P .shr T (v64 x) (v64 y) (v64 (bH x y.toNat)):=by
 have:=Fc (P:=P) T .u64 x y.toNat q10; simpa using this
theorem Jg (T:TypeId) (x:UInt64) (y:Int) (h:0<=y):cL P .shl T (v64 x) (vI y) (v64 (di x y.toNat)):=F4 T .i64 x y h
theorem IZ (T:TypeId) (x:UInt64) (y:Int) (h:0<=y):cL P .shr T (v64 x) (vI y) (v64 (bH x y.toNat)):=Fc T .i64 x y h
theorem OK (T:TypeId) (x y:UInt64):cL P .eql T (v64 x) (v64 y) (vB (x == y)):=fun _ _ w=>by
 have:(x == y)=((x.toNat:Int) == (y.toNat:Int)):=by
  rw[dx]; simp[<-dA]; omega
 rw[this]; rfl
theorem Pm (T:TypeId) (x y:UInt64):cL P .neq T (v64 x) (v64 y) (vB (x != y)):=fun _ _ w=>by
 have:(x != y)=((x.toNat:Int) != (y.toNat:Int)):=by
  rw[dx]; simp[<-dA]; omega
 rw[this]; rfl
theorem PO (T:TypeId) (x y:UInt64):cL P .lss T (v64 x) (v64 y) (vB (decide (x<y))):=fun _ _ w=>by
 have:decide (x<y)=decide ((x.toNat:Int)<(y.toNat:Int)):=by
  rw[dx]; simp[cM]
 rw[this]; rfl
theorem OU (T:TypeId) (x y:UInt64):cL P .gtr T (v64 x) (v64 y) (vB (decide (y<x))):=fun _ _ w=>by
 have:decide (y<x)=decide ((y.toNat:Int)<(x.toNat:Int)):=by
  rw[dx]; simp[cM]
 rw[this]; rfl
theorem NN (T:TypeId) (x y:UInt64):cL P .geq T (v64 x) (v64 y) (vB (decide (y<=x))):=fun _ _ w=>by
 have:decide (y<=x)=decide ((y.toNat:Int)<=(x.toNat:Int)):=by
  rw[dx]; simp[dG]
 rw[this]; rfl
theorem Ps (x:UInt64):UnR P .xor (v64 x) (v64 (~~~ x)):=fun _=>by
 have:(v64 (~~~ x))=.int .u64 (IntKind.u64.wrap ((BitVec.ofInt 64 IntKind.u64.max ^^^ BitVec.ofInt 64 (x.toNat:Int)).toNat:Int)):=by
  rw[vC,nh]
  have j:BitVec.ofInt 64 IntKind.u64.max=BitVec.allOnes 64:=by decide
  rw[j,BitVec.allOnes_xor,<-UInt64.toBitVec_not,UInt64.toNat_toBitVec]
  simp only[v64,bO,Value.int.injEq,true_and]
  exact_mod_cast (av (~~~ x).toNat_lt).symm
 rw[this]; rfl
theorem Oh (x:UInt64):UnR P .neg (v64 x) (v64 (0 - x)):=fun _=>by
 have:(v64 (0 - x))=.int .u64 (IntKind.u64.wrap (0 - (x.toNat:Int))):=by
  simp only[v64,Value.int.injEq,true_and,fO]
  simp[IntKind.wrap,IntKind.bits,IntKind.signed]
  have:=x.toNat_lt
  omega
 rw[this]; rfl
theorem QM {S T:TypeId} (hS:P.underlying S=some (.int .i64)) (hT:P.underlying T=some (.int .u8)) (x:Int):oW P S T (vI x) (v8 (UInt8.ofInt x)):=fun w=>by
 have:IntKind.u8.wrap x=((UInt8.ofInt x).toNat:Int):=by rw[O8]
 simp[convert,run_underlying hS,run_underlying hT,Conv.intToInt,this]
theorem uN {S T:TypeId} (hS:P.underlying S=some (.int .i64)) (hT:P.underlying T=some (.int .u64)) (x:Int):oW P S T (vI x) (v64 (UInt64.ofInt x)):=fun w=>by
 have:IntKind.u64.wrap x=((UInt64.ofInt x).toNat:Int):=by rw[Me]
 simp[convert,run_underlying hS,run_underlying hT,Conv.intToInt,this]
theorem Rw {S T:TypeId} (hS:P.underlying S=some (.int .u8)) (hT:P.underlying T=some (.int .i64)) (x:UInt8):oW P S T (v8 x) (vI ((x.toNat:Int))):=fun w=>by
 have:IntKind.i64.wrap (x.toNat:Int)=(x.toNat:Int):=by have:=x.toNat_lt; exact ay q10 q10
 simp[convert,run_underlying hS,run_underlying hT,Conv.intToInt,this]
theorem rG {S T:TypeId} (hS:P.underlying S=some (.int .u8)) (hT:P.underlying T=some (.int .u32)) (x:UInt8):oW P S T (v8 x) (v32 (x.toUInt32)):=fun w=>by
 have:IntKind.u32.wrap (x.toNat:Int)=((x.toUInt32).toNat:Int):=by rw[nj]; simp
 simp[convert,run_underlying hS,run_underlying hT,Conv.intToInt,this]
theorem FG {S T:TypeId} (hS:P.underlying S=some (.int .u8)) (hT:P.underlying T=some (.int .u64)) (x:UInt8):oW P S T (v8 x) (v64 (x.toUInt64)):=fun w=>by
 have:IntKind.u64.wrap (x.toNat:Int)=((x.toUInt64).toNat:Int):=by rw[nh]; simp
 simp[convert,run_underlying hS,run_underlying hT,Conv.intToInt,this]
theorem nW {S T:TypeId} (hS:P.underlying S=some (.int .u32)) (hT:P.underlying T=some (.int .u8)) (x:UInt32):oW P S T (v32 x) (v8 (x.toUInt8)):=fun w=>by
 have:IntKind.u8.wrap (x.toNat:Int)=((x.toUInt8).toNat:Int):=by rw[rL]; simp
 simp[convert,run_underlying hS,run_underlying hT,Conv.intToInt,this]
theorem LQ {S T:TypeId} (hS:P.underlying S=some (.int .u32)) (hT:P.underlying T=some (.int .u64)) (x:UInt32):oW P S T (v32 x) (v64 (x.toUInt64)):=fun w=>by
 have:IntKind.u64.wrap (x.toNat:Int)=((x.toUInt64).toNat:Int):=by rw[nh]; simp
 simp[convert,run_underlying hS,run_underlying hT,Conv.intToInt,this]
theorem E8 {S T:TypeId} (hS:P.underlying S=some (.int .u64)) (hT:P.underlying T=some (.int .i64)) (x:UInt64):oW P S T (v64 x) (vI (wI (x.toNat:Int))):=fun w=>by
 have:IntKind.i64.wrap (x.toNat:Int)=wI (x.toNat:Int):=by rfl
 simp[convert,run_underlying hS,run_underlying hT,Conv.intToInt,this]
theorem FH {S T:TypeId} (hS:P.underlying S=some (.int .u64)) (hT:P.underlying T=some (.int .u8)) (x:UInt64):oW P S T (v64 x) (v8 (x.toUInt8)):=fun w=>by
 have:IntKind.u8.wrap (x.toNat:Int)=((x.toUInt8).toNat:Int):=by rw[rL]; simp
 simp[convert,run_underlying hS,run_underlying hT,Conv.intToInt,this]
theorem MF {S T:TypeId} (hS:P.underlying S=some (.int .u64)) (hT:P.underlying T=some (.int .u32)) (x:UInt64):oW P S T (v64 x) (v32 (x.toUInt32)):=fun w=>by
 have:IntKind.u32.wrap (x.toNat:Int)=((x.toUInt32).toNat:Int):=by rw[nj]; simp
 simp[convert,run_underlying hS,run_underlying hT,Conv.intToInt,this]
end
structure Enc (τ:Type) where
 sz:Nat
 cells:τ->List Value
 len:∀t,(cells t).length=sz
 one:∀t,∀u∈cells t,u.oneCell'=true
def e8:Enc UInt8:=⟨1,fun x=>[v8 x],fun _=>rfl,fun _ u h=>by simp at h; subst h; rfl⟩
def e32:Enc UInt32:=⟨1,fun x=>[v32 x],fun _=>rfl,fun _ u h=>by simp at h; subst h; rfl⟩
def e64:Enc UInt64:=⟨1,fun x=>[v64 x],fun _=>rfl,fun _ u h=>by simp at h; subst h; rfl⟩
def eI:Enc Int:=⟨1,fun x=>[vI x],fun _=>rfl,fun _ u h=>by simp at h; subst h; rfl⟩
def eS:Enc (List UInt8):=⟨1,fun x=>[vS x],fun _=>rfl,fun _ u h=>by simp at h; subst h; rfl⟩
structure SV where
 a:Option Addr
 n:Nat
 c:Nat
abbrev SV.v (s:SV):Value:=.slice s.a s.n s.c
def eV:Enc SV:=⟨1,fun x=>[x.v],fun _=>rfl,fun _ u h=>by simp at h; subst h; rfl⟩
abbrev Enc.fl {τ:Type} (e:Enc τ) (l:List τ):List Value:=l.flatMap e.cells
theorem Enc.fl_length {τ:Type} (e:Enc τ) (l:List τ):(e.fl l).length=l.length*e.sz:=by
 induction l with
 | nil=>simp[Enc.fl]
 | cons a r ih=>
  simp only[Enc.fl,dU,aR,dN,e.len,bd]at ih ⊢
  omega
theorem Enc.fl_append {τ:Type} (e:Enc τ) (l m:List τ):e.fl (l++m)=e.fl l++e.fl m:=by simp[Enc.fl]
theorem Enc.fl_one {τ:Type} (e:Enc τ) (l:List τ):∀u∈e.fl l,u.oneCell'=true:=by
 intro u hu
 simp only[Enc.fl,jN]at hu
 obtain⟨t,_,j⟩:=hu
 exact e.one t u j
theorem Enc.fl_drop {τ:Type} (e:Enc τ) (l:List τ) (k:Nat):e.fl (l.drop k)=(e.fl l).drop (k*e.sz):=by
 induction k generalizing l with
 | zero=>simp
 | succ k ih=>
  cases l with
  | nil=>simp[Enc.fl]
  | cons a r=>
   rw[List.drop_succ_cons,ih]
   simp only[Enc.fl,dU,bd,ci]
   rw[bW,<-ia,<-e.len a,List.drop_left]
theorem Enc.fl_take {τ:Type} (e:Enc τ) (l:List τ) (k:Nat):e.fl (l.take k)=(e.fl l).take (k*e.sz):=by
 induction k generalizing l with
 | zero=>simp[Enc.fl]
 | succ k ih=>
  cases l with
  | nil=>simp[Enc.fl]
  | cons a r=>
   rw[List.take_succ_cons]
   simp only[Enc.fl,dU,bd,ci]at ih ⊢
   rw[ih,bW (k*e.sz),List.take_append]
   simp[e.len,aC]
theorem Enc.fl_get {τ:Type} (e:Enc τ) (l:List τ) (i:Nat) (t:τ) (h:l[i]? = some t) (j:Nat) (k:j<e.sz):(e.fl l)[i*e.sz+j]? = (e.cells t)[j]?:=by
 have z:(e.fl l)[i*e.sz+j]? = ((e.fl l).drop (i*e.sz))[j]?:=by rw[dt]
 rw[z,<-e.fl_drop]
 have A:l.drop i=t :: l.drop (i+1):=by
  obtain⟨hi,he⟩:=br.1 h
  rw[bZ hi,he]
 rw[A]
 simp only[Enc.fl,dU]
 rw[eK (by rw[e.len]; exact k)]
def RO (w:World) {τ:Type} (e:Enc τ) (v:Value) (l:List τ):Prop:=
 ∃a c,v=.slice a l.length c/\l.length<=c/\(l≠[]->∃b off,a=some ⟨b,off,none⟩/\∀j u,(e.fl l)[j]? = some u->w.cell? ⟨b,off+j,none⟩=some u)
structure Fr (S:List Nat) (w w':World):Prop where
 os:w'.os=w.os
 tape:w'.tape=w.tape
 output:w'.output=w.output
 size:w.heap.size<=w'.heap.size
 block:∀k,k<w.heap.size->k ∉ S->w'.heap[k]? = w.heap[k]?
theorem Fr.refl (S:List Nat) (w:World):Fr S w w:=⟨rfl,rfl,rfl,aq _,fun _ _ _=>rfl⟩
theorem Fr.trans {S:List Nat} {a b c:World} (h:Fr S a b) (k:Fr S b c):Fr S a c:=
 ⟨k.os.trans h.os,k.tape.trans h.tape,k.output.trans h.output,aA h.size k.size,fun i hi hn=>(k.block i (aO hi h.size) hn).trans (h.block i hi hn)⟩
theorem Fr.step {S R:List Nat} {a b c:World} (h:Fr S a b) (k:Fr R b c) (z:∀x∈R,a.heap.size<=x\/x∈S):Fr S a c:=
 ⟨k.os.trans h.os,k.tape.trans h.tape,k.output.trans h.output,aA h.size k.size,fun i hi hn=>by
  refine (k.block i (aO hi h.size) fun hx=>?_).trans (h.block i hi hn)
  rcases z i hx with j | j
  ·omega
  ·exact hn j⟩
theorem Fr.mono {S R:List Nat} {a b:World} (h:Fr S a b) (hs:∀x∈S,x∈R):Fr R a b:=
 ⟨h.os,h.tape,h.output,h.size,fun k j hn=>h.block k j fun hx=>hn (hs k hx)⟩
theorem Fr.below {w w':World} (h:Fr [] w w'):Below w.heap.size w w':=⟨h.os,h.tape,h.output,h.size,fun k j=>h.block k j (by simp)⟩
theorem Fr.alloc (S:List Nat) (w:World) (o:Obj):Fr S w (w.alloc o):=⟨rfl,rfl,rfl,by simp,fun k j _=>heap_alloc_old w o k j⟩
theorem Fr.drew (S:List Nat) (w:World):Fr S w w.drew:=⟨rfl,rfl,rfl,aq _,fun _ _ _=>rfl⟩
theorem Fr.setRow (w:World) (g:Nat) (cs:Array Value):Fr [g] w (w.setRow g cs):=by
 refine⟨rfl,rfl,rfl,by simp[World.setRow],fun k _ hn=>setRow_other w g k cs (by simpa using hn)⟩
theorem Fr.cell {S:List Nat} {w w':World} (h:Fr S w w') {p:Addr} (hp:p.block<w.heap.size) (hs:p.block ∉ S):w'.cell? p=w.cell? p:=
 World.cell?_of_block (h.block p.block hp hs)
theorem py {w:World} {p:Addr} {u:Value} (h:w.cell? p=some u):p.block<w.heap.size:=World.block_lt_of_cell? w p h
abbrev BM (v:Value):Option Nat:=v.ownBlock
theorem RO.fr {S:List Nat} {w w':World} {τ:Type} {e:Enc τ} {v:Value} {l:List τ} (h:RO w e v l) (hf:Fr S w w') (hs:l≠[]->∀k∈S,BM v≠some k):RO w' e v l:=by
 obtain⟨a,c,rfl,hc,B⟩:=h
 refine⟨a,c,rfl,hc,fun hl=>?_⟩
 obtain⟨b,off,rfl,z⟩:=B hl
 refine⟨b,off,rfl,fun j u G=>?_⟩
 have A:=z j u G
 rw[hf.cell (py A) (fun hx=>hs hl _ hx rfl)]
 exact A
def RP (S:List Nat) (w:World) {τ:Type} (e:Enc τ) (v:Value) (l:List τ):Prop:=RO w e v l/\(l≠[]->∀k∈S,BM v≠some k)
theorem RP.now {S:List Nat} {w w':World} {τ:Type} {e:Enc τ} {v:Value} {l:List τ} (h:RP S w e v l) (hf:Fr S w w'):RO w' e v l:=h.1.fr hf h.2
theorem RO.rp {w:World} {τ:Type} {e:Enc τ} {v:Value} {l:List τ} (h:RO w e v l):RP [] w e v l:=⟨h,by simp⟩
theorem RO.nil (w:World) {τ:Type} (e:Enc τ):RO w e (.slice none 0 0) ([]:List τ):=⟨none,0,rfl,aq _,fun h=>absurd rfl h⟩
def slV (v:Value) (sz lo hi:Nat):Value:=match v with
 | .slice a _ c=>.slice (if c=lo then a else a.map (·.add (lo*sz))) (hi - lo) (c - lo)
 | v=>v
def slV3 (v:Value) (sz lo hi m:Nat):Value:=match v with
 | .slice a _ _=>.slice (if m=lo then a else a.map (·.add (lo*sz))) (hi - lo) (m - lo)
 | v=>v
theorem jQ (b off k:Nat):(⟨b,off,none⟩:Addr).add k=⟨b,off+k,none⟩:=by
 unfold Addr.add; split <;> simp_all
theorem RO.sub {w:World} {τ:Type} {e:Enc τ} {v:Value} {l:List τ} (h:RO w e v l) {lo hi:Nat} (O:lo<=hi) (R:hi<=l.length) :
  RO w e (slV v e.sz lo hi) ((l.drop lo).take (hi - lo)):=by
 obtain⟨a,c,rfl,hc,J⟩:=h
 have k:((l.drop lo).take (hi - lo)).length=hi - lo:=by simp; omega
 refine⟨if c=lo then a else a.map (·.add (lo*e.sz)),c - lo,by rw[k]; rfl,by rw[k]; omega,fun z=>?_⟩
 have hl:l≠[]:=by rintro rfl; simp at z
 have N:0<hi - lo:=by
  rcases bR (hi - lo) with G | G
  ·rw[G]at z; simp at z
  ·exact G
 obtain⟨b,off,rfl,B⟩:=J hl
 have I:¬c=lo:=by omega
 refine⟨b,off+lo*e.sz,by simp[I,jQ],fun j u A=>?_⟩
 rw[e.fl_take,e.fl_drop,bY]at A
 split at A
 ·rw[dt]at A
  have:=B _ _ A
  rw[dW]
  exact this
 ·cases A
theorem RO.sub3 {w:World} {τ:Type} {e:Enc τ} {v:Value} {l:List τ} (h:RO w e v l) {lo hi m:Nat} (O:lo<=hi) (R:hi<=l.length) (U:hi<=m) :
  RO w e (slV3 v e.sz lo hi m) ((l.drop lo).take (hi - lo)):=by
 obtain⟨a,c,rfl,hc,J⟩:=h
 have k:((l.drop lo).take (hi - lo)).length=hi - lo:=by simp; omega
 refine⟨if m=lo then a else a.map (·.add (lo*e.sz)),m - lo,by rw[k]; rfl,by rw[k]; omega,fun z=>?_⟩
 have hl:l≠[]:=by rintro rfl; simp at z
 have N:0<hi - lo:=by
  rcases bR (hi - lo) with G | G
  ·rw[G]at z; simp at z
  ·exact G
 obtain⟨b,off,rfl,B⟩:=J hl
 have I:¬m=lo:=by omega
 refine⟨b,off+lo*e.sz,by simp[I,jQ],fun j u A=>?_⟩
 rw[e.fl_take,e.fl_drop,bY]at A
 split at A
 ·rw[dt]at A
  have:=B _ _ A
  rw[dW]
  exact this
 ·cases A
def ixA (v:Value) (sz i:Nat):Addr:=match v with
 | .slice (some a) _ _=>a.add (i*sz)
 | _=>default
theorem RO.cellAt {w:World} {τ:Type} {e:Enc τ} {v:Value} {l:List τ} (h:RO w e v l) {i:Nat} {t:τ} (hi:l[i]? = some t) {j:Nat} (z:j<e.sz) {u:Value} (hu:(e.cells t)[j]? = some u) :
  w.cell? ((ixA v e.sz i).add j)=some u:=by
 obtain⟨a,c,rfl,hc,A⟩:=h
 have hl:l≠[]:=by rintro rfl; simp at hi
 obtain⟨b,off,rfl,k⟩:=A hl
 have:=k (i*e.sz+j) u (by rw[e.fl_get l i t hi j z]; exact hu)
 simp only[ixA,jQ]
 rw[dW]
 exact this
theorem RO.cellAt0 {w:World} {τ:Type} {e:Enc τ} {v:Value} {l:List τ} (h:RO w e v l) {i:Nat} {t:τ} (hi:l[i]? = some t) {u:Value} (hu:e.cells t=[u]) :
  w.cell? (ixA v e.sz i)=some u:=by
 have k:e.sz=1:=by rw[<-e.len t,hu]; rfl
 have:=h.cellAt hi (j:=0) q10 (u:=u) (by rw[hu]; rfl)
 simpa [Addr.add] using this
def Row (w:World) (g:Nat) (cur:Array Value) (T:TypeId):Prop:=∃mk:Nat×Nat,w.heap[g]? = some (.cells cur T mk)/\(mk=(0,0)\/cur.size<=mk.1)
theorem Row.of {w:World} {g:Nat} {j:Array Value} {T:TypeId} (h:w.heap[g]? = some (.cells j T (0,0))):Row w g j T:=⟨_,h,.inl rfl⟩
theorem Row.new (w:World) (cs:Array Value) (T:TypeId):Row (w.alloc (.cells cs T)) w.heap.size cs T:=.of (heap_alloc_new w _)
theorem Row.lt {w:World} {g:Nat} {j:Array Value} {T:TypeId} (h:Row w g j T):g<w.heap.size:=by
 obtain⟨mk,h,_⟩:=h
 exact (du.1 h).1
theorem Row.cell {w:World} {g:Nat} {k:Array Value} {T:TypeId} (h:Row w g k T) (j:Nat):w.cell? ⟨g,j,none⟩=k[j]?:=by
 obtain⟨mk,h,_⟩:=h
 exact cell_of_row w g j k T mk h
theorem Row.mv {w w':World} {g:Nat} {j:Array Value} {T:TypeId} (h:Row w g j T) (he:w'.heap[g]? = w.heap[g]?):Row w' g j T:=by
 obtain⟨mk,h,hm⟩:=h
 exact⟨mk,he.trans h,hm⟩
theorem Row.set {w:World} {g:Nat} {j:Array Value} {T:TypeId} (h:Row w g j T) (cs:Array Value) (hc:cs.size=j.size):Row (w.setRow g cs) g cs T:=by
 obtain⟨mk,h,hm⟩:=h
 exact⟨mk,setRow_heap w g j cs T mk h,by rw[hc]; exact hm⟩
theorem kJ (P:Program) (g o:Nat) (t:TypeId):∀(vs:List Value) (i:Nat) (j:Array Value) (w:World),Row w g j t->o+i+vs.length<=j.size->(∀v∈vs,v.oneCell'=true) ->
  (storeCells ⟨g,o,none⟩ vs i).run P w=.ok () (w.setRow g (j.toList.take (o+i)++vs++j.toList.drop (o+i+vs.length)).toArray)
 | [],i,j,w,hr,_,_=>by
  obtain⟨fz,hg,_⟩:=hr
  simp only[storeCells,dS,fw,bb,ch,Array.toArray_toList]
  rw[setRow_self w g j t fz hg]
  rfl
 | v :: rest,i,j,w,hr,hl,h1=>by
  have hi:o+i<j.size:=by simp at hl; omega
  have A:(⟨g,o,none⟩:Addr).add i=⟨g,o+i,none⟩:=by unfold Addr.add; split <;> simp_all
  have G:=hr.set (j.setIfInBounds (o+i) v) (by simp)
  obtain⟨fz,hg,k⟩:=hr
  have z:w.cell? ⟨g,o+i,none⟩=some j[o+i]:=by simp[World.cell?,hg,hi]
  have B:w.frozen? ⟨g,o+i,none⟩=false:=by
   rcases k with rfl | k
   ·simp[World.frozen?,hg]
   ·obtain⟨lo,N⟩:=fz
    simp only[World.frozen?,hg,Bool.and_eq_false_iff,decide_eq_false_iff_not]
    left
    simp only at k
    omega
  have I:(store ((⟨g,o,none⟩:Addr).add i) v).run P w=.ok () (w.setRow g (j.setIfInBounds (o+i) v)):=by
   rw[A,run_store P w _ v _ (h1 v (by simp)),z]
   simp[B,setCell_eq_setRow w g (o+i) j t fz v hg]
  have J:=kJ P g o t rest (i+1) (j.setIfInBounds (o+i) v) (w.setRow g (j.setIfInBounds (o+i) v)) G (by simp at hl ⊢; omega) (fun x hx=>h1 x (by simp[hx]))
  simp only[storeCells,Sem.run_bind,I,Result.andThen_ok,J,setRow_setRow]
  congr 3
  have e:=list_seg_step j.toList (o+i) v rest (by simp at hl ⊢; omega)
  simpa [Array.toList_setIfInBounds,dW] using e
inductive OE where
 | sl (v:Value) (sz n:Nat) (cs:List Value)
 | rd (v:Value) (sz n:Nat) (cs:List Value)
 | bx (b:Nat) (cs:List Value)
def OE.blk:OE->Option Nat
 | .sl v _ _ _=>BM v
 | .rd v _ n _=>if n=0 then none else BM v
 | .bx b _=>some b
def fre (S:List Nat) (B b:Nat):Prop:=B<=b\/b∈S
def OE.ok (S:List Nat) (B:Nat) (w:World):OE->Prop
 | .sl v sz n cs=>cs.length=n*sz/\((v=.slice none 0 0/\n=0) \/
   ∃g cap cur T,v=.slice (some ⟨g,0,none⟩) n cap/\fre S B g/\Row w g cur T/\n<=cap/\cap<=maxLen/\cap*sz<=cur.size/\cur.toList.take (n*sz)=cs)
 | .rd v sz n cs=>cs.length=n*sz/\∃a c,v=.slice a n c/\n<=c /\
   (n≠0->∃b off,a=some ⟨b,off,none⟩/\b<w.heap.size/\fre S B b/\∀j u,cs[j]? = some u->w.cell? ⟨b,off+j,none⟩=some u)
 | .bx b cs=>fre S B b/\∃T cur,w.heap[b]? = some (.cells cur T (0,0))/\cur.toList=cs
theorem OE.ok.lt {S:List Nat} {B:Nat} {w:World} {o:OE} (h:o.ok S B w) {k:Nat} (j:o.blk=some k):k<w.heap.size/\fre S B k:=by
 cases o with
 | sl v sz n cs=>
  rcases h.2 with⟨rfl,_⟩ | ⟨g,A,z,T,rfl,hf,hg,_⟩
  ·simp[OE.blk,Value.ownBlock]at j
  ·simp[OE.blk,Value.ownBlock]at j
   subst j
   exact⟨hg.lt,hf⟩
 | rd v sz n cs=>
  obtain⟨_,a,c,rfl,_,hx⟩:=h
  simp only[OE.blk]at j
  split at j
  ·cases j
  ·rename_i hn
   obtain⟨b,off,rfl,hb,hf,_⟩:=hx hn
   simp[Value.ownBlock]at j
   subst j
   exact⟨hb,hf⟩
 | bx b cs=>
  obtain⟨hf,T,z,hg,_⟩:=h
  simp[OE.blk]at j
  subst j
  exact⟨(du.1 hg).1,hf⟩
theorem OE.ok.fr {S R:List Nat} {B:Nat} {w w':World} {o:OE} (h:o.ok S B w) (hf:Fr R w w') (J:∀k∈R,o.blk≠some k):o.ok S B w':=by
 cases o with
 | sl v sz n cs=>
  refine⟨h.1,?_⟩
  rcases h.2 with hn | ⟨g,O,z,T,rfl,A,hg,rest⟩
  ·exact .inl hn
  ·exact .inr ⟨g,O,z,T,rfl,A,hg.mv (hf.block g hg.lt (fun hx=>J g hx rfl)),rest⟩
 | rd v sz n cs=>
  obtain⟨hl,a,c,rfl,hc,G⟩:=h
  refine⟨hl,a,c,rfl,hc,fun I=>?_⟩
  obtain⟨b,off,rfl,U,N,hh⟩:=G I
  refine⟨b,off,rfl,aO U hf.size,N,fun j u Y=>?_⟩
  have V:=hh j u Y
  rw[hf.cell (py V) (fun hx=>J _ hx (by simp[OE.blk,I,Value.ownBlock]))]
  exact V
 | bx b cs=>
  obtain⟨A,T,z,hg,X⟩:=h
  refine⟨A,T,z,?_,X⟩
  rw[hf.block b (du.1 hg).1 (fun hx=>J b hx rfl)]
  exact hg
def OE.dj (o p:OE):Prop:=∀k,o.blk=some k->p.blk≠some k
theorem OE.dj.symm {o p:OE} (h:o.dj p):p.dj o:=fun k hp j=>h k j hp
structure St (S:List Nat) (w0 w:World) (os:List OE):Prop where
 fr:Fr S w0 w
 ok:∀o∈os,o.ok S w0.heap.size w
 dj:os.Pairwise OE.dj
theorem St.start (w:World):St [] w w []:=⟨Fr.refl _ _,by simp,List.Pairwise.nil⟩
theorem St.step {S:List Nat} {w0 w w':World} {os:List OE} (h:St S w0 w os) (hf:Fr [] w w'):St S w0 w' os:=
 ⟨h.fr.step hf (by simp),fun o j=>(h.ok o j).fr hf (by simp),h.dj⟩
theorem St.push {S:List Nat} {w0 w w':World} {os:List OE} (h:St S w0 w os) (hf:Fr [] w w') {o:OE} (z:o.ok S w0.heap.size w') (hn:∀k,o.blk=some k->w.heap.size<=k):St S w0 w' (o :: os):=by
 refine⟨h.fr.step hf (by simp),?_,?_⟩
 ·intro p hp
  rcases aJ.1 hp with rfl | hp
  ·exact z
  ·exact (h.ok p hp).fr hf (by simp)
 ·refine List.Pairwise.cons (fun p hp k A j=>?_) h.dj
  have:=(h.ok p hp).lt j
  have:=hn k A
  omega
theorem St.set {S:List Nat} {w0 w w':World} {os:List OE} (h:St S w0 w os) {i:Nat} {o o':OE} (hi:os[i]? = some o) (hf:Fr o.blk.toList w w') (ho:o'.ok S w0.heap.size w')
  (hn:∀k,o'.blk=some k->o.blk=some k\/w.heap.size<=k):St S w0 w' (os.set i o'):=by
 have X:=bI hi
 refine⟨h.fr.step hf fun x hx=>?_,?_,?_⟩
 ·cases hb:o.blk with
  | none=>rw[hb]at hx; simp at hx
  | some k=>
   rw[hb]at hx
   simp at hx
   subst hx
   exact ((h.ok o X).lt hb).2
 ·intro p hp
  obtain⟨j,A⟩:=List.getElem?_of_mem hp
  rw[gd]at A
  split at A
  ·split at A
   ·simp at A; subst A; exact ho
   ·cases A
  ·rename_i Y
   refine (h.ok p (bI A)).fr hf fun k z hb=>?_
   have hd:∀x y (hx:x<os.length) (hy:y<os.length),x<y->(os[x]).dj (os[y]):=fJ.1 h.dj
   obtain⟨I,B⟩:=br.1 hi
   obtain⟨R,U⟩:=br.1 A
   have V:o.blk=some k:=by
    cases hbk:o.blk with
    | none=>rw[hbk]at z; simp at z
    | some q=>rw[hbk]at z; simp at z; rw[z]
   rcases Nat.lt_or_gt_of_ne Y with J | J
   ·have:=hd i j I R J; rw[B,U]at this; exact this k V hb
   ·have:=hd j i R I J; rw[B,U]at this; exact this k hb V
 ·rw[fJ]
  intro x y hx hy N
  have hd:∀x y (hx:x<os.length) (hy:y<os.length),x<y->(os[x]).dj (os[y]):=fJ.1 h.dj
  obtain⟨I,B⟩:=br.1 hi
  simp only[bM]at hx hy
  rw[List.getElem_set,List.getElem_set]
  split
  ·split
   ·omega
   ·rename_i Z h2
    subst Z
    intro k z G
    rcases hn k z with O | O
    ·have:=hd i y hx hy N; rw[B]at this; exact this k O G
    ·have:=((h.ok _ (i0 hy)).lt G).1; omega
  ·split
   ·rename_i Z h2
    subst h2
    intro k z G
    rcases hn k G with O | O
    ·have:=hd x i hx hy N; rw[B]at this; exact this k z O
    ·have:=((h.ok _ (i0 hx)).lt z).1; omega
   ·exact hd x y hx hy N
theorem St.sub {S:List Nat} {w0 w:World} {os os':List OE} (h:St S w0 w os) (hs:os'.Sublist os):St S w0 w os':=
 ⟨h.fr,fun o j=>h.ok o (hs.subset j),h.dj.sublist hs⟩
abbrev own {τ:Type} (e:Enc τ) (v:Value) (l:List τ):OE:=.sl v e.sz l.length (e.fl l)
abbrev red {τ:Type} (e:Enc τ) (v:Value) (l:List τ):OE:=.rd v e.sz l.length (e.fl l)
theorem OE.ok.ro {S:List Nat} {B:Nat} {w:World} {τ:Type} {e:Enc τ} {v:Value} {l:List τ} (h:(own e v l).ok S B w):RO w e v l:=by
 rcases h.2 with⟨rfl,hn⟩ | ⟨g,A,I,T,rfl,J,hg,G,N,O,k⟩
 ·have:l=[]:=bA hn
  subst this
  exact RO.nil w e
 ·refine⟨_,A,rfl,G,fun _=>⟨g,0,rfl,fun j u z=>?_⟩⟩
  rw[<-k,bY]at z
  split at z
  ·rw[bn,hg.cell j]
   simpa using z
  ·cases z
theorem OE.ok.rro {S:List Nat} {B:Nat} {w:World} {τ:Type} {e:Enc τ} {v:Value} {l:List τ} (h:(red e v l).ok S B w):RO w e v l:=by
 obtain⟨_,a,c,rfl,hc,j⟩:=h
 refine⟨a,c,rfl,hc,fun hl=>?_⟩
 obtain⟨b,off,k,_,_,z⟩:=j (by simpa using hl)
 exact⟨b,off,k,z⟩
theorem St.ro {S:List Nat} {w0 w:World} {os:List OE} (h:St S w0 w os) (i:Nat) {τ:Type} {e:Enc τ} {v:Value} {l:List τ} (hi:os[i]? = some (own e v l)):RO w e v l:=
 (h.ok _ (bI hi)).ro
theorem St.rro {S:List Nat} {w0 w:World} {os:List OE} (h:St S w0 w os) (i:Nat) {τ:Type} {e:Enc τ} {v:Value} {l:List τ} (hi:os[i]? = some (red e v l)):RO w e v l:=
 (h.ok _ (bI hi)).rro
section
variable {P:Program} {n:Nat} {L:Env} {w:World} {Q:Exit->Act->World->Prop}
variable {d:Option Tmp} {ty:TypeId} {pos:String} {after:Array Edge}
theorem uD (l:List UInt8):(⟨⟨l⟩⟩:ByteArray).size=l.length:=rfl
def TI (P:Program) (E:TypeId) (z:Value) (sz bytes:Nat):Prop:=(P.info? E).map (fun i=>(i.zero,i.size,i.bytes))=some (some z,sz,bytes)
theorem TI.get {E:TypeId} {z:Value} {j bytes:Nat} (h:TI P E z j bytes):∃i,P.info? E=some i/\i.zero=some z/\i.size=j/\i.bytes=bytes:=by
 unfold TI at h
 cases hi:P.info? E with
 | none=>rw[hi]at h; cases h
 | some i=>
  rw[hi]at h
  simp only[eN,fj,iD]at h
  exact⟨i,rfl,h.1,h.2.1,h.2.2⟩
def OpX (P:Program) (n:Nat) (L:Env) (w:World) (o:Oper) (Φ:Value->World->Prop):Prop:=∃v w',OpV P n L w o v w'/\Φ v w'
theorem mg {ops:Array Oper} {rest:List Oper} {d:Nat} {op:Op} {Φ:Value->World->Prop}
  (j:OpX P n L w ⟨some d,op,ty,pos,after,none⟩ Φ) (hd:Nat.blt d n=true)
  (h:∀v w',Φ v w'->wpR P n ops Q rest ((d,v) :: L) w'):wpR P n ops Q (⟨some d,op,ty,pos,after,none⟩ :: rest) L w:=by
 obtain⟨v,w',k,z⟩:=j
 exact aQ k hd (h v w' z)
theorem mZ {ops:Array Oper} {rest:List Oper} {d:Nat} {op:Op} {α:Type} {V:α->Value} {R:α->World->Prop}
  (j:OpX P n L w ⟨some d,op,ty,pos,after,none⟩ fun v w'=>∃a,v=V a/\R a w') (hd:Nat.blt d n=true)
  (h:∀a w',R a w'->wpR P n ops Q rest ((d,V a) :: L) w'):wpR P n ops Q (⟨some d,op,ty,pos,after,none⟩ :: rest) L w:=
 mg j hd fun v w' ⟨a,e,k⟩=>by subst e; exact h a w' k
def OpY (P:Program) (n:Nat) (L:Env) (w:World) (o:Oper) (Φ:World->Prop):Prop:=∃w',OpS P n L w o w'/\Φ w'
theorem kP {ops:Array Oper} {rest:List Oper} {op:Op} {Φ:World->Prop}
  (j:OpY P n L w ⟨none,op,ty,pos,after,none⟩ Φ)
  (h:∀w',Φ w'->wpR P n ops Q rest L w'):wpR P n ops Q (⟨none,op,ty,pos,after,none⟩ :: rest) L w:=by
 obtain⟨w',k,z⟩:=j
 exact R2 k (h w' z)
theorem dV {x:Operand} {T E:TypeId} {τ:Type} {e:Enc τ} {v:Value} {l:List τ} (hT:P.underlying T=some (.slice E)) (hx:L.ev x=some v) (h:RO w e v l) :
  OpV P n L w ⟨d,.call ⟨.builtin .len,#[x],#[T]⟩,ty,pos,after,none⟩ (vI l.length) w:=fun a ha=>by
 obtain⟨b,c,rfl,_⟩:=h
 simp[execOp,resolve,invoke,builtin,Builtin.len_,ha.ev hx,run_underlying hT,goInt]
theorem Du {x:Operand} {T:TypeId} {l:List UInt8} (hT:P.underlying T=some .string) (hx:L.ev x=some (vS l)) :
  OpV P n L w ⟨d,.call ⟨.builtin .len,#[x],#[T]⟩,ty,pos,after,none⟩ (vI l.length) w:=fun a ha=>by
 simp[execOp,resolve,invoke,builtin,Builtin.len_,ha.ev hx,run_underlying hT,goInt,uD]
theorem D9 {T E:TypeId} {k:IntKind} {i:Int} {τ:Type} {e:Enc τ} {v:Value} {l:List τ} {z:Value} {bytes:Nat} (hT:P.underlying T=some (.slice E)) (hE:TI P E z e.sz bytes)
  (h:RO w e v l) (j:0<=i) (A:i.toNat<l.length):(Instr.indexAt T v (.int k i)).run P w=.ok (pP (ixA v e.sz i.toNat)) w:=by
 obtain⟨a,c,rfl,hc,B⟩:=h
 obtain⟨b,off,rfl,_⟩:=B (by rintro rfl; simp at A)
 obtain⟨I,hi,_,hs,_⟩:=hE.get
 have G:i<l.length:=by omega
 simp[Instr.indexAt,asIntOf,run_underlying hT,j,G,sizeOf,typeInfo,hi,hs,ixA]
theorem QG {x y:Operand} {T E:TypeId} {k:IntKind} {i:Int} {τ:Type} {e:Enc τ} {v:Value} {l:List τ} {z:Value} {bytes:Nat} (hT:P.underlying T=some (.slice E)) (hE:TI P E z e.sz bytes)
  (hx:L.ev x=some v) (hy:L.ev y=some (.int k i)) (h:RO w e v l) (j:0<=i) (A:i.toNat<l.length) :
  OpV P n L w ⟨d,.indexAddr T x y,ty,pos,after,none⟩ (pP (ixA v e.sz i.toNat)) w:=fun a ha=>by
 simp[execOp,ha.ev hx,ha.ev hy,D9 (k:=k) hT hE h j A]
theorem CK {x:Operand} {T:TypeId} {D:TypeDesc} {p:Addr} {u:Value} (hT:P.underlying T=some D) (j:(match D with | .struct _ | .array _ _=>true | _=>false)=false)
  (hx:L.ev x=some (pP p)) (h:w.cell? p=some u) :
  OpV P n L w ⟨d,.load T x,ty,pos,after,none⟩ u w:=fun a ha=>by
 have:(isAgg T).run P w=.ok false w:=by
  simp only[isAgg,Sem.run_bind,run_underlying hT,Result.andThen_ok]
  cases D <;> simp_all
 simp[execOp,ha.ev hx,Instr.loadAt,Instr.sureAddr,loadVar,this,load,Sem.run,h]
theorem IT {x:Operand} {T:TypeId} {D:TypeDesc} {τ:Type} {e:Enc τ} {v:Value} {l:List τ} {i:Nat} {t:τ} {u:Value} (hT:P.underlying T=some D) (j:(match D with | .struct _ | .array _ _=>true | _=>false)=false)
  (hx:L.ev x=some (pP (ixA v e.sz i))) (h:RO w e v l) (hi:l[i]? = some t) (hu:e.cells t=[u]) :
  OpV P n L w ⟨d,.load T x,ty,pos,after,none⟩ u w:=CK hT j hx (h.cellAt0 hi hu)
theorem Oe {x y:Operand} {T:TypeId} {k:IntKind} {i:Int} {l:List UInt8} {t:UInt8} (hT:P.underlying T=some .string)
  (hx:L.ev x=some (vS l)) (hy:L.ev y=some (.int k i)) (j:0<=i) (z:l[i.toNat]? = some t) :
  OpV P n L w ⟨d,.index T x y,ty,pos,after,none⟩ (v8 t) w:=fun a ha=>by
 have hg:(⟨⟨l⟩⟩:ByteArray)[i.toNat]? = some t:=by
  obtain⟨hl,he⟩:=br.1 z
  rw[ByteArray.getElem?_lt' _ _ (by simpa [uD] using hl)]
  rw[<-he]; rfl
 simp[execOp,ha.ev hx,ha.ev hy,Instr.index,asIntOf,run_underlying hT,j,hg]
def oA (l:List UInt8) (lo hi:Nat):List UInt8:=(l.drop lo).take (hi - lo)
theorem Bu (l:List UInt8) (lo hi:Nat):(⟨⟨l⟩⟩:ByteArray).extract lo hi=⟨⟨oA l lo hi⟩⟩:=by
 rw[ByteArray.extract_mk]; simp[oA]
theorem Mr {x y:Operand} {T:TypeId} {k:IntKind} {lo:Int} {l:List UInt8} (hT:P.underlying T=some .string)
  (hx:L.ev x=some (vS l)) (hy:L.ev y=some (.int k lo)) (j:0<=lo) (B:lo.toNat<=l.length) :
  OpV P n L w ⟨d,.slice T x (some y) none none,ty,pos,after,none⟩ (vS (l.drop lo.toNat)) w:=fun a ha=>by
 have z:lo<=((⟨⟨l⟩⟩:ByteArray).size:Int):=by rw[uD]; omega
 have A:oA l lo.toNat (⟨⟨l⟩⟩:ByteArray).size=l.drop lo.toNat:=by
  unfold oA; rw[aC]; simp[uD]
 simp[execOp,ha.ev hx,ha.ev hy,Instr.sliceAt,Instr.slice,run_underlying hT,Instr.sliceBounds,run_sliceBound,j,z,Bu,A]
theorem QT (T:TypeId) (x y:List UInt8):cL P .eql T (vS x) (vS y) (vB (x == y)):=fun _ _ w=>by
 simp[eqGuard,binOp,Op.stringOp,Jd]
section
variable {T E:TypeId} {τ:Type} {e:Enc τ} {v:Value} {l:List τ} {z0:Value} {bytes:Nat}
theorem Qc {x y z:Operand} {k A:IntKind} {lo hi:Int} (hT:P.underlying T=some (.slice E)) (hE:TI P E z0 e.sz bytes)
  (hx:L.ev x=some v) (hy:L.ev y=some (.int k lo)) (hz:L.ev z=some (.int A hi)) (h:RO w e v l) (B:0<=lo) (G:lo<=hi) (O:hi.toNat<=l.length) :
  OpV P n L w ⟨d,.slice T x (some y) (some z) none,ty,pos,after,none⟩ (slV v e.sz lo.toNat hi.toNat) w:=fun a ha=>by
 obtain⟨b,c,rfl,hc,_⟩:=h
 obtain⟨N,j,_,hs,_⟩:=hE.get
 have I:hi<=(c:Int):=by omega
 have J:(hi.toNat:Int)=hi:=jd q10
 simp[execOp,ha.ev hx,ha.ev hy,ha.ev hz,Instr.sliceAt,Instr.slice,run_underlying hT,Instr.sliceBounds,run_sliceBound,B,I,J,G,(by omega:0<=hi),sizeOf,typeInfo,j,hs,slV]
theorem Pu {x y:Operand} {k:IntKind} {lo:Int} (hT:P.underlying T=some (.slice E)) (hE:TI P E z0 e.sz bytes)
  (hx:L.ev x=some v) (hy:L.ev y=some (.int k lo)) (h:RO w e v l) (z:0<=lo) (G:lo.toNat<=l.length) :
  OpV P n L w ⟨d,.slice T x (some y) none none,ty,pos,after,none⟩ (slV v e.sz lo.toNat l.length) w:=fun a ha=>by
 obtain⟨b,c,rfl,hc,_⟩:=h
 obtain⟨B,j,_,hs,_⟩:=hE.get
 have A:lo<=(l.length:Int):=by omega
 simp[execOp,ha.ev hx,ha.ev hy,Instr.sliceAt,Instr.slice,run_underlying hT,Instr.sliceBounds,run_sliceBound,z,A,sizeOf,typeInfo,j,hs,slV]
theorem N0 {x z:Operand} {k:IntKind} {hi:Int} (hT:P.underlying T=some (.slice E)) (hE:TI P E z0 e.sz bytes)
  (hx:L.ev x=some v) (hz:L.ev z=some (.int k hi)) (h:RO w e v l) (A:0<=hi) (I:hi.toNat<=l.length) :
  OpV P n L w ⟨d,.slice T x none (some z) none,ty,pos,after,none⟩ (slV v e.sz 0 hi.toNat) w:=fun a ha=>by
 obtain⟨b,c,rfl,hc,_⟩:=h
 obtain⟨G,j,_,hs,_⟩:=hE.get
 have B:hi<=(c:Int):=by omega
 simp[execOp,ha.ev hx,ha.ev hz,Instr.sliceAt,Instr.slice,run_underlying hT,Instr.sliceBounds,run_sliceBound,A,B,sizeOf,typeInfo,j,hs,slV]
theorem RO.subl (h:RO w e v l) {lo:Nat} (j:lo<=l.length):RO w e (slV v e.sz lo l.length) (l.drop lo):=by
 have:=h.sub (lo:=lo) (hi:=l.length) j (aq _)
 rwa [aC (by simp)]at this
theorem RO.subh (h:RO w e v l) {hi:Nat} (j:hi<=l.length):RO w e (slV v e.sz 0 hi) (l.take hi):=by
 have:=h.sub (lo:=0) (hi:=hi) (eR _) j
 simpa using this
theorem RP.sub {S:List Nat} (h:RP S w e v l) {lo hi:Nat} (z:lo<=hi) (A:hi<=l.length):RP S w e (slV v e.sz lo hi) ((l.drop lo).take (hi - lo)):=by
 refine⟨h.1.sub z A,fun j k B hb=>h.2 (fun e=>j (by rw[e]; simp)) k B ?_⟩
 obtain⟨a,c,rfl,_⟩:=h.1
 cases a with
 | none=>simp[slV,Value.ownBlock]at hb
 | some x=>
  by_cases hc:c=lo
  ·simpa [slV,hc,Value.ownBlock] using hb
  ·simp[slV,hc,Value.ownBlock]at hb ⊢
   rw[<-hb]; unfold Addr.add; split <;> rfl
theorem RP.subl {S:List Nat} (h:RP S w e v l) {lo:Nat} (j:lo<=l.length):RP S w e (slV v e.sz lo l.length) (l.drop lo):=by
 have:=h.sub (lo:=lo) (hi:=l.length) j (aq _)
 rwa [aC (by simp)]at this
theorem RP.subh {S:List Nat} (h:RP S w e v l) {hi:Nat} (j:hi<=l.length):RP S w e (slV v e.sz 0 hi) (l.take hi):=by
 have:=h.sub (lo:=0) (hi:=hi) (eR _) j
 simpa using this
end
theorem Hb (l:List UInt8):strOfNums (l.map fun x=>(x.toNat:Int))=⟨⟨l⟩⟩:=by
 have:(strOfNums (l.map fun x=>(x.toNat:Int))).data.toList=l:=by
  rw[strOfNums_data,List.map_map]
  conv=>rhs; rw[<-List.map_id l]
  apply List.map_congr_left
  intro x _
  simp
 cases h:strOfNums (l.map fun x=>(x.toNat:Int)) with
 | mk data=>rw[h]at this; simp only at this; rw[<-this]
theorem Ba (l:List UInt8):e8.fl l=l.map v8:=by
 induction l with
 | nil=>rfl
 | cons a r ih=>simp only[Enc.fl,dU,dm]at ih ⊢; rw[ih]; rfl
theorem Sd {S D E:TypeId} {v:Value} {l:List UInt8} (hS:P.underlying S=some (.slice E)) (hE:P.underlying E=some (.int .u8)) (k:P.underlying D=some .string) (h:RO w e8 v l) :
  (convert S D v).run P w=.ok (vS l) w:=by
 obtain⟨a,c,rfl,hc,z⟩:=h
 cases a with
 | none=>
  have hl:l=[]:=by
   cases l with
   | nil=>rfl
   | cons x r=>obtain⟨b,off,h,_⟩:=z (by simp); cases h
  subst hl
  exact run_convert_bytes_nil w S E hS hE _ _ D k
 | some p=>
  by_cases hl:l=[]
  ·subst hl
   rw[run_convert_bytes_string w S D E _ _ c hS hE k]
   simp[Conv.bytesToString,loadCells,loadCellsFrom,vS]
   rfl
  ·obtain⟨b,off,hp,j⟩:=z hl
   cases hp
   rw[run_convert_bytes_arg w S E hS hE b off l.length c (l.map fun x=>(x.toNat:Int)) (by simp) (fun i hi=>?_) D k]
   ·rw[Hb]
   ·have:=j i (v8 l[i]) (by rw[Ba]; simp[hi])
    rw[this]
    simp[List.getD,hi]
theorem OC {S D E:TypeId} {x:Operand} {v:Value} {l:List UInt8} (hS:P.underlying S=some (.slice E)) (hE:P.underlying E=some (.int .u8)) (j:P.underlying D=some .string)
  (hx:L.ev x=some v) (h:RO w e8 v l):OpV P n L w ⟨d,.convert S D x,ty,pos,after,none⟩ (vS l) w:=fun a ha=>by
 simp[execOp,ha.ev hx,Sd hS hE j h]
end
section
variable {P:Program} {ops:Array Oper} {C D:World->Prop} {Q:Exit->Act->World->Prop} {fl:Nat->Bool}
def Ins (P:Program) (ops:Array Oper) (C:World->Prop) (o:Oper) (v:Value) (a:Act):Prop:=
 (Region.wanted o (yielded ops a.tmps)=true/\∀w,C w->(execOp a.eval o).run P w=.ok (.value v) w) \/
 (Region.wanted o (yielded ops a.tmps)=false/\v=undef)
theorem Ins.of_same {o:Oper} {v:Value} {a j:Act} (hy:Ins P ops C o v a) (he:execOp j.eval o=execOp a.eval o)
  (k:Region.wanted o (yielded ops j.tmps)=Region.wanted o (yielded ops a.tmps)):Ins P ops C o v j:=by
 unfold Ins at *
 rw[he,k]
 exact hy
theorem Ins.unique {o:Oper} {u v:Value} {a:Act} {w:World} (z:C w) (h:Ins P ops C o u a) (A:Ins P ops C o v a):u=v:=by
 rcases h with⟨j,k⟩ | ⟨j,k⟩ <;> rcases A with⟨h3,h4⟩ | ⟨h3,h4⟩
 ·have e:=(k w z).symm.trans (h4 w z)
  simpa using e
 ·rw[j]at h3; cases h3
 ·rw[j]at h3; cases h3
 ·rw[k,h4]
def C3 (P:Program) (ops:Array Oper) (o:Oper) (v:Value) (a:Act) (w:World):Prop:=Region.wanted o (yielded ops a.tmps)=true/\(execOp a.eval o).run P w=.ok (.value v) w
theorem C3.of_same {o:Oper} {v:Value} {a j:Act} {w:World} (hy:C3 P ops o v a w) (he:execOp j.eval o=execOp a.eval o)
  (k:Region.wanted o (yielded ops j.tmps)=Region.wanted o (yielded ops a.tmps)):C3 P ops o v j w:=by
 unfold C3 at *
 rw[he,k]
 exact hy
def InR (P:Program) (ops:Array Oper) (C:World->Prop) (fl:Nat->Bool) (i:Nat) (o:Oper) (v:Value) (a:Act) (w:World):Prop:=Ins P ops C o v a\/(fl (i+1000)=false/\C3 P ops o v a w)
theorem InR.of_same {i:Nat} {o:Oper} {v:Value} {a j:Act} {w:World} (hy:InR P ops C fl i o v a w) (he:execOp j.eval o=execOp a.eval o)
  (k:Region.wanted o (yielded ops j.tmps)=Region.wanted o (yielded ops a.tmps)):InR P ops C fl i o v j w:=hy.imp (fun h=>h.of_same he k) fun h=>⟨h.1,h.2.of_same he k⟩
theorem InR.ins {i:Nat} {o:Oper} {v:Value} {a:Act} {w:World} (hy:InR P ops C fl i o v a w) (h:fl (i+1000)=true):Ins P ops C o v a:=by
 rcases hy with hy | ⟨hy,_⟩
 ·exact hy
 ·rw[h]at hy; cases hy
def sr (fl:Nat->Bool) (i j:Nat):Bool:=(fl i&&fl j) || (fl i&&fl (i+1000)) || (fl j&&fl (j+1000))
def lx (P:Program) (ops:Array Oper) (C D:World->Prop) (Q:Exit->Act->World->Prop) (fl:Nat->Bool):List Nat->Act->World->Prop
 | [],a,w=>D w/\Q .normal a w
 | i :: r,a,w=>C w/\match ops[i]? with
  | none=>lx P ops C D Q fl r a w
  | some o=>if fl i then ∃v,InR P ops C fl i o v a w/\lx P ops C D Q fl r (a.put o.dst v) w else wpOp P ops Q i (lx P ops C D Q fl r) a w
theorem PX {l:List Nat} {a:Act} {w:World} (h:lx P ops C D Q fl l a w) (hl:l=[]->∀w,D w->C w):C w:=by
 cases l
 ·exact hl rfl _ h.1
 ·exact h.1
def sJ (ops:Array Oper):Prop:=∀(j:Nat) (o:Oper) cs b,ops[j]? = some o->o.op≠.select cs b
theorem KP (hp:∀c a w,¬Q (.panic c) a w) {j:Nat} {z A:Oper} {v:Value} (X:ops[j]? = some A) (I:z.apart ops A=true)
  (J:∀cs b,z.op≠.select cs b) (N:∀cs b,A.op≠.select cs b) {K:Act->World->Prop} {a:Act} {w:World}
  (hy:Ins P ops C z v a) (h:wpOp P ops Q j K (a.put z.dst v) w) :
  wpOp P ops Q j (fun O w'=>Ins P ops C z v O/\K (O.put z.dst v) w') a w:=by
 obtain⟨R,B,U⟩:=Oper.apart_spec I
 have k:∀u,Ins P ops C z v (a.put A.dst u):=fun u=>
  hy.of_same (execOp_put z J a A.dst u U) (wanted_put z a A.dst u U)
 unfold wpOp at *
 simp only[X]at *
 rw[wanted_put A a z.dst v R]at h
 have he:=execOp_put A N a z.dst v R
 split
 ·rename_i G
  simp only[G,bo]at h
  rcases h with h | h
  ·left
   unfold Oper.wp at *
   rw[he]at h
   generalize (execOp a.eval A).run P w=r at *
   cases r with
   | ok nx w'=>
    cases nx <;> simp only[Oper.upon]at h ⊢
    case value u=>exact⟨k u,by rw[<-Act.put_comm a v u B]; exact h⟩
    case skip=>exact⟨k undef,by rw[<-Act.put_comm a v undef B]; exact h⟩
    case defer dd=>
     refine⟨?_,?_⟩
     ·have:=k undef
      refine this.of_same ?_ ?_
      ·cases A.dst <;> rfl
      ·cases A.dst <;> rfl
     ·rw[Act.put_defers]at h
      rw[<-Act.put_comm _ v undef B]
      exact h
    case enter f args=>
     refine Calls.mono h fun e V hh=>?_
     cases e with
     | returned u=>exact⟨k u,by rw[<-Act.put_comm a v u B]; exact hh⟩
     | panicked c=>exact absurd hh (hp _ _ _)
     | outgrown=>exact hh
    case row rw_ args=>
     exact Rows.mono h fun u V hh=>⟨k u,by rw[<-Act.put_comm a v u B]; exact hh⟩
   | halt x w'=>
    cases x <;> simp only[Oper.upon]at h ⊢
    exact absurd h (hp _ _ _)
  ·right
   refine⟨?_,h.2⟩
   have:=h.1
   unfold Oper.asks at *
   rw[he]at this
   exact this
 ·rename_i G
  simp only[G]at h
  exact⟨k _,by rw[<-Act.put_comm a v undef B]; exact h⟩
theorem Io (hp:∀c a w,¬Q (.panic c) a w) (z:∀a w,¬Q .outgrown a w) {i:Nat} {k:Oper} (hi:ops[i]? = some k) {K:Act->World->Prop} {a:Act} {w:World}
  (h:wpOp P ops Q i K a w):∃A w' u G,K A w'/\A=({ a with defers:=G }:Act).put k.dst u:=by
 unfold wpOp at h
 simp only[hi]at h
 split at h
 ·rcases h with h | ⟨_,I,J,h⟩
  ·unfold Oper.wp at h
   generalize (execOp a.eval k).run P w=r at *
   cases r with
   | ok nx w'=>
    cases nx <;> simp only[Oper.upon]at h
    case value u=>exact⟨_,_,u,a.defers,h,rfl⟩
    case skip=>exact⟨_,_,undef,a.defers,h,rfl⟩
    case defer dd=>exact⟨_,_,undef,dd :: a.defers,h,rfl⟩
    case enter f args=>
     obtain⟨e,B,fr,j,_⟩:=h []
     cases e with
     | returned u=>exact⟨_,_,u,a.defers,j,rfl⟩
     | panicked c=>exact absurd j (hp _ _ _)
     | outgrown=>obtain⟨I,J,N⟩:=j; exact absurd N (z _ _)
    case row rw_ args=>
     obtain⟨u,B,j,_⟩:=h default []
     exact⟨_,_,u,a.defers,j,rfl⟩
   | halt x w'=>
    cases x <;> simp only[Oper.upon]at h
    exact absurd h (hp _ _ _)
  ·exact absurd h (z _ _)
 ·exact⟨_,_,undef,a.defers,h,rfl⟩
theorem NU (hp:∀c a w,¬Q (.panic c) a w) (ho:∀a w,¬Q .outgrown a w) (hs:sJ ops) {i j:Nat} {r:List Nat} {a:Act} {w:World}
  (ca:∀z k,ops[i]? = some z->ops[j]? = some k->z.apart ops k=true/\sr fl i j=true) (_hne:i≠j) (hE:r=[]->∀w,D w->C w)
  (h:lx P ops C D Q fl (i :: j :: r) a w):lx P ops C D Q fl (j :: i :: r) a w:=by
 obtain⟨V,h⟩:=h
 refine⟨V,?_⟩
 cases hi:ops[i]? with
 | none=>
  simp only[hi]at h
  obtain⟨_,h⟩:=h
  cases hj:ops[j]? with
  | none=>simp only[hj]at h; exact⟨V,by simp only[hi]; exact h⟩
  | some k=>
   simp only[hj]at h ⊢
   split
   ·rename_i hf
    simp only[hf,bo]at h
    obtain⟨v,X,B⟩:=h
    exact⟨v,X,V,by simp only[hi]; exact B⟩
   ·rename_i hf
    rw[ae hf]at h
    exact wpOp_mono (fun I w' A=>⟨PX A hE,by simp only[hi]; exact A⟩) h
 | some z=>
  simp only[hi]at h
  cases hj:ops[j]? with
  | none=>
   simp only[]
   refine⟨V,?_⟩
   simp only[hi]
   split
   ·rename_i hf
    simp only[hf,bo]at h
    obtain⟨v,X,_,B⟩:=h
    simp only[hj]at B
    exact⟨v,X,B⟩
   ·rename_i hf
    simp only[hf]at h
    exact wpOp_mono (fun I w' A=>by have:=A.2; simp only[hj]at this; exact this) h
  | some k=>
   obtain⟨bx,U⟩:=ca z k hi hj
   obtain⟨J,p2,p3⟩:=Oper.apart_spec bx
   have Y:=fun cs b=>hs i z cs b hi
   have N:=fun cs b=>hs j k cs b hj
   simp only[]
   by_cases hfi:fl i=true
   ·simp only[hfi,bo]at h
    obtain⟨v,hv,_,B⟩:=h
    simp only[hj]at B
    by_cases G:fl j=true
    ·simp only[G,bo]at B ⊢
     obtain⟨u,hu,O⟩:=B
     refine⟨u,hu.of_same (execOp_put k N a z.dst v J).symm (wanted_put k a z.dst v J).symm,V,?_⟩
     simp only[hi,hfi,bo]
     refine⟨v,hv.of_same (execOp_put z Y a k.dst u p3) (wanted_put z a k.dst u p3),?_⟩
     rw[<-Act.put_comm a v u p2]; exact O
    ·simp only[G]at B ⊢
     have hv:=hv.ins (by unfold sr at U; simpa [hfi,G] using U)
     refine wpOp_mono (fun I w' A=>?_) (KP hp hj bx Y N hv B)
     refine⟨PX A.2 hE,?_⟩
     simp only[hi,hfi,bo]
     exact⟨v,.inl A.1,A.2⟩
   ·simp only[hfi]at h
    have b4:fl i=false:=by simpa using hfi
    have b5:fl j=true/\fl (j+1000)=true:=by unfold sr at U; simpa [b4] using U
    obtain⟨G,b6⟩:=b5
    simp only[G,bo]
    have hK:∀I w',lx P ops C D Q fl (j :: r) I w'->C w'/\∃u,Ins P ops C k u I/\lx P ops C D Q fl r (I.put k.dst u) w':=fun I w' A=>by
     obtain⟨c,b2⟩:=A
     simp only[hj,G,bo]at b2
     obtain⟨u,hu,O⟩:=b2
     exact⟨c,u,hu.ins b6,O⟩
    obtain⟨I,w',x,df,X,rfl⟩:=Io hp ho hi h
    obtain⟨c',u,hu,B⟩:=hK _ _ X
    have Z:Ins P ops C k u a:=by
     refine hu.of_same ?_ ?_
     ·have:=execOp_put k N ({ a with defers:=df }:Act) z.dst x J
      rw[this]; rfl
     ·have:=wanted_put (ops:=ops) k ({ a with defers:=df }:Act) z.dst x J
      rw[this]
    refine⟨u,.inl Z,V,?_⟩
    simp only[hi,hfi]
    -- the operation,done with the other one's value in its place
    show wpOp P ops Q i (lx P ops C D Q fl r) (a.put k.dst u) w
    have he:=execOp_put z Y a k.dst u p3
    have cm:=wanted_put (ops:=ops) z a k.dst u p3
    have next:∀(y:Value) w',lx P ops C D Q fl (j :: r) (a.put z.dst y) w'->lx P ops C D Q fl r ((a.put k.dst u).put z.dst y) w':=fun y w' A=>by
     obtain⟨c,R,ab,O⟩:=hK _ _ A
     have:R=u:=by
      refine Ins.unique c (ab.of_same ?_ ?_:Ins P ops C k R a) Z
      ·rw[execOp_put k N a z.dst y J]
      ·rw[wanted_put k a z.dst y J]
     subst this
     rw[<-Act.put_comm a y R p2]; exact O
    have ax:∀(y:Value) (dd:Deferred) w',lx P ops C D Q fl (j :: r) (({ a with defers:=dd :: a.defers }:Act).put z.dst y) w' ->
      lx P ops C D Q fl r (({ (a.put k.dst u) with defers:=dd :: (a.put k.dst u).defers }:Act).put z.dst y) w':=fun y dd w' A=>by
     obtain⟨c,R,ab,O⟩:=hK _ _ A
     have:R=u:=by
      refine Ins.unique c (ab.of_same ?_ ?_:Ins P ops C k R a) Z
      ·rw[execOp_put k N _ z.dst y J]; rfl
      ·rw[wanted_put k _ z.dst y J]
     subst this
     rw[Act.put_defers,<-Act.put_comm _ y R p2]; exact O
    unfold wpOp at h ⊢
    simp only[hi]at h ⊢
    rw[cm]
    split
    ·rename_i hw
     simp only[hw,bo]at h
     rcases h with h | h
     ·left
      unfold Oper.wp at *
      rw[he]
      generalize (execOp a.eval z).run P w=rr at *
      cases rr with
      | ok nx w'=>
       cases nx <;> simp only[Oper.upon]at h ⊢
       case value y=>exact next y _ h
       case skip=>exact next undef _ h
       case defer dd=>exact ax undef dd _ h
       case enter f args=>
        refine Calls.mono h fun e ct hh=>?_
        cases e with
        | returned y=>exact next y _ hh
        | panicked c=>exact absurd hh (hp _ _ _)
        | outgrown=>exact hh
       case row rw_ args=>exact Rows.mono h fun y ct hh=>next y _ hh
      | halt x w'=>
       cases x <;> simp only[Oper.upon]at h ⊢
       exact absurd h (hp _ _ _)
     ·right
      refine⟨?_,h.2⟩
      have:=h.1
      unfold Oper.asks at *
      rw[he]
      exact this
    ·rename_i hw
     simp only[hw]at h
     exact next undef _ h
def ip (ops:Array Oper):Nat->Nat->Nat->Bool
 | 0,_,_=>false
 | f+1,j,i=>match ops[j]? with
  | none=>false
  | some o=>o.after.toList.any fun e=>Region.binds .any e&&(Nat.beq e.on i || ip ops f e.on i)
def wu (ops:Array Oper):Bool:=
 (List.range ops.size).all fun j=>match ops[j]? with
  | some o=>o.after.toList.all fun e=>!Region.binds .any e || Nat.blt e.on j
  | none=>true
def vX (ops:Array Oper) (fl:Nat->Bool):Bool:=
 (List.range ops.size).all fun j=>(List.range j).all fun i=>ip ops ops.size j i || (match ops[i]?,ops[j]? with
  | some oi,some oj=>oi.apart ops oj&&sr fl i j
  | _,_=>true)
def qo (ops:Array Oper):Bool:=ops.toList.all fun o=>match o.op with | .select ..=>false | _=>true
theorem vm (h:qo ops=true):sJ ops:=by
 intro j o cs b k he
 have:=cr.1 h o (Array.mem_toList_iff.2 (Array.mem_of_getElem? k))
 rw[he]at this
 cases this
def closed (ops:Array Oper) (listed:Array Bool):Prop:=
 ∀j oj,ops[j]? = some oj->listed.getD j false=true->∀e∈oj.after,Region.binds .any e=true->listed.getD e.on false=true
theorem jL {listed:Array Bool} (hc:closed ops listed):∀(f j i:Nat) (k:Oper),ops[j]? = some k->(∀e∈k.after,Region.binds .any e=true->listed.getD e.on false=true) ->
  ip ops f j i=true->listed.getD i false=true
 | 0,_,_,_,_,_,h=>by simp[ip]at h
 | f+1,j,i,k,hj,hall,h=>by
  simp only[ip,hj,List.any_eq_true,aW,fu]at h
  obtain⟨e,he,hb,h | h⟩:=h
  ·rw[<-bP h]; exact hall e (by simpa using he) hb
  ·have hl:=hall e (by simpa using he) hb
   cases ho:ops[e.on]? with
   | none=>cases f <;> simp[ip,ho]at h
   | some oe=>exact jL hc f e.on i oe ho (fun B z A=>hc e.on oe ho hl B z A) h
theorem B4 (hp:∀c a w,¬Q (.panic c) a w) (G:∀a w,¬Q .outgrown a w) (hs:sJ ops) {j:Nat} :
  ∀(l1 z:List Nat) (a:Act) (w:World),(∀i∈l1,i≠j/\∀A I,ops[i]? = some A->ops[j]? = some I->A.apart ops I=true/\sr fl i j=true)->(l1≠[]->z=[]->∀w,D w->C w) ->
   lx P ops C D Q fl (l1++j :: z) a w->lx P ops C D Q fl (j :: (l1++z)) a w
 | [],_,_,_,_,_,h=>h
 | i :: l1,z,a,w,hall,hE,h=>by
  have B:∀a w,lx P ops C D Q fl (l1++j :: z) a w->lx P ops C D Q fl (j :: (l1++z)) a w:=fun a w h=>
   B4 hp G hs l1 z a w (fun k J=>hall k (by simp[J])) (fun _ N=>hE (by simp) N) h
  have O:lx P ops C D Q fl (i :: j :: (l1++z)) a w:=by
   obtain⟨R,h⟩:=h
   refine⟨R,?_⟩
   cases hi:ops[i]? with
   | none=>simp only[hi]at h ⊢; exact B _ _ h
   | some A=>
    simp only[hi]at h ⊢
    split
    ·rename_i hf
     simp only[hf,bo]at h
     obtain⟨v,U,h⟩:=h
     exact⟨v,U,B _ _ h⟩
    ·rename_i hf
     simp only[hf]at h
     exact wpOp_mono (fun Y w' V=>B _ _ V) h
  have hi:=hall i (by simp)
  exact NU hp G hs hi.2 hi.1 (fun X=>hE (by simp) (List.append_eq_nil_iff.1 X).2) O
theorem pZ {listed:Array Bool} {i:Nat} (h:i<listed.size) (d:Bool):(listed.setIfInBounds i true).getD i d=true:=by
 simp[h]
theorem CQ (hp:∀c a w,¬Q (.panic c) a w) (ho:∀a w,¬Q .outgrown a w) (hs:sJ ops)
  (ab:∀j U,ops[j]? = some U->∀e∈U.after,Region.binds .any e=true->e.on<j)
  (ac:∀i j,i<j->j<ops.size->ip ops ops.size j i=false->∀oi U,ops[i]? = some oi->ops[j]? = some U->oi.apart ops U=true/\sr fl i j=true)
  :
  ∀(m:Nat) (l:List Nat) (listed:Array Bool) (a:Act) (w:World),l.length=m->l.Pairwise (·<·)->listed.size=ops.size->closed ops listed ->
   (∀i,i∈l↔i<ops.size/\listed.getD i true=false)->((∀w,D w->C w)\/((∀i,i<ops.size - 1->ip ops ops.size (ops.size - 1) i=true)/\(l≠[]->ops.size - 1∈l)))->lx P ops C D Q fl l a w->wpAny P .any ops Q m listed a w
 | 0,l,listed,a,w,hm,_,_,_,hmem,_,h=>by
  have hl:l=[]:=bA hm
  subst hl
  refine⟨?_,h.2⟩
  refine List.eq_nil_iff_forall_not_mem.2 fun i hi=>?_
  obtain⟨I,o,cy,_⟩:=mem_ready.1 hi
  have:=(hmem i).2 ⟨(du.1 cy).1,I⟩
  cases this
 | m+1,l,listed,a,w,hm,hsort,hsz,hcl,hmem,O,h=>by
  refine⟨fun b6=>?_,fun j hj=>?_⟩
  ·
   exfalso
   cases l with
   | nil=>simp at hm
   | cons i r=>
    obtain⟨b4,I⟩:=(hmem i).1 (by simp)
    have hi:i∈Region.ready .any ops listed:=by
     refine mem_ready.2 ⟨I,ops[i],by simp[b4],fun e he hb=>?_⟩
     have J:=ab i ops[i] (by simp[b4]) e he hb
     cases hl:listed.getD e.on false with
     | true=>rfl
     | false=>
      have c0:e.on<listed.size:=by rw[hsz]; omega
      have c1:listed.getD e.on true=false:=by simp[c0]at hl ⊢; exact hl
      have c2:=(hmem e.on).2 ⟨by omega,c1⟩
      rcases aJ.1 c2 with N | N
      ·omega
      ·have:=(jo.1 hsort).1 e.on N
       omega
    rw[b6]at hi
    cases hi
  ·obtain⟨I,U,R,V⟩:=mem_ready.1 hj
   have X:j<ops.size:=(du.1 R).1
   have c3:j∈l:=(hmem j).2 ⟨X,I⟩
   obtain⟨l1,B,rfl⟩:=List.append_of_mem c3
   have J:∀i∈l1,i<j:=fun i hi=>(da.1 hsort).2.2 i hi j (by simp)
   have I:∀i∈l1++B,ip ops ops.size j i=false:=fun i hi=>by
    cases hr:ip ops ops.size j i with
    | false=>rfl
    | true=>
     have G:=jL hcl ops.size j i U R V hr
     have z:=(hmem i).1 (by rcases ce.1 hi with h | h <;> simp[h])
     rw[cG]at G
     have A:=z.2
     rw[cG]at A
     have:i<listed.size:=by rw[hsz]; exact z.1
     simp[this]at G A
     rw[G]at A; cases A
   have Y:(∀i,i<ops.size - 1->ip ops ops.size (ops.size - 1) i=true)->ops.size - 1=j->l1=[]:=fun z b5=>by
    cases hl:l1 with
    | nil=>rfl
    | cons i r=>
     exfalso
     have hi:i∈l1:=by rw[hl]; simp
     have:=z i (by have:=J i hi; omega)
     rw[b5,I i (by simp[hi])]at this
     cases this
   have c4:ops.size - 1=j->B=[]:=fun b5=>by
    cases B with
    | nil=>rfl
    | cons k r=>
     have hk:=((hmem k).1 (by simp)).1
     have h5:=(da.1 hsort).2.1
     have:=(jo.1 h5).1 k (by simp)
     omega
   have c5:l1≠[]->B=[]->∀w,D w->C w:=fun N G=>by
    rcases O with z | ⟨z,O⟩
    ·exact z
    ·exfalso
     subst G
     have hn:=O (by simp)
     refine N (Y z ?_)
     rcases ce.1 hn with A | A
     ·have:=J _ A; omega
     ·simpa using A
   have b9:(∀w,D w->C w)\/((∀i,i<ops.size - 1->ip ops ops.size (ops.size - 1) i=true)/\(l1++B≠[]->ops.size - 1∈l1++B)):=by
    rcases O with z | ⟨z,O⟩
    ·exact .inl z
    ·refine .inr ⟨z,fun c6=>?_⟩
     have hn:=O (by simp)
     rcases ce.1 hn with A | A
     ·exact cg _ A
     ·rcases aJ.1 A with A | A
      ·exfalso
       exact c6 (by rw[Y z A,c4 A]; rfl)
      ·exact bU _ A
   have N:=B4 hp ho hs l1 B a w (fun i hi=>⟨Nat.ne_of_lt (J i hi),fun oi c7 c8 ca=>by
    refine ac i j (J i hi) X ?_ oi c7 c8 ca
    cases hr:ip ops ops.size j i with
    | false=>rfl
    | true=>
     have G:=jL hcl ops.size j i U R V hr
     have z:=((hmem i).1 (by simp[hi])).2
     rw[cG]at G z
     have:i<listed.size:=by rw[hsz]; exact fT (J i hi) X
     simp[this]at G z
     rw[G]at z; cases z⟩) c5 h
   have ad:(l1++B).Pairwise (·<·):=by
    refine hsort.sublist ?_
    exact List.Sublist.append_left (List.sublist_cons_self j B) l1
   have cf:(l1++B).length=m:=by simp at hm ⊢; omega
   have cm:closed ops (listed.setIfInBounds j true):=by
    intro k ok hk hl e he hb
    by_cases hkj:j=k
    ·subst hkj
     have:ok=U:=fv (hk.symm.trans R)
     subst this
     exact getD_set_true (V e he hb)
    ·rw[getD_set_ne false hkj]at hl
     exact getD_set_true (hcl k ok hk hl e he hb)
   have c9:j ∉ l1++B:=by
    intro hx
    rcases ce.1 hx with hx | hx
    ·exact absurd (J j hx) (jW _)
    ·have:=(da.1 hsort).2.1
     have:=(jo.1 this).1 j hx
     exact absurd this (jW _)
   have b2:∀i,i∈l1++B↔i<ops.size/\(listed.setIfInBounds j true).getD i true=false:=by
    intro i
    by_cases hij:j=i
    ·subst hij
     constructor
     ·intro hx; exact absurd hx c9
     ·intro hx
      have:=pZ (listed:=listed) (i:=j) (by rw[hsz]; exact X) true
      rw[this]at hx; cases hx.2
    ·rw[getD_set_ne true hij,<-hmem i]
     simp only[ce,aJ]
     constructor
     ·rintro (hx | hx)
      ·exact .inl hx
      ·exact .inr (.inr hx)
     ·rintro (hx | hx | hx)
      ·exact .inl hx
      ·exact absurd hx.symm hij
      ·exact .inr hx
   have ih:∀Z w',lx P ops C D Q fl (l1++B) Z w'->wpAny P .any ops Q m (listed.setIfInBounds j true) Z w':=fun Z w' h'=>
    CQ hp ho hs ab ac m (l1++B) _ Z w' cf ad (by simp[hsz]) cm b2 b9 h'
   obtain⟨hC,N⟩:=N
   simp only[R]at N
   split at N
   ·obtain⟨v,hv,G⟩:=N
    unfold wpOp
    simp only[R]
    rcases hv with (⟨hw,hv⟩ | ⟨hw,rfl⟩) | ⟨_,hw,hv⟩
    ·rw[af hw]
     left
     unfold Oper.wp
     rw[hv w hC]
     exact ih _ _ G
    ·rw[ae (by rw[hw]; simp)]
     exact ih _ _ G
    ·rw[af hw]
     left
     unfold Oper.wp
     rw[hv]
     exact ih _ _ G
   ·exact wpOp_mono (fun Z w' h'=>ih Z w' h') N
theorem zR (h:vX ops fl=true):∀i j,i<j->j<ops.size->ip ops ops.size j i=false->∀k z,ops[i]? = some k->ops[j]? = some z->k.apart ops z=true/\sr fl i j=true:=by
 intro i j A I J k z hi B
 have G:=cr.1 (cr.1 h j (dY.2 I)) i (dY.2 A)
 simp only[J,Bool.false_or,hi,B,aW]at G
 exact G
theorem Ab (h:wu ops=true):∀j k,ops[j]? = some k->∀e∈k.after,Region.binds .any e=true->e.on<j:=by
 intro j k z e he hb
 have A:=cr.1 h j (dY.2 (du.1 z).1)
 simp only[z]at A
 have B:=cr.1 A e (by simpa using he)
 simp only[hb,Bool.not_true,Bool.false_or,gm]at B
 exact B
def HI (ops:Array Oper):Bool:=(List.range (ops.size - 1)).all fun i=>ip ops ops.size (ops.size - 1) i
theorem xX {id:Nat} {l:List Oper} {a:Act} {w:World} (hm:P.follows .mixedOrders=true) (hp:∀c a w,¬Q (.panic c) a w) (A:∀a w,¬Q .outgrown a w)
  (z:(qo l.toArray&&wu l.toArray&&vX l.toArray fl)=true) (k:(∀w,D w->C w)\/(HI l.toArray=true/\l≠[])) (h:lx P l.toArray C D Q fl (List.range l.length) a w.drew):(Code.region id l.toArray true).wp P Q a w:=by
 simp only[aW]at z
 refine wp_region_any hm ?_
 refine CQ hp A (vm z.1.1) (Ab z.1.2) (zR z.2) _ (List.range l.length) _ a _ (by simp) List.pairwise_lt_range (by simp) (fun j B G hl=>?_) (fun i=>?_) ?_ h
 ·rw[cG,gN]at hl
  split at hl <;> simp at hl
 ·rw[cG,gN]
  by_cases h1:i<l.length
  ·simp[h1]
  ·simp[h1]
 ·rcases k with k | ⟨k,hl⟩
  ·exact .inl k
  ·refine .inr ⟨fun i hi=>?_,fun _=>?_⟩
   ·exact cr.1 k i (dY.2 hi)
   ·have:=fE.2 hl
    simp; omega
variable {n:Nat} {L:Env} {w:World}
def lxE (P:Program) (n:Nat) (ops:Array Oper) (C D:World->Prop) (Q:Exit->Act->World->Prop) (fl:Nat->Bool) (l:List Nat) (L:Env) (w:World):Prop:=∀a,Rep n L a->lx P ops C D Q fl l a w
theorem lI {id:Nat} {l:List Oper} (C:World->Prop) (fl:Nat->Bool) (hm:P.follows .mixedOrders=true) (hp:∀c a w,¬Q (.panic c) a w) (j:∀a w,¬Q .outgrown a w)
  (k:(qo l.toArray&&wu l.toArray&&vX l.toArray fl)=true) (h:lxE P n l.toArray C C Q fl (List.range l.length) L w.drew):wpC P n (.region id l.toArray true) Q L w:=
 fun a ha=>xX hm hp j k (.inl fun _ h=>h) (h a ha)
theorem gV {id:Nat} {l:List Oper} (C:World->Prop) (fl:Nat->Bool) (hm:P.follows .mixedOrders=true) (hp:∀c a w,¬Q (.panic c) a w) (k:∀a w,¬Q .outgrown a w)
  (j:(qo l.toArray&&wu l.toArray&&vX l.toArray fl&&HI l.toArray&&!l.isEmpty)=true) (h:lxE P n l.toArray C (fun _=>True) Q fl (List.range l.length) L w.drew):wpC P n (.region id l.toArray true) Q L w:=
 fun a ha=>by
  simp only[aW]at j
  refine xX hm hp k (by simp only[aW]; exact j.1.1) (.inr ⟨j.1.2,fun z=>?_⟩) (h a ha)
  have:=j.2
  rw[z]at this
  cases this
theorem gf (j:D w) (h:QE n Q .normal L w):lxE P n ops C D Q fl [] L w:=fun a ha=>⟨j,h a ha⟩
theorem aN {i:Nat} {r:List Nat} {d:Nat} {op:Op} {ty:TypeId} {pos:String} {after:Array Edge} {v:Value} (k:C w) (z:ops[i]? = some ⟨some d,op,ty,pos,after,none⟩) (hf:fl i=true)
  (A:∀w,C w->OpV P n L w ⟨some d,op,ty,pos,after,none⟩ v w) (hd:Nat.blt d n=true) (h:lxE P n ops C D Q fl r ((d,v) :: L) w):lxE P n ops C D Q fl (i :: r) L w:=fun a ha=>by
 refine⟨k,?_⟩
 simp only[z,hf,bo]
 exact⟨v,.inl (.inl ⟨by simp[Region.wanted],fun w' j=>A w' j a ha⟩),h _ (ha.put hd)⟩
theorem G2 {i:Nat} {r:List Nat} {d:Nat} {op:Op} {ty:TypeId} {pos:String} {after:Array Edge} {v:Value} (j:C w) (k:ops[i]? = some ⟨some d,op,ty,pos,after,none⟩) (hf:fl i=true) (z:fl (i+1000)=false)
  (A:OpV P n L w ⟨some d,op,ty,pos,after,none⟩ v w) (hd:Nat.blt d n=true) (h:lxE P n ops C D Q fl r ((d,v) :: L) w):lxE P n ops C D Q fl (i :: r) L w:=fun a ha=>by
 refine⟨j,?_⟩
 simp only[k,hf,bo]
 exact⟨v,.inr ⟨z,by simp[Region.wanted],A a ha⟩,h _ (ha.put hd)⟩
theorem sP {i:Nat} {r:List Nat} {d:Nat} {op:Op} {ty:TypeId} {pos:String} {after:Array Edge} {Φ:Value->World->Prop} (k:C w) (j:ops[i]? = some ⟨some d,op,ty,pos,after,none⟩) (hf:fl i=false)
  (z:OpX P n L w ⟨some d,op,ty,pos,after,none⟩ Φ) (hd:Nat.blt d n=true) (h:∀v w',Φ v w'->lxE P n ops C D Q fl r ((d,v) :: L) w'):lxE P n ops C D Q fl (i :: r) L w:=fun a ha=>by
 refine⟨k,?_⟩
 simp only[j,hf,bK,cC]
 obtain⟨v,w',A,B⟩:=z
 unfold wpOp
 simp only[j]
 rw[af (by simp[Region.wanted])]
 left
 unfold Oper.wp
 rw[A a ha]
 exact h v w' B _ (ha.put hd)
theorem mD {i:Nat} {r:List Nat} {op:Op} {ty:TypeId} {pos:String} {after:Array Edge} {Φ:World->Prop} (k:C w) (j:ops[i]? = some ⟨none,op,ty,pos,after,none⟩) (hf:fl i=false)
  (z:OpY P n L w ⟨none,op,ty,pos,after,none⟩ Φ) (h:∀w',Φ w'->lxE P n ops C D Q fl r L w'):lxE P n ops C D Q fl (i :: r) L w:=fun a ha=>by
 refine⟨k,?_⟩
 simp only[j,hf,bK,cC]
 obtain⟨w',A,B⟩:=z
 unfold wpOp
 simp only[j]
 rw[af (by simp[Region.wanted])]
 left
 unfold Oper.wp
 rw[A a ha]
 exact h w' B _ ha
end
section
variable {P:Program} {n:Nat} {L:Env} {w w0:World} {Q:Exit->Act->World->Prop} {S:List Nat} {os:List OE}
variable {d:Option Tmp} {ty:TypeId} {pos:String} {after:Array Edge}
theorem jY {o:Oper} {Φ:Value->World->Prop} (v:Value) (w':World) (j:OpV P n L w o v w') (h:Φ v w'):OpX P n L w o Φ:=⟨v,w',j,h⟩
theorem zi {o:Oper} {Φ:World->Prop} (w':World) (j:OpS P n L w o w') (h:Φ w'):OpY P n L w o Φ:=⟨w',j,h⟩
theorem St.fresh (h:St S w0 w os):fre S w0.heap.size w.heap.size:=.inl h.fr.size
theorem Jv (z:Array Value) (sz c l:Nat) {τ:Type} (e:Enc τ) (G:τ) (hz:z.toList=e.cells G) (hs:e.sz=sz) (hl:l<=c) :
  (madeCells z (c*sz)).toList.take (l*sz)=e.fl (List.replicate l G):=by
 have A:z.size=sz:=by rw[<-fF,hz,e.len,hs]
 apply jw
 intro k
 rw[bY]
 split
 ·rename_i I
  have B:0<sz:=by
   rcases bR sz with h | h
   ·subst h; simp at I
   ·exact h
  have N:k<c*sz:=aO I (bg _ hl)
  have j:k%sz<sz:=ba _ B
  have J:k / sz<l:=(fK B).2 I
  have R:k=k / sz*e.sz+k%sz:=by rw[hs,aP]; exact (cQ k sz).symm
  have O:=e.fl_get (List.replicate l G) (k / sz) G (by simp[et,J]) (k%sz) (by rw[hs]; exact j)
  rw[<-R]at O
  rw[O,<-hz]
  simp only[madeCells,Array.toList_map,Array.toList_range,f9,List.getElem?_range N,eN,A]
  rw[getElem!_pos z (k%sz) (by rw[A]; exact j)]
  simp[A,j]
 ·rename_i I
  rw[dw]
  rw[e.fl_length,aZ,hs]
  omega
theorem L0 {T E:TypeId} {x y:Operand} {k B:IntKind} {l c:Int} {τ:Type} {e:Enc τ} {A:τ} {z:Value} {bytes:Nat} (hT:P.underlying T=some (.slice E)) (hE:TI P E z e.sz bytes) (hz:z.cells.toList=e.cells A)
  (hx:L.ev x=some (.int k l)) (hy:L.ev y=some (.int B c)) (hS:St S w0 w os) (I:0<=l) (J:l<=c) (N:(bytes:Int)*c<=281474976710656) (O:c<=9223372036854775807) :
  OpX P n L w ⟨d,.makeSlice T x y,ty,pos,after,none⟩ (fun v w'=>St S w0 w' (own e v (List.replicate l.toNat A) :: os)):=by
 obtain⟨j,hi,G,hs,hb⟩:=hE.get
 have R:=run_make (P:=P) w T E j z hT hi G k B l c I J (by rw[hb]; exact N) O
 refine jY (.slice (some ⟨w.heap.size,0,none⟩) l.toNat c.toNat) (w.alloc (.cells (madeCells z.cells (c.toNat*j.size)) E)) (fun a ha=>?_) ?_
 ·simp only[execOp,ha.ev hx,ha.ev hy,Sem.run_bind,R,Result.andThen_ok]; rfl
 ·refine hS.push (Fr.alloc _ _ _) (o:=own e _ _) ?_ ?_
  ·refine⟨e.fl_length _,.inr ⟨w.heap.size,c.toNat,madeCells z.cells (c.toNat*j.size),E,?_,hS.fresh,Row.new w _ _,?_,?_,?_,?_⟩⟩
   ·simp
   ·simp; omega
   ·simp[maxLen]; omega
   ·rw[size_madeCells,hs]; exact aq _
   ·rw[hs,aZ]
    exact Jv z.cells e.sz c.toNat l.toNat e A hz rfl q10
  ·intro k U
   simp[OE.blk,Value.ownBlock]at U
   omega
theorem Cc (j:Nat) (z:j=1):∀(vs:List Value) (k:Nat) (cells:Array Value),(∀v∈vs,v.oneCell'=true)->k+vs.length<=cells.size ->
  Instr.fill (fun i=>some (i*j,j)) cells (vs.zipIdx k |>.map fun p=>(p.2,p.1))=some (cells.toList.take k++vs++cells.toList.drop (k+vs.length)).toArray
 | [],k,cells,_,_=>by simp[Instr.fill]
 | v :: r,k,cells,h1,hk=>by
  subst z
  have B:v.cells=#[v]:=by have:=h1 v (by simp); cases v <;> simp_all [Value.cells,Value.oneCell']
  have G:=Cc 1 rfl r (k+1) (cells.setIfInBounds k v) (fun u hu=>h1 u (by simp[hu])) (by simp at hk ⊢; omega)
  simp only[List.zipIdx_cons,dm,Instr.fill,B]
  rw[ae (by simp at hk ⊢; omega)]
  have A:(#[v]:Array Value).zipIdx.foldl (fun cs (x:Value×Nat)=>cs.setIfInBounds (k*1+x.2) x.1) cells=cells.setIfInBounds k v:=by
   have:(#[v]:Array Value).zipIdx=#[(v,0)]:=rfl
   rw[this]; simp
  rw[A,G]
  congr 2
  have e:=list_seg_step cells.toList k v r (by simp at hk ⊢; omega)
  simpa [Array.toList_setIfInBounds,dW] using e
def Env.parts (L:Env):List (Nat×Operand)->Nat->Option (List Value)
 | [],_=>some []
 | (i,x) :: r,k=>if i=k then match L.ev x,Env.parts L r (k+1) with
  | some v,some vs=>some (v :: vs)
  | _,_=>none
  else none
theorem Env.parts_eq {L:Env} {a:Act} (ha:Rep n L a):∀{j:List (Nat×Operand)} {k:Nat} {vs:List Value},L.parts j k=some vs->j.map (fun p=>(p.1,a.eval p.2))=(vs.zipIdx k).map fun p=>(p.2,p.1)
 | [],k,vs,h=>by simp[Env.parts]at h; subst h; rfl
 | (i,x) :: r,k,vs,h=>by
  simp only[Env.parts]at h
  split at h
  ·rename_i z
   cases hx:L.ev x with
   | none=>simp[hx]at h
   | some v=>
    cases hr:L.parts r (k+1) with
    | none=>simp[hx,hr]at h
    | some us=>
     simp[hx,hr]at h
     subst h
     simp only[dm,List.zipIdx_cons,ha.ev hx,Env.parts_eq ha hr,z]
  ·cases h
theorem lR {T E:TypeId} {m:Nat} {G:List (Nat×Operand)} {vs:List Value} {τ:Type} {e:Enc τ} {l:List τ} {z:Value} {bytes:Nat} (hT:P.underlying T=some (.slice E)) (hE:TI P E z 1 bytes)
  (hp:L.parts G 0=some vs) (hm:vs.length=m) (j:e.sz=1) (hl:e.fl l=vs) (U:0<m) (V:m<=16777216) (hS:St S w0 w os) :
  OpX P n L w ⟨d,.buildSlice T m G.toArray,ty,pos,after,none⟩ (fun v w'=>St S w0 w' (own e v l :: os)):=by
 obtain⟨A,hi,J,hs,hb⟩:=hE.get
 have B:l.length=m:=by have:=e.fl_length l; rw[hl,hm,j]at this; omega
 have I:∀v∈vs,v.oneCell'=true:=by rw[<-hl]; exact e.fl_one l
 have hf:=Cc A.size hs vs 0 ((Array.range (m*A.size)).map (z.cells[·%z.cells.size]!)) I (by simp[hs,hm])
 simp only[List.take_zero,cZ,bn]at hf
 rw[List.drop_eq_nil_of_le (by simp[hs,hm]),dS]at hf
 refine jY (.slice (some ⟨w.heap.size,0,none⟩) m m) (w.alloc (.cells vs.toArray E)) (fun a ha=>?_) ?_
 ·have N:(G.toArray.map fun x=>(x.1,a.eval x.2)).toList=(vs.zipIdx 0).map fun p=>(p.2,p.1):=by
   simp only[Array.toList_map]
   exact Env.parts_eq ha hp
  have O:=run_buildSlice (P:=P) w T E m (G.toArray.map fun x=>(x.1,a.eval x.2)) vs.toArray A z hT hi J (by rw[hs]; simp; omega) (by rw[hs]; simp; omega) (by rw[N]; exact hf)
  simp only[execOp,Sem.run_bind,O,Result.andThen_ok]; rfl
 ·refine hS.push (Fr.alloc _ _ _) (o:=own e _ _) ?_ ?_
  ·refine⟨e.fl_length _,.inr ⟨w.heap.size,m,vs.toArray,E,?_,hS.fresh,Row.new w _ _,?_,?_,?_,?_⟩⟩
   ·rw[B]
   ·omega
   ·simp[maxLen]; omega
   ·simp[j,hm]
   ·rw[B,j,hl]; simp; exact aC q10
  ·intro k R
   simp[OE.blk,Value.ownBlock]at R
   omega
theorem zT {j k bytes:Nat} (h:k<j) (hb:j*bytes<=225000000000000) (A:bytes<=65536):Builtin.nextslicecap j k*bytes<=281474976710656:=by
 have z:Builtin.nextslicecap j k<=j+j / 4+512:=by
  unfold Builtin.nextslicecap
  split
  ·omega
  ·split
   ·omega
   ·rename_i B G
    rw[growBy_four]
    repeat' split
    all_goals omega
 calc Builtin.nextslicecap j k*bytes<=(j+j / 4+512)*bytes:=bg _ z
  _=j*bytes+j / 4*bytes+512*bytes:=by rw[bd,bd]
  _<=281474976710656:=by
   have:j / 4*bytes<=j*bytes / 4:=by
    rw[Nat.le_div_iff_mul_le q10]
    calc j / 4*bytes*4=j / 4*4*bytes:=by rw[aD,aP bytes 4,<-aD]
     _<=j*bytes:=bg _ (gi _ _)
   omega
theorem we (t ty e:TypeId) (i:TypeInfo) (N:P.underlying t=some (.slice e)) (hi:P.info? e=some i)
  (g k A:Nat) (z:Array Value) (T:TypeId) (hg:Row w g z T)
  (a:Addr) (m c:Nat) (news:List Value) (hl:news.length=m*i.size) (B:∀j u,news[j]? = some u->w.cell? (a.add j)=some u) (O:∀u∈news,u.oneCell'=true)
  (G:k+m<=A) (J:k*i.size+news.length<=z.size) :
  (Builtin.append_ #[t,t] ty #[.slice (some ⟨g,0,none⟩) k A,.slice (some a) m c]).run P w =
   .ok (.slice (some ⟨g,0,none⟩) (k+m) A) (w.setRow g (z.toList.take (k*i.size)++news++z.toList.drop (k*i.size+news.length)).toArray):=by
 have hf:=run_firstCells_some (P:=P) w i.size m a m c news hl B
 have I:=kJ P g (k*i.size) T news 0 z w hg (by simpa using J) O
 simp only[bb]at I
 simp[Builtin.append_,run_underlying N,sizeOf,typeInfo,hi,Builtin.lenOf,G,hf,Addr.add_lit,I]
theorem qV (t ty e:TypeId) (i:TypeInfo) (A:P.underlying t=some (.slice e)) (hi:P.info? e=some i) (v:Value) (b:Option Addr) (j k c:Nat) (B:v=.slice b j k) (z:j<=k) (x:Option Addr) :
  (Builtin.append_ #[t,t] ty #[v,.slice x 0 c]).run P w=.ok v w:=by
 subst B
 cases b <;> cases x <;> simp[Builtin.append_,run_underlying A,sizeOf,typeInfo,hi,Builtin.lenOf,z,Builtin.firstCells,loadCells,loadCellsFrom,storeCells]
theorem pU {T E ty:TypeId} {τ:Type} {e:Enc τ} {z:Value} {bytes:Nat} {v u:Value} {l m:List τ} {B:Nat} (hT:P.underlying T=some (.slice E)) (hE:TI P E z e.sz bytes) (hz:z.cells.size=e.sz) (b6:bytes<=65536) (b3:0<bytes)
  (Y:(own e v l).ok S B w) (hu:RO w e u m) (hB:B<=w.heap.size) (hb:(l.length+m.length)*bytes<=225000000000000) :
  ∃v' w',(Builtin.append_ #[T,T] ty #[v,u]).run P w=.ok v' w'/\(own e v' (l++m)).ok S B w'/\Fr (own e v l).blk.toList w w'/\(∀k,(own e v' (l++m)).blk=some k->(own e v l).blk=some k\/w.heap.size<=k):=by
 obtain⟨G,hi,ac,hs,ad⟩:=hE.get
 obtain⟨ua,c,rfl,hc,hr⟩:=hu
 by_cases hm:m=[]
 ·subst hm
  rcases Y.2 with⟨rfl,hn⟩ | ⟨g,A,X,T',rfl,ap,hg,ax,bx,b2,N⟩
  ·have hl:l=[]:=bA hn
   subst hl
   refine⟨_,w,qV T ty E G hT hi _ none 0 0 c rfl (aq _) ua,?_,Fr.refl _ _,fun k O=>.inl (by simpa using O)⟩
   simpa using Y
  ·refine⟨_,w,qV T ty E G hT hi _ (some ⟨g,0,none⟩) l.length A c rfl ax ua,?_,Fr.refl _ _,fun k O=>.inl (by simpa using O)⟩
   simpa using Y
 ·obtain⟨b,off,rfl,Z⟩:=hr hm
  have I:∀j x,(e.fl m)[j]? = some x->w.cell? ((⟨b,off,none⟩:Addr).add j)=some x:=fun j x V=>by rw[jQ]; exact Z j x V
  have U:(e.fl m).length=m.length*G.size:=by rw[hs]; exact e.fl_length m
  have ca:0<m.length:=fE.2 hm
  have cf:l.length+m.length<=225000000000000:=aA (dX _ b3) hb
  rcases Y.2 with⟨rfl,hn⟩ | ⟨g,A,X,T',rfl,ap,hg,ax,bx,b2,N⟩
  ·have hl:l=[]:=bA hn
   subst hl
   simp only[fw,bn]at hb cf
   have J:=run_append_nil (P:=P) w T ty E G z hT hi ac ⟨b,off,none⟩ m.length c (e.fl m) U I ca q10 (by rw[ad]; omega)
   refine⟨_,_,J,⟨e.fl_length _,.inr ⟨w.heap.size,grownCap w m.length 0 E,_,E,?_,?_,Row.new w.drew _ _,?_,?_,?_,?_⟩⟩,?_,?_⟩
   ·simp
   ·exact .inl hB
   ·simp; exact grownCap_ge w m.length 0 E
   ·exact grownCap_le_maxLen w m.length 0 E (by simp[maxLen]; omega)
   ·have:=grownCap_ge w m.length 0 E
    simp only[Array.size_append,eM,size_zeroCells,hz,e.fl_length,<-bd]
    exact bg _ q10
   ·simp only[cZ,Array.toList_append,List.toList_toArray]
    rw[<-e.fl_length]
    exact g9
   ·exact (Fr.drew _ w).trans (Fr.alloc _ _ _)
   ·intro k O
    simp[OE.blk,Value.ownBlock]at O
    right; omega
  ·by_cases hroom:l.length+m.length<=A
   ·have R:l.length*G.size+(e.fl m).length<=X.size:=by
     rw[U,<-bd]
     exact aA (bg _ hroom) (by rw[hs]; exact b2)
    have J:=we (w:=w) T ty E G hT hi g l.length A X T' hg ⟨b,off,none⟩ m.length c (e.fl m) U I (e.fl_one m) hroom R
    refine⟨_,_,J,⟨e.fl_length _,.inr ⟨g,A,_,T',?_,ap,hg.set _ ?_,?_,bx,?_,?_⟩⟩,?_,?_⟩
    ·simp
    ·simp only[eM,aR,az,bj,fF]at R ⊢
     omega
    ·simpa using hroom
    ·simp only[eM,aR,az,bj,fF]at R ⊢
     omega
    ·rw[hs,N,aR,bd]
     simp only[bh]
     rw[<-bh,<-e.fl_append]
     have:l.length*e.sz+m.length*e.sz=(e.fl (l++m)).length:=by rw[e.fl_length,aR,bd]
     rw[this]
     exact g9
    ·exact Fr.setRow w g _
    ·intro k O
     left
     simpa [OE.blk,Value.ownBlock] using O
   ·have ab:∀j x,(e.fl l)[j]? = some x->w.cell? ((⟨g,0,none⟩:Addr).add j)=some x:=fun j x V=>by
     rw[jQ,bn,hg.cell j]
     rw[<-N,bY]at V
     split at V
     ·simpa using V
     ·cases V
    have cm:(e.fl l).length=l.length*G.size:=by rw[hs]; exact e.fl_length l
    have J:=run_append_grow (P:=P) w T ty E G z hT hi ac ⟨g,0,none⟩ l.length A (e.fl l) cm ab ⟨b,off,none⟩ m.length c (e.fl m) U I q10 q10
     (by rw[ad]; exact zT q10 hb b6)
    refine⟨_,_,J,⟨e.fl_length _,.inr ⟨w.heap.size,grownCap w (l.length+m.length) A E,_,E,?_,?_,Row.new w.drew _ _,?_,?_,?_,?_⟩⟩,?_,?_⟩
    ·simp
    ·exact .inl hB
    ·simp; exact grownCap_ge w (l.length+m.length) A E
    ·exact grownCap_le_maxLen w (l.length+m.length) A E (by simp[maxLen]; omega)
    ·have:=grownCap_ge w (l.length+m.length) A E
     simp only[Array.size_append,eM,size_zeroCells,hz,e.fl_length,<-bd]
     exact bg _ q10
    ·simp only[Array.toList_append,bh]
     rw[<-bh,<-e.fl_append,<-e.fl_length]
     exact g9
    ·exact (Fr.drew _ w).trans (Fr.alloc _ _ _)
    ·intro k O
     simp[OE.blk,Value.ownBlock]at O
     right; omega
theorem HB {x y:Operand} {T E:TypeId} {τ:Type} {e:Enc τ} {z:Value} {bytes:Nat} {v u:Value} {l m:List τ} {i:Nat} (hT:P.underlying T=some (.slice E)) (hE:TI P E z e.sz bytes) (hz:z.cells.size=e.sz) (A:bytes<=65536) (j:0<bytes)
  (hx:L.ev x=some v) (hy:L.ev y=some u) (hS:St S w0 w os) (hi:os[i]? = some (own e v l)) (hu:RO w e u m) (hb:(l.length+m.length)*bytes<=225000000000000) :
  OpX P n L w ⟨d,.call ⟨.builtin .append,#[x,y],#[T,T]⟩,ty,pos,after,none⟩ (fun k w'=>St S w0 w' (os.set i (own e k (l++m)))):=by
 obtain⟨k,w',B,G,I,J⟩:=pU (ty:=ty) hT hE hz A j (hS.ok _ (bI hi)) hu hS.fr.size hb
 refine jY k w' (fun a ha=>?_) (hS.set hi I G J)
 simp[execOp,resolve,invoke,builtin,ha.ev hx,ha.ev hy,B]
theorem EC {x y:Operand} {T E:TypeId} {τ:Type} {e:Enc τ} {z:Value} {bytes:Nat} {u:Value} {m:List τ} (hT:P.underlying T=some (.slice E)) (hE:TI P E z e.sz bytes) (hz:z.cells.size=e.sz) (B:bytes<=65536) (j:0<bytes)
  (hx:L.ev x=some (.slice none 0 0)) (hy:L.ev y=some u) (hS:St S w0 w os) (hu:RO w e u m) (hb:m.length*bytes<=225000000000000) :
  OpX P n L w ⟨d,.call ⟨.builtin .append,#[x,y],#[T,T]⟩,ty,pos,after,none⟩ (fun A w'=>St S w0 w' (own e A m :: os)):=by
 have hn:(own e (.slice none 0 0) ([]:List τ)).ok S w0.heap.size w:=⟨by simp,.inl ⟨rfl,rfl⟩⟩
 obtain⟨A,w',G,I,J,N⟩:=pU (ty:=ty) hT hE hz B j hn hu hS.fr.size (by simpa using hb)
 refine jY A w' (fun a ha=>?_) (hS.push (by simpa [OE.blk,Value.ownBlock] using J) I fun k O=>?_)
 ·simp[execOp,resolve,invoke,builtin,ha.ev hx,ha.ev hy,G]
 ·rcases N k O with h | h
  ·simp[OE.blk,Value.ownBlock]at h
  ·exact h
theorem PK {τ:Type} (e:Enc τ) (l:List τ) (j:Nat) (t:τ) (u:Value) (hu:e.cells t=[u]) (k:j<l.length):e.fl (l.set j t)=(e.fl l).set (j*e.sz) u:=by
 have z:e.sz=1:=by rw[<-e.len t,hu]; rfl
 have A:∀(l:List τ) (j:Nat),j<l.length->e.fl (l.set j t)=(e.fl l).set j u:=by
  intro l
  induction l with
  | nil=>intro j k; simp at k
  | cons a r ih=>
   intro j k
   have ha:∃b,e.cells a=[b]:=List.length_eq_one_iff.1 (by rw[e.len,z])
   obtain⟨b,hb⟩:=ha
   cases j with
   | zero=>simp[Enc.fl,hu,hb]
   | succ j=>
    have:=ih j (by simpa using k)
    simp only[Enc.fl,List.set_cons_succ,dU,hb,jC]at this ⊢
    rw[this]
 rw[A l j k,z,de]
theorem Ay {T:TypeId} {z:Value} {bytes:Nat} (hT:TI P T z 1 bytes) {g j:Nat} {k:Array Value} {B:TypeId} {u:Value} (hg:Row w g k B) (G:j<k.size) (hu:u.oneCell'=true) :
  (storeVar T ⟨g,j,none⟩ u).run P w=.ok () (w.setRow g (k.toList.set j u).toArray):=by
 obtain⟨I,hi,_,hs,_⟩:=hT.get
 have hc:u.cells=#[u]:=by cases u <;> simp_all [Value.cells,Value.oneCell']
 have A:=kJ P g j B [u] 0 k w hg (by simp; omega) (by simpa using hu)
 have he:(k.toList.take (j+0)++[u]++k.toList.drop (j+0+[u].length))=k.toList.set j u:=by
  simp only[bb,gy]
  rw[List.set_eq_take_append_cons_drop,af (by simpa using G)]
  simp
 rw[he]at A
 simp[storeVar,sizeOf,typeInfo,hi,hs,hc,A]
theorem wT {x y:Operand} {T:TypeId} {τ:Type} {e:Enc τ} {z:Value} {bytes:Nat} {v u:Value} {l:List τ} {i j:Nat} {t:τ} (hT:TI P T z 1 bytes)
  (hx:L.ev x=some (pP (ixA v e.sz j))) (hy:L.ev y=some u) (hu:e.cells t=[u]) (hS:St S w0 w os) (hi:os[i]? = some (own e v l)) (Z:j<l.length) :
  OpY P n L w ⟨none,.store T x y,ty,pos,after,none⟩ (fun w'=>St S w0 w' (os.set i (own e v (l.set j t)))):=by
 have N:=hS.ok _ (bI hi)
 have A:e.sz=1:=by rw[<-e.len t,hu]; rfl
 have O:u.oneCell'=true:=e.one t u (by rw[hu]; simp)
 rcases N.2 with⟨rfl,hn⟩ | ⟨g,G,I,T',rfl,R,hg,U,V,J,B⟩
 ·omega
 ·have X:j<I.size:=by rw[A]at J; omega
  have Y:ixA (.slice (some ⟨g,0,none⟩) l.length G) e.sz j=⟨g,j,none⟩:=by simp[ixA,jQ,A]
  rw[Y]at hx
  have hr:=Ay (P:=P) (T:=T) hT hg X O
  refine zi (w.setRow g (I.toList.set j u).toArray) (fun a ha=>?_) (hS.set hi (Fr.setRow w g _) (o':=own e _ _) ⟨e.fl_length _,.inr ⟨g,G,_,T',by simp,R,hg.set _ (by simp),by simpa using U,V,by simpa using J,?_⟩⟩ fun k hk=>.inl hk)
  ·simp[execOp,ha.ev hx,ha.ev hy,Instr.storeAt,Instr.sureAddr,hr]
  ·simp only[bM]
   rw[PK e l j t u hu Z,<-B,A,de,de,List.take_set]
theorem Jh {D T E:TypeId} {x:Operand} {l:List UInt8} (N:P.underlying D=some .string) (hT:P.underlying T=some (.slice E)) (hE:P.underlying E=some (.int .u8))
  (hx:L.ev x=some (vS l)) (hS:St S w0 w os) :
  OpX P n L w ⟨d,.convert D T x,ty,pos,after,none⟩ (fun v w'=>St S w0 w' (red e8 v l :: os)):=by
 have O:=Lib.run_convert_string_bytes (P:=P) w D T E ⟨⟨l⟩⟩ N hT hE
 have G:Fr [] w (Lib.bytesWorld w E ⟨⟨l⟩⟩):=⟨rfl,rfl,rfl,by rw[Lib.bytesWorld_size]; omega,fun k z _=>Lib.bytesWorld_at_old w E ⟨⟨l⟩⟩ k z⟩
 have I:(red e8 (.slice (some ⟨w.heap.size,0,none⟩) l.length (grownCap w (⟨⟨l⟩⟩:ByteArray).size 0 E)) l).ok S w0.heap.size (Lib.bytesWorld w E ⟨⟨l⟩⟩):=by
  refine⟨e8.fl_length l,_,_,rfl,grownCap_ge w _ 0 E,fun _=>⟨w.heap.size,0,rfl,?_,hS.fresh,fun j u B=>?_⟩⟩
  ·rw[Lib.bytesWorld_size]; exact Nat.lt_succ_self _
  ·rw[Ba]at B
   have A:j<l.length:=by
    have:=(br.1 B).1
    simpa using this
   rw[bn,Lib.bytesWorld_cell w E ⟨⟨l⟩⟩ j A]
   simp[A]at B
   subst B
   simp[List.getD,A]
 have J:St S w0 (Lib.bytesWorld w E ⟨⟨l⟩⟩) (red e8 (.slice (some ⟨w.heap.size,0,none⟩) l.length (grownCap w (⟨⟨l⟩⟩:ByteArray).size 0 E)) l :: os):=hS.push G I fun k z=>by
  simp only[OE.blk]at z
  split at z
  ·cases z
  ·simp[Value.ownBlock]at z; omega
 refine jY _ _ (fun a ha=>?_) J
 simp only[execOp,ha.ev hx,Sem.run_bind,O,Result.andThen_ok]; rfl
def Ret (φ:Value->World->Prop):Ending->World->Prop:=fun e w=>match e with
 | .returned v=>φ v w
 | _=>False
def mK (P:Program) (f:FuncId):Bool:=match P.funcs[f]? with
 | some fn => fn.body.isSome && fn.name != "runtime.NumGoroutine"
 | none=>false
theorem tv {f:FuncId} {args:Array Value} (h:mK P f=true):(callFunc f args).run P w=.ok (.enter f args) w:=by
 unfold mK at h
 split at h
 ·rename_i fn hf
  simp only[aW]at h
  have j : ¬ (fn.name == "runtime.NumGoroutine") = true := by simpa using h.2
  have k:fn.body.isNone=false:=by cases hb:fn.body <;> simp_all
  simp only[callFunc,Sem.run_bind,program,Sem.run,Result.andThen_ok,hf,j,k]
  rfl
 ·cases h
theorem CL {o:Oper} {f:FuncId} {xs:List Operand} {j:Array TypeId} {vs:List Value} {a:Act} (k:o.op=.call ⟨.value (.func f),xs.toArray,j⟩)
  (hf:mK P f=true) (hargs:xs.map a.eval=vs):(execOp a.eval o).run P w=.ok (.enter f vs.toArray) w:=by
 simp only[execOp,k,resolve,Act.eval,Deferred.ofValue,Sem.run_bind,Sem.run_pure,Result.andThen_ok,invoke]
 have:(#[]++Array.map a.eval xs.toArray++#[]:Array Value)=vs.toArray:=by simp[hargs]
 rw[this]
 exact tv hf
theorem uM {o:Oper} {f:FuncId} {xs:List Operand} {j:Array TypeId} {vs:List Value} {φ:Value->World->Prop} {K:Act->World->Prop} {a:Act} (z:o.op=.call ⟨.value (.func f),xs.toArray,j⟩)
  (hf:mK P f=true) (hargs:xs.map a.eval=vs) (hc:Calls P f vs.toArray w (Ret φ)) (k:∀v w',φ v w'->K (a.put o.dst v) w'):o.wp P a w K Q:=by
 unfold Oper.wp
 rw[CL z hf hargs]
 refine Calls.mono hc fun e w' he=>?_
 cases e with
 | returned v=>exact k v w' he
 | panicked c=>exact he.elim
 | outgrown=>exact he.elim
theorem ou {ops:Array Oper} {rest:List Oper} {d:Nat} {f:FuncId} {xs:List Operand} {j:Array TypeId} {vs:List Value} {φ:Value->World->Prop}
  (hf:mK P f=true) (hargs:L.evs xs=some vs) (hc:Calls P f vs.toArray w (Ret φ)) (hd:Nat.blt d n=true)
  (k:∀v w',φ v w'->wpR P n ops Q rest ((d,v) :: L) w'):wpR P n ops Q (⟨some d,.call ⟨.value (.func f),xs.toArray,j⟩,ty,pos,after,none⟩ :: rest) L w:=fun a ha=>by
 unfold wpList
 rw[af (by simp[Region.wanted])]
 exact .inl (uM rfl hf (ha.evs hargs) hc fun v w' h=>k v w' h _ (ha.put hd))
theorem nI {ops:Array Oper} {rest:List Oper} {d:Nat} {f:FuncId} {xs:List Operand} {j:Array TypeId} {vs:List Value} {φ:Value->World->Prop}
  (hargs:L.evs xs=some vs) (hc:Calls P f vs.toArray w (Ret φ)) (hd:Nat.blt d n=true)
  (k:∀v w',φ v w'->wpR P n ops Q rest ((d,v) :: L) w') (hf:mK P f=true:=by kernel_rfl):wpR P n ops Q (⟨some d,.call ⟨.value (.func f),xs.toArray,j⟩,ty,pos,after,none⟩ :: rest) L w:=ou hf hargs hc hd k
theorem fM {ops:Array Oper} {C D:World->Prop} {fl:Nat->Bool} {i:Nat} {r:List Nat} {d:Nat} {f:FuncId} {xs:List Operand} {A:Array TypeId} {vs:List Value} {φ:Value->World->Prop} (B:C w)
  (j:ops[i]? = some ⟨some d,.call ⟨.value (.func f),xs.toArray,A⟩,ty,pos,after,none⟩) (z:fl i=false)
  (hf:mK P f=true) (hargs:L.evs xs=some vs) (hc:Calls P f vs.toArray w (Ret φ)) (hd:Nat.blt d n=true)
  (k:∀v w',φ v w'->lxE P n ops C D Q fl r ((d,v) :: L) w'):lxE P n ops C D Q fl (i :: r) L w:=fun a ha=>by
 refine⟨B,?_⟩
 simp only[j,z,bK,cC]
 unfold wpOp
 simp only[j]
 rw[af (by simp[Region.wanted])]
 exact .inl (uM rfl hf (ha.evs hargs) hc fun v w' h=>k v w' h _ (ha.put hd))
theorem gc {fn:Func} {t:Tmp} {v:Value} {φ:Value->World->Prop} (j:fn.results=#[.tmp t]) (k:L.get t=some v) (h:φ v w):QE n (bodyPost P fn (Ret φ)) .ret L w:=fun a ha=>by
 refine⟨ha.defers,v,?_,h⟩
 have:=ha.get t v k
 simp[results,j,this]
theorem uQ {fn:Func} {φ:Value->World->Prop} (j:fn.results=#[]) (h:φ (.tuple #[]) w):QE n (bodyPost P fn (Ret φ)) .normal L w:=fun a ha=>by
 refine⟨ha.defers,.tuple #[],?_,h⟩
 simp[results,j]
theorem uT {fn:Func} {z A:Tmp} {j k:Value} {φ:Value->World->Prop} (B:fn.results=#[.tmp z,.tmp A]) (G:L.get z=some j) (I:L.get A=some k) (h:φ (.tuple #[j,k]) w):QE n (bodyPost P fn (Ret φ)) .ret L w:=fun a ha=>by
 refine⟨ha.defers,.tuple #[j,k],?_,h⟩
 have J:=ha.get z j G
 have N:=ha.get A k I
 simp[results,B,J,N]
theorem PH {fn:Func} {A B G:Tmp} {j k z:Value} {φ:Value->World->Prop} (I:fn.results=#[.tmp A,.tmp B,.tmp G]) (J:L.get A=some j) (N:L.get B=some k) (O:L.get G=some z) (h:φ (.tuple #[j,k,z]) w):QE n (bodyPost P fn (Ret φ)) .ret L w:=fun a ha=>by
 refine⟨ha.defers,.tuple #[j,k,z],?_,h⟩
 have R:=ha.get A j J
 have U:=ha.get B k N
 have V:=ha.get G z O
 simp[results,I,R,U,V]
def rA:Nat->List Value->Env
 | _,[]=>[]
 | k,v :: r=>(k,v) :: rA (k+1) r
theorem xr:∀(vs:List Value) (k i:Nat) (v:Value),(rA k vs).get i=some v->k<=i/\vs[i - k]? = some v
 | [],k,i,v,h=>by simp[rA,Env.get]at h
 | u :: r,k,i,v,h=>by
  simp only[rA,Env.get]at h
  by_cases hk:Nat.beq k i=true
  ·rw[hk]at h
   simp at h
   have:=bP hk
   subst this
   simp[h]
  ·simp only[hk]at h
   have:=xr r (k+1) i v (by simpa using h)
   refine⟨by omega,?_⟩
   rw[show i - k=(i - (k+1))+1 by omega]
   simpa using this.2
theorem Mz {f:FuncId} {fn:Func} {c:Code} {vs:List Value} {φ:Value->World->Prop} (hf:P.funcs[f]? = some fn) (hb:fn.body=some c) (hn:Nat.ble vs.length fn.ntmps=true)
  (h:wpC P fn.ntmps c (bodyPost P fn (Ret φ)) (rA 0 vs) w):Calls P f vs.toArray w (Ret φ):=by
 refine calls_of_wp hf hb (h _ ⟨rfl,?_,fun i v hi=>?_⟩)
 ·have:=ai hn
  simp; omega
 ·have:=(xr vs 0 i v hi).2
  simp only[fW]at this
  have hl:i<vs.length:=(br.1 this).1
  rw[Array.getElem?_append_left (by simpa using hl)]
  simpa using this
end
section
variable {P:Program} {n:Nat} {L:Env} {w w0:World} {Q:Exit->Act->World->Prop} {S:L01} {os:List OE}
variable {d:Option Tmp} {ty:TypeId} {pos:String} {after:Array Edge}
theorem mz {x y:Operand} {T E:TypeId} {k:IntKind} {i:Int} {τ:Type} {e:Enc τ} {v:Value} {l:List τ} {t:τ} {z:Value} {bytes:Nat} (hT:P.underlying T=some (.slice E)) (hE:TI P E z e.sz bytes)
  (hx:L.ev x=some v) (hy:L.ev y=some (.int k i)) (h:RO w e v l) (hg:au l i=some t) :
  OpV P n L w ⟨d,.indexAddr T x y,ty,pos,after,none⟩ (pP (ixA v e.sz i.toNat)) w:=
 QG hT hE hx hy h (iS hg).1 (iS hg).2.1
theorem iu {x:Operand} {T:TypeId} {D:TypeDesc} {τ:Type} {e:Enc τ} {v:Value} {l:List τ} {i:Int} {t:τ} {u:Value} (hT:P.underlying T=some D) (j:(match D with | .struct _ | .array _ _=>true | _=>false)=false)
  (hx:L.ev x=some (pP (ixA v e.sz i.toNat))) (h:RO w e v l) (hg:au l i=some t) (hu:e.cells t=[u]) :
  OpV P n L w ⟨d,.load T x,ty,pos,after,none⟩ u w:=IT hT j hx h (iS hg).2.2 hu
theorem SE {x y:Operand} {T:TypeId} {k:IntKind} {i:Int} {l:L00} {t:UInt8} (hT:P.underlying T=some .string)
  (hx:L.ev x=some (vS l)) (hy:L.ev y=some (.int k i)) (hg:au l i=some t) :
  OpV P n L w ⟨d,.index T x y,ty,pos,after,none⟩ (v8 t) w:=Oe hT hx hy (iS hg).1 (iS hg).2.2
theorem nF {x y:Operand} {T:TypeId} {τ:Type} {e:Enc τ} {z:Value} {bytes:Nat} {v u:Value} {l:List τ} {i:Nat} {j:Int} {t t':τ} (hT:TI P T z 1 bytes)
  (hx:L.ev x=some (pP (ixA v e.sz j.toNat))) (hy:L.ev y=some u) (hS:St S w0 w os) (hi:os[i]? = some (own e v l)) (hg:au l j=some t') (hu:e.cells t=[u]) :
  OpY P n L w ⟨none,.store T x y,ty,pos,after,none⟩ (fun w'=>St S w0 w' (os.set i (own e v (l.set j.toNat t)))):=
 wT hT hx hy hu hS hi (iS hg).2.1
theorem Q6 {x y:Operand} {T:TypeId} {k:IntKind} {lo:Int} {l r:L00} (hT:P.underlying T=some .string)
  (hx:L.ev x=some (vS l)) (hy:L.ev y=some (.int k lo)) (hg:drO l lo=some r) :
  OpV P n L w ⟨d,.slice T x (some y) none none,ty,pos,after,none⟩ (vS r) w:=by
 obtain⟨⟨j,z⟩,rfl⟩:=oC hg
 exact Mr hT hx hy j z
section
variable {T E:TypeId} {τ:Type} {e:Enc τ} {v:Value} {l r:List τ} {z0:Value} {bytes:Nat}
theorem Rm {x y z:Operand} {k j:IntKind} {lo hi:Int} (hT:P.underlying T=some (.slice E)) (hE:TI P E z0 e.sz bytes)
  (hx:L.ev x=some v) (hy:L.ev y=some (.int k lo)) (hz:L.ev z=some (.int j hi)) (h:RO w e v l) (hg:slO l lo hi=some r) :
  OpV P n L w ⟨d,.slice T x (some y) (some z) none,ty,pos,after,none⟩ (slV v e.sz lo.toNat hi.toNat) w:=
 Qc hT hE hx hy hz h (gL hg).1.1 (gL hg).1.2.1 (gL hg).1.2.2
theorem wG {x y:Operand} {k:IntKind} {lo:Int} (hT:P.underlying T=some (.slice E)) (hE:TI P E z0 e.sz bytes)
  (hx:L.ev x=some v) (hy:L.ev y=some (.int k lo)) (h:RO w e v l) (hg:drO l lo=some r) :
  OpV P n L w ⟨d,.slice T x (some y) none none,ty,pos,after,none⟩ (slV v e.sz lo.toNat l.length) w:=
 Pu hT hE hx hy h (oC hg).1.1 (oC hg).1.2
theorem GE {x z:Operand} {k:IntKind} {hi:Int} (hT:P.underlying T=some (.slice E)) (hE:TI P E z0 e.sz bytes)
  (hx:L.ev x=some v) (hz:L.ev z=some (.int k hi)) (h:RO w e v l) (hg:tkO l hi=some r) :
  OpV P n L w ⟨d,.slice T x none (some z) none,ty,pos,after,none⟩ (slV v e.sz 0 hi.toNat) w:=
 N0 hT hE hx hz h (sa hg).1.1 (sa hg).1.2
theorem RO.g_sl {lo hi:Int} (h:RO w e v l) (hg:slO l lo hi=some r):RO w e (slV v e.sz lo.toNat hi.toNat) r:=by
 obtain⟨⟨k,z,j⟩,rfl⟩:=gL hg
 exact h.sub q10 j
theorem RO.g_sll {lo:Int} (h:RO w e v l) (hg:drO l lo=some r):RO w e (slV v e.sz lo.toNat l.length) r:=by
 obtain⟨⟨k,j⟩,rfl⟩:=oC hg
 exact h.subl j
theorem RO.g_slh {hi:Int} (h:RO w e v l) (hg:tkO l hi=some r):RO w e (slV v e.sz 0 hi.toNat) r:=by
 obtain⟨⟨k,j⟩,rfl⟩:=sa hg
 exact h.subh j
theorem RP.g_sl {lo hi:Int} (h:RP S w e v l) (hg:slO l lo hi=some r):RP S w e (slV v e.sz lo.toNat hi.toNat) r:=by
 obtain⟨⟨k,z,j⟩,rfl⟩:=gL hg
 exact h.sub q10 j
theorem RP.g_sll {lo:Int} (h:RP S w e v l) (hg:drO l lo=some r):RP S w e (slV v e.sz lo.toNat l.length) r:=by
 obtain⟨⟨k,j⟩,rfl⟩:=oC hg
 exact h.subl j
theorem RP.nil (S:L01) (w:World):RP S w e (.slice none 0 0) ([]:List τ):=⟨RO.nil w e,by simp[Value.ownBlock]⟩
end
theorem Kv {T E:TypeId} {x y:Operand} {k A:IntKind} {l c:Int} {τ:Type} {e:Enc τ} {j:τ} {r:List τ} {z:Value} {bytes:Nat} (hT:P.underlying T=some (.slice E)) (hE:TI P E z e.sz bytes) (hz:z.cells.toList=e.cells j)
  (hx:L.ev x=some (.int k l)) (hy:L.ev y=some (.int A c)) (hS:St S w0 w os) (hg:mkO bytes l c j=some r) :
  OpX P n L w ⟨d,.makeSlice T x y,ty,pos,after,none⟩ (fun v w'=>St S w0 w' (own e v r :: os)):=by
 obtain⟨rfl,B,G,I,J⟩:=LP hg
 exact L0 hT hE hz hx hy hS B G I J
theorem pg {x y:Operand} {T E:TypeId} {τ:Type} {e:Enc τ} {z:Value} {bytes:Nat} {v u:Value} {l m r:List τ} {i:Nat} (hT:P.underlying T=some (.slice E)) (hE:TI P E z e.sz bytes) (hz:(Nat.beq z.cells.size e.sz&&Nat.ble bytes 65536&&Nat.blt 0 bytes)=true)
  (hx:L.ev x=some v) (hy:L.ev y=some u) (hS:St S w0 w os) (hi:os[i]? = some (own e v l)) (hu:RO w e u m) (hg:apO bytes l m=some r) :
  OpX P n L w ⟨d,.call ⟨.builtin .append,#[x,y],#[T,T]⟩,ty,pos,after,none⟩ (fun j w'=>St S w0 w' (os.set i (own e j r))):=by
 obtain⟨rfl,hb⟩:=qx hg
 simp only[aW,gm]at hz
 exact HB hT hE (bP hz.1.1) (ai hz.1.2) hz.2 hx hy hS hi hu hb
theorem pJ {x y:Operand} {T E:TypeId} {τ:Type} {e:Enc τ} {z:Value} {bytes:Nat} {u:Value} {m r:List τ} (hT:P.underlying T=some (.slice E)) (hE:TI P E z e.sz bytes) (hz:(Nat.beq z.cells.size e.sz&&Nat.ble bytes 65536&&Nat.blt 0 bytes)=true)
  (hx:L.ev x=some (.slice none 0 0)) (hy:L.ev y=some u) (hS:St S w0 w os) (hu:RO w e u m) (hg:apO bytes [] m=some r) :
  OpX P n L w ⟨d,.call ⟨.builtin .append,#[x,y],#[T,T]⟩,ty,pos,after,none⟩ (fun j w'=>St S w0 w' (own e j r :: os)):=by
 obtain⟨rfl,hb⟩:=qx hg
 simp only[aW,gm]at hz
 exact EC hT hE (bP hz.1.1) (ai hz.1.2) hz.2 hx hy hS hu (by simpa using hb)
theorem St.call {w':World} {os':List OE} (h:St S w0 w os) (G:St [] w w' os'):St S w0 w' (os'++os):=by
 have hf:Fr [] w w':=G.fr
 have J:∀o∈os',∀k,o.blk=some k->w.heap.size<=k:=fun o z k N=>by
  rcases ((G.ok o z).lt N).2 with j | j
  ·exact j
  ·simp at j
 refine⟨h.fr.step hf (by simp),fun o z=>?_,?_⟩
 ·rcases ce.1 z with z | z
  ·have A:=G.ok o z
   have Z:=h.fr.size
   cases o with
   | sl v sz m cs=>
    refine⟨A.1,?_⟩
    rcases A.2 with hn | ⟨g,R,U,T,O,B,rest⟩
    ·exact .inl hn
    ·refine .inr ⟨g,R,U,T,O,.inl ?_,rest⟩
     rcases B with j | j
     ·omega
     ·simp at j
   | rd v sz m cs=>
    obtain⟨hl,a,c,O,hc,hx⟩:=A
    refine⟨hl,a,c,O,hc,fun hn=>?_⟩
    obtain⟨b,off,j,V,I,Y⟩:=hx hn
    refine⟨b,off,j,V,.inl ?_,Y⟩
    rcases I with I | I
    ·omega
    ·simp at I
   | bx b cs=>
    obtain⟨B,hh⟩:=A
    refine⟨.inl ?_,hh⟩
    rcases B with j | j
    ·omega
    ·simp at j
  ·exact (h.ok o z).fr hf (by simp)
 ·rw[da]
  refine⟨G.dj,h.dj,fun o z p hp k N X=>?_⟩
  have j:=J o z k N
  have V:=((h.ok p hp).lt X).1
  omega
theorem St.pick {os':List OE} (h:St S w0 w os) (j:L01) (hn:j.Nodup) (he:os'.map some=j.map (fun i=>os[i]?)):St S w0 w os':=by
 have Y:os'.length=j.length:=by have:=cD List.length he; simpa using this
 have z:∀k (I:k<os'.length),∃(A:k<j.length),os[j[k]]? = some os'[k]:=fun k I=>by
  have B:(os'.map some)[k]? = (j.map (fun i=>os[i]?))[k]?:=by rw[he]
  have A:k<j.length:=by omega
  simp[I,A]at B
  exact⟨A,B.symm⟩
 refine⟨h.fr,fun o Z=>?_,?_⟩
 ·obtain⟨k,I,rfl⟩:=List.getElem_of_mem Z
  obtain⟨A,B⟩:=z k I
  exact h.ok _ (bI B)
 ·rw[fJ]
  intro a b ha hb J
  obtain⟨N,B⟩:=z a ha
  obtain⟨O,h2⟩:=z b hb
  have R:j[a]≠j[b]:=by
   have:=fJ.1 hn a b N O J
   exact this
  have hd:∀x y (hx:x<os.length) (hy:y<os.length),x<y->(os[x]).dj (os[y]):=fJ.1 h.dj
  obtain⟨l1,U⟩:=br.1 B
  obtain⟨V,X⟩:=br.1 h2
  rcases Nat.lt_or_gt_of_ne R with G | G
  ·have:=hd _ _ l1 V G; rw[U,X]at this; exact this
  ·have:=hd _ _ V l1 G; rw[U,X]at this; exact this.symm
def ndB:L01->Bool
 | []=>true
 | x :: l=>!(l.any (Nat.beq x))&&ndB l
theorem Aj:∀l:L01,ndB l=true->l.Nodup
 | [],_=>List.nodup_nil
 | x :: l,h=>by
  unfold ndB at h
  rw[aW]at h
  refine List.nodup_cons.2 ⟨fun hm=>?_,Aj l h.2⟩
  have j:=h.1
  rw[List.any_eq_true.2 ⟨x,hm,Nat.beq_refl x⟩]at j
  cases j
theorem St.pk {os':List OE} (h:St S w0 w os) (j:L01) (hn:ndB j=true) (he:os'.map some=j.map (fun i=>os[i]?)):St S w0 w os':=h.pick j (Aj j hn) he
theorem St.drew (h:St S w0 w os):St S w0 w.drew os:=h.step (Fr.drew [] w)
theorem St.nil {τ:Type} (e:Enc τ) (h:St S w0 w os):St S w0 w (own e (.slice none 0 0) ([]:List τ) :: os):=
 ⟨h.fr,fun o j=>by
  rcases aJ.1 j with rfl | j
  ·exact⟨by simp,.inl ⟨rfl,rfl⟩⟩
  ·exact h.ok o j,List.Pairwise.cons (fun p _ k z=>by simp[OE.blk,Value.ownBlock]at z) h.dj⟩
theorem mP {ops:Array Oper} {o:Oper} {a:Act} {j:Nat} {k b:Bool} {t:Tmp} (ha:Rep n L a) (hg:o.guard=some (j,k)) (z:(ops[j]?).bind (·.dst)=some t) (hb:L.get t=some (vB b)) :
  Region.wanted o (yielded ops a.tmps)=(b == k):=by
 have:=ha.get t _ hb
 simp[Region.wanted,hg,yielded,z,this]
theorem kk {ops:Array Oper} {rest:List Oper} {d:Nat} {op:Op} {v:Value} {w':World} {j:Nat} {k:Bool} {t:Tmp}
  (z:(ops[j]?).bind (·.dst)=some t) (hb:L.get t=some (vB k))
  (A:OpV P n L w ⟨some d,op,ty,pos,after,none⟩ v w') (hd:Nat.blt d n=true)
  (h:wpR P n ops Q rest ((d,v) :: L) w'):wpR P n ops Q (⟨some d,op,ty,pos,after,some (j,k)⟩ :: rest) L w:=fun a ha=>by
 unfold wpList
 rw[af (by rw[mP ha rfl z hb]; simp)]
 refine .inl ?_
 have:=A a ha
 unfold Oper.wp
 have he:execOp a.eval ⟨some d,op,ty,pos,after,some (j,k)⟩=execOp a.eval ⟨some d,op,ty,pos,after,none⟩:=by cases op <;> rfl
 rw[he,this]
 exact h _ (ha.put hd)
theorem zO {ops:Array Oper} {rest:List Oper} {d:Nat} {op:Op} {j:Nat} {k b:Bool} {t:Tmp}
  (A:(ops[j]?).bind (·.dst)=some t) (hb:L.get t=some (vB b)) (z:(b == k)=false) (hd:Nat.blt d n=true)
  (h:wpR P n ops Q rest ((d,undef) :: L) w):wpR P n ops Q (⟨some d,op,ty,pos,after,some (j,k)⟩ :: rest) L w:=fun a ha=>by
 unfold wpList
 rw[ae (by rw[mP ha rfl A hb,z]; simp)]
 exact h _ (ha.put hd)
theorem pV {ops:Array Oper} {o:Oper} {a:Act} {j:Nat} {k:Bool} {t:Tmp} (ha:Rep n L a) (hg:o.guard=some (j,k)) (z:(ops[j]?).bind (·.dst)=some t) (hb:L.get t=some undef) :
  Region.wanted o (yielded ops a.tmps)=false:=by
 have:=ha.get t _ hb
 simp[Region.wanted,hg,yielded,z,this,undef]
theorem Gd {ops:Array Oper} {rest:List Oper} {d:Nat} {op:Op} {j:Nat} {k:Bool} {t:Tmp}
  (z:(ops[j]?).bind (·.dst)=some t) (hb:L.get t=some undef) (hd:Nat.blt d n=true)
  (h:wpR P n ops Q rest ((d,undef) :: L) w):wpR P n ops Q (⟨some d,op,ty,pos,after,some (j,k)⟩ :: rest) L w:=fun a ha=>by
 unfold wpList
 rw[ae (by rw[pV ha rfl z hb]; simp)]
 exact h _ (ha.put hd)
theorem nT {ops:Array Oper} {C D:World->Prop} {fl:Nat->Bool} {i:Nat} {r:L01} {d:Nat} {op:Op} {j:Nat} {k:Bool} {t:Tmp} (z:C w) (A:ops[i]? = some ⟨some d,op,ty,pos,after,some (j,k)⟩) (hf:fl i=true)
  (B:(ops[j]?).bind (·.dst)=some t) (hb:L.get t=some undef) (hd:Nat.blt d n=true) (h:lxE P n ops C D Q fl r ((d,undef) :: L) w):lxE P n ops C D Q fl (i :: r) L w:=fun a ha=>by
 refine⟨z,?_⟩
 simp only[A,hf,bo]
 exact⟨undef,.inl (.inr ⟨pV ha rfl B hb,rfl⟩),h _ (ha.put hd)⟩
theorem mo {ops:Array Oper} {rest:List Oper} {d:Nat} {f:FuncId} {xs:List Operand} {A:Array TypeId} {vs:List Value} {φ:Value->World->Prop} {j:Nat} {z:Bool} {t:Tmp}
  (B:(ops[j]?).bind (·.dst)=some t) (hb:L.get t=some (vB z))
  (hf:mK P f=true) (hargs:L.evs xs=some vs) (hc:Calls P f vs.toArray w (Ret φ)) (hd:Nat.blt d n=true)
  (k:∀v w',φ v w'->wpR P n ops Q rest ((d,v) :: L) w'):wpR P n ops Q (⟨some d,.call ⟨.value (.func f),xs.toArray,A⟩,ty,pos,after,some (j,z)⟩ :: rest) L w:=fun a ha=>by
 unfold wpList
 rw[af (by rw[mP ha rfl B hb]; simp)]
 exact .inl (uM rfl hf (ha.evs hargs) hc fun v w' h=>k v w' h _ (ha.put hd))
theorem my {ops:Array Oper} {rest:List Oper} {d:Nat} {f:FuncId} {xs:List Operand} {j:Array TypeId} {vs:List Value} {V:Value} {os':List OE}
  (hS:St S w0 w os) (hargs:L.evs xs=some vs) (hc:Calls P f vs.toArray w (Ret fun v w'=>v=V/\St [] w w' os')) (hd:Nat.blt d n=true)
  (k:∀w',St S w0 w' (os'++os)->wpR P n ops Q rest ((d,V) :: L) w') (hf:mK P f=true:=by kernel_rfl):wpR P n ops Q (⟨some d,.call ⟨.value (.func f),xs.toArray,j⟩,ty,pos,after,none⟩ :: rest) L w:=
 ou hf hargs hc hd fun v w' ⟨e,h⟩=>by subst e; exact k w' (hS.call h)
theorem QD {ops:Array Oper} {rest:List Oper} {d:Nat} {f:FuncId} {xs:List Operand} {j:Array TypeId} {vs:List Value} {α:Type} {V:α->Value} {os':α->List OE}
  (hS:St S w0 w os) (hargs:L.evs xs=some vs) (hc:Calls P f vs.toArray w (Ret fun v w'=>∃a,v=V a/\St [] w w' (os' a))) (hd:Nat.blt d n=true)
  (k:∀a w',St S w0 w' (os' a++os)->wpR P n ops Q rest ((d,V a) :: L) w') (hf:mK P f=true:=by kernel_rfl):wpR P n ops Q (⟨some d,.call ⟨.value (.func f),xs.toArray,j⟩,ty,pos,after,none⟩ :: rest) L w:=
 ou hf hargs hc hd fun v w' ⟨a,e,h⟩=>by subst e; exact k a w' (hS.call h)
theorem rJ {ops:Array Oper} {rest:List Oper} {d:Nat} {f:FuncId} {xs:List Operand} {j:Array TypeId} {vs:List Value} {os':Value->List OE}
  (hS:St S w0 w os) (hargs:L.evs xs=some vs) (hc:Calls P f vs.toArray w (Ret fun v w'=>St [] w w' (os' v))) (hd:Nat.blt d n=true)
  (k:∀v w',St S w0 w' (os' v++os)->wpR P n ops Q rest ((d,v) :: L) w') (hf:mK P f=true:=by kernel_rfl):wpR P n ops Q (⟨some d,.call ⟨.value (.func f),xs.toArray,j⟩,ty,pos,after,none⟩ :: rest) L w:=
 ou hf hargs hc hd fun v w' h=>k v w' (hS.call h)
theorem eX {ops:Array Oper} {C D:World->Prop} {fl:Nat->Bool} {i:Nat} {r:L01} {d:Nat} {op:Op} {v:Value} {j:Nat} {k:Bool} {t:Tmp} (A:C w) (B:ops[i]? = some ⟨some d,op,ty,pos,after,some (j,k)⟩) (hf:fl i=true)
  (G:(ops[j]?).bind (·.dst)=some t) (hb:L.get t=some (vB k))
  (I:∀w,C w->OpV P n L w ⟨some d,op,ty,pos,after,none⟩ v w) (hd:Nat.blt d n=true) (h:lxE P n ops C D Q fl r ((d,v) :: L) w):lxE P n ops C D Q fl (i :: r) L w:=fun a ha=>by
 refine⟨A,?_⟩
 simp only[B,hf,bo]
 have he:execOp a.eval ⟨some d,op,ty,pos,after,some (j,k)⟩=execOp a.eval ⟨some d,op,ty,pos,after,none⟩:=by cases op <;> rfl
 exact⟨v,.inl (.inl ⟨by rw[mP ha rfl G hb]; simp,fun w' z=>by rw[he]; exact I w' z a ha⟩),h _ (ha.put hd)⟩
theorem ej {ops:Array Oper} {C D:World->Prop} {fl:Nat->Bool} {i:Nat} {r:L01} {d:Nat} {op:Op} {j:Nat} {k b:Bool} {t:Tmp} (A:C w) (B:ops[i]? = some ⟨some d,op,ty,pos,after,some (j,k)⟩) (hf:fl i=true)
  (G:(ops[j]?).bind (·.dst)=some t) (hb:L.get t=some (vB b)) (z:(b == k)=false) (hd:Nat.blt d n=true) (h:lxE P n ops C D Q fl r ((d,undef) :: L) w):lxE P n ops C D Q fl (i :: r) L w:=fun a ha=>by
 refine⟨A,?_⟩
 simp only[B,hf,bo]
 exact⟨undef,.inl (.inr ⟨by rw[mP ha rfl G hb,z],rfl⟩),h _ (ha.put hd)⟩
theorem Jx {ops:Array Oper} {C D:World->Prop} {fl:Nat->Bool} {i:Nat} {r:L01} {d:Nat} {f:FuncId} {xs:List Operand} {G:Array TypeId} {vs:List Value} {φ:Value->World->Prop} {j:Nat} {z:Bool} {t:Tmp} (I:C w)
  (A:ops[i]? = some ⟨some d,.call ⟨.value (.func f),xs.toArray,G⟩,ty,pos,after,some (j,z)⟩) (B:fl i=false) (J:(ops[j]?).bind (·.dst)=some t) (hb:L.get t=some (vB z))
  (hf:mK P f=true) (hargs:L.evs xs=some vs) (hc:Calls P f vs.toArray w (Ret φ)) (hd:Nat.blt d n=true)
  (k:∀v w',φ v w'->lxE P n ops C D Q fl r ((d,v) :: L) w'):lxE P n ops C D Q fl (i :: r) L w:=fun a ha=>by
 refine⟨I,?_⟩
 simp only[A,B,bK,cC]
 unfold wpOp
 simp only[A]
 rw[af (by rw[mP ha rfl J hb]; simp)]
 exact .inl (uM rfl hf (ha.evs hargs) hc fun v w' h=>k v w' h _ (ha.put hd))
theorem xn {ops:Array Oper} {C D:World->Prop} {fl:Nat->Bool} {i:Nat} {r:L01} {d:Nat} {op:Op} {j:Nat} {k b:Bool} {t:Tmp} (B:C w) (z:ops[i]? = some ⟨some d,op,ty,pos,after,some (j,k)⟩) (hf:fl i=false)
  (G:(ops[j]?).bind (·.dst)=some t) (hb:L.get t=some (vB b)) (A:(b == k)=false) (hd:Nat.blt d n=true) (h:lxE P n ops C D Q fl r ((d,undef) :: L) w):lxE P n ops C D Q fl (i :: r) L w:=fun a ha=>by
 refine⟨B,?_⟩
 simp only[z,hf,bK,cC]
 unfold wpOp
 simp only[z]
 rw[ae (by rw[mP ha rfl G hb,A]; simp)]
 exact h _ (ha.put hd)
theorem Ek {ops:Array Oper} {C D:World->Prop} {fl:Nat->Bool} {i:Nat} {r:L01} {d:Nat} {op:Op} {j:Nat} {k:Bool} {t:Tmp} (A:C w) (z:ops[i]? = some ⟨some d,op,ty,pos,after,some (j,k)⟩) (hf:fl i=false)
  (B:(ops[j]?).bind (·.dst)=some t) (hb:L.get t=some undef) (hd:Nat.blt d n=true) (h:lxE P n ops C D Q fl r ((d,undef) :: L) w):lxE P n ops C D Q fl (i :: r) L w:=fun a ha=>by
 refine⟨A,?_⟩
 simp only[z,hf,bK,cC]
 unfold wpOp
 simp only[z]
 rw[ae (by rw[pV ha rfl B hb]; simp)]
 exact h _ (ha.put hd)
theorem dP {f:FuncId} {fn:Func} {c:Code} {vs:List Value} {φ:Value->World->Prop} (n:Nat) (hf:P.funcs[f]? = some fn) (hb:fn.body=some c) (hn:fn.ntmps=n) (hl:Nat.ble vs.length n=true)
  (h:wpC P n c (bodyPost P fn (Ret φ)) (rA 0 vs) w):Calls P f vs.toArray w (Ret φ):=by
 subst hn
 exact Mz hf hb hl h
theorem fN {σ ρ:Type} {c:Code} {r:ρ} (f:σ->Option (σ⊕ρ)) (I:σ->Env->World->Prop)
  (j:∀k s L w x,I s L w->(∀s' A w',I s' A w'->lc f k s'=some r->wpN P n c Q k A w')->f s=some x->lk f k r x->wpC P n c (Exit.then (Code.rounds P c Q k) Q) L w)
  (s:σ) (z:I s L w) (h:loop f s=some r):wpC P n (.loop c) Q L w:=by
 obtain⟨k,G⟩:=tm h
 refine KM k ?_
 have B:∀k s L w,I s L w->lc f k s=some r->wpN P n c Q k L w:=by
  intro k
  induction k with
  | zero=>intro s L w _ h; simp[lc]at h
  | succ k ih=>
   intro s L w z h
   obtain⟨x,J,N⟩:=N6 h
   exact L9 (j k s L w x z ih J N)
 exact B k s L w z G
theorem iF {γ ρ:Type} {x y:Code} {r:ρ} (J:γ->Env->World->Prop) (f:γ->Option ρ)
  (hy:∀g L w,J g L w->f g=some r->wpC P n y Q L w)
  (hx:(∀g L w,J g L w->f g=some r->wpC P n y Q L w)->wpC P n x (Exit.then (y.wp P Q) Q) L w):wpC P n (.seq x y) Q L w:=
 cw (hx hy)
end
section
variable {P:Program} {n:Nat} {L:Env} {w w0:World} {Q:Exit->Act->World->Prop} {S:L01} {os:List OE}
variable {d:Option Tmp} {ty:TypeId} {pos:String} {after:Array Edge}
structure ExtF (P:Program) (f:FuncId) (e:Array Value->Sem Value):Prop where
 fn : ∃ fn, P.funcs[f]? = some fn /\ fn.body.isNone = true /\ (fn.name == "runtime.NumGoroutine") = false /\ (Extern.findNext fn).isNone = true /\ Extern.find fn = some e
end
section
variable {P:Program} {n:Nat} {L:Env} {w w0:World} {Q:Exit->Act->World->Prop} {S:L01} {os:List OE}
variable {d:Option Tmp} {ty:TypeId} {pos:String} {after:Array Edge}
theorem qb {τ:Type} {e:Enc τ} {v:Value} {l:List τ} (h:RO w e v l) (k:Nat) (I:k<=l.length) :
  (Builtin.firstCells e.sz k v).run P w=.ok (e.fl (l.take k)).toArray w:=by
 obtain⟨a,c,rfl,hc,G⟩:=h
 cases a with
 | none=>
  have hl:l=[]:=by
   cases l with
   | nil=>rfl
   | cons x r=>obtain⟨b,off,h,_⟩:=G (by simp); cases h
  subst hl
  simp[Builtin.firstCells,Enc.fl]
 | some p=>
  by_cases hl:l=[]
  ·subst hl
   have:k=0:=by simpa using I
   subst this
   simp[Builtin.firstCells,loadCells,loadCellsFrom,Enc.fl]
  ·obtain⟨b,off,hp,z⟩:=G hl
   cases hp
   have B:(e.fl (l.take k)).length=k*e.sz:=by rw[e.fl_length,az]; congr 1; omega
   have:=run_loadCells_list (P:=P) w ⟨b,off,none⟩ (e.fl (l.take k)) (fun j u A=>by
    rw[jQ]
    rw[e.fl_take,bY]at A
    split at A
    ·exact z j u A
    ·cases A)
   rw[B]at this
   exact this
theorem EA {T T2 E ty:TypeId} {τ:Type} {e:Enc τ} {z:Value} {bytes:Nat} {v u:Value} {l m:List τ} {B lo hi:Nat} (hT:P.underlying T=some (.slice E)) (hE:TI P E z e.sz bytes) (j:e.sz=1)
  (ho:(own e v l).ok S B w) (hu:RO w e u m) (h1:lo<=hi) (X:hi<=l.length) :
  ∃w',(Builtin.copy_ #[T,T2] ty #[slV v e.sz lo hi,u]).run P w=.ok (vI (min m.length (hi - lo):Nat)) w'/\(own e v (cpL l m lo hi)).ok S B w'/\Fr (own e v l).blk.toList w w':=by
 obtain⟨b9,O,_,hs,_⟩:=hE.get
 have R:=qb (P:=P) hu (min m.length (hi - lo)) (Nat.min_le_left _ _)
 obtain⟨ua,uc,rfl,ca,cf⟩:=hu
 have U:cpL l m lo hi=l.take lo++m.take (min m.length (hi - lo))++l.drop (lo+min m.length (hi - lo)):=by
  unfold cpL
  congr 2
  by_cases h:m.length<=hi - lo
  ·rw[aT h,aC h,aC (aq _)]
  ·rw[Nat.min_eq_right q10]
 rcases ho.2 with⟨rfl,hn⟩ | ⟨g,A,G,T',rfl,ap,hg,ax,bx,Z,J⟩
 ·have hl:l=[]:=bA hn
  subst hl
  have e1:hi=0:=by simpa using X
  have e2:lo=0:=by omega
  subst e1 e2
  have I:slV (.slice none 0 0) e.sz 0 0=.slice none 0 0:=rfl
  refine⟨w,?_,?_,Fr.refl _ _⟩
  ·rw[I]
   simp at R
   simp[Builtin.copy_,run_underlying hT,Builtin.lenOf,sizeOf,typeInfo,O,hs,R,goInt]
  ·rw[U]; simpa using ho
 ·have b2:e.fl (m.take (min m.length (hi - lo)))=(e.fl m).take (min m.length (hi - lo)):=by rw[e.fl_take,j,de]
  have k:(e.fl (m.take (min m.length (hi - lo)))).length=min m.length (hi - lo):=by rw[e.fl_length,j]; simp
  have b6:lo+min m.length (hi - lo)<=G.size:=by rw[j]at Z; omega
  by_cases hcl:A=lo
  ·
   have hz:hi - lo=0:=by omega
   refine⟨w,?_,?_,Fr.refl _ _⟩
   ·have I:slV (.slice (some ⟨g,0,none⟩) l.length A) e.sz lo hi=.slice (some ⟨g,0,none⟩) (hi - lo) (A - lo):=by simp[slV,hcl]
    rw[I]
    simp only[hz,Nat.min_zero]at R ⊢
    simp[Builtin.copy_,run_underlying hT,Builtin.lenOf,sizeOf,typeInfo,O,hs,R,goInt,Enc.fl,storeCells]
   ·rw[U,hz]; simpa using ho
  ·have I:slV (.slice (some ⟨g,0,none⟩) l.length A) e.sz lo hi=.slice (some ⟨g,lo,none⟩) (hi - lo) (A - lo):=by simp[slV,hcl,jQ,j]
   have V:=kJ P g lo T' (e.fl (m.take (min m.length (hi - lo)))) 0 G w hg (by rw[k]; omega) (e.fl_one _)
   simp only[bb]at V
   obtain⟨Y,N⟩:∃Y,Y=(G.toList.take lo++e.fl (m.take (min m.length (hi - lo)))++G.toList.drop (lo+(e.fl (m.take (min m.length (hi - lo)))).length)).toArray:=⟨_,rfl⟩
   rw[<-N]at V
   refine⟨w.setRow g Y,?_,⟨e.fl_length _,.inr ⟨g,A,Y,T',?_,ap,hg.set _ ?_,?_,bx,?_,?_⟩⟩,Fr.setRow w g _⟩
   ·rw[I]
    simp[Builtin.copy_,run_underlying hT,Builtin.lenOf,sizeOf,typeInfo,O,hs,R,V,goInt]
   ·rw[kA l m lo hi h1 X]
   ·rw[N]
    simp only[eM,aR,az,bj,fF,k]
    omega
   ·rw[kA l m lo hi h1 X]; exact ax
   ·rw[N]
    simp only[eM,aR,az,bj,fF,k,j]at Z ⊢
    omega
   ·rw[kA l m lo hi h1 X,U,e.fl_append,e.fl_append]
    have e3:G.toList.take lo=e.fl (l.take lo):=by
     rw[e.fl_take,<-J,List.take_take,j]; congr 1; omega
    rw[N,e3,k]
    simp only[List.toList_toArray]
    rw[List.take_append]
    have e4:(e.fl (l.take lo)++e.fl (m.take (min m.length (hi - lo)))).length=lo+min m.length (hi - lo):=by
     rw[aR,k,e.fl_length,j,az]; omega
    rw[aC (by rw[e4,j]; omega),e4]
    congr 1
    rw[e.fl_drop,<-J,j,List.take_drop]
    simp only[de]
    congr 1
    congr 1
    omega
theorem M1 {v:Value} {τ:Type} {e:Enc τ} {l:List τ} (h:RO w e v l):slV v e.sz 0 l.length=v:=by
 obtain⟨a,c,rfl,hc,j⟩:=h
 simp only[slV,fW,eW]
 congr 1
 split
 ·rfl
 ·cases a <;> simp[Addr.add]
theorem M5 {x y:Operand} {T T2 E:TypeId} {τ:Type} {e:Enc τ} {z:Value} {bytes:Nat} {v u:Value} {l m:List τ} {i lo hi:Nat} (hT:P.underlying T=some (.slice E)) (hE:TI P E z e.sz bytes) (A:e.sz=1)
  (hx:L.ev x=some (slV v e.sz lo hi)) (hy:L.ev y=some u) (hS:St S w0 w os) (j:os[i]? = some (own e v l)) (hu:RO w e u m) (B:lo<=hi) (G:hi<=l.length) :
  OpX P n L w ⟨d,.call ⟨.builtin .copy,#[x,y],#[T,T2]⟩,ty,pos,after,none⟩ (fun r w'=>r=vI (min m.length (hi - lo):Nat)/\St S w0 w' (os.set i (own e v (cpL l m lo hi)))):=by
 obtain⟨w',I,J,N⟩:=EA (T2:=T2) (ty:=ty) hT hE A (hS.ok _ (bI j)) hu B G
 refine jY _ w' (fun a ha=>?_) ⟨rfl,hS.set j N J fun k O=>.inl O⟩
 simp[execOp,resolve,invoke,builtin,ha.ev hx,ha.ev hy,I]
theorem KF {x y:Operand} {T T2 E:TypeId} {τ:Type} {e:Enc τ} {z:Value} {bytes:Nat} {v u:Value} {l m:List τ} {i:Nat} (hT:P.underlying T=some (.slice E)) (hE:TI P E z e.sz bytes) (k:e.sz=1)
  (hx:L.ev x=some v) (hy:L.ev y=some u) (hS:St S w0 w os) (j:os[i]? = some (own e v l)) (hu:RO w e u m) :
  OpX P n L w ⟨d,.call ⟨.builtin .copy,#[x,y],#[T,T2]⟩,ty,pos,after,none⟩ (fun r w'=>r=vI (min m.length l.length:Nat)/\St S w0 w' (os.set i (own e v (cpL l m 0 l.length)))):=by
 have h:=M5 (P:=P) (n:=n) (d:=d) (ty:=ty) (pos:=pos) (after:=after) (T2:=T2) (lo:=0) (hi:=l.length) hT hE k (by rw[M1 (hS.ro i j)]; exact hx) hy hS j hu (eR _) (aq _)
 exact h
theorem KS {τ:Type} {e:Enc τ} {v:Value} {l:List τ} (h:RO w e v l) (k i:Nat):ixA (slV v e.sz 0 k) e.sz i=ixA v e.sz i:=by
 obtain⟨a,c,rfl,hc,j⟩:=h
 simp only[slV,eW]
 cases a with
 | none=>split <;> rfl
 | some p=>
  have:p.add 0=p:=by simp[Addr.add]
  split <;> simp[ixA,this]
theorem RO.tk {τ:Type} {e:Enc τ} {v:Value} {l:List τ} (h:RO w e v l) {k:Nat} (j:k<=l.length):RO w e (slV v e.sz 0 k) (l.take k):=h.subh j
section
variable {T E:TypeId} {τ:Type} {e:Enc τ} {v:Value} {l r:List τ} {z0:Value} {bytes:Nat}
theorem xY {x z:Operand} {B:IntKind} {hi:Int} {k:Nat} (hT:P.underlying T=some (.slice E)) (hE:TI P E z0 e.sz bytes)
  (hx:L.ev x=some (slV v e.sz 0 k)) (hz:L.ev z=some (.int B hi)) (h:RO w e v l) (hg:tkO l hi=some r) :
  OpV P n L w ⟨d,.slice T x none (some z) none,ty,pos,after,none⟩ (slV v e.sz 0 hi.toNat) w:=fun a ha=>by
 obtain⟨⟨G,N⟩,_⟩:=sa hg
 obtain⟨b,c,rfl,hc,_⟩:=h
 obtain⟨J,A,_,hs,_⟩:=hE.get
 have I:hi<=(c:Int):=by omega
 have j:L.ev x=some (.slice (if c=0 then b else b.map (·.add (0*e.sz))) (k - 0) (c - 0)):=hx
 have hb:(if c=0 then b else b.map (·.add (0*e.sz)))=b:=by
  split
  ·rfl
  ·cases b <;> simp[Addr.add]
 rw[hb]at j
 simp[execOp,ha.ev j,ha.ev hz,Instr.sliceAt,Instr.slice,run_underlying hT,Instr.sliceBounds,run_sliceBound,G,I,sizeOf,typeInfo,A,hs,slV]
theorem lF {x y:Operand} {j:IntKind} {i:Int} {t:τ} {k:Nat} (hT:P.underlying T=some (.slice E)) (hE:TI P E z0 e.sz bytes)
  (hx:L.ev x=some (slV v e.sz 0 k)) (hy:L.ev y=some (.int j i)) (h:RO w e v l) (z:k<=l.length) (hg:au (l.take k) i=some t) :
  OpV P n L w ⟨d,.indexAddr T x y,ty,pos,after,none⟩ (pP (ixA v e.sz i.toNat)) w:=by
 rw[<-KS h k]
 exact mz hT hE hx hy (h.tk z) hg
end
theorem lK {τ:Type} {l:List τ} {k:Nat} {i:Int} {t:τ} (h:au (l.take k) i=some t):au l i=some t:=by
 unfold au at h ⊢
 split at h
 ·rw[af ‹_›]
  rw[bY]at h
  split at h
  ·exact h
  ·cases h
 ·cases h
end
end Go.Gk
end
