import Derived.Test.YtkickcbphbgldaaGreatDoorGkC
import Derived.ProofKit
import Derived.OpenShut
import Derived.ShutString
import Derived.ChangeOld
import Derived.Below
import Derived.SizedLaws
import Derived.Test.YtkickcbphbgldaaGreatDoorGkV
set_option linter.unusedVariables false
set_option linter.unusedSimpArgs false
set_option linter.unusedSectionVars false

section
namespace Go.Gk
open Go.ChangeShapes Go.WideShapes Go.ChangeAt Go.RowKit
open Go.ChangeMaps (open_string shut_string)
section
variable {H:Type} {enc:TypeId×Value→H} {P:Program} {W W':World}
theorem kS (hl:laidOutB P=true) (hb:Below W.heap.size W W'):∀(ts:List TypeId) (vs:List Value) (ds:List (DataW H)) (ps:List MemPlace),
  (ts.all fun t=>P.readableRec t&&decide (t<P.types.size))=true →
  DataW.TrodAll enc P W 0 (fun _=>true) true ts vs ds ps→DataW.TrodAll enc P W' 0 (fun b=>decide (b<W.heap.size)) true ts vs ds ps
 | [],vs,ds,ps,_,h=>by
  obtain ⟨rfl,rfl,rfl⟩:=trodAll_nil h
  exact trodAll_mk0
 | t :: ts,vs,ds,ps,ht,h=>by
  obtain ⟨v,vs',d,ds',p,q,rfl,rfl,rfl,h0,hr⟩:=trodAll_cons h
  rw [List.all_cons,Bool.and_eq_true,Bool.and_eq_true]at ht
  refine trodAll_cons_mk (Below.trod hl ht.1.1 (of_decide_eq_true ht.1.2) h0 hb ?_) (kS hl hb ts vs' ds' q ht.2 hr)
  obtain ⟨m,hm⟩:=h0
  exact DataW.trod_lt m _ _ _ hm
theorem law_post {s:ChangeSpec} {fn:Func} {args:Array Value} {ds gs:List (DataW H)} {p:List MemPlace} {tb:TypeId} (hv:s.vars=[]) (hg:gs=[])
  (hs:s.fn H ds={ results:=[.lit (.bool true)],args:=ds,vars:=[] }) (hrt:fn.resultTypes=#[tb]) (hb:P.underlying tb=some .bool) (hl:laidOutB P=true)
  (hread:(fn.params.toList.all fun t=>P.readableRec t&&decide (t<P.types.size))=true)
  (hW:DataW.Whole enc P fn.params.toList s.vars false W args.toList ds gs p) (hbel:Below W.heap.size W W') :
  s.post enc P fn false true false false W args (.bool true) W':=by
 subst hg
 have hW':=hW
 obtain ⟨p',q,hA0,hV,hpq,hfz,hnd⟩:=hW
 have hA:DataW.TrodAll enc P W 0 (fun _=>true) true fn.params.toList args.toList ds p':=hA0
 refine ⟨ds,[],p,[],p',[],hW',?_,?_,?_,hbel.frame _,fun h=>by cases h⟩
 ·rw [List.append_nil,hs,hrt]
  exact trodAll_mk1 (shut_bool hb _)
 ·rw [List.append_nil,hs]
  exact kS hl hbel _ _ _ _ hread hA
 ·rw [List.append_nil,hs,hv]
  rfl
theorem arg_bytes {r:Reach} {b0:Nat} {t e:TypeId} {v:Value} {d:DataW H} {ps:List MemPlace} (ht:P.underlying t=some (.slice e)) (he:P.underlying e=some (.int .u8)) (hc:P.cellsOf e=1)
  (hval:Value.okWide P W r b0 t v) (hd:DataW.Trod enc P W 0 (fun _=>true) true t v d ps) :
  ∃l:List UInt8,RP [] W e8 v l∧((d=.nil∧l=[])∨∃elems spare,d=.slice elems spare∧elems.length=l.length):=by
 obtain ⟨a,len,cap,rfl⟩:=okWide_slice ht hval
 obtain ⟨fuel,hf⟩:=hd
 rcases open_ints ht he hc hf with ⟨hcs,hx⟩ | ⟨x,l,c,zs,hcs,_,hl,hm,hz,hx,hcell,hwz⟩
 ·simp [Value.cells]at hcs
  obtain ⟨rfl,rfl,rfl⟩:=hcs
  simp only [Prod.mk.injEq]at hx
  exact ⟨[],(RO.nil W e8).rp,.inl ⟨hx.1,rfl⟩⟩
 ·simp [Value.cells]at hcs
  obtain ⟨rfl,rfl,rfl⟩:=hcs
  simp only [if_true]at hz
  simp only [Prod.mk.injEq]at hx
  have hmem:∀n∈zs,∃y:UInt8,n=(y.toNat:Int):=by
   intro n hn
   have:=hwz n hn
   simp [Lit.wf,IntKind.min,IntKind.max,IntKind.signed,IntKind.bits]at this
   exact ⟨UInt8.ofNat n.toNat,by rw [UInt8.toNat_ofNat']; omega⟩
  have hlen:((zs.take len).map (fun n=>UInt8.ofNat n.toNat)).length=len:=by simp; omega
  refine ⟨(zs.take len).map (fun n=>UInt8.ofNat n.toNat),⟨⟨some x,cap,by rw [hlen],by rw [hlen]; exact hl,fun hne=>?_⟩,by simp⟩,.inr ⟨_,_,hx.1,by simp [lits]⟩⟩
  obtain ⟨b,off,rfl⟩:∃b off,x=⟨b,off,none⟩:=by
   obtain ⟨b,off,k⟩:=x
   cases k with
   | none=>exact ⟨b,off,rfl⟩
   | some k=>
    have hpos:0<len:=by
     rcases Nat.eq_zero_or_pos len with h0 | h0
     ·exact absurd (List.eq_nil_of_length_eq_zero (by rw [hlen,h0])) hne
     ·exact h0
    have h0:=hcell 0 (by omega)
    simp [Addr.add,World.cell?]at h0
    split at h0 <;> simp_all
  refine ⟨b,off,rfl,fun j u hu=>?_⟩
  have hj:j<len:=by
   have:=(List.getElem?_eq_some_iff.1 hu).1
   rw [Enc.fl_length,hlen]at this
   simpa [e8] using this
  have h1:=hcell j (by omega)
  have h2:(e8.fl ((zs.take len).map (fun n=>UInt8.ofNat n.toNat)))[j*e8.sz+0]? = (e8.cells (UInt8.ofNat (zs[j]'(by omega)).toNat))[0]?:=by
   refine Enc.fl_get e8 _ j _ ?_ 0 (by simp [e8])
   rw [List.getElem?_map,List.getElem?_take,if_pos hj,List.getElem?_eq_getElem (by omega)]; rfl
  rw [show j*e8.sz+0=j by simp [e8],hu]at h2
  simp [e8]at h2
  obtain ⟨y,hy⟩:=hmem (zs[j]'(by omega)) (List.getElem_mem _)
  have h3:zs.getD j 0=zs[j]'(by omega):=by rw [List.getD_eq_getElem?_getD,List.getElem?_eq_getElem (by omega)]; rfl
  rw [h3]at h1
  have h4:(⟨b,off,none⟩:Addr).add j=⟨b,off+j,none⟩:=by
   unfold Addr.add; split
   ·subst j; rfl
   ·rfl
  rw [←h4,h1,h2]
  congr 2
  rw [UInt8.toNat_ofNat',hy]
  have:=y.toNat_lt
  simp
theorem size_bytes {ts:List TypeId} {ds:List (DataW H)} (h:(DataW.weightsEach P ts ds).all (fun x=>decide (x≤reachBytes))=true) {j:Nat} {t e:TypeId} {d:DataW H} {l:List UInt8}
  (ht:ts[j]? = some t) (hd:ds[j]? = some d) (hu:P.underlying t=some (.slice e)) (hb:P.bytesOf e=1) (hl:(d=.nil∧l=[])∨∃elems spare,d=.slice elems spare∧elems.length=l.length) :
  l.length≤140737488351232:=by
 rcases hl with ⟨_,rfl⟩ | ⟨elems,spare,rfl,h1⟩
 ·simp
 ·have:=sized_slice h ht hd hu
  rw [hb]at this
  simp only [reachBytes]at this
  omega
end
end Go.Gk
end

section
namespace Go.Gk
open Go.ChangeShapes Go.WideShapes Go.ChangeAt Go.RowKit
def WD {H:Type} {τ:Type} (d:DataW H) (l:List τ):Prop:=(d=.nil∧l=[])∨∃elems spare,d=.slice elems spare∧elems.length=l.length
section
variable {H:Type} {enc:TypeId×Value→H} {P:Program} {W:World}
theorem tT {t e:TypeId} {v:Value} {x:DataW H×List MemPlace} {fuel:Nat} (ht:P.underlying t=some (.slice e)) (he:P.underlying e=some (.int .u32)) (hc:P.cellsOf e=1)
  (hf:DataW.trod enc P W 0 (fun _=>true) true fuel t [v]=some x):∃l:List UInt32,RP [] W e32 v l∧WD x.1 l:=by
 rcases open_ints ht he hc hf with ⟨hcs,hx⟩ | ⟨x0,len,cap,zs,hcs,_,hl,hm,hz,hx,hcell,hwz⟩
 ·simp only [List.cons.injEq,and_true]at hcs
  subst hcs; subst hx
  exact ⟨[],(RO.nil W e32).rp,.inl ⟨rfl,rfl⟩⟩
 ·simp only [List.cons.injEq,and_true]at hcs
  subst hcs; subst hx
  simp only [if_true]at hz
  have hmem:∀n∈zs,∃y:UInt32,n=(y.toNat:Int):=by
   intro n hn
   have:=hwz n hn
   simp [Lit.wf,IntKind.min,IntKind.max,IntKind.signed,IntKind.bits]at this
   exact ⟨UInt32.ofNat n.toNat,by rw [UInt32.toNat_ofNat']; omega⟩
  have hlen:((zs.take len).map (fun n=>UInt32.ofNat n.toNat)).length=len:=by simp; omega
  refine ⟨(zs.take len).map (fun n=>UInt32.ofNat n.toNat),⟨⟨some x0,cap,by rw [hlen],by rw [hlen]; exact hl,fun hne=>?_⟩,by simp⟩,.inr ⟨_,_,rfl,by simp [lits]⟩⟩
  obtain ⟨b,off,rfl⟩:∃b off,x0=⟨b,off,none⟩:=by
   obtain ⟨b,off,k⟩:=x0
   cases k with
   | none=>exact ⟨b,off,rfl⟩
   | some k=>
    have hpos:0<len:=by
     rcases Nat.eq_zero_or_pos len with h0 | h0
     ·exact absurd (List.eq_nil_of_length_eq_zero (by rw [hlen,h0])) hne
     ·exact h0
    have h0:=hcell 0 (by omega)
    simp [Addr.add,World.cell?]at h0
    split at h0 <;> simp_all
  refine ⟨b,off,rfl,fun j u hu=>?_⟩
  have hj:j<len:=by
   have:=(List.getElem?_eq_some_iff.1 hu).1
   rw [Enc.fl_length,hlen]at this
   simpa [e32] using this
  have h1:=hcell j (by omega)
  have h2:(e32.fl ((zs.take len).map (fun n=>UInt32.ofNat n.toNat)))[j*e32.sz+0]? = (e32.cells (UInt32.ofNat (zs[j]'(by omega)).toNat))[0]?:=by
   refine Enc.fl_get e32 _ j _ ?_ 0 (by simp [e32])
   rw [List.getElem?_map,List.getElem?_take,if_pos hj,List.getElem?_eq_getElem (by omega)]; rfl
  rw [show j*e32.sz+0=j by simp [e32],hu]at h2
  simp [e32]at h2
  obtain ⟨y,hy⟩:=hmem (zs[j]'(by omega)) (List.getElem_mem _)
  have h3:zs.getD j 0=zs[j]'(by omega):=by rw [List.getD_eq_getElem?_getD,List.getElem?_eq_getElem (by omega)]; rfl
  rw [h3]at h1
  have h4:(⟨b,off,none⟩:Addr).add j=⟨b,off+j,none⟩:=by
   unfold Addr.add; split
   ·subst j; rfl
   ·rfl
  rw [←h4,h1,h2]
  congr 2
  rw [UInt32.toNat_ofNat',hy]
  have:=y.toNat_lt
  simp
theorem arg_words {r:Reach} {b0:Nat} {t e:TypeId} {v:Value} {d:DataW H} {ps:List MemPlace} (ht:P.underlying t=some (.slice e)) (he:P.underlying e=some (.int .u32)) (hc:P.cellsOf e=1)
  (hval:Value.okWide P W r b0 t v) (hd:DataW.Trod enc P W 0 (fun _=>true) true t v d ps):∃l:List UInt32,RP [] W e32 v l∧WD d l:=by
 obtain ⟨a,len,cap,rfl⟩:=okWide_slice ht hval
 obtain ⟨fuel,hf⟩:=hd
 exact tT (x:=(d,ps)) ht he hc hf
theorem size_words {ts:List TypeId} {ds:List (DataW H)} (h:(DataW.weightsEach P ts ds).all (fun x=>decide (x≤reachBytes))=true) {j:Nat} {t e:TypeId} {d:DataW H} {l:List UInt32}
  (ht:ts[j]? = some t) (hd:ds[j]? = some d) (hu:P.underlying t=some (.slice e)) (hb:P.bytesOf e=4) (hl:WD d l):l.length≤35184372087808:=by
 rcases hl with ⟨_,rfl⟩ | ⟨elems,spare,rfl,h1⟩
 ·simp
 ·have:=sized_slice h ht hd hu
  rw [hb]at this
  simp only [reachBytes]at this
  omega
end
end Go.Gk
end
