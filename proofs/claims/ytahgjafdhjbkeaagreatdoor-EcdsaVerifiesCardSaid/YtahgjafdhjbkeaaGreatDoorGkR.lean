import Derived.Test.YtahgjafdhjbkeaaGreatDoorGkC
import Derived.ProofKit
import Derived.OpenShut
import Derived.ShutString
import Derived.ChangeOld
import Derived.Below
import Derived.SizedLaws
set_option linter.unusedVariables false
set_option linter.unusedSimpArgs false
set_option linter.unusedSectionVars false
namespace Go.Gk
open Go.ChangeShapes Go.WideShapes Go.ChangeAt Go.RowKit
open Go.ChangeMaps (open_string shut_string)
section
variable {H:Type} {enc:TypeId×Value→H} {P:Program} {W W':World}
theorem mh (i:laidOutB P=true) (j:Below W.heap.size W W'):∀(f:List TypeId) (vs:List Value) (ds:List (DataW H)) (g:List MemPlace),
  (f.all fun t=>P.readableRec t&&decide (t<P.types.size))=true →
  DataW.TrodAll enc P W 0 (fun _=>true) true f vs ds g→DataW.TrodAll enc P W' 0 (fun b=>decide (b<W.heap.size)) true f vs ds g
 | [],vs,ds,g,_,h=>by
  obtain ⟨rfl,rfl,rfl⟩:=trodAll_nil h
  exact trodAll_mk0
 | t :: f,vs,ds,g,ht,h=>by
  obtain ⟨v,k,d,o,p,q,rfl,rfl,rfl,x,y⟩:=trodAll_cons h
  rw [List.all_cons,Bool.and_eq_true,Bool.and_eq_true]at ht
  refine trodAll_cons_mk (Below.trod i ht.1.1 (of_decide_eq_true ht.1.2) x j ?_) (mh i j f k o q ht.2 y)
  obtain ⟨m,z⟩:=x
  exact DataW.trod_lt m _ _ _ z
theorem law_post {s:ChangeSpec} {fn:Func} {args:Array Value} {ds j:List (DataW H)} {p:List MemPlace} {k:TypeId} (A:s.vars=[]) (B:j=[])
  (i:s.fn H ds={ results:=[.lit (.bool true)],args:=ds,vars:=[] }) (m:fn.resultTypes=#[k]) (F:P.underlying k=some .bool) (G:laidOutB P=true)
  (g:(fn.params.toList.all fun t=>P.readableRec t&&decide (t<P.types.size))=true)
  (o:DataW.Whole enc P fn.params.toList s.vars false W args.toList ds j p) (f:Below W.heap.size W W') :
  s.post enc P fn false true false false W args (.bool true) W':=by
 subst B
 have x:=o
 obtain ⟨y,q,z,N,J,K,M⟩:=o
 have I:DataW.TrodAll enc P W 0 (fun _=>true) true fn.params.toList args.toList ds y:=z
 refine ⟨ds,[],p,[],y,[],x,?_,?_,?_,f.frame _,fun h=>by cases h⟩
 ·rw [List.append_nil,i,m]
  exact trodAll_mk1 (shut_bool F _)
 ·rw [List.append_nil,i]
  exact mh G f _ _ _ _ g I
 ·rw [List.append_nil,i,A]
  rfl
theorem arg_bytes {r:Reach} {b0:Nat} {t e:TypeId} {v:Value} {d:DataW H} {O:List MemPlace} (G:P.underlying t=some (.slice e)) (R:P.underlying e=some (.int .u8)) (hc:P.cellsOf e=1)
  (A:Value.okWide P W r b0 t v) (U:DataW.Trod enc P W 0 (fun _=>true) true t v d O) :
  ∃l:List UInt8,RP [] W e8 v l∧((d=.nil∧l=[])∨∃i z,d=.slice i z∧i.length=l.length):=by
 obtain ⟨a,len,I,rfl⟩:=okWide_slice G A
 obtain ⟨V,X⟩:=U
 rcases open_ints G R hc X with ⟨g,q⟩ | ⟨x,l,c,h,g,_,Y,hm,Z,q,m,J⟩
 ·simp [Value.cells]at g
  obtain ⟨rfl,rfl,rfl⟩:=g
  simp only [Prod.mk.injEq]at q
  exact ⟨[],(RO.nil W e8).rp,.inl ⟨q.1,rfl⟩⟩
 ·simp [Value.cells]at g
  obtain ⟨rfl,rfl,rfl⟩:=g
  simp only [if_true]at Z
  simp only [Prod.mk.injEq]at q
  have B:∀n∈h,∃y:UInt8,n=(y.toNat:Int):=by
   intro n hn
   have:=J n hn
   simp [Lit.wf,IntKind.min,IntKind.max,IntKind.signed,IntKind.bits]at this
   exact ⟨UInt8.ofNat n.toNat,by rw [UInt8.toNat_ofNat']; omega⟩
  have f:((h.take len).map (fun n=>UInt8.ofNat n.toNat)).length=len:=by simp; omega
  refine ⟨(h.take len).map (fun n=>UInt8.ofNat n.toNat),⟨⟨some x,I,by rw [f],by rw [f]; exact Y,fun K=>?_⟩,by simp⟩,.inr ⟨_,_,q.1,by simp [lits]⟩⟩
  obtain ⟨b,off,rfl⟩:∃b off,x=⟨b,off,none⟩:=by
   obtain ⟨b,off,k⟩:=x
   cases k with
   | none=>exact ⟨b,off,rfl⟩
   | some k=>
    have ac:0<len:=by
     rcases Nat.eq_zero_or_pos len with o | o
     ·exact absurd (List.eq_nil_of_length_eq_zero (by rw [f,o])) K
     ·exact o
    have o:=m 0 (by omega)
    simp [Addr.add,World.cell?]at o
    split at o <;> simp_all
  refine ⟨b,off,rfl,fun j u M=>?_⟩
  have hj:j<len:=by
   have:=(List.getElem?_eq_some_iff.1 M).1
   rw [Enc.fl_length,f]at this
   simpa [e8] using this
  have N:=m j (by omega)
  have F:(e8.fl ((h.take len).map (fun n=>UInt8.ofNat n.toNat)))[j*e8.sz+0]? = (e8.cells (UInt8.ofNat (h[j]'(by omega)).toNat))[0]?:=by
   refine Enc.fl_get e8 _ j _ ?_ 0 (by simp [e8])
   rw [List.getElem?_map,List.getElem?_take,if_pos hj,List.getElem?_eq_getElem (by omega)]; rfl
  rw [show j*e8.sz+0=j by simp [e8],M]at F
  simp [e8]at F
  obtain ⟨y,hy⟩:=B (h[j]'(by omega)) (List.getElem_mem _)
  have h3:h.getD j 0=h[j]'(by omega):=by rw [List.getD_eq_getElem?_getD,List.getElem?_eq_getElem (by omega)]; rfl
  rw [h3]at N
  have h4:(⟨b,off,none⟩:Addr).add j=⟨b,off+j,none⟩:=by
   unfold Addr.add; split
   ·subst j; rfl
   ·rfl
  rw [←h4,N,F]
  congr 2
  rw [UInt8.toNat_ofNat',hy]
  have:=y.toNat_lt
  simp
theorem size_bytes {i:List TypeId} {ds:List (DataW H)} (h:(DataW.weightsEach P i ds).all (fun x=>decide (x≤reachBytes))=true) {j:Nat} {t e:TypeId} {d:DataW H} {l:List UInt8}
  (k:i[j]? = some t) (m:ds[j]? = some d) (o:P.underlying t=some (.slice e)) (q:P.bytesOf e=1) (y:(d=.nil∧l=[])∨∃f g,d=.slice f g∧f.length=l.length) :
  l.length≤140737488351232:=by
 rcases y with ⟨_,rfl⟩ | ⟨f,g,rfl,z⟩
 ·simp
 ·have:=sized_slice h k m o
  rw [q]at this
  simp only [reachBytes]at this
  omega
end
end Go.Gk
