import Derived.Test.YtahgjafdhjbkeaaGreatDoorGkC
import Derived.ProofKit
import Derived.OpenShut
import Derived.ShutString
import Derived.ChangeOld
import Derived.Below
import Derived.SizedLaws
import Derived.Test.YtahgjafdhjbkeaaGreatDoorGkV
set_option linter.unusedVariables false
set_option linter.unusedSimpArgs false
set_option linter.unusedSectionVars false

section
namespace Go.Gk
open Go.ChangeShapes Go.WideShapes Go.ChangeAt Go.RowKit
open Go.ChangeMaps (open_string shut_string)
section
variable {H:Type} {enc:TypeId×Value->H} {P:Program} {W W':World}
theorem mu (i:laidOutB P=true) (j:Below W.heap.size W W'):∀(f:List TypeId) (vs:List Value) (ds:List (DataW H)) (g:List MemPlace),
  (f.all fun t=>P.readableRec t&&decide (t<P.types.size))=true ->
  DataW.TrodAll enc P W 0 (fun _=>true) true f vs ds g->DataW.TrodAll enc P W' 0 (fun b=>decide (b<W.heap.size)) true f vs ds g
 | [],vs,ds,g,_,h=>by
  obtain⟨rfl,rfl,rfl⟩:=trodAll_nil h
  exact trodAll_mk0
 | t :: f,vs,ds,g,ht,h=>by
  obtain⟨v,k,d,o,p,q,rfl,rfl,rfl,x,y⟩:=trodAll_cons h
  rw[List.all_cons,Bool.and_eq_true,Bool.and_eq_true]at ht
  refine trodAll_cons_mk (Below.trod i ht.1.1 (of_decide_eq_true ht.1.2) x j ?_) (mu i j f k o q ht.2 y)
  obtain⟨m,z⟩:=x
  exact DataW.trod_lt m _ _ _ z
theorem law_post {s:ChangeSpec} {fn:Func} {args:Array Value} {ds j:List (DataW H)} {p:List MemPlace} {k:TypeId} (A:s.vars=[]) (B:j=[])
  (i:s.fn H ds={ results:=[.lit (.bool true)],args:=ds,vars:=[] }) (m:fn.resultTypes=#[k]) (F:P.underlying k=some .bool) (G:laidOutB P=true)
  (g:(fn.params.toList.all fun t=>P.readableRec t&&decide (t<P.types.size))=true)
  (o:DataW.Whole enc P fn.params.toList s.vars false W args.toList ds j p) (f:Below W.heap.size W W') :
  s.post enc P fn false true false false W args (.bool true) W':=by
 subst B
 have x:=o
 obtain⟨y,q,z,N,J,K,M⟩:=o
 have I:DataW.TrodAll enc P W 0 (fun _=>true) true fn.params.toList args.toList ds y:=z
 refine⟨ds,[],p,[],y,[],x,?_,?_,?_,f.frame _,fun h=>by cases h⟩
 ·rw[List.append_nil,i,m]
  exact trodAll_mk1 (shut_bool F _)
 ·rw[List.append_nil,i]
  exact mu G f _ _ _ _ g I
 ·rw[List.append_nil,i,A]
  rfl
theorem arg_bytes {r:Reach} {b0:Nat} {t e:TypeId} {v:Value} {d:DataW H} {O:List MemPlace} (G:P.underlying t=some (.slice e)) (R:P.underlying e=some (.int .u8)) (hc:P.cellsOf e=1)
  (A:Value.okWide P W r b0 t v) (U:DataW.Trod enc P W 0 (fun _=>true) true t v d O) :
  ∃l:List UInt8,RP [] W e8 v l/\((d=.nil/\l=[])\/∃i z,d=.slice i z/\i.length=l.length):=by
 obtain⟨a,len,I,rfl⟩:=okWide_slice G A
 obtain⟨V,X⟩:=U
 rcases open_ints G R hc X with⟨g,q⟩ | ⟨x,l,c,h,g,_,Y,hm,Z,q,m,J⟩
 ·simp[Value.cells]at g
  obtain⟨rfl,rfl,rfl⟩:=g
  simp only[Prod.mk.injEq]at q
  exact⟨[],(RO.nil W e8).rp,.inl ⟨q.1,rfl⟩⟩
 ·simp[Value.cells]at g
  obtain⟨rfl,rfl,rfl⟩:=g
  simp only[if_true]at Z
  simp only[Prod.mk.injEq]at q
  have B:∀n∈h,∃y:UInt8,n=(y.toNat:Int):=by
   intro n hn
   have:=J n hn
   simp[Lit.wf,IntKind.min,IntKind.max,IntKind.signed,IntKind.bits]at this
   exact⟨UInt8.ofNat n.toNat,by rw[UInt8.toNat_ofNat']; omega⟩
  have f:((h.take len).map (fun n=>UInt8.ofNat n.toNat)).length=len:=by simp; omega
  refine⟨(h.take len).map (fun n=>UInt8.ofNat n.toNat),⟨⟨some x,I,by rw[f],by rw[f]; exact Y,fun K=>?_⟩,by simp⟩,.inr ⟨_,_,q.1,by simp[lits]⟩⟩
  obtain⟨b,off,rfl⟩:∃b off,x=⟨b,off,none⟩:=by
   obtain⟨b,off,k⟩:=x
   cases k with
   | none=>exact⟨b,off,rfl⟩
   | some k=>
    have ac:0<len:=by
     rcases Nat.eq_zero_or_pos len with o | o
     ·exact absurd (List.eq_nil_of_length_eq_zero (by rw[f,o])) K
     ·exact o
    have o:=m 0 (by omega)
    simp[Addr.add,World.cell?]at o
    split at o <;> simp_all
  refine⟨b,off,rfl,fun j u M=>?_⟩
  have hj:j<len:=by
   have:=(List.getElem?_eq_some_iff.1 M).1
   rw[Enc.fl_length,f]at this
   simpa [e8] using this
  have N:=m j (by omega)
  have F:(e8.fl ((h.take len).map (fun n=>UInt8.ofNat n.toNat)))[j*e8.sz+0]? = (e8.cells (UInt8.ofNat (h[j]'(by omega)).toNat))[0]?:=by
   refine Enc.fl_get e8 _ j _ ?_ 0 (by simp[e8])
   rw[List.getElem?_map,List.getElem?_take,if_pos hj,List.getElem?_eq_getElem (by omega)]; rfl
  rw[show j*e8.sz+0=j by simp[e8],M]at F
  simp[e8]at F
  obtain⟨y,hy⟩:=B (h[j]'(by omega)) (List.getElem_mem _)
  have h3:h.getD j 0=h[j]'(by omega):=by rw[List.getD_eq_getElem?_getD,List.getElem?_eq_getElem (by omega)]; rfl
  rw[h3]at N
  have h4:(⟨b,off,none⟩:Addr).add j=⟨b,off+j,none⟩:=by
   unfold Addr.add; split
   ·subst j; rfl
   ·rfl
  rw[<-h4,N,F]
  congr 2
  rw[UInt8.toNat_ofNat',hy]
  have:=y.toNat_lt
  simp
theorem size_bytes {i:List TypeId} {ds:List (DataW H)} (h:(DataW.weightsEach P i ds).all (fun x=>decide (x<=reachBytes))=true) {j:Nat} {t e:TypeId} {d:DataW H} {l:List UInt8}
  (k:i[j]? = some t) (m:ds[j]? = some d) (o:P.underlying t=some (.slice e)) (q:P.bytesOf e=1) (y:(d=.nil/\l=[])\/∃f g,d=.slice f g/\f.length=l.length) :
  l.length<=140737488351232:=by
 rcases y with⟨_,rfl⟩ | ⟨f,g,rfl,z⟩
 ·simp
 ·have:=sized_slice h k m o
  rw[q]at this
  simp only[reachBytes]at this
  omega
end
end Go.Gk
end

section
namespace Go.Gk
open Go.ChangeShapes Go.WideShapes Go.ChangeAt Go.RowKit
def WD {H:Type} {τ:Type} (d:DataW H) (l:List τ):Prop:=(d=.nil/\l=[])\/∃elems spare,d=.slice elems spare/\elems.length=l.length
section
variable {H:Type} {enc:TypeId×Value->H} {P:Program} {W:World}
theorem lG {t e:TypeId} {v:Value} {x:DataW H×List MemPlace} {o:Nat} (K:P.underlying t=some (.slice e)) (M:P.underlying e=some (.int .u32)) (hc:P.cellsOf e=1)
  (N:DataW.trod enc P W 0 (fun _=>true) true o t [v]=some x):∃l:L0,RP [] W e32 v l/\WD x.1 l:=by
 rcases open_ints K M hc N with⟨g,q⟩ | ⟨x0,len,B,h,g,_,O,hm,R,q,i,F⟩
 ·simp only[List.cons.injEq,and_true]at g
  subst g; subst q
  exact⟨[],(RO.nil W e32).rp,.inl ⟨rfl,rfl⟩⟩
 ·simp only[List.cons.injEq,and_true]at g
  subst g; subst q
  simp only[if_true]at R
  have z:∀n∈h,∃y:UInt32,n=(y.toNat:Int):=by
   intro n U
   have:=F n U
   simp[Lit.wf,IntKind.min,IntKind.max,IntKind.signed,IntKind.bits]at this
   exact⟨UInt32.ofNat n.toNat,by rw[UInt32.toNat_ofNat']; omega⟩
  have f:((h.take len).map (fun n=>UInt32.ofNat n.toNat)).length=len:=by simp; omega
  refine⟨(h.take len).map (fun n=>UInt32.ofNat n.toNat),⟨⟨some x0,B,by rw[f],by rw[f]; exact O,fun G=>?_⟩,by simp⟩,.inr ⟨_,_,rfl,by simp[lits]⟩⟩
  obtain⟨b,off,rfl⟩:∃b off,x0=⟨b,off,none⟩:=by
   obtain⟨b,off,k⟩:=x0
   cases k with
   | none=>exact⟨b,off,rfl⟩
   | some k=>
    have V:0<len:=by
     rcases Nat.eq_zero_or_pos len with m | m
     ·exact absurd (List.eq_nil_of_length_eq_zero (by rw[f,m])) G
     ·exact m
    have m:=i 0 (by omega)
    simp[Addr.add,World.cell?]at m
    split at m <;> simp_all
  refine⟨b,off,rfl,fun j u I=>?_⟩
  have X:j<len:=by
   have:=(List.getElem?_eq_some_iff.1 I).1
   rw[Enc.fl_length,f]at this
   simpa [e32] using this
  have J:=i j (by omega)
  have A:(e32.fl ((h.take len).map (fun n=>UInt32.ofNat n.toNat)))[j*e32.sz+0]? = (e32.cells (UInt32.ofNat (h[j]'(by omega)).toNat))[0]?:=by
   refine Enc.fl_get e32 _ j _ ?_ 0 (by simp[e32])
   rw[List.getElem?_map,List.getElem?_take,if_pos X,List.getElem?_eq_getElem (by omega)]; rfl
  rw[show j*e32.sz+0=j by simp[e32],I]at A
  simp[e32]at A
  obtain⟨y,Y⟩:=z (h[j]'(by omega)) (List.getElem_mem _)
  have Z:h.getD j 0=h[j]'(by omega):=by rw[List.getD_eq_getElem?_getD,List.getElem?_eq_getElem (by omega)]; rfl
  rw[Z]at J
  have h4:(⟨b,off,none⟩:Addr).add j=⟨b,off+j,none⟩:=by
   unfold Addr.add; split
   ·subst j; rfl
   ·rfl
  rw[<-h4,J,A]
  congr 2
  rw[UInt32.toNat_ofNat',Y]
  have:=y.toNat_lt
  simp
theorem arg_words {r:Reach} {b0:Nat} {t e:TypeId} {v:Value} {d:DataW H} {g:List MemPlace} (h:P.underlying t=some (.slice e)) (i:P.underlying e=some (.int .u32)) (hc:P.cellsOf e=1)
  (f:Value.okWide P W r b0 t v) (j:DataW.Trod enc P W 0 (fun _=>true) true t v d g):∃l:L0,RP [] W e32 v l/\WD d l:=by
 obtain⟨a,len,o,rfl⟩:=okWide_slice h f
 obtain⟨k,m⟩:=j
 exact lG (x:=(d,g)) h i hc m
theorem arg_point {r:Reach} {b0:Nat} {t e:TypeId} {f g h:Field} {v:Value} {d:DataW H} {M:List MemPlace} (o:P.underlying t=some (.struct #[f,g,h]))
  (N:f.offset=0) (O:g.offset=1) (R:h.offset=2) (U:P.cellsOf t=3) (V:P.underlying f.type=some (.slice e)) (Z:P.underlying g.type=some (.slice e)) (t2:P.underlying h.type=some .bool)
  (x:P.underlying e=some (.int .u32)) (hc:P.cellsOf e=1) (c0:P.cellsOf f.type=1) (c1:P.cellsOf g.type=1) (c2:P.cellsOf h.type=1)
  (m:Value.okWide P W r b0 t v) (hd:DataW.Trod enc P W 0 (fun _=>true) true t v d M) :
  ∃(y z:Value) (X Y:L0) (q:Bool) (A B:DataW H),v=.agg #[y,z,vB q]/\RP [] W e32 y X/\RP [] W e32 z Y/\d=.agg [A,B,.lit (.bool q)]/\WD A X/\WD B Y:=by
 obtain⟨cs,rfl,j⟩:=okWide_struct o m
 obtain⟨a1,hf⟩:=hd
 obtain⟨xs,k',hk,k,b4,F,i⟩:=DataW.trod_struct o hf
 rw[U]at j
 obtain⟨l⟩:=cs
 match l,j,xs,F with
 | [w0,w1,w2],_,[y0,y1,y2],_=>
  have G:=i 0 f rfl
  have I:=i 1 g rfl
  have J:=i 2 h rfl
  simp[Value.cells,N,O,R,c0,c1,c2]at G I J
  obtain⟨X,hX,dX⟩:=lG V x hc G
  obtain⟨Y,hY,dY⟩:=lG Z x hc I
  obtain⟨q,K,b2⟩:=DataW.trod_bool t2 J
  simp only[List.cons.injEq,and_true]at K
  subst K; subst b2
  simp only[Prod.mk.injEq]at k
  exact⟨w0,w1,X,Y,q,y0.1,y1.1,rfl,hX,hY,by rw[k.1]; rfl,dX,dY⟩
theorem size_words {f:List TypeId} {ds:List (DataW H)} (h:(DataW.weightsEach P f ds).all (fun x=>decide (x<=reachBytes))=true) {j:Nat} {t e:TypeId} {d:DataW H} {l:L0}
  (k:f[j]? = some t) (m:ds[j]? = some d) (o:P.underlying t=some (.slice e)) (q:P.bytesOf e=4) (y:WD d l):l.length<=35184372087808:=by
 rcases y with⟨_,rfl⟩ | ⟨g,i,rfl,z⟩
 ·simp
 ·have:=sized_slice h k m o
  rw[q]at this
  simp only[reachBytes]at this
  omega
theorem size_part {f us:List TypeId} {ds es:List (DataW H)} {g:Array Field} (h:(DataW.weightsEach P f ds).all (fun x=>decide (x<=reachBytes))=true) {j:Nat} {t:TypeId}
  (k:f[j]? = some t) (m:ds[j]? = some (.agg es)) (o:P.underlying t=some (.struct g)) (i:g.toList.map (·.type)=us):(DataW.weightsEach P us es).all (fun x=>decide (x<=reachBytes))=true:=by
 refine List.all_eq_true.2 fun x q=>?_
 exact List.all_eq_true.1 h x (DataW.weights_mem_each k m x (by simp only[DataW.weights,o,i]; exact q))
end
end Go.Gk
end
