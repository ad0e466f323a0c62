import Derived.Test.YtmegjloifgfldaaGreatDoorGkC
import Derived.ProofKit
import Derived.OpenShut
import Derived.ShutString
import Derived.ChangeOld
import Derived.Below
import Derived.SizedLaws
import Derived.Test.YtmegjloifgfldaaGreatDoorGkV
set_option linter.unusedVariables false
set_option linter.unusedSimpArgs false
set_option linter.unusedSectionVars false

section
namespace Go.Gk
open Go.ChangeShapes Go.WideShapes Go.ChangeAt Go.RowKit
open Go.ChangeMaps (open_string shut_string)
section
variable {H:Type} {enc:TypeId×Value->H} {P:Program} {W W':World}
theorem m0 (hl:laidOutB P=true) (hb:Below W.heap.size W W'):∀(f:List TypeId) (vs:List Value) (ds:List (DataW H)) (g:List MemPlace),
  (f.all fun t=>P.readableRec t&&decide (t<P.types.size))=true ->
  DataW.TrodAll enc P W 0 (fun _=>true) true f vs ds g->DataW.TrodAll enc P W' 0 (fun b=>decide (b<W.heap.size)) true f vs ds g
 | [],vs,ds,g,_,h=>by
  obtain⟨rfl,rfl,rfl⟩:=trodAll_nil h
  exact trodAll_mk0
 | t :: f,vs,ds,g,ht,h=>by
  obtain⟨v,i,d,j,p,q,rfl,rfl,rfl,k,o⟩:=trodAll_cons h
  rw[List.all_cons,Bool.and_eq_true,Bool.and_eq_true]at ht
  refine trodAll_cons_mk (Below.trod hl ht.1.1 (of_decide_eq_true ht.1.2) k hb ?_) (m0 hl hb f i j q ht.2 o)
  obtain⟨m,hm⟩:=k
  exact DataW.trod_lt m _ _ _ hm
theorem law_post {s:ChangeSpec} {fn:Func} {args:Array Value} {ds i:List (DataW H)} {p:List MemPlace} {j:TypeId} (F:s.vars=[]) (hg:i=[])
  (hs:s.fn H ds={ results:=[.lit (.bool true)],args:=ds,vars:=[] }) (k:fn.resultTypes=#[j]) (hb:P.underlying j=some .bool) (hl:laidOutB P=true)
  (g:(fn.params.toList.all fun t=>P.readableRec t&&decide (t<P.types.size))=true)
  (o:DataW.Whole enc P fn.params.toList s.vars false W args.toList ds i p) (f:Below W.heap.size W W') :
  s.post enc P fn false true false false W args (.bool true) W':=by
 subst hg
 have z:=o
 obtain⟨A,q,B,M,I,J,K⟩:=o
 have G:DataW.TrodAll enc P W 0 (fun _=>true) true fn.params.toList args.toList ds A:=B
 refine⟨ds,[],p,[],A,[],z,?_,?_,?_,f.frame _,fun h=>by cases h⟩
 ·rw[List.append_nil,hs,k]
  exact trodAll_mk1 (shut_bool hb _)
 ·rw[List.append_nil,hs]
  exact m0 hl f _ _ _ _ g G
 ·rw[List.append_nil,hs,F]
  rfl
theorem gU {t e:TypeId} {v:Value} {x:DataW H×List MemPlace} {B:Nat} (O:P.underlying t=some (.slice e)) (he:P.underlying e=some (.int .u8)) (hc:P.cellsOf e=1)
  (R:DataW.trod enc P W 0 (fun _=>true) true B t [v]=some x) :
  ∃l:List UInt8,RP [] W e8 v l/\((x.1=.nil/\l=[])\/∃i A,x.1=.slice i A/\i.length=l.length):=by
 rcases open_ints O he hc R with⟨g,hx⟩ | ⟨x0,len,I,h,g,_,hl,hm,U,hx,o,J⟩
 ·simp only[List.cons.injEq,and_true]at g
  subst g; subst hx
  exact⟨[],(RO.nil W e8).rp,.inl ⟨rfl,rfl⟩⟩
 ·simp only[List.cons.injEq,and_true]at g
  subst g; subst hx
  simp only[if_true]at U
  have F:∀n∈h,∃y:UInt8,n=(y.toNat:Int):=by
   intro n hn
   have:=J n hn
   simp[Lit.wf,IntKind.min,IntKind.max,IntKind.signed,IntKind.bits]at this
   exact⟨UInt8.ofNat n.toNat,by rw[UInt8.toNat_ofNat']; omega⟩
  have f:((h.take len).map (fun n=>UInt8.ofNat n.toNat)).length=len:=by simp; omega
  refine⟨(h.take len).map (fun n=>UInt8.ofNat n.toNat),⟨⟨some x0,I,by rw[f],by rw[f]; exact hl,fun K=>?_⟩,by simp⟩,.inr ⟨_,_,rfl,by simp[lits]⟩⟩
  obtain⟨b,off,rfl⟩:∃b off,x0=⟨b,off,none⟩:=by
   obtain⟨b,off,k⟩:=x0
   cases k with
   | none=>exact⟨b,off,rfl⟩
   | some k=>
    have V:0<len:=by
     rcases Nat.eq_zero_or_pos len with z | z
     ·exact absurd (List.eq_nil_of_length_eq_zero (by rw[f,z])) K
     ·exact z
    have z:=o 0 (by omega)
    simp[Addr.add,World.cell?]at z
    split at z <;> simp_all
  refine⟨b,off,rfl,fun j u M=>?_⟩
  have X:j<len:=by
   have:=(List.getElem?_eq_some_iff.1 M).1
   rw[Enc.fl_length,f]at this
   simpa [e8] using this
  have N:=o j (by omega)
  have G:(e8.fl ((h.take len).map (fun n=>UInt8.ofNat n.toNat)))[j*e8.sz+0]? = (e8.cells (UInt8.ofNat (h[j]'(by omega)).toNat))[0]?:=by
   refine Enc.fl_get e8 _ j _ ?_ 0 (by simp[e8])
   rw[List.getElem?_map,List.getElem?_take,if_pos X,List.getElem?_eq_getElem (by omega)]; rfl
  rw[show j*e8.sz+0=j by simp[e8],M]at G
  simp[e8]at G
  obtain⟨y,hy⟩:=F (h[j]'(by omega)) (List.getElem_mem _)
  have Y:h.getD j 0=h[j]'(by omega):=by rw[List.getD_eq_getElem?_getD,List.getElem?_eq_getElem (by omega)]; rfl
  rw[Y]at N
  have Z:(⟨b,off,none⟩:Addr).add j=⟨b,off+j,none⟩:=by
   unfold Addr.add; split
   ·subst j; rfl
   ·rfl
  rw[<-Z,N,G]
  congr 2
  rw[UInt8.toNat_ofNat',hy]
  have:=y.toNat_lt
  simp
theorem arg_bytes {r:Reach} {b0:Nat} {t e:TypeId} {v:Value} {d:DataW H} {i:List MemPlace} (j:P.underlying t=some (.slice e)) (he:P.underlying e=some (.int .u8)) (hc:P.cellsOf e=1)
  (h:Value.okWide P W r b0 t v) (k:DataW.Trod enc P W 0 (fun _=>true) true t v d i) :
  ∃l:List UInt8,RP [] W e8 v l/\((d=.nil/\l=[])\/∃f g,d=.slice f g/\f.length=l.length):=by
 obtain⟨a,len,A,rfl⟩:=okWide_slice j h
 obtain⟨o,z⟩:=k
 exact gU (x:=(d,i)) j he hc z
theorem arg_string {r:Reach} {b0:Nat} {t:TypeId} {v:Value} {d:DataW H} {g:List MemPlace} (h:P.underlying t=some .string)
  (f:Value.okWide P W r b0 t v) (i:DataW.Trod enc P W 0 (fun _=>true) true t v d g):∃l:List UInt8,v=vS l/\d=.lit (.string l):=by
 obtain⟨s,rfl,rfl,_,_⟩:=open_string h f i
 exact⟨s.data.toList,rfl,rfl⟩
theorem size_bytes {i:List TypeId} {ds:List (DataW H)} (h:(DataW.weightsEach P i ds).all (fun x=>decide (x<=reachBytes))=true) {j:Nat} {t e:TypeId} {d:DataW H} {l:List UInt8}
  (k:i[j]? = some t) (o:ds[j]? = some d) (z:P.underlying t=some (.slice e)) (hb:P.bytesOf e=1) (hl:(d=.nil/\l=[])\/∃f g,d=.slice f g/\f.length=l.length) :
  l.length<=140737488351232:=by
 rcases hl with⟨_,rfl⟩ | ⟨f,g,rfl,A⟩
 ·simp
 ·have:=sized_slice h k o z
  rw[hb]at this
  simp only[reachBytes]at this
  omega
theorem size_string {f:List TypeId} {ds:List (DataW H)} (h:(DataW.weightsEach P f ds).all (fun x=>decide (x<=reachBytes))=true) {j:Nat} {t:TypeId} {d:DataW H} {l:List UInt8}
  (g:f[j]? = some t) (i:ds[j]? = some d) (hl:d=.lit (.string l)):l.length<=140737488351232:=by
 subst hl
 have:=sized_string h g i
 simpa only [reachBytes] using this
end
end Go.Gk
end

section
namespace Go.Gk
open Go.ChangeShapes Go.WideShapes Go.ChangeAt Go.RowKit
def WD {H:Type} {τ:Type} (d:DataW H) (l:List τ):Prop:=(d=.nil/\l=[])\/∃elems spare,d=.slice elems spare/\elems.length=l.length
section
variable {H:Type} {enc:TypeId×Value->H} {P:Program} {W:World}
theorem size_part {f us:List TypeId} {ds es:List (DataW H)} {g:Array Field} (h:(DataW.weightsEach P f ds).all (fun x=>decide (x<=reachBytes))=true) {j:Nat} {t:TypeId}
  (k:f[j]? = some t) (o:ds[j]? = some (.agg es)) (z:P.underlying t=some (.struct g)) (i:g.toList.map (·.type)=us):(DataW.weightsEach P us es).all (fun x=>decide (x<=reachBytes))=true:=by
 refine List.all_eq_true.2 fun x hx=>?_
 exact List.all_eq_true.1 h x (DataW.weights_mem_each k o x (by simp only[DataW.weights,z,i]; exact hx))
end
end Go.Gk
end

section
namespace Go.Gk
open Go.ChangeShapes Go.WideShapes Go.ChangeAt Go.RowKit
section
variable {H:Type} {enc:TypeId×Value->H} {P:Program} {W:World}
theorem arg_key {r:Reach} {b0:Nat} {t e:TypeId} {h i j o z A B:Field} {v:Value} {d:DataW H} {ps:List MemPlace} (Z:P.underlying t=some (.struct #[h,i,j,o,z,A,B]))
  (ho:[h,i,j,o,z,A,B].map (·.offset)=[0,1,2,3,4,5,6]) (ct:P.cellsOf t=7) (hk:([h,i,j,o,z,A,B].all fun f=>Nat.beq (P.cellsOf f.type) 1)=true)
  (t0:P.underlying h.type=some (.int .i64)) (t1:P.underlying i.type=some (.int .i64)) (t2:P.underlying j.type=some (.slice e)) (t3:P.underlying o.type=some (.slice e)) (t4:P.underlying z.type=some (.slice e))
  (t5:P.underlying A.type=some (.slice e)) (t6:P.underlying B.type=some (.slice e)) (he:P.underlying e=some (.int .u8)) (hc:P.cellsOf e=1)
  (Y:Value.okWide P W r b0 t v) (hd:DataW.Trod enc P W 0 (fun _=>true) true t v d ps) :
  ∃(k c:Int) (v2 v3 v4 v5 v6:Value) (F G I J K:Q1) (dk dc M N O R U:DataW H),v=.agg #[vI k,vI c,v2,v3,v4,v5,v6]/\RP [] W e8 v2 F/\RP [] W e8 v3 G/\RP [] W e8 v4 I/\RP [] W e8 v5 J/\RP [] W e8 v6 K /\
   d=.agg [dk,dc,M,N,O,R,U]/\WD M F/\WD N G/\WD O I/\WD R J/\WD U K:=by
 obtain⟨cs,rfl,V⟩:=okWide_struct Z Y
 obtain⟨el,hf⟩:=hd
 obtain⟨xs,k',fB,X,fP,a5,g⟩:=DataW.trod_struct Z hf
 rw[ct]at V
 obtain⟨l⟩:=cs
 simp only[List.all_cons,List.all_nil,Bool.and_true,Bool.and_eq_true,Nat.beq_eq]at hk
 obtain⟨c0,c1,c2,c3,c4,c5,c6⟩:=hk
 simp only[List.map_cons,List.map_nil,List.cons.injEq,and_true]at ho
 obtain⟨o0,o1,o2,o3,o4,o5,o6⟩:=ho
 match l,V,xs,a5 with
 | [w0,w1,w2,w3,w4,w5,w6],_,[y0,y1,y2,y3,y4,y5,y6],_=>
  have g0:=g 0 h rfl
  have g1:=g 1 i rfl
  have g2:=g 2 j rfl
  have g3:=g 3 o rfl
  have g4:=g 4 z rfl
  have g5:=g 5 A rfl
  have g6:=g 6 B rfl
  simp[Value.cells,o0,o1,o2,o3,o4,o5,o6,c0,c1,c2,c3,c4,c5,c6]at g0 g1 g2 g3 g4 g5 g6
  obtain⟨n0,a0,b0,_⟩:=DataW.trod_int t0 g0
  obtain⟨n1,a1,b1,_⟩:=DataW.trod_int t1 g1
  obtain⟨F,h2,M⟩:=gU t2 he hc g2
  obtain⟨G,h3,N⟩:=gU t3 he hc g3
  obtain⟨I,h4,O⟩:=gU t4 he hc g4
  obtain⟨J,h5,R⟩:=gU t5 he hc g5
  obtain⟨K,h6,U⟩:=gU t6 he hc g6
  simp only[List.cons.injEq,and_true]at a0 a1
  subst a0; subst a1
  simp only[Prod.mk.injEq]at X
  exact⟨n0,n1,w2,w3,w4,w5,w6,F,G,I,J,K,_,_,_,_,_,_,_,rfl,h2,h3,h4,h5,h6,by rw[X.1]; rfl,M,N,O,R,U⟩
end
end Go.Gk
end
