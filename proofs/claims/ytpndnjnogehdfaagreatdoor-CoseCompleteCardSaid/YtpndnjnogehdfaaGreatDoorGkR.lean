import Derived.Test.YtpndnjnogehdfaaGreatDoorGkS
import Derived.ProofKit
import Derived.OpenShut
import Derived.ShutString
import Derived.ChangeOld
import Derived.Below
import Derived.SizedLaws
import Derived.Test.YtpndnjnogehdfaaGreatDoorGkI
import Derived.Lib.LaidU8
import Derived.ChangeArms
set_option linter.unusedVariables false
set_option linter.unusedSimpArgs false
set_option linter.unusedSectionVars false
section
namespace Go.Gk
open Go.ChangeShapes Go.WideShapes Go.ChangeAt Go.RowKit
open Go.ChangeMaps (open_string shut_string)
section
variable {H:Type} {enc:TypeId×Value->H} {P:Program} {W W':World}
theorem qS (hl:laidOutB P=true) (A:Below W.heap.size W W'):∀(j:List TypeId) (vs:List Value) (ds:List (DataW H)) (y:List MemPlace),
  (j.all fun t=>P.readableRec t&&decide (t<P.types.size))=true ->
  DataW.TrodAll enc P W 0 (fun _=>true) true j vs ds y->DataW.TrodAll enc P W' 0 (fun b=>decide (b<W.heap.size)) true j vs ds y
 | [],vs,ds,y,_,h=>by
  obtain⟨rfl,rfl,rfl⟩:=trodAll_nil h
  exact trodAll_mk0
 | t :: j,vs,ds,y,ht,h=>by
  obtain⟨v,B,d,G,p,q,rfl,rfl,rfl,I,J⟩:=trodAll_cons h
  rw[List.all_cons,aK,aK]at ht
  refine trodAll_cons_mk (Below.trod hl ht.1.1 (of_decide_eq_true ht.1.2) I A ?_) (qS hl A j B G q ht.2 J)
  obtain⟨m,hm⟩:=I
  exact DataW.trod_lt m _ _ _ hm
theorem law_post {s:ChangeSpec} {fn:Func} {args:Array Value} {ds A:List (DataW H)} {p:List MemPlace} {B:TypeId} (R:s.vars=[]) (U:A=[])
  (hs:s.fn H ds={ results:=[.lit (.bool true)],args:=ds,vars:=[] }) (G:fn.resultTypes=#[B]) (V:P.underlying B=some .bool) (hl:laidOutB P=true)
  (y:(fn.params.toList.all fun t=>P.readableRec t&&decide (t<P.types.size))=true)
  (I:DataW.Whole enc P fn.params.toList s.vars false W args.toList ds A p) (j:Below W.heap.size W W') :
  s.post enc P fn false true false false W args (.bool true) W':=by
 subst U
 have J:=I
 obtain⟨N,q,O,hV,X,Y,Z⟩:=I
 have hA:DataW.TrodAll enc P W 0 (fun _=>true) true fn.params.toList args.toList ds N:=O
 refine⟨ds,[],p,[],N,[],J,?_,?_,?_,j.frame _,fun h=>by cases h⟩
 ·rw[bR,hs,G]
  exact trodAll_mk1 (shut_bool V _)
 ·rw[bR,hs]
  exact qS hl j _ _ _ _ y hA
 ·rw[bR,hs,R]
  rfl
theorem Ew {t e:TypeId} {v:Value} {x:DataW H×List MemPlace} {O:Nat} (ht:P.underlying t=some (.slice e)) (he:P.underlying e=some (.int .u8)) (hc:P.cellsOf e=1)
  (hf:DataW.trod enc P W 0 (fun _=>true) true O t [v]=some x) :
  ∃l:List UInt8,RP [] W e8 v l/\((x.1=.nil/\l=[])\/∃G N,x.1=.slice G N/\G.length=l.length):=by
 rcases open_ints ht he hc hf with⟨A,hx⟩ | ⟨x0,len,V,B,A,_,hl,hm,hz,hx,I,X⟩
 ·simp only[gq,and_true]at A
  subst A; subst hx
  exact⟨[],(RO.nil W e8).rp,.inl ⟨rfl,rfl⟩⟩
 ·simp only[gq,and_true]at A
  subst A; subst hx
  simp only[am]at hz
  have R:∀n∈B,∃y:UInt8,n=(y.toNat:Int):=by
   intro n hn
   have:=X n hn
   simp[Lit.wf,IntKind.min,IntKind.max,IntKind.signed,IntKind.bits]at this
   exact⟨UInt8.ofNat n.toNat,by rw[dQ]; omega⟩
  have q:((B.take len).map (fun n=>UInt8.ofNat n.toNat)).length=len:=by simp; omega
  refine⟨(B.take len).map (fun n=>UInt8.ofNat n.toNat),⟨⟨some x0,V,by rw[q],by rw[q]; exact hl,fun Y=>?_⟩,by simp⟩,.inr ⟨_,_,rfl,by simp[lits]⟩⟩
  obtain⟨b,off,rfl⟩:∃b off,x0=⟨b,off,none⟩:=by
   obtain⟨b,off,k⟩:=x0
   cases k with
   | none=>exact⟨b,off,rfl⟩
   | some k=>
    have ad:0<len:=by
     rcases bS len with J | J
     ·exact absurd (aZ (by rw[q,J])) Y
     ·exact J
    have J:=I 0 (by omega)
    simp[Addr.add,World.cell?]at J
    split at J <;> simp_all
  refine⟨b,off,rfl,fun j u hu=>?_⟩
  have hj:j<len:=by
   have:=(aD.1 hu).1
   rw[Enc.fl_length,q]at this
   simpa [e8] using this
  have Z:=I j (by omega)
  have U:(e8.fl ((B.take len).map (fun n=>UInt8.ofNat n.toNat)))[j*e8.sz+0]? = (e8.cells (UInt8.ofNat (B[j]'(by omega)).toNat))[0]?:=by
   refine Enc.fl_get e8 _ j _ ?_ 0 (by simp[e8])
   rw[d6,bK,ah hj,aE (by omega)]; rfl
  rw[show j*e8.sz+0=j by simp[e8],hu]at U
  simp[e8]at U
  obtain⟨y,hy⟩:=R (B[j]'(by omega)) (cC _)
  have h3:B.getD j 0=B[j]'(by omega):=by rw[ao,aE (by omega)]; rfl
  rw[h3]at Z
  have h4:(⟨b,off,none⟩:Addr).add j=⟨b,off+j,none⟩:=by
   unfold Addr.add; split
   ·subst j; rfl
   ·rfl
  rw[<-h4,Z,U]
  congr 2
  rw[dQ,hy]
  have:=y.toNat_lt
  simp
theorem arg_bytes {r:Reach} {b0:Nat} {t e:TypeId} {v:Value} {d:DataW H} {A:List MemPlace} (B:P.underlying t=some (.slice e)) (G:P.underlying e=some (.int .u8)) (hc:P.cellsOf e=1)
  (y:Value.okWide P W r b0 t v) (hd:DataW.Trod enc P W 0 (fun _=>true) true t v d A) :
  ∃l:List UInt8,RP [] W e8 v l/\((d=.nil/\l=[])\/∃j q,d=.slice j q/\j.length=l.length):=by
 obtain⟨a,len,J,rfl⟩:=okWide_slice B y
 obtain⟨I,hf⟩:=hd
 exact Ew (x:=(d,A)) B G hc hf
theorem size_bytes {A:List TypeId} {ds:List (DataW H)} (h:(DataW.weightsEach P A ds).all (fun x=>decide (x<=reachBytes))=true) {j:Nat} {t e:TypeId} {d:DataW H} {l:List UInt8}
  (B:A[j]? = some t) (hd:ds[j]? = some d) (hu:P.underlying t=some (.slice e)) (G:P.bytesOf e=1) (hl:(d=.nil/\l=[])\/∃q y,d=.slice q y/\q.length=l.length) :
  l.length<=140737488351232:=by
 rcases hl with⟨_,rfl⟩ | ⟨q,y,rfl,I⟩
 ·simp
 ·have:=sized_slice h B hd hu
  rw[G]at this
  simp only[reachBytes]at this
  omega
end
end Go.Gk
end
section
namespace Go.Gk
open Go.ChangeShapes Go.WideShapes Go.ChangeAt Go.RowKit
def WD {H:Type} {τ:Type} (d:DataW H) (l:List τ):Prop:=(d=.nil/\l=[])\/∃elems spare,d=.slice elems spare/\elems.length=l.length
section
variable {H:Type} {enc:TypeId×Value->H} {P:Program} {W:World}
theorem qf {t e:TypeId} {v:Value} {x:DataW H×List MemPlace} {J:Nat} (Y:P.underlying t=some (.slice e)) (Z:P.underlying e=some (.int .u32)) (hc:P.cellsOf e=1)
  (hf:DataW.trod enc P W 0 (fun _=>true) true J t [v]=some x):∃l:Y0,RP [] W e32 v l/\WD x.1 l:=by
 rcases open_ints Y Z hc hf with⟨A,hx⟩ | ⟨x0,len,R,B,A,_,hl,hm,hz,hx,G,U⟩
 ·simp only[gq,and_true]at A
  subst A; subst hx
  exact⟨[],(RO.nil W e32).rp,.inl ⟨rfl,rfl⟩⟩
 ·simp only[gq,and_true]at A
  subst A; subst hx
  simp only[am]at hz
  have N:∀n∈B,∃y:UInt32,n=(y.toNat:Int):=by
   intro n hn
   have:=U n hn
   simp[Lit.wf,IntKind.min,IntKind.max,IntKind.signed,IntKind.bits]at this
   exact⟨UInt32.ofNat n.toNat,by rw[dm]; omega⟩
  have q:((B.take len).map (fun n=>UInt32.ofNat n.toNat)).length=len:=by simp; omega
  refine⟨(B.take len).map (fun n=>UInt32.ofNat n.toNat),⟨⟨some x0,R,by rw[q],by rw[q]; exact hl,fun V=>?_⟩,by simp⟩,.inr ⟨_,_,rfl,by simp[lits]⟩⟩
  obtain⟨b,off,rfl⟩:∃b off,x0=⟨b,off,none⟩:=by
   obtain⟨b,off,k⟩:=x0
   cases k with
   | none=>exact⟨b,off,rfl⟩
   | some k=>
    have ab:0<len:=by
     rcases bS len with I | I
     ·exact absurd (aZ (by rw[q,I])) V
     ·exact I
    have I:=G 0 (by omega)
    simp[Addr.add,World.cell?]at I
    split at I <;> simp_all
  refine⟨b,off,rfl,fun j u hu=>?_⟩
  have hj:j<len:=by
   have:=(aD.1 hu).1
   rw[Enc.fl_length,q]at this
   simpa [e32] using this
  have X:=G j (by omega)
  have O:(e32.fl ((B.take len).map (fun n=>UInt32.ofNat n.toNat)))[j*e32.sz+0]? = (e32.cells (UInt32.ofNat (B[j]'(by omega)).toNat))[0]?:=by
   refine Enc.fl_get e32 _ j _ ?_ 0 (by simp[e32])
   rw[d6,bK,ah hj,aE (by omega)]; rfl
  rw[show j*e32.sz+0=j by simp[e32],hu]at O
  simp[e32]at O
  obtain⟨y,hy⟩:=N (B[j]'(by omega)) (cC _)
  have h3:B.getD j 0=B[j]'(by omega):=by rw[ao,aE (by omega)]; rfl
  rw[h3]at X
  have h4:(⟨b,off,none⟩:Addr).add j=⟨b,off+j,none⟩:=by
   unfold Addr.add; split
   ·subst j; rfl
   ·rfl
  rw[<-h4,X,O]
  congr 2
  rw[dm,hy]
  have:=y.toNat_lt
  simp
theorem arg_words {r:Reach} {b0:Nat} {t e:TypeId} {v:Value} {d:DataW H} {q:List MemPlace} (y:P.underlying t=some (.slice e)) (A:P.underlying e=some (.int .u32)) (hc:P.cellsOf e=1)
  (j:Value.okWide P W r b0 t v) (hd:DataW.Trod enc P W 0 (fun _=>true) true t v d q):∃l:Y0,RP [] W e32 v l/\WD d l:=by
 obtain⟨a,len,G,rfl⟩:=okWide_slice y j
 obtain⟨B,hf⟩:=hd
 exact qf (x:=(d,q)) y A hc hf
theorem arg_point {r:Reach} {b0:Nat} {t e:TypeId} {j y A:Field} {v:Value} {d:DataW H} {ps:List MemPlace} (N:P.underlying t=some (.struct #[j,y,A]))
  (o0:j.offset=0) (o1:y.offset=1) (o2:A.offset=2) (ct:P.cellsOf t=3) (t0:P.underlying j.type=some (.slice e)) (t1:P.underlying y.type=some (.slice e)) (t2:P.underlying A.type=some .bool)
  (O:P.underlying e=some (.int .u32)) (hc:P.cellsOf e=1) (c0:P.cellsOf j.type=1) (c1:P.cellsOf y.type=1) (c2:P.cellsOf A.type=1)
  (J:Value.okWide P W r b0 t v) (hd:DataW.Trod enc P W 0 (fun _=>true) true t v d ps) :
  ∃(v0 R:Value) (X Y:Y0) (q:Bool) (U V:DataW H),v=.agg #[v0,R,vB q]/\RP [] W e32 v0 X/\RP [] W e32 R Y/\d=.agg [U,V,.lit (.bool q)]/\WD U X/\WD V Y:=by
 obtain⟨cs,rfl,G⟩:=okWide_struct N J
 obtain⟨b8,hf⟩:=hd
 obtain⟨xs,k',hk,I,c4,Z,B⟩:=DataW.trod_struct N hf
 rw[ct]at G
 obtain⟨l⟩:=cs
 match l,G,xs,Z with
 | [w0,w1,w2],_,[y0,y1,y2],_=>
  have g0:=B 0 j rfl
  have g1:=B 1 y rfl
  have g2:=B 2 A rfl
  simp[Value.cells,o0,o1,o2,c0,c1,c2]at g0 g1 g2
  obtain⟨X,hX,dX⟩:=qf t0 O hc g0
  obtain⟨Y,hY,dY⟩:=qf t1 O hc g1
  obtain⟨q,a2,b2⟩:=DataW.trod_bool t2 g2
  simp only[gq,and_true]at a2
  subst a2; subst b2
  simp only[Prod.mk.injEq]at I
  exact⟨w0,w1,X,Y,q,y0.1,y1.1,rfl,hX,hY,by rw[I.1]; rfl,dX,dY⟩
theorem size_words {q:List TypeId} {ds:List (DataW H)} (h:(DataW.weightsEach P q ds).all (fun x=>decide (x<=reachBytes))=true) {j:Nat} {t e:TypeId} {d:DataW H} {l:Y0}
  (B:q[j]? = some t) (hd:ds[j]? = some d) (hu:P.underlying t=some (.slice e)) (G:P.bytesOf e=4) (hl:WD d l):l.length<=35184372087808:=by
 rcases hl with⟨_,rfl⟩ | ⟨y,A,rfl,I⟩
 ·simp
 ·have:=sized_slice h B hd hu
  rw[G]at this
  simp only[reachBytes]at this
  omega
theorem size_part {q us:List TypeId} {ds es:List (DataW H)} {y:Array Field} (h:(DataW.weightsEach P q ds).all (fun x=>decide (x<=reachBytes))=true) {j:Nat} {t:TypeId}
  (B:q[j]? = some t) (hd:ds[j]? = some (.agg es)) (hu:P.underlying t=some (.struct y)) (A:y.toList.map (·.type)=us):(DataW.weightsEach P us es).all (fun x=>decide (x<=reachBytes))=true:=by
 refine cq.2 fun x hx=>?_
 exact cq.1 h x (DataW.weights_mem_each B hd x (by simp only[DataW.weights,hu,A]; exact hx))
end
end Go.Gk
end
section
namespace Go.Gk
open Go Go.RowKit Go.Lib Go.Proofs
def yv (P:Program) (n:String) (g:Nat) (k:IntKind):Bool:=match P.globalNamed n,(P.globals[g]?).map (·.type) with
 | some g',some t=>match P.underlying t with
  | some (.array m e)=>(match P.underlying e with
   | some (.int k')=>decide (k'=k)&&decide (P.cellsOf e=1)&&decide (P.cellsOf t=m)&&decide (g'=g)
   | _=>false)
  | _=>false
 | _,_=>false
theorem xm {P:Program} {w:World} {n:String} {g:Nat} {k:IntKind} {A:List Int} (q:yv P n g k=true) (h:VarReads P w n (tabData k A)) (j:Nat):w.cell? ⟨g,j,none⟩=(A.map fun z=>Value.int k z)[j]?:=by
 obtain⟨X,t,cs,J,p,B,G,y,hd⟩:=h
 unfold yv at q
 rw[B]at q
 split at q
 ·rename_i Y Z N O
  cases N
  split at q
  ·rename_i m e hu
   split at q
   ·rename_i k' R
    simp only[aK,ar]at q
    obtain⟨⟨⟨rfl,U⟩,V⟩,rfl⟩:=q
    obtain rfl:=eQ (O.symm.trans G)
    have I:=cells_of_tab hu R U V hd
    rw[World.var?_cell B y j,<-gv,I]
   ·cases q
  ·cases q
 ·cases q
theorem Ix:∀l:Y0,e32.fl l=(l.map fun x=>(x.toNat:Int)).map fun z=>Value.int .u32 z
 | []=>rfl
 | x :: l=>by
  have:=Ix l
  simp[Enc.fl,e32]at this ⊢
  exact this
theorem MV:∀l:List UInt64,e64.fl l=(l.map fun x=>(x.toNat:Int)).map fun z=>Value.int .u64 z
 | []=>rfl
 | x :: l=>by
  have:=MV l
  simp[Enc.fl,e64]at this ⊢
  exact this
theorem vL {P:Program} {w:World} {n:String} {g:Nat} {l:Y0} (q:yv P n g .u32=true) (h:VarReads P w n (tabData .u32 (l.map fun x=>(x.toNat:Int)))):GA [] w g e32 l:=by
 refine⟨fun j u hu=>?_,by simp⟩
 rw[xm q h]
 have:e32.fl l=(l.map fun x=>(x.toNat:Int)).map fun z=>Value.int .u32 z:=Ix l
 rw[<-this]; exact hu
theorem Jk {P:Program} {w:World} {n:String} {g:Nat} {l:List UInt64} (q:yv P n g .u64=true) (h:VarReads P w n (tabData .u64 (l.map fun x=>(x.toNat:Int)))):GA [] w g e64 l:=by
 refine⟨fun j u hu=>?_,by simp⟩
 rw[xm q h]
 have:e64.fl l=(l.map fun x=>(x.toNat:Int)).map fun z=>Value.int .u64 z:=MV l
 rw[<-this]; exact hu
def mo (h:Array Obj) (g:Nat) (cs:Array Value):Array Obj:=h.modify g fun
 | .cells _ t frozen=>.cells cs t frozen
 | o=>o
theorem GU {α:Type} {k:Nat}:∀{cls:List (List α)} {cs:List α},cs.length=cls.length*k->(∀i c,cls[i]? = some c->(cs.drop (i*k)).take k=c)->cs=cls.flatten
 | [],cs,hl,_=>by simp at hl; simp[hl]
 | c :: r,cs,hl,h=>by
  have j:=h 0 c rfl
  rw[fN,fj]at j
  have q:cs.drop k=r.flatten:=by
   refine GU (k:=k) ?_ fun i d hd=>?_
   ·rw[bU,hl,cg,aW]; omega
   ·have:=h (i+1) d hd
    rw[aW,cL,ch,<-f6]at this
    exact this
  rw[List.flatten_cons,<-j,<-q,cD]
theorem rL {H:Type} {enc:TypeId×Value->H} {P:Program} {w:World} {base:Nat} {G:Nat->Bool} {q:Bool} {j:Nat} {t e:TypeId} {n k:Nat} {cs:List Value} {ds:List (DataW H)} {cls:List (List Value)} {p:List MemPlace}
  (O:P.underlying t=some (.array n e)) (R:P.cellsOf e=k) (I:P.cellsOf t=n*k) (y:cls.length=ds.length)
  (J:∀(i:Nat) (d:DataW H) (c:List Value),ds[i]? = some d->cls[i]? = some c->∀j cs p,DataW.trod enc P w base G q j e cs=some (d,p)->cs=c) (h:DataW.trod enc P w base G q j t cs=some (.agg ds,p)):cs=cls.flatten:=by
 cases j with
 | zero=>simp[DataW.trod]at h
 | succ j=>
  simp only[DataW.trod,O,R,I]at h
  split at h
  ·rename_i hl
   obtain⟨xs,hm,hx⟩:=Option.map_eq_some_iff.1 h
   have A:xs.map (·.1)=ds:=by
    have:=cv Prod.fst hx
    simpa using this
   have N:xs.length=n:=by simpa using mapM_length hm
   have B:ds.length=n:=by rw[<-A,List.length_map,N]
   refine GU (k:=k) (by rw[hl,y,B]) fun i c hc=>?_
   have hi:i<n:=by rw[<-B,<-y]; exact (aD.1 hc).1
   obtain⟨b,U,hf⟩:=mapM_at hm i i (by simp[hi])
   have hd:ds[i]? = some b.1:=by rw[<-A,d6,U]; rfl
   exact J i b.1 c hd hc _ _ _ hf
  ·cases h
def mM {H:Type} (ls:List Y3):DataW H:=.agg (ls.map fun l=>.lit (.string l))
def qF {H:Type} (k:IntKind) (rs:List (List Int)):DataW H:=.agg (rs.map (tabData k))
def Gl (P:Program) (n:String) (g:Nat):Bool:=match P.globalNamed n,(P.globals[g]?).map (·.type) with
 | some g',some t=>match P.underlying t with
  | some (.array m e)=>(match P.underlying e with
   | some .string=>decide (P.cellsOf e=1)&&decide (P.cellsOf t=m*1)&&decide (g'=g)
   | _=>false)
  | _=>false
 | _,_=>false
def Fl (P:Program) (n:String) (g:Nat) (k:IntKind) (j:Nat):Bool:=match P.globalNamed n,(P.globals[g]?).map (·.type) with
 | some g',some t=>match P.underlying t with
  | some (.array m e)=>(match P.underlying e with
   | some (.array j' e')=>(match P.underlying e' with
    | some (.int k')=>decide (k'=k)&&decide (P.cellsOf e'=1)&&decide (P.cellsOf e=j)&&decide (j'=j)&&decide (P.cellsOf t=m*j)&&decide (g'=g)
    | _=>false)
   | _=>false)
  | _=>false
 | _,_=>false
theorem gaS {P:Program} {w:World} {n:String} {g:Nat} {l:List Y3} (q:Gl P n g=true) (h:VarReads P w n (mM l)):GA [] w g eS l:=by
 obtain⟨V,t,cs,y,p,B,G,A,hd⟩:=h
 unfold Gl at q
 rw[B]at q
 split at q
 ·rename_i X Y J N
  cases J
  split at q
  ·rename_i m e hu
   split at q
   ·rename_i O
    simp only[aK,ar]at q
    obtain⟨⟨R,U⟩,rfl⟩:=q
    obtain rfl:=eQ (N.symm.trans G)
    have I:=rL (cls:=l.map fun x=>[vS x]) hu R U (by simp) (fun i d c hd hc y cs p hf=>by
     rw[d6]at hd hc
     cases hq:l[i]? with
     | none=>rw[hq]at hd; cases hd
     | some x=>
      rw[hq]at hd hc
      cases hd; cases hc
      obtain⟨s,hc,hx,_⟩:=DataW.trod_string O hf
      have:x=s.data.toList:=by
       have:=cv Prod.fst hx
       simpa using this
      rw[hc,this]) hd
    refine⟨fun j u hu=>?_,by simp⟩
    rw[World.var?_cell B A j,<-gv,I,<-hu]
    simp[Enc.fl,eS,List.flatMap]
   ·cases q
  ·cases q
 ·cases q
theorem Ol {P:Program} {w:World} {n:String} {g j:Nat} {rs:List Y0} {l:Y0} (hl:rs.flatten=l) (q:Fl P n g .u32 j=true) (h:VarReads P w n (qF .u32 (rs.map fun r=>r.map fun x=>(x.toNat:Int)))):GA [] w g e32 l:=by
 obtain⟨Y,t,cs,B,p,G,I,y,hd⟩:=h
 unfold Fl at q
 rw[G]at q
 split at q
 ·rename_i Z t2 O R
  cases O
  split at q
  ·rename_i m e hu
   split at q
   ·rename_i j' e' J
    split at q
    ·rename_i k' U
     simp only[aK,ar]at q
     obtain⟨⟨⟨⟨⟨rfl,V⟩,N⟩,rfl⟩,X⟩,rfl⟩:=q
     obtain rfl:=eQ (R.symm.trans I)
     have A:=rL (cls:=rs.map fun r=>e32.fl r) hu N X (by simp) (fun i d c hd hc B cs p hf=>by
      rw[List.map_map,d6]at hd
      rw[d6]at hc
      cases hq:rs[i]? with
      | none=>rw[hq]at hd; cases hd
      | some r=>
       rw[hq]at hd hc
       cases hd; cases hc
       show cs=e32.fl r
       rw[Ix]
       exact cells_of_tab J U V N hf) hd
     refine⟨fun j u hu=>?_,by simp⟩
     rw[World.var?_cell G y j,<-gv,A,<-hu,<-hl]
     congr 1
     clear hd A hu y hl
     induction rs with
     | nil=>rfl
     | cons r rs ih=>rw[dc,List.flatten_cons,List.flatten_cons,e32.fl_append,ih]
    ·cases q
   ·cases q
  ·cases q
 ·cases q
end Go.Gk
end
