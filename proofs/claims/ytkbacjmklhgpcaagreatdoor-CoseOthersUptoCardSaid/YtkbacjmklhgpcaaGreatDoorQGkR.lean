import Derived.Test.YtkbacjmklhgpcaaGreatDoorQGkS
import Derived.ProofKit
import Derived.OpenShut
import Derived.ShutString
import Derived.ChangeOld
import Derived.Below
import Derived.SizedLaws
import Derived.Test.YtkbacjmklhgpcaaGreatDoorQGkI
import Derived.Deep.Slices
import Derived.Lib.LaidU8
import Derived.ChangeArms
set_option linter.unusedVariables false
set_option linter.unusedSimpArgs false
set_option linter.unusedSectionVars false
section
namespace Go.Gk
open Go.ChangeShapes Go.WideShapes Go.ChangeAt Go.RowKit
open Go.ChangeMaps (open_string shut_string)
section
variable {H:Type} {enc:TypeId×Value->H} {P:Program} {W W':World}
theorem ru (hl:laidOutB P=true) (hb:Below W.heap.size W W'):∀(j:List TypeId) (vs:List Value) (ds:List (DataW H)) (A:List MemPlace),
  (j.all fun t=>P.readableRec t&&decide (t<P.types.size))=true ->
  DataW.TrodAll enc P W 0 (fun _=>true) true j vs ds A->DataW.TrodAll enc P W' 0 (fun b=>decide (b<W.heap.size)) true j vs ds A
 | [],vs,ds,A,_,h=>by
  obtain⟨rfl,rfl,rfl⟩:=trodAll_nil h
  exact trodAll_mk0
 | t :: j,vs,ds,A,ht,h=>by
  obtain⟨v,B,d,G,p,q,rfl,rfl,rfl,I,J⟩:=trodAll_cons h
  rw[List.all_cons,aO,aO]at ht
  refine trodAll_cons_mk (Below.trod hl ht.1.1 (of_decide_eq_true ht.1.2) I hb ?_) (ru hl hb j B G q ht.2 J)
  obtain⟨m,hm⟩:=I
  exact DataW.trod_lt m _ _ _ hm
theorem law_post {s:ChangeSpec} {fn:Func} {args:Array Value} {ds B:List (DataW H)} {p:List MemPlace} {G:TypeId} (U:s.vars=[]) (hg:B=[])
  (hs:s.fn H ds={ results:=[.lit (.bool true)],args:=ds,vars:=[] }) (I:fn.resultTypes=#[G]) (hb:P.underlying G=some .bool) (hl:laidOutB P=true)
  (A:(fn.params.toList.all fun t=>P.readableRec t&&decide (t<P.types.size))=true)
  (J:DataW.Whole enc P fn.params.toList s.vars false W args.toList ds B p) (j:Below W.heap.size W W') :
  s.post enc P fn false true false false W args (.bool true) W':=by
 subst hg
 have N:=J
 obtain⟨O,q,R,Z,V,X,Y⟩:=J
 have hA:DataW.TrodAll enc P W 0 (fun _=>true) true fn.params.toList args.toList ds O:=R
 refine⟨ds,[],p,[],O,[],N,?_,?_,?_,j.frame _,fun h=>by cases h⟩
 ·rw[bM,hs,I]
  exact trodAll_mk1 (shut_bool hb _)
 ·rw[bM,hs]
  exact ru hl j _ _ _ _ A hA
 ·rw[bM,hs,U]
  rfl
theorem mf {t e:TypeId} {v:Value} {x:DataW H×List MemPlace} {R:Nat} (ht:P.underlying t=some (.slice e)) (he:P.underlying e=some (.int .u8)) (hc:P.cellsOf e=1)
  (hf:DataW.trod enc P W 0 (fun _=>true) true R t [v]=some x) :
  ∃l:List UInt8,RP [] W e8 v l/\((x.1=.nil/\l=[])\/∃I O,x.1=.slice I O/\I.length=l.length):=by
 rcases open_ints ht he hc hf with⟨B,hx⟩ | ⟨x0,len,X,G,B,_,hl,hm,hz,hx,J,Y⟩
 ·simp only[f9,and_true]at B
  subst B; subst hx
  exact⟨[],(RO.nil W e8).rp,.inl ⟨rfl,rfl⟩⟩
 ·simp only[f9,and_true]at B
  subst B; subst hx
  simp only[am]at hz
  have U:∀n∈G,∃y:UInt8,n=(y.toNat:Int):=by
   intro n hn
   have:=Y n hn
   simp[Lit.wf,IntKind.min,IntKind.max,IntKind.signed,IntKind.bits]at this
   exact⟨UInt8.ofNat n.toNat,by rw[dY]; omega⟩
  have A:((G.take len).map (fun n=>UInt8.ofNat n.toNat)).length=len:=by simp; omega
  refine⟨(G.take len).map (fun n=>UInt8.ofNat n.toNat),⟨⟨some x0,X,by rw[A],by rw[A]; exact hl,fun Z=>?_⟩,by simp⟩,.inr ⟨_,_,rfl,by simp[lits]⟩⟩
  obtain⟨b,off,rfl⟩:∃b off,x0=⟨b,off,none⟩:=by
   obtain⟨b,off,k⟩:=x0
   cases k with
   | none=>exact⟨b,off,rfl⟩
   | some k=>
    have ad:0<len:=by
     rcases bO len with N | N
     ·exact absurd (bn (by rw[A,N])) Z
     ·exact N
    have N:=J 0 (by omega)
    simp[Addr.add,World.cell?]at N
    split at N <;> simp_all
  refine⟨b,off,rfl,fun j u hu=>?_⟩
  have hj:j<len:=by
   have:=(aF.1 hu).1
   rw[Enc.fl_length,A]at this
   simpa [e8] using this
  have h1:=J j (by omega)
  have V:(e8.fl ((G.take len).map (fun n=>UInt8.ofNat n.toNat)))[j*e8.sz+0]? = (e8.cells (UInt8.ofNat (G[j]'(by omega)).toNat))[0]?:=by
   refine Enc.fl_get e8 _ j _ ?_ 0 (by simp[e8])
   rw[fG,bP,ag hj,aA (by omega)]; rfl
  rw[show j*e8.sz+0=j by simp[e8],hu]at V
  simp[e8]at V
  obtain⟨y,hy⟩:=U (G[j]'(by omega)) (cM _)
  have h3:G.getD j 0=G[j]'(by omega):=by rw[an,aA (by omega)]; rfl
  rw[h3]at h1
  have h4:(⟨b,off,none⟩:Addr).add j=⟨b,off+j,none⟩:=by
   unfold Addr.add; split
   ·subst j; rfl
   ·rfl
  rw[<-h4,h1,V]
  congr 2
  rw[dY,hy]
  have:=y.toNat_lt
  simp
theorem arg_bytes {r:Reach} {b0:Nat} {t e:TypeId} {v:Value} {d:DataW H} {G:List MemPlace} (I:P.underlying t=some (.slice e)) (he:P.underlying e=some (.int .u8)) (hc:P.cellsOf e=1)
  (B:Value.okWide P W r b0 t v) (hd:DataW.Trod enc P W 0 (fun _=>true) true t v d G) :
  ∃l:List UInt8,RP [] W e8 v l/\((d=.nil/\l=[])\/∃j A,d=.slice j A/\j.length=l.length):=by
 obtain⟨a,len,N,rfl⟩:=okWide_slice I B
 obtain⟨J,hf⟩:=hd
 exact mf (x:=(d,G)) I he hc hf
theorem size_bytes {G:List TypeId} {ds:List (DataW H)} (h:(DataW.weightsEach P G ds).all (fun x=>decide (x<=reachBytes))=true) {j:Nat} {t e:TypeId} {d:DataW H} {l:List UInt8}
  (I:G[j]? = some t) (hd:ds[j]? = some d) (hu:P.underlying t=some (.slice e)) (hb:P.bytesOf e=1) (hl:(d=.nil/\l=[])\/∃A B,d=.slice A B/\A.length=l.length) :
  l.length<=140737488351232:=by
 rcases hl with⟨_,rfl⟩ | ⟨A,B,rfl,J⟩
 ·simp
 ·have:=sized_slice h I hd hu
  rw[hb]at this
  simp only[reachBytes]at this
  omega
end
end Go.Gk
end
section
namespace Go.Gk
open Go.ChangeShapes Go.WideShapes Go.ChangeAt Go.RowKit
def WD {H:Type} {τ:Type} (d:DataW H) (l:List τ):Prop:=(d=.nil/\l=[])\/∃elems spare,d=.slice elems spare/\elems.length=l.length
section
variable {H:Type} {enc:TypeId×Value->H} {P:Program} {W:World}
theorem size_part {A us:List TypeId} {ds es:List (DataW H)} {B:Array Field} (h:(DataW.weightsEach P A ds).all (fun x=>decide (x<=reachBytes))=true) {j:Nat} {t:TypeId}
  (I:A[j]? = some t) (hd:ds[j]? = some (.agg es)) (hu:P.underlying t=some (.struct B)) (G:B.toList.map (·.type)=us):(DataW.weightsEach P us es).all (fun x=>decide (x<=reachBytes))=true:=by
 refine ci.2 fun x hx=>?_
 exact ci.1 h x (DataW.weights_mem_each I hd x (by simp only[DataW.weights,hu,G]; exact hx))
end
section
variable {H:Type} {enc:TypeId×Value->H} {P:Program} {W:World}
theorem arg_key {r:Reach} {b0:Nat} {t e:TypeId} {A B G I J N O:Field} {v:Value} {d:DataW H} {ps:List MemPlace} (ht:P.underlying t=some (.struct #[A,B,G,I,J,N,O]))
  (ho:[A,B,G,I,J,N,O].map (·.offset)=[0,1,2,3,4,5,6]) (ct:P.cellsOf t=7) (hk:([A,B,G,I,J,N,O].all fun f=>Nat.beq (P.cellsOf f.type) 1)=true)
  (t0:P.underlying A.type=some (.int .i64)) (t1:P.underlying B.type=some (.int .i64)) (t2:P.underlying G.type=some (.slice e)) (t3:P.underlying I.type=some (.slice e)) (t4:P.underlying J.type=some (.slice e))
  (t5:P.underlying N.type=some (.slice e)) (t6:P.underlying O.type=some (.slice e)) (he:P.underlying e=some (.int .u8)) (hc:P.cellsOf e=1)
  (b2:Value.okWide P W r b0 t v) (hd:DataW.Trod enc P W 0 (fun _=>true) true t v d ps) :
  ∃(k c:Int) (v2 v3 v4 v5 v6:Value) (R U V X Y:L01) (dk dc Z d3 d4 d5 d6:DataW H),v=.agg #[vI k,vI c,v2,v3,v4,v5,v6]/\RP [] W e8 v2 R/\RP [] W e8 v3 U/\RP [] W e8 v4 V/\RP [] W e8 v5 X/\RP [] W e8 v6 Y /\
   d=.agg [dk,dc,Z,d3,d4,d5,d6]/\WD Z R/\WD d3 U/\WD d4 V/\WD d5 X/\WD d6 Y:=by
 obtain⟨cs,rfl,ap⟩:=okWide_struct ht b2
 obtain⟨el,hf⟩:=hd
 obtain⟨xs,k',fs,bx,fA,b8,j⟩:=DataW.trod_struct ht hf
 rw[ct]at ap
 obtain⟨l⟩:=cs
 simp only[List.all_cons,List.all_nil,Bool.and_true,aO,Nat.beq_eq]at hk
 obtain⟨c0,c1,c2,c3,c4,c5,c6⟩:=hk
 simp only[cZ,List.map_nil,f9,and_true]at ho
 obtain⟨o0,o1,o2,o3,o4,o5,o6⟩:=ho
 match l,ap,xs,b8 with
 | [w0,w1,w2,w3,w4,w5,w6],_,[y0,y1,y2,y3,y4,y5,y6],_=>
  have g0:=j 0 A rfl
  have g1:=j 1 B rfl
  have g2:=j 2 G rfl
  have g3:=j 3 I rfl
  have g4:=j 4 J rfl
  have g5:=j 5 N rfl
  have g6:=j 6 O rfl
  simp[Value.cells,o0,o1,o2,o3,o4,o5,o6,c0,c1,c2,c3,c4,c5,c6]at g0 g1 g2 g3 g4 g5 g6
  obtain⟨n0,a0,b0,_⟩:=DataW.trod_int t0 g0
  obtain⟨n1,a1,b1,_⟩:=DataW.trod_int t1 g1
  obtain⟨R,h2,Z⟩:=mf t2 he hc g2
  obtain⟨U,h3,d3⟩:=mf t3 he hc g3
  obtain⟨V,h4,d4⟩:=mf t4 he hc g4
  obtain⟨X,h5,d5⟩:=mf t5 he hc g5
  obtain⟨Y,h6,d6⟩:=mf t6 he hc g6
  simp only[f9,and_true]at a0 a1
  subst a0; subst a1
  simp only[jo]at bx
  exact⟨n0,n1,w2,w3,w4,w5,w6,R,U,V,X,Y,_,_,_,_,_,_,_,rfl,h2,h3,h4,h5,h6,by rw[bx.1]; rfl,Z,d3,d4,d5,d6⟩
end
section
variable {H:Type} {enc:TypeId×Value->H} {P:Program} {W:World}
theorem arg_texts {r:Reach} {b0:Nat} {t e:TypeId} {v:Value} {d:DataW H} {ps:List MemPlace} (U:P.underlying t=some (.slice e)) (he:P.underlying e=some .string) (ce:P.cellsOf e=1)
  (O:Value.okWide P W r b0 t v) (hd:DataW.Trod enc P W 0 (fun _=>true) true t v d ps):∃l:List L01,RP [] W eS v l/\WD d l:=by
 obtain⟨a,len,b6,rfl⟩:=okWide_slice U O
 obtain⟨al,hf⟩:=hd
 rcases Go.Deep.open_slice U hf with⟨B,hx⟩ | ⟨x,n,c,m,k,D,Pl,B,_,hl,_,hm,hx,V⟩
 ·simp[Value.cells]at B
  obtain⟨rfl,rfl,rfl⟩:=B
  simp only[jo]at hx
  exact⟨[],(RO.nil W _).rp,.inl ⟨hx.1,rfl⟩⟩
 ·simp[Value.cells]at B
  obtain⟨rfl,rfl,rfl⟩:=B
  simp only[am]at hm
  subst hm
  simp only[jo]at hx
  have R:∀i,i<m->∃q:L01,W.cell? (x.add i)=some (vS q):=by
   intro i hi
   obtain⟨X,Y,h2⟩:=V i hi
   rw[ce]at Y
   obtain⟨_,A,J⟩:=World.cells?_some Y
   match X,A with
   | [v0],_=>
    obtain⟨n2,a2,b2,w2⟩:=DataW.trod_string he h2
    simp only[f9,and_true]at a2
    subst a2
    have N:=J 0 (by omega)
    rw[Go.Deep.add_add]at N
    exact⟨n2.data.toList,by simpa using N⟩
  obtain⟨q,Z⟩:=Go.Deep.choose_lt R
  have A:((List.range len).map q).length=len:=by simp
  refine⟨(List.range len).map q,⟨⟨some x,m,by rw[A],by rw[A]; exact hl,fun ab=>?_⟩,by simp⟩,.inr ⟨_,_,hx.1,by simp⟩⟩
  have b3:0<len:=by
   rcases bO len with G | G
   ·subst G; simp at ab
   ·exact G
  obtain⟨b,off,rfl⟩:∃b off,x=⟨b,off,none⟩:=by
   obtain⟨b,off,k⟩:=x
   cases k with
   | none=>exact⟨b,off,rfl⟩
   | some k=>
    have G:=Z 0 (by omega)
    simp[Addr.add,World.cell?]at G
    split at G <;> simp_all
  refine⟨b,off,rfl,fun j u hu=>?_⟩
  have I:eS.sz=1:=rfl
  have hj:j<len:=by
   have:=(aF.1 hu).1
   rw[Enc.fl_length,A,I]at this
   omega
  have N:=Z j (by omega)
  have hg:=Enc.fl_get eS ((List.range len).map q) j (q j) (by simp[hj]) 0 (by rw[I]; omega)
  rw[I,show j*1+0=j by omega,hu]at hg
  have h4:(⟨b,off,none⟩:Addr).add j=⟨b,off+j,none⟩:=by
   unfold Addr.add; split
   ·subst j; rfl
   ·rfl
  rw[<-h4,N,hg]
  rfl
theorem size_texts {A:List TypeId} {ds:List (DataW H)} (h:(DataW.weightsEach P A ds).all (fun x=>decide (x<=reachBytes))=true) {j:Nat} {t e:TypeId} {d:DataW H} {l:List L01}
  (I:A[j]? = some t) (hd:ds[j]? = some d) (hu:P.underlying t=some (.slice e)) (hb:P.bytesOf e=16) (hl:WD d l):l.length<9223372036854775807:=by
 rcases hl with⟨_,rfl⟩ | ⟨B,G,rfl,J⟩
 ·simp
 ·have:=sized_slice h I hd hu
  rw[hb]at this
  simp only[reachBytes]at this
  omega
end
end Go.Gk
end
section
namespace Go.Gk
open Go Go.RowKit Go.Lib Go.Proofs
def zE (P:Program) (n:String) (g:Nat) (k:IntKind):Bool:=match P.globalNamed n,(P.globals[g]?).map (·.type) with
 | some g',some t=>match P.underlying t with
  | some (.array m e)=>(match P.underlying e with
   | some (.int k')=>decide (k'=k)&&decide (P.cellsOf e=1)&&decide (P.cellsOf t=m)&&decide (g'=g)
   | _=>false)
  | _=>false
 | _,_=>false
theorem ye {P:Program} {w:World} {n:String} {g:Nat} {k:IntKind} {G:List Int} (A:zE P n g k=true) (h:VarReads P w n (tabData k G)) (j:Nat):w.cell? ⟨g,j,none⟩=(G.map fun z=>Value.int k z)[j]?:=by
 obtain⟨Y,t,cs,N,p,hg,I,B,hd⟩:=h
 unfold zE at A
 rw[hg]at A
 split at A
 ·rename_i Z t2 O R
  cases O
  split at A
  ·rename_i m e hu
   split at A
   ·rename_i k' U
    simp only[aO,ak]at A
    obtain⟨⟨⟨rfl,V⟩,X⟩,rfl⟩:=A
    obtain rfl:=dW (R.symm.trans I)
    have J:=cells_of_tab hu U V X hd
    rw[World.var?_cell hg B j,<-gH,J]
   ·cases A
  ·cases A
 ·cases A
theorem J7:∀l:L00,e32.fl l=(l.map fun x=>(x.toNat:Int)).map fun z=>Value.int .u32 z
 | []=>rfl
 | x :: l=>by
  have:=J7 l
  simp[Enc.fl,e32]at this ⊢
  exact this
theorem Pg:∀l:List UInt64,e64.fl l=(l.map fun x=>(x.toNat:Int)).map fun z=>Value.int .u64 z
 | []=>rfl
 | x :: l=>by
  have:=Pg l
  simp[Enc.fl,e64]at this ⊢
  exact this
theorem wJ {P:Program} {w:World} {n:String} {g:Nat} {l:L00} (A:zE P n g .u32=true) (h:VarReads P w n (tabData .u32 (l.map fun x=>(x.toNat:Int)))):GA [] w g e32 l:=by
 refine⟨fun j u hu=>?_,by simp⟩
 rw[ye A h]
 have:e32.fl l=(l.map fun x=>(x.toNat:Int)).map fun z=>Value.int .u32 z:=J7 l
 rw[<-this]; exact hu
theorem K1 {P:Program} {w:World} {n:String} {g:Nat} {l:List UInt64} (A:zE P n g .u64=true) (h:VarReads P w n (tabData .u64 (l.map fun x=>(x.toNat:Int)))):GA [] w g e64 l:=by
 refine⟨fun j u hu=>?_,by simp⟩
 rw[ye A h]
 have:e64.fl l=(l.map fun x=>(x.toNat:Int)).map fun z=>Value.int .u64 z:=Pg l
 rw[<-this]; exact hu
def mZ (h:Array Obj) (g:Nat) (cs:Array Value):Array Obj:=h.modify g fun
 | .cells _ t frozen=>.cells cs t frozen
 | o=>o
theorem Ij {α:Type} {k:Nat}:∀{cls:List (List α)} {cs:List α},cs.length=cls.length*k->(∀i c,cls[i]? = some c->(cs.drop (i*k)).take k=c)->cs=cls.flatten
 | [],cs,hl,_=>by simp at hl; simp[hl]
 | c :: r,cs,hl,h=>by
  have j:=h 0 c rfl
  rw[fv,dP]at j
  have A:cs.drop k=r.flatten:=by
   refine Ij (k:=k) ?_ fun i d hd=>?_
   ·rw[bZ,hl,ca,aW]; omega
   ·have:=h (i+1) d hd
    rw[aW,cy,cw,<-gk]at this
    exact this
  rw[List.flatten_cons,<-j,<-A,cD]
theorem ss {H:Type} {enc:TypeId×Value->H} {P:Program} {w:World} {base:Nat} {J:Nat->Bool} {A:Bool} {j:Nat} {t e:TypeId} {n k:Nat} {cs:List Value} {ds:List (DataW H)} {cls:List (List Value)} {p:List MemPlace}
  (U:P.underlying t=some (.array n e)) (V:P.cellsOf e=k) (N:P.cellsOf t=n*k) (B:cls.length=ds.length)
  (O:∀(i:Nat) (d:DataW H) (c:List Value),ds[i]? = some d->cls[i]? = some c->∀j cs p,DataW.trod enc P w base J A j e cs=some (d,p)->cs=c) (h:DataW.trod enc P w base J A j t cs=some (.agg ds,p)):cs=cls.flatten:=by
 cases j with
 | zero=>simp[DataW.trod]at h
 | succ j=>
  simp only[DataW.trod,U,V,N]at h
  split at h
  ·rename_i hl
   obtain⟨xs,hm,hx⟩:=Option.map_eq_some_iff.1 h
   have G:xs.map (·.1)=ds:=by
    have:=da Prod.fst hx
    simpa using this
   have R:xs.length=n:=by simpa using mapM_length hm
   have I:ds.length=n:=by rw[<-G,List.length_map,R]
   refine Ij (k:=k) (by rw[hl,B,I]) fun i c hc=>?_
   have hi:i<n:=by rw[<-I,<-B]; exact (aF.1 hc).1
   obtain⟨b,hb,hf⟩:=mapM_at hm i i (by simp[hi])
   have hd:ds[i]? = some b.1:=by rw[<-G,fG,hb]; rfl
   exact O i b.1 c hd hc _ _ _ hf
  ·cases h
def nB {H:Type} (ls:List L01):DataW H:=.agg (ls.map fun l=>.lit (.string l))
def q8 {H:Type} (k:IntKind) (rs:List (List Int)):DataW H:=.agg (rs.map (tabData k))
def HM (P:Program) (n:String) (g:Nat):Bool:=match P.globalNamed n,(P.globals[g]?).map (·.type) with
 | some g',some t=>match P.underlying t with
  | some (.array m e)=>(match P.underlying e with
   | some .string=>decide (P.cellsOf e=1)&&decide (P.cellsOf t=m*1)&&decide (g'=g)
   | _=>false)
  | _=>false
 | _,_=>false
def GO (P:Program) (n:String) (g:Nat) (k:IntKind) (j:Nat):Bool:=match P.globalNamed n,(P.globals[g]?).map (·.type) with
 | some g',some t=>match P.underlying t with
  | some (.array m e)=>(match P.underlying e with
   | some (.array j' e')=>(match P.underlying e' with
    | some (.int k')=>decide (k'=k)&&decide (P.cellsOf e'=1)&&decide (P.cellsOf e=j)&&decide (j'=j)&&decide (P.cellsOf t=m*j)&&decide (g'=g)
    | _=>false)
   | _=>false)
  | _=>false
 | _,_=>false
theorem gaS {P:Program} {w:World} {n:String} {g:Nat} {l:List L01} (A:HM P n g=true) (h:VarReads P w n (nB l)):GA [] w g eS l:=by
 obtain⟨X,t,cs,B,p,hg,I,G,hd⟩:=h
 unfold HM at A
 rw[hg]at A
 split at A
 ·rename_i Y Z N O
  cases N
  split at A
  ·rename_i m e hu
   split at A
   ·rename_i R
    simp only[aO,ak]at A
    obtain⟨⟨U,V⟩,rfl⟩:=A
    obtain rfl:=dW (O.symm.trans I)
    have J:=ss (cls:=l.map fun x=>[vS x]) hu U V (by simp) (fun i d c hd hc B cs p hf=>by
     rw[fG]at hd hc
     cases hq:l[i]? with
     | none=>rw[hq]at hd; cases hd
     | some x=>
      rw[hq]at hd hc
      cases hd; cases hc
      obtain⟨s,hc,hx,_⟩:=DataW.trod_string R hf
      have:x=s.data.toList:=by
       have:=da Prod.fst hx
       simpa using this
      rw[hc,this]) hd
    refine⟨fun j u hu=>?_,by simp⟩
    rw[World.var?_cell hg G j,<-gH,J,<-hu]
    simp[Enc.fl,eS,List.flatMap]
   ·cases A
  ·cases A
 ·cases A
theorem Qz {P:Program} {w:World} {n:String} {g j:Nat} {rs:List L00} {l:L00} (hl:rs.flatten=l) (A:GO P n g .u32 j=true) (h:VarReads P w n (q8 .u32 (rs.map fun r=>r.map fun x=>(x.toNat:Int)))):GA [] w g e32 l:=by
 obtain⟨Z,t,cs,I,p,hg,J,B,hd⟩:=h
 unfold GO at A
 rw[hg]at A
 split at A
 ·rename_i g2 t2 R U
  cases R
  split at A
  ·rename_i m e hu
   split at A
   ·rename_i j' e' N
    split at A
    ·rename_i k' V
     simp only[aO,ak]at A
     obtain⟨⟨⟨⟨⟨rfl,X⟩,O⟩,rfl⟩,Y⟩,rfl⟩:=A
     obtain rfl:=dW (U.symm.trans J)
     have G:=ss (cls:=rs.map fun r=>e32.fl r) hu O Y (by simp) (fun i d c hd hc I cs p hf=>by
      rw[List.map_map,fG]at hd
      rw[fG]at hc
      cases hq:rs[i]? with
      | none=>rw[hq]at hd; cases hd
      | some r=>
       rw[hq]at hd hc
       cases hd; cases hc
       show cs=e32.fl r
       rw[J7]
       exact cells_of_tab N V X O hf) hd
     refine⟨fun j u hu=>?_,by simp⟩
     rw[World.var?_cell hg B j,<-gH,G,<-hu,<-hl]
     congr 1
     clear hd G hu B hl
     induction rs with
     | nil=>rfl
     | cons r rs ih=>rw[cZ,List.flatten_cons,List.flatten_cons,e32.fl_append,ih]
    ·cases A
   ·cases A
  ·cases A
 ·cases A
end Go.Gk
end
