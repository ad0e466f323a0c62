import Derived.Test.YtkbacjmklhgpcaaGreatDoorGkS
import Derived.ProofKit
import Derived.OpenShut
import Derived.ShutString
import Derived.ChangeOld
import Derived.Below
import Derived.SizedLaws
import Derived.Test.YtkbacjmklhgpcaaGreatDoorGkI
import Derived.Deep.Slices
import Derived.Lib.LaidU8
import Derived.ChangeArms
set_option linter.unusedVariables false
set_option linter.unusedSimpArgs false
set_option linter.unusedSectionVars false
section
namespace Go.Gk
open Go.ChangeShapes Go.WideShapes Go.ChangeAt Go.RowKit
open Go.ChangeMaps (open_string shut_string)
section
variable {H:Type} {enc:TypeId×Value->H} {P:Program} {W W':World}
theorem rC (hl:laidOutB P=true) (hb:Below W.heap.size W W'):∀(j:List TypeId) (vs:List Value) (ds:List (DataW H)) (k:List MemPlace),
  (j.all fun t=>P.readableRec t&&decide (t<P.types.size))=true ->
  DataW.TrodAll enc P W 0 (fun _=>true) true j vs ds k->DataW.TrodAll enc P W' 0 (fun b=>decide (b<W.heap.size)) true j vs ds k
 | [],vs,ds,k,_,h=>by
  obtain⟨rfl,rfl,rfl⟩:=trodAll_nil h
  exact trodAll_mk0
 | t :: j,vs,ds,k,ht,h=>by
  obtain⟨v,y,d,z,p,q,rfl,rfl,rfl,A,B⟩:=trodAll_cons h
  rw[List.all_cons,aK,aK]at ht
  refine trodAll_cons_mk (Below.trod hl ht.1.1 (of_decide_eq_true ht.1.2) A hb ?_) (rC hl hb j y z q ht.2 B)
  obtain⟨m,G⟩:=A
  exact DataW.trod_lt m _ _ _ G
theorem law_post {s:ChangeSpec} {fn:Func} {args:Array Value} {ds y:List (DataW H)} {p:List MemPlace} {z:TypeId} (N:s.vars=[]) (hg:y=[])
  (hs:s.fn H ds={ results:=[.lit (.bool true)],args:=ds,vars:=[] }) (A:fn.resultTypes=#[z]) (hb:P.underlying z=some .bool) (hl:laidOutB P=true)
  (k:(fn.params.toList.all fun t=>P.readableRec t&&decide (t<P.types.size))=true)
  (B:DataW.Whole enc P fn.params.toList s.vars false W args.toList ds y p) (j:Below W.heap.size W W') :
  s.post enc P fn false true false false W args (.bool true) W':=by
 subst hg
 have G:=B
 obtain⟨I,q,J,V,O,R,U⟩:=B
 have hA:DataW.TrodAll enc P W 0 (fun _=>true) true fn.params.toList args.toList ds I:=J
 refine⟨ds,[],p,[],I,[],G,?_,?_,?_,j.frame _,fun h=>by cases h⟩
 ·rw[bP,hs,A]
  exact trodAll_mk1 (shut_bool hb _)
 ·rw[bP,hs]
  exact rC hl j _ _ _ _ k hA
 ·rw[bP,hs,N]
  rfl
theorem mg {t e:TypeId} {v:Value} {x:DataW H×List MemPlace} {O:Nat} (ht:P.underlying t=some (.slice e)) (he:P.underlying e=some (.int .u8)) (hc:P.cellsOf e=1)
  (hf:DataW.trod enc P W 0 (fun _=>true) true O t [v]=some x) :
  ∃l:List UInt8,RP [] W e8 v l/\((x.1=.nil/\l=[])\/∃G N,x.1=.slice G N/\G.length=l.length):=by
 rcases open_ints ht he hc hf with⟨A,hx⟩ | ⟨x0,len,V,B,A,_,hl,hm,hz,hx,I,X⟩
 ·simp only[eQ,and_true]at A
  subst A; subst hx
  exact⟨[],(RO.nil W e8).rp,.inl ⟨rfl,rfl⟩⟩
 ·simp only[eQ,and_true]at A
  subst A; subst hx
  simp only[al]at hz
  have R:∀n∈B,∃y:UInt8,n=(y.toNat:Int):=by
   intro n hn
   have:=X n hn
   simp[Lit.wf,IntKind.min,IntKind.max,IntKind.signed,IntKind.bits]at this
   exact⟨UInt8.ofNat n.toNat,by rw[dZ]; omega⟩
  have z:((B.take len).map (fun n=>UInt8.ofNat n.toNat)).length=len:=by simp; omega
  refine⟨(B.take len).map (fun n=>UInt8.ofNat n.toNat),⟨⟨some x0,V,by rw[z],by rw[z]; exact hl,fun Y=>?_⟩,by simp⟩,.inr ⟨_,_,rfl,by simp[lits]⟩⟩
  obtain⟨b,off,rfl⟩:∃b off,x0=⟨b,off,none⟩:=by
   obtain⟨b,off,k⟩:=x0
   cases k with
   | none=>exact⟨b,off,rfl⟩
   | some k=>
    have ad:0<len:=by
     rcases bQ len with J | J
     ·exact absurd (bp (by rw[z,J])) Y
     ·exact J
    have J:=I 0 (by omega)
    simp[Addr.add,World.cell?]at J
    split at J <;> simp_all
  refine⟨b,off,rfl,fun j u hu=>?_⟩
  have hj:j<len:=by
   have:=(aP.1 hu).1
   rw[Enc.fl_length,z]at this
   simpa [e8] using this
  have Z:=I j (by omega)
  have U:(e8.fl ((B.take len).map (fun n=>UInt8.ofNat n.toNat)))[j*e8.sz+0]? = (e8.cells (UInt8.ofNat (B[j]'(by omega)).toNat))[0]?:=by
   refine Enc.fl_get e8 _ j _ ?_ 0 (by simp[e8])
   rw[fF,bR,ag hj,av (by omega)]; rfl
  rw[show j*e8.sz+0=j by simp[e8],hu]at U
  simp[e8]at U
  obtain⟨y,hy⟩:=R (B[j]'(by omega)) (cV _)
  have h3:B.getD j 0=B[j]'(by omega):=by rw[an,av (by omega)]; rfl
  rw[h3]at Z
  have h4:(⟨b,off,none⟩:Addr).add j=⟨b,off+j,none⟩:=by
   unfold Addr.add; split
   ·subst j; rfl
   ·rfl
  rw[<-h4,Z,U]
  congr 2
  rw[dZ,hy]
  have:=y.toNat_lt
  simp
theorem arg_bytes {r:Reach} {b0:Nat} {t e:TypeId} {v:Value} {d:DataW H} {z:List MemPlace} (A:P.underlying t=some (.slice e)) (B:P.underlying e=some (.int .u8)) (hc:P.cellsOf e=1)
  (y:Value.okWide P W r b0 t v) (hd:DataW.Trod enc P W 0 (fun _=>true) true t v d z) :
  ∃l:List UInt8,RP [] W e8 v l/\((d=.nil/\l=[])\/∃j k,d=.slice j k/\j.length=l.length):=by
 obtain⟨a,len,I,rfl⟩:=okWide_slice A y
 obtain⟨G,hf⟩:=hd
 exact mg (x:=(d,z)) A B hc hf
theorem size_bytes {z:List TypeId} {ds:List (DataW H)} (h:(DataW.weightsEach P z ds).all (fun x=>decide (x<=reachBytes))=true) {j:Nat} {t e:TypeId} {d:DataW H} {l:List UInt8}
  (A:z[j]? = some t) (hd:ds[j]? = some d) (hu:P.underlying t=some (.slice e)) (hb:P.bytesOf e=1) (hl:(d=.nil/\l=[])\/∃k y,d=.slice k y/\k.length=l.length) :
  l.length<=140737488351232:=by
 rcases hl with⟨_,rfl⟩ | ⟨k,y,rfl,B⟩
 ·simp
 ·have:=sized_slice h A hd hu
  rw[hb]at this
  simp only[reachBytes]at this
  omega
end
end Go.Gk
end
section
namespace Go.Gk
open Go.ChangeShapes Go.WideShapes Go.ChangeAt Go.RowKit
def WD {H:Type} {τ:Type} (d:DataW H) (l:List τ):Prop:=(d=.nil/\l=[])\/∃elems spare,d=.slice elems spare/\elems.length=l.length
section
variable {H:Type} {enc:TypeId×Value->H} {P:Program} {W:World}
theorem size_part {k us:List TypeId} {ds es:List (DataW H)} {y:Array Field} (h:(DataW.weightsEach P k ds).all (fun x=>decide (x<=reachBytes))=true) {j:Nat} {t:TypeId}
  (A:k[j]? = some t) (hd:ds[j]? = some (.agg es)) (hu:P.underlying t=some (.struct y)) (z:y.toList.map (·.type)=us):(DataW.weightsEach P us es).all (fun x=>decide (x<=reachBytes))=true:=by
 refine ci.2 fun x hx=>?_
 exact ci.1 h x (DataW.weights_mem_each A hd x (by simp only[DataW.weights,hu,z]; exact hx))
end
section
variable {H:Type} {enc:TypeId×Value->H} {P:Program} {W:World}
theorem arg_key {r:Reach} {b0:Nat} {t e:TypeId} {y z A B G I J:Field} {v:Value} {d:DataW H} {ps:List MemPlace} (ht:P.underlying t=some (.struct #[y,z,A,B,G,I,J]))
  (ho:[y,z,A,B,G,I,J].map (·.offset)=[0,1,2,3,4,5,6]) (ct:P.cellsOf t=7) (hk:([y,z,A,B,G,I,J].all fun f=>Nat.beq (P.cellsOf f.type) 1)=true)
  (t0:P.underlying y.type=some (.int .i64)) (t1:P.underlying z.type=some (.int .i64)) (t2:P.underlying A.type=some (.slice e)) (t3:P.underlying B.type=some (.slice e)) (t4:P.underlying G.type=some (.slice e))
  (t5:P.underlying I.type=some (.slice e)) (t6:P.underlying J.type=some (.slice e)) (N:P.underlying e=some (.int .u8)) (hc:P.cellsOf e=1)
  (b2:Value.okWide P W r b0 t v) (hd:DataW.Trod enc P W 0 (fun _=>true) true t v d ps) :
  ∃(k c:Int) (v2 v3 v4 v5 v6:Value) (O R U V X:L01) (dk dc Y Z d4 d5 d6:DataW H),v=.agg #[vI k,vI c,v2,v3,v4,v5,v6]/\RP [] W e8 v2 O/\RP [] W e8 v3 R/\RP [] W e8 v4 U/\RP [] W e8 v5 V/\RP [] W e8 v6 X /\
   d=.agg [dk,dc,Y,Z,d4,d5,d6]/\WD Y O/\WD Z R/\WD d4 U/\WD d5 V/\WD d6 X:=by
 obtain⟨cs,rfl,ap⟩:=okWide_struct ht b2
 obtain⟨ek,hf⟩:=hd
 obtain⟨xs,k',fs,bx,fA,b8,j⟩:=DataW.trod_struct ht hf
 rw[ct]at ap
 obtain⟨l⟩:=cs
 simp only[List.all_cons,List.all_nil,Bool.and_true,aK,Nat.beq_eq]at hk
 obtain⟨c0,c1,c2,c3,c4,c5,c6⟩:=hk
 simp only[db,List.map_nil,eQ,and_true]at ho
 obtain⟨o0,o1,o2,o3,o4,o5,o6⟩:=ho
 match l,ap,xs,b8 with
 | [w0,w1,w2,w3,w4,w5,w6],_,[y0,y1,y2,y3,y4,y5,y6],_=>
  have g0:=j 0 y rfl
  have g1:=j 1 z rfl
  have g2:=j 2 A rfl
  have g3:=j 3 B rfl
  have g4:=j 4 G rfl
  have g5:=j 5 I rfl
  have g6:=j 6 J rfl
  simp[Value.cells,o0,o1,o2,o3,o4,o5,o6,c0,c1,c2,c3,c4,c5,c6]at g0 g1 g2 g3 g4 g5 g6
  obtain⟨n0,a0,b0,_⟩:=DataW.trod_int t0 g0
  obtain⟨n1,a1,b1,_⟩:=DataW.trod_int t1 g1
  obtain⟨O,h2,Y⟩:=mg t2 N hc g2
  obtain⟨R,h3,Z⟩:=mg t3 N hc g3
  obtain⟨U,h4,d4⟩:=mg t4 N hc g4
  obtain⟨V,h5,d5⟩:=mg t5 N hc g5
  obtain⟨X,h6,d6⟩:=mg t6 N hc g6
  simp only[eQ,and_true]at a0 a1
  subst a0; subst a1
  simp only[iu]at bx
  exact⟨n0,n1,w2,w3,w4,w5,w6,O,R,U,V,X,_,_,_,_,_,_,_,rfl,h2,h3,h4,h5,h6,by rw[bx.1]; rfl,Y,Z,d4,d5,d6⟩
end
section
variable {H:Type} {enc:TypeId×Value->H} {P:Program} {W:World}
theorem arg_texts {r:Reach} {b0:Nat} {t e:TypeId} {v:Value} {d:DataW H} {ps:List MemPlace} (O:P.underlying t=some (.slice e)) (he:P.underlying e=some .string) (ce:P.cellsOf e=1)
  (J:Value.okWide P W r b0 t v) (hd:DataW.Trod enc P W 0 (fun _=>true) true t v d ps):∃l:List L01,RP [] W eS v l/\WD d l:=by
 obtain⟨a,len,b7,rfl⟩:=okWide_slice O J
 obtain⟨ap,hf⟩:=hd
 rcases Go.Deep.open_slice O hf with⟨z,hx⟩ | ⟨x,n,c,m,k,D,Pl,z,_,hl,_,R,hx,U⟩
 ·simp[Value.cells]at z
  obtain⟨rfl,rfl,rfl⟩:=z
  simp only[iu]at hx
  exact⟨[],(RO.nil W _).rp,.inl ⟨hx.1,rfl⟩⟩
 ·simp[Value.cells]at z
  obtain⟨rfl,rfl,rfl⟩:=z
  simp only[al]at R
  subst R
  simp only[iu]at hx
  have N:∀i,i<m->∃q:L01,W.cell? (x.add i)=some (vS q):=by
   intro i hi
   obtain⟨V,X,h2⟩:=U i hi
   rw[ce]at X
   obtain⟨_,y,G⟩:=World.cells?_some X
   match V,y with
   | [v0],_=>
    obtain⟨n2,a2,b2,w2⟩:=DataW.trod_string he h2
    simp only[eQ,and_true]at a2
    subst a2
    have I:=G 0 (by omega)
    rw[Go.Deep.add_add]at I
    exact⟨n2.data.toList,by simpa using I⟩
  obtain⟨q,Y⟩:=Go.Deep.choose_lt N
  have y:((List.range len).map q).length=len:=by simp
  refine⟨(List.range len).map q,⟨⟨some x,m,by rw[y],by rw[y]; exact hl,fun Z=>?_⟩,by simp⟩,.inr ⟨_,_,hx.1,by simp⟩⟩
  have b4:0<len:=by
   rcases bQ len with A | A
   ·subst A; simp at Z
   ·exact A
  obtain⟨b,off,rfl⟩:∃b off,x=⟨b,off,none⟩:=by
   obtain⟨b,off,k⟩:=x
   cases k with
   | none=>exact⟨b,off,rfl⟩
   | some k=>
    have A:=Y 0 (by omega)
    simp[Addr.add,World.cell?]at A
    split at A <;> simp_all
  refine⟨b,off,rfl,fun j u hu=>?_⟩
  have B:eS.sz=1:=rfl
  have hj:j<len:=by
   have:=(aP.1 hu).1
   rw[Enc.fl_length,y,B]at this
   omega
  have I:=Y j (by omega)
  have hg:=Enc.fl_get eS ((List.range len).map q) j (q j) (by simp[hj]) 0 (by rw[B]; omega)
  rw[B,show j*1+0=j by omega,hu]at hg
  have h4:(⟨b,off,none⟩:Addr).add j=⟨b,off+j,none⟩:=by
   unfold Addr.add; split
   ·subst j; rfl
   ·rfl
  rw[<-h4,I,hg]
  rfl
theorem size_texts {k:List TypeId} {ds:List (DataW H)} (h:(DataW.weightsEach P k ds).all (fun x=>decide (x<=reachBytes))=true) {j:Nat} {t e:TypeId} {d:DataW H} {l:List L01}
  (A:k[j]? = some t) (hd:ds[j]? = some d) (hu:P.underlying t=some (.slice e)) (hb:P.bytesOf e=16) (hl:WD d l):l.length<9223372036854775807:=by
 rcases hl with⟨_,rfl⟩ | ⟨y,z,rfl,B⟩
 ·simp
 ·have:=sized_slice h A hd hu
  rw[hb]at this
  simp only[reachBytes]at this
  omega
end
end Go.Gk
end
section
namespace Go.Gk
open Go Go.RowKit Go.Lib Go.Proofs
def zK (P:Program) (n:String) (g:Nat) (k:IntKind):Bool:=match P.globalNamed n,(P.globals[g]?).map (·.type) with
 | some g',some t=>match P.underlying t with
  | some (.array m e)=>(match P.underlying e with
   | some (.int k')=>decide (k'=k)&&decide (P.cellsOf e=1)&&decide (P.cellsOf t=m)&&decide (g'=g)
   | _=>false)
  | _=>false
 | _,_=>false
theorem yl {P:Program} {w:World} {n:String} {g:Nat} {k:IntKind} {B:List Int} (y:zK P n g k=true) (h:VarReads P w n (tabData k B)) (j:Nat):w.cell? ⟨g,j,none⟩=(B.map fun z=>Value.int k z)[j]?:=by
 obtain⟨X,t,cs,J,p,hg,G,A,hd⟩:=h
 unfold zK at y
 rw[hg]at y
 split at y
 ·rename_i Y Z N O
  cases N
  split at y
  ·rename_i m e hu
   split at y
   ·rename_i k' R
    simp only[aK,ak]at y
    obtain⟨⟨⟨rfl,U⟩,V⟩,rfl⟩:=y
    obtain rfl:=et (O.symm.trans G)
    have I:=cells_of_tab hu R U V hd
    rw[World.var?_cell hg A j,<-gO,I]
   ·cases y
  ·cases y
 ·cases y
theorem Kc:∀l:L00,e32.fl l=(l.map fun x=>(x.toNat:Int)).map fun z=>Value.int .u32 z
 | []=>rfl
 | x :: l=>by
  have:=Kc l
  simp[Enc.fl,e32]at this ⊢
  exact this
theorem Ph:∀l:List UInt64,e64.fl l=(l.map fun x=>(x.toNat:Int)).map fun z=>Value.int .u64 z
 | []=>rfl
 | x :: l=>by
  have:=Ph l
  simp[Enc.fl,e64]at this ⊢
  exact this
theorem wQ {P:Program} {w:World} {n:String} {g:Nat} {l:L00} (k:zK P n g .u32=true) (h:VarReads P w n (tabData .u32 (l.map fun x=>(x.toNat:Int)))):GA [] w g e32 l:=by
 refine⟨fun j u hu=>?_,by simp⟩
 rw[yl k h]
 have:e32.fl l=(l.map fun x=>(x.toNat:Int)).map fun z=>Value.int .u32 z:=Kc l
 rw[<-this]; exact hu
theorem K4 {P:Program} {w:World} {n:String} {g:Nat} {l:List UInt64} (k:zK P n g .u64=true) (h:VarReads P w n (tabData .u64 (l.map fun x=>(x.toNat:Int)))):GA [] w g e64 l:=by
 refine⟨fun j u hu=>?_,by simp⟩
 rw[yl k h]
 have:e64.fl l=(l.map fun x=>(x.toNat:Int)).map fun z=>Value.int .u64 z:=Ph l
 rw[<-this]; exact hu
def nh (h:Array Obj) (g:Nat) (cs:Array Value):Array Obj:=h.modify g fun
 | .cells _ t frozen=>.cells cs t frozen
 | o=>o
theorem Ih {α:Type} {k:Nat}:∀{cls:List (List α)} {cs:List α},cs.length=cls.length*k->(∀i c,cls[i]? = some c->(cs.drop (i*k)).take k=c)->cs=cls.flatten
 | [],cs,hl,_=>by simp at hl; simp[hl]
 | c :: r,cs,hl,h=>by
  have j:=h 0 c rfl
  rw[fu,dQ]at j
  have y:cs.drop k=r.flatten:=by
   refine Ih (k:=k) ?_ fun i d hd=>?_
   ·rw[ca,hl,bY,aU]; omega
   ·have:=h (i+1) d hd
    rw[aU,cy,cw,<-fS]at this
    exact this
  rw[List.flatten_cons,<-j,<-y,cD]
theorem sD {H:Type} {enc:TypeId×Value->H} {P:Program} {w:World} {base:Nat} {G:Nat->Bool} {y:Bool} {j:Nat} {t e:TypeId} {n k:Nat} {cs:List Value} {ds:List (DataW H)} {cls:List (List Value)} {p:List MemPlace}
  (R:P.underlying t=some (.array n e)) (U:P.cellsOf e=k) (I:P.cellsOf t=n*k) (z:cls.length=ds.length)
  (J:∀(i:Nat) (d:DataW H) (c:List Value),ds[i]? = some d->cls[i]? = some c->∀j cs p,DataW.trod enc P w base G y j e cs=some (d,p)->cs=c) (h:DataW.trod enc P w base G y j t cs=some (.agg ds,p)):cs=cls.flatten:=by
 cases j with
 | zero=>simp[DataW.trod]at h
 | succ j=>
  simp only[DataW.trod,R,U,I]at h
  split at h
  ·rename_i hl
   obtain⟨xs,N,hx⟩:=Option.map_eq_some_iff.1 h
   have A:xs.map (·.1)=ds:=by
    have:=da Prod.fst hx
    simpa using this
   have O:xs.length=n:=by simpa using mapM_length N
   have B:ds.length=n:=by rw[<-A,List.length_map,O]
   refine Ih (k:=k) (by rw[hl,z,B]) fun i c hc=>?_
   have hi:i<n:=by rw[<-B,<-z]; exact (aP.1 hc).1
   obtain⟨b,hb,hf⟩:=mapM_at N i i (by simp[hi])
   have hd:ds[i]? = some b.1:=by rw[<-A,fF,hb]; rfl
   exact J i b.1 c hd hc _ _ _ hf
  ·cases h
def nH {H:Type} (ls:List L01):DataW H:=.agg (ls.map fun l=>.lit (.string l))
def rj {H:Type} (k:IntKind) (rs:List (List Int)):DataW H:=.agg (rs.map (tabData k))
def HM (P:Program) (n:String) (g:Nat):Bool:=match P.globalNamed n,(P.globals[g]?).map (·.type) with
 | some g',some t=>match P.underlying t with
  | some (.array m e)=>(match P.underlying e with
   | some .string=>decide (P.cellsOf e=1)&&decide (P.cellsOf t=m*1)&&decide (g'=g)
   | _=>false)
  | _=>false
 | _,_=>false
def GQ (P:Program) (n:String) (g:Nat) (k:IntKind) (j:Nat):Bool:=match P.globalNamed n,(P.globals[g]?).map (·.type) with
 | some g',some t=>match P.underlying t with
  | some (.array m e)=>(match P.underlying e with
   | some (.array j' e')=>(match P.underlying e' with
    | some (.int k')=>decide (k'=k)&&decide (P.cellsOf e'=1)&&decide (P.cellsOf e=j)&&decide (j'=j)&&decide (P.cellsOf t=m*j)&&decide (g'=g)
    | _=>false)
   | _=>false)
  | _=>false
 | _,_=>false
theorem gaS {P:Program} {w:World} {n:String} {g:Nat} {l:List L01} (k:HM P n g=true) (h:VarReads P w n (nH l)):GA [] w g eS l:=by
 obtain⟨R,t,cs,y,p,hg,A,z,hd⟩:=h
 unfold HM at k
 rw[hg]at k
 split at k
 ·rename_i U V G I
  cases G
  split at k
  ·rename_i m e hu
   split at k
   ·rename_i J
    simp only[aK,ak]at k
    obtain⟨⟨N,O⟩,rfl⟩:=k
    obtain rfl:=et (I.symm.trans A)
    have B:=sD (cls:=l.map fun x=>[vS x]) hu N O (by simp) (fun i d c hd hc y cs p hf=>by
     rw[fF]at hd hc
     cases hq:l[i]? with
     | none=>rw[hq]at hd; cases hd
     | some x=>
      rw[hq]at hd hc
      cases hd; cases hc
      obtain⟨s,hc,hx,_⟩:=DataW.trod_string J hf
      have:x=s.data.toList:=by
       have:=da Prod.fst hx
       simpa using this
      rw[hc,this]) hd
    refine⟨fun j u hu=>?_,by simp⟩
    rw[World.var?_cell hg z j,<-gO,B,<-hu]
    simp[Enc.fl,eS,List.flatMap]
   ·cases k
  ·cases k
 ·cases k
theorem Qx {P:Program} {w:World} {n:String} {g j:Nat} {rs:List L00} {l:L00} (hl:rs.flatten=l) (k:GQ P n g .u32 j=true) (h:VarReads P w n (rj .u32 (rs.map fun r=>r.map fun x=>(x.toNat:Int)))):GA [] w g e32 l:=by
 obtain⟨V,t,cs,A,p,hg,B,y,hd⟩:=h
 unfold GQ at k
 rw[hg]at k
 split at k
 ·rename_i X Y J N
  cases J
  split at k
  ·rename_i m e hu
   split at k
   ·rename_i Z e' G
    split at k
    ·rename_i k' O
     simp only[aK,ak]at k
     obtain⟨⟨⟨⟨⟨rfl,R⟩,I⟩,rfl⟩,U⟩,rfl⟩:=k
     obtain rfl:=et (N.symm.trans B)
     have z:=sD (cls:=rs.map fun r=>e32.fl r) hu I U (by simp) (fun i d c hd hc A cs p hf=>by
      rw[List.map_map,fF]at hd
      rw[fF]at hc
      cases hq:rs[i]? with
      | none=>rw[hq]at hd; cases hd
      | some r=>
       rw[hq]at hd hc
       cases hd; cases hc
       show cs=e32.fl r
       rw[Kc]
       exact cells_of_tab G O R I hf) hd
     refine⟨fun j u hu=>?_,by simp⟩
     rw[World.var?_cell hg y j,<-gO,z,<-hu,<-hl]
     congr 1
     clear hd z hu y hl
     induction rs with
     | nil=>rfl
     | cons r rs ih=>rw[db,List.flatten_cons,List.flatten_cons,e32.fl_append,ih]
    ·cases k
   ·cases k
  ·cases k
 ·cases k
end Go.Gk
end
