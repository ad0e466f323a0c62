import Derived.Test.YthnmbmmifamifaaGreatDoorGkS
import Derived.ProofKit
import Derived.OpenShut
import Derived.ShutString
import Derived.ChangeOld
import Derived.Below
import Derived.SizedLaws
import Derived.Test.YthnmbmmifamifaaGreatDoorGkI
import Derived.Lib.LaidU8
import Derived.ChangeArms
set_option linter.unusedVariables false
set_option linter.unusedSimpArgs false
set_option linter.unusedSectionVars false
section
namespace Go.Gk
open Go.ChangeShapes Go.WideShapes Go.ChangeAt Go.RowKit
open Go.ChangeMaps (open_string shut_string)
section
variable {H:Type} {enc:TypeId×Value->H} {P:Program} {W W':World}
theorem sY (hl:laidOutB P=true) (hb:Below W.heap.size W W'):∀(j:List TypeId) (vs:List Value) (ds:List (DataW H)) (k:List MemPlace),
  (j.all fun t=>P.readableRec t&&decide (t<P.types.size))=true ->
  DataW.TrodAll enc P W 0 (fun _=>true) true j vs ds k->DataW.TrodAll enc P W' 0 (fun b=>decide (b<W.heap.size)) true j vs ds k
 | [],vs,ds,k,_,h=>by
  obtain⟨rfl,rfl,rfl⟩:=trodAll_nil h
  exact trodAll_mk0
 | t :: j,vs,ds,k,ht,h=>by
  obtain⟨v,z,d,A,p,q,rfl,rfl,rfl,B,G⟩:=trodAll_cons h
  rw[List.all_cons,aW,aW]at ht
  refine trodAll_cons_mk (Below.trod hl ht.1.1 (of_decide_eq_true ht.1.2) B hb ?_) (sY hl hb j z A q ht.2 G)
  obtain⟨m,hm⟩:=B
  exact DataW.trod_lt m _ _ _ hm
theorem law_post {s:ChangeSpec} {fn:Func} {args:Array Value} {ds z:List (DataW H)} {p:List MemPlace} {A:TypeId} (O:s.vars=[]) (hg:z=[])
  (hs:s.fn H ds={ results:=[.lit (.bool true)],args:=ds,vars:=[] }) (B:fn.resultTypes=#[A]) (hb:P.underlying A=some .bool) (hl:laidOutB P=true)
  (k:(fn.params.toList.all fun t=>P.readableRec t&&decide (t<P.types.size))=true)
  (G:DataW.Whole enc P fn.params.toList s.vars false W args.toList ds z p) (j:Below W.heap.size W W') :
  s.post enc P fn false true false false W args (.bool true) W':=by
 subst hg
 have I:=G
 obtain⟨J,q,N,X,R,U,V⟩:=G
 have hA:DataW.TrodAll enc P W 0 (fun _=>true) true fn.params.toList args.toList ds J:=N
 refine⟨ds,[],p,[],J,[],I,?_,?_,?_,j.frame _,fun h=>by cases h⟩
 ·rw[dS,hs,B]
  exact trodAll_mk1 (shut_bool hb _)
 ·rw[dS,hs]
  exact sY hl j _ _ _ _ k hA
 ·rw[dS,hs,O]
  rfl
theorem nV {t e:TypeId} {v:Value} {x:DataW H×List MemPlace} {O:Nat} (ht:P.underlying t=some (.slice e)) (he:P.underlying e=some (.int .u8)) (hc:P.cellsOf e=1)
  (hf:DataW.trod enc P W 0 (fun _=>true) true O t [v]=some x) :
  ∃l:List UInt8,RP [] W e8 v l/\((x.1=.nil/\l=[])\/∃G N,x.1=.slice G N/\G.length=l.length):=by
 rcases open_ints ht he hc hf with⟨A,hx⟩ | ⟨x0,len,V,B,A,_,hl,hm,hz,hx,I,X⟩
 ·simp only[iG,and_true]at A
  subst A; subst hx
  exact⟨[],(RO.nil W e8).rp,.inl ⟨rfl,rfl⟩⟩
 ·simp only[iG,and_true]at A
  subst A; subst hx
  simp only[bo]at hz
  have R:∀n∈B,∃y:UInt8,n=(y.toNat:Int):=by
   intro n hn
   have:=X n hn
   simp[Lit.wf,IntKind.min,IntKind.max,IntKind.signed,IntKind.bits]at this
   exact⟨UInt8.ofNat n.toNat,by rw[cp]; omega⟩
  have z:((B.take len).map (fun n=>UInt8.ofNat n.toNat)).length=len:=by simp; omega
  refine⟨(B.take len).map (fun n=>UInt8.ofNat n.toNat),⟨⟨some x0,V,by rw[z],by rw[z]; exact hl,fun Y=>?_⟩,by simp⟩,.inr ⟨_,_,rfl,by simp[lits]⟩⟩
  obtain⟨b,off,rfl⟩:∃b off,x0=⟨b,off,none⟩:=by
   obtain⟨b,off,k⟩:=x0
   cases k with
   | none=>exact⟨b,off,rfl⟩
   | some k=>
    have ac:0<len:=by
     rcases bR len with J | J
     ·exact absurd (bA (by rw[z,J])) Y
     ·exact J
    have J:=I 0 q10
    simp[Addr.add,World.cell?]at J
    split at J <;> simp_all
  refine⟨b,off,rfl,fun j u hu=>?_⟩
  have hj:j<len:=by
   have:=(br.1 hu).1
   rw[Enc.fl_length,z]at this
   simpa [e8] using this
  have Z:=I j q10
  have U:(e8.fl ((B.take len).map (fun n=>UInt8.ofNat n.toNat)))[j*e8.sz+0]? = (e8.cells (UInt8.ofNat (B[j]' q10).toNat))[0]?:=by
   refine Enc.fl_get e8 _ j _ ?_ 0 (by simp[e8])
   rw[f9,bY,af hj,aw q10]; rfl
  rw[show j*e8.sz+0=j by simp[e8],hu]at U
  simp[e8]at U
  obtain⟨y,hy⟩:=R (B[j]' q10) (i0 _)
  have h3:B.getD j 0=B[j]' q10:=by rw[ak,aw q10]; rfl
  rw[h3]at Z
  have h4:(⟨b,off,none⟩:Addr).add j=⟨b,off+j,none⟩:=by
   unfold Addr.add; split
   ·subst j; rfl
   ·rfl
  rw[<-h4,Z,U]
  congr 2
  rw[cp,hy]
  have:=y.toNat_lt
  simp
theorem arg_bytes {r:Reach} {b0:Nat} {t e:TypeId} {v:Value} {d:DataW H} {A:List MemPlace} (B:P.underlying t=some (.slice e)) (he:P.underlying e=some (.int .u8)) (hc:P.cellsOf e=1)
  (z:Value.okWide P W r b0 t v) (hd:DataW.Trod enc P W 0 (fun _=>true) true t v d A) :
  ∃l:List UInt8,RP [] W e8 v l/\((d=.nil/\l=[])\/∃j k,d=.slice j k/\j.length=l.length):=by
 obtain⟨a,len,I,rfl⟩:=okWide_slice B z
 obtain⟨G,hf⟩:=hd
 exact nV (x:=(d,A)) B he hc hf
theorem arg_string {r:Reach} {b0:Nat} {t:TypeId} {v:Value} {d:DataW H} {k:List MemPlace} (z:P.underlying t=some .string)
  (j:Value.okWide P W r b0 t v) (hd:DataW.Trod enc P W 0 (fun _=>true) true t v d k):∃l:List UInt8,v=vS l/\d=.lit (.string l):=by
 obtain⟨s,rfl,rfl,_,_⟩:=open_string z j hd
 exact⟨s.data.toList,rfl,rfl⟩
theorem size_bytes {A:List TypeId} {ds:List (DataW H)} (h:(DataW.weightsEach P A ds).all (fun x=>decide (x<=reachBytes))=true) {j:Nat} {t e:TypeId} {d:DataW H} {l:List UInt8}
  (B:A[j]? = some t) (hd:ds[j]? = some d) (hu:P.underlying t=some (.slice e)) (hb:P.bytesOf e=1) (hl:(d=.nil/\l=[])\/∃k z,d=.slice k z/\k.length=l.length) :
  l.length<=140737488351232:=by
 rcases hl with⟨_,rfl⟩ | ⟨k,z,rfl,G⟩
 ·simp
 ·have:=sized_slice h B hd hu
  rw[hb]at this
  simp only[reachBytes]at this
  omega
theorem size_string {k:List TypeId} {ds:List (DataW H)} (h:(DataW.weightsEach P k ds).all (fun x=>decide (x<=reachBytes))=true) {j:Nat} {t:TypeId} {d:DataW H} {l:List UInt8}
  (z:k[j]? = some t) (hd:ds[j]? = some d) (hl:d=.lit (.string l)):l.length<=140737488351232:=by
 subst hl
 have:=sized_string h z hd
 simpa only [reachBytes] using this
end
end Go.Gk
end
section
namespace Go.Gk
open Go.ChangeShapes Go.WideShapes Go.ChangeAt Go.RowKit
def WD {H:Type} {τ:Type} (d:DataW H) (l:List τ):Prop:=(d=.nil/\l=[])\/∃elems spare,d=.slice elems spare/\elems.length=l.length
section
variable {H:Type} {enc:TypeId×Value->H} {P:Program} {W:World}
theorem size_part {k us:List TypeId} {ds es:List (DataW H)} {z:Array Field} (h:(DataW.weightsEach P k ds).all (fun x=>decide (x<=reachBytes))=true) {j:Nat} {t:TypeId}
  (B:k[j]? = some t) (hd:ds[j]? = some (.agg es)) (hu:P.underlying t=some (.struct z)) (A:z.toList.map (·.type)=us):(DataW.weightsEach P us es).all (fun x=>decide (x<=reachBytes))=true:=by
 refine cr.2 fun x hx=>?_
 exact cr.1 h x (DataW.weights_mem_each B hd x (by simp only[DataW.weights,hu,A]; exact hx))
end
section
variable {H:Type} {enc:TypeId×Value->H} {P:Program} {W:World}
theorem arg_key {r:Reach} {b0:Nat} {t e:TypeId} {z A B G I J N:Field} {v:Value} {d:DataW H} {ps:List MemPlace} (ht:P.underlying t=some (.struct #[z,A,B,G,I,J,N]))
  (ho:[z,A,B,G,I,J,N].map (·.offset)=[0,1,2,3,4,5,6]) (ct:P.cellsOf t=7) (hk:([z,A,B,G,I,J,N].all fun f=>Nat.beq (P.cellsOf f.type) 1)=true)
  (t0:P.underlying z.type=some (.int .i64)) (t1:P.underlying A.type=some (.int .i64)) (t2:P.underlying B.type=some (.slice e)) (t3:P.underlying G.type=some (.slice e)) (t4:P.underlying I.type=some (.slice e))
  (t5:P.underlying J.type=some (.slice e)) (t6:P.underlying N.type=some (.slice e)) (he:P.underlying e=some (.int .u8)) (hc:P.cellsOf e=1)
  (bx:Value.okWide P W r b0 t v) (hd:DataW.Trod enc P W 0 (fun _=>true) true t v d ps) :
  ∃(k c:Int) (v2 v3 v4 v5 v6:Value) (O R U V X:L00) (dk dc Y Z d4 d5 d6:DataW H),v=.agg #[vI k,vI c,v2,v3,v4,v5,v6]/\RP [] W e8 v2 O/\RP [] W e8 v3 R/\RP [] W e8 v4 U/\RP [] W e8 v5 V/\RP [] W e8 v6 X /\
   d=.agg [dk,dc,Y,Z,d4,d5,d6]/\WD Y O/\WD Z R/\WD d4 U/\WD d5 V/\WD d6 X:=by
 obtain⟨cs,rfl,ap⟩:=okWide_struct ht bx
 obtain⟨eU,hf⟩:=hd
 obtain⟨xs,k',go,ax,gs,cf,j⟩:=DataW.trod_struct ht hf
 rw[ct]at ap
 obtain⟨l⟩:=cs
 simp only[List.all_cons,List.all_nil,Bool.and_true,aW,Nat.beq_eq]at hk
 obtain⟨c0,c1,c2,c3,c4,c5,c6⟩:=hk
 simp only[dm,List.map_nil,iG,and_true]at ho
 obtain⟨o0,o1,o2,o3,o4,o5,o6⟩:=ho
 match l,ap,xs,cf with
 | [w0,w1,w2,w3,w4,w5,w6],_,[y0,y1,y2,y3,y4,y5,y6],_=>
  have g0:=j 0 z rfl
  have g1:=j 1 A rfl
  have g2:=j 2 B rfl
  have g3:=j 3 G rfl
  have g4:=j 4 I rfl
  have g5:=j 5 J rfl
  have g6:=j 6 N rfl
  simp[Value.cells,o0,o1,o2,o3,o4,o5,o6,c0,c1,c2,c3,c4,c5,c6]at g0 g1 g2 g3 g4 g5 g6
  obtain⟨n0,a0,b0,_⟩:=DataW.trod_int t0 g0
  obtain⟨n1,a1,b1,_⟩:=DataW.trod_int t1 g1
  obtain⟨O,h2,Y⟩:=nV t2 he hc g2
  obtain⟨R,h3,Z⟩:=nV t3 he hc g3
  obtain⟨U,h4,d4⟩:=nV t4 he hc g4
  obtain⟨V,h5,d5⟩:=nV t5 he hc g5
  obtain⟨X,h6,d6⟩:=nV t6 he hc g6
  simp only[iG,and_true]at a0 a1
  subst a0; subst a1
  simp only[iD]at ax
  exact⟨n0,n1,w2,w3,w4,w5,w6,O,R,U,V,X,_,_,_,_,_,_,_,rfl,h2,h3,h4,h5,h6,by rw[ax.1]; rfl,Y,Z,d4,d5,d6⟩
end
end Go.Gk
end
section
namespace Go.Gk
open Go Go.RowKit Go.Lib Go.Proofs
def A7 (P:Program) (n:String) (g:Nat) (k:IntKind):Bool:=match P.globalNamed n,(P.globals[g]?).map (·.type) with
 | some g',some t=>match P.underlying t with
  | some (.array m e)=>(match P.underlying e with
   | some (.int k')=>decide (k'=k)&&decide (P.cellsOf e=1)&&decide (P.cellsOf t=m)&&decide (g'=g)
   | _=>false)
  | _=>false
 | _,_=>false
theorem z7 {P:Program} {w:World} {n:String} {g:Nat} {k:IntKind} {G:List Int} (A:A7 P n g k=true) (h:VarReads P w n (tabData k G)) (j:Nat):w.cell? ⟨g,j,none⟩=(G.map fun z=>Value.int k z)[j]?:=by
 obtain⟨Y,t,cs,N,p,hg,I,B,hd⟩:=h
 unfold A7 at A
 rw[hg]at A
 split at A
 ·rename_i Z t2 O R
  cases O
  split at A
  ·rename_i m e hu
   split at A
   ·rename_i k' U
    simp only[aW,aj]at A
    obtain⟨⟨⟨rfl,V⟩,X⟩,rfl⟩:=A
    obtain rfl:=fv (R.symm.trans I)
    have J:=cells_of_tab hu U V X hd
    rw[World.var?_cell hg B j,<-iI,J]
   ·cases A
  ·cases A
 ·cases A
theorem Mc:∀l:L8,e32.fl l=(l.map fun x=>(x.toNat:Int)).map fun z=>Value.int .u32 z
 | []=>rfl
 | x :: l=>by
  have:=Mc l
  simp[Enc.fl,e32]at this ⊢
  exact this
theorem QU:∀l:List UInt64,e64.fl l=(l.map fun x=>(x.toNat:Int)).map fun z=>Value.int .u64 z
 | []=>rfl
 | x :: l=>by
  have:=QU l
  simp[Enc.fl,e64]at this ⊢
  exact this
theorem tM {P:Program} {w:World} {n:String} {g:Nat} {l:L8} (k:A7 P n g .u32=true) (h:VarReads P w n (tabData .u32 (l.map fun x=>(x.toNat:Int)))):GA [] w g e32 l:=by
 refine⟨fun j u hu=>?_,by simp⟩
 rw[z7 k h]
 have:e32.fl l=(l.map fun x=>(x.toNat:Int)).map fun z=>Value.int .u32 z:=Mc l
 rw[<-this]; exact hu
theorem zu {P:Program} {w:World} {n:String} {g:Nat} {l:List UInt64} (k:A7 P n g .u64=true) (h:VarReads P w n (tabData .u64 (l.map fun x=>(x.toNat:Int)))):GA [] w g e64 l:=by
 refine⟨fun j u hu=>?_,by simp⟩
 rw[z7 k h]
 have:e64.fl l=(l.map fun x=>(x.toNat:Int)).map fun z=>Value.int .u64 z:=QU l
 rw[<-this]; exact hu
def nZ (h:Array Obj) (g:Nat) (cs:Array Value):Array Obj:=h.modify g fun
 | .cells _ t frozen=>.cells cs t frozen
 | o=>o
theorem Kj {α:Type} {k:Nat}:∀{cls:List (List α)} {cs:List α},cs.length=cls.length*k->(∀i c,cls[i]? = some c->(cs.drop (i*k)).take k=c)->cs=cls.flatten
 | [],cs,hl,_=>by simp at hl; simp[hl]
 | c :: r,cs,hl,h=>by
  have j:=h 0 c rfl
  rw[eW,cR]at j
  have z:cs.drop k=r.flatten:=by
   refine Kj (k:=k) ?_ fun i d hd=>?_
   ·rw[bj,hl,dN,bd]; omega
   ·have:=h (i+1) d hd
    rw[bd,ci,bW,<-ia]at this
    exact this
  rw[List.flatten_cons,<-j,<-z,ch]
theorem ue {H:Type} {enc:TypeId×Value->H} {P:Program} {w:World} {base:Nat} {I:Nat->Bool} {z:Bool} {j:Nat} {t e:TypeId} {n k:Nat} {cs:List Value} {ds:List (DataW H)} {cls:List (List Value)} {p:List MemPlace}
  (R:P.underlying t=some (.array n e)) (U:P.cellsOf e=k) (J:P.cellsOf t=n*k) (A:cls.length=ds.length)
  (N:∀(i:Nat) (d:DataW H) (c:List Value),ds[i]? = some d->cls[i]? = some c->∀j cs p,DataW.trod enc P w base I z j e cs=some (d,p)->cs=c) (h:DataW.trod enc P w base I z j t cs=some (.agg ds,p)):cs=cls.flatten:=by
 cases j with
 | zero=>simp[DataW.trod]at h
 | succ j=>
  simp only[DataW.trod,R,U,J]at h
  split at h
  ·rename_i hl
   obtain⟨xs,hm,hx⟩:=Option.map_eq_some_iff.1 h
   have B:xs.map (·.1)=ds:=by
    have:=cD Prod.fst hx
    simpa using this
   have O:xs.length=n:=by simpa using mapM_length hm
   have G:ds.length=n:=by rw[<-B,List.length_map,O]
   refine Kj (k:=k) (by rw[hl,A,G]) fun i c hc=>?_
   have hi:i<n:=by rw[<-G,<-A]; exact (br.1 hc).1
   obtain⟨b,hb,hf⟩:=mapM_at hm i i (by simp[hi])
   have hd:ds[i]? = some b.1:=by rw[<-B,f9,hb]; rfl
   exact N i b.1 c hd hc _ _ _ hf
  ·cases h
def uG {H:Type} (ls:List L00):DataW H:=.agg (ls.map fun l=>.lit (.string l))
def sG {H:Type} (k:IntKind) (rs:List (List Int)):DataW H:=.agg (rs.map (tabData k))
def JA (P:Program) (n:String) (g:Nat):Bool:=match P.globalNamed n,(P.globals[g]?).map (·.type) with
 | some g',some t=>match P.underlying t with
  | some (.array m e)=>(match P.underlying e with
   | some .string=>decide (P.cellsOf e=1)&&decide (P.cellsOf t=m*1)&&decide (g'=g)
   | _=>false)
  | _=>false
 | _,_=>false
def IE (P:Program) (n:String) (g:Nat) (k:IntKind) (j:Nat):Bool:=match P.globalNamed n,(P.globals[g]?).map (·.type) with
 | some g',some t=>match P.underlying t with
  | some (.array m e)=>(match P.underlying e with
   | some (.array j' e')=>(match P.underlying e' with
    | some (.int k')=>decide (k'=k)&&decide (P.cellsOf e'=1)&&decide (P.cellsOf e=j)&&decide (j'=j)&&decide (P.cellsOf t=m*j)&&decide (g'=g)
    | _=>false)
   | _=>false)
  | _=>false
 | _,_=>false
theorem gaS {P:Program} {w:World} {n:String} {g:Nat} {l:List L00} (k:JA P n g=true) (h:VarReads P w n (uG l)):GA [] w g eS l:=by
 obtain⟨U,t,cs,z,p,hg,B,A,hd⟩:=h
 unfold JA at k
 rw[hg]at k
 split at k
 ·rename_i V X I J
  cases I
  split at k
  ·rename_i m e hu
   split at k
   ·rename_i N
    simp only[aW,aj]at k
    obtain⟨⟨O,R⟩,rfl⟩:=k
    obtain rfl:=fv (J.symm.trans B)
    have G:=ue (cls:=l.map fun x=>[vS x]) hu O R (by simp) (fun i d c hd hc z cs p hf=>by
     rw[f9]at hd hc
     cases hq:l[i]? with
     | none=>rw[hq]at hd; cases hd
     | some x=>
      rw[hq]at hd hc
      cases hd; cases hc
      obtain⟨s,hc,hx,_⟩:=DataW.trod_string N hf
      have:x=s.data.toList:=by
       have:=cD Prod.fst hx
       simpa using this
      rw[hc,this]) hd
    refine⟨fun j u hu=>?_,by simp⟩
    rw[World.var?_cell hg A j,<-iI,G,<-hu]
    simp[Enc.fl,eS,List.flatMap]
   ·cases k
  ·cases k
 ·cases k
theorem R3 {P:Program} {w:World} {n:String} {g j:Nat} {rs:List L8} {l:L8} (hl:rs.flatten=l) (k:IE P n g .u32 j=true) (h:VarReads P w n (sG .u32 (rs.map fun r=>r.map fun x=>(x.toNat:Int)))):GA [] w g e32 l:=by
 obtain⟨X,t,cs,B,p,hg,G,z,hd⟩:=h
 unfold IE at k
 rw[hg]at k
 split at k
 ·rename_i Y Z N O
  cases N
  split at k
  ·rename_i m e hu
   split at k
   ·rename_i j' e' I
    split at k
    ·rename_i k' R
     simp only[aW,aj]at k
     obtain⟨⟨⟨⟨⟨rfl,U⟩,J⟩,rfl⟩,V⟩,rfl⟩:=k
     obtain rfl:=fv (O.symm.trans G)
     have A:=ue (cls:=rs.map fun r=>e32.fl r) hu J V (by simp) (fun i d c hd hc B cs p hf=>by
      rw[List.map_map,f9]at hd
      rw[f9]at hc
      cases hq:rs[i]? with
      | none=>rw[hq]at hd; cases hd
      | some r=>
       rw[hq]at hd hc
       cases hd; cases hc
       show cs=e32.fl r
       rw[Mc]
       exact cells_of_tab I R U J hf) hd
     refine⟨fun j u hu=>?_,by simp⟩
     rw[World.var?_cell hg z j,<-iI,A,<-hu,<-hl]
     congr 1
     clear hd A hu z hl
     induction rs with
     | nil=>rfl
     | cons r rs ih=>rw[dm,List.flatten_cons,List.flatten_cons,e32.fl_append,ih]
    ·cases k
   ·cases k
  ·cases k
 ·cases k
end Go.Gk
end
