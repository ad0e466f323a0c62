import Derived.Test.YtahgjafdhjbkeaaGreatDoorGkC
import Derived.Laws.CopyRow
import Derived.Laws.StructEq
import Derived.Lib.AppendStr
set_option linter.unusedVariables false
set_option linter.unusedSimpArgs false
set_option linter.unusedSectionVars false

section
namespace Go.Gk
open Go Go.RowKit
section
variable {P:Program} {n:Nat} {L:Env} {w w0:World} {Q:Exit->Act->World->Prop} {S:L2} {os:List OE}
variable {d:Option Tmp} {ty:TypeId} {pos:String} {after:Array Edge}
abbrev pB (b off:Nat):Value:=.pointer (some ⟨b,off,none⟩)
theorem mq (b off k:Nat):(⟨b,off,none⟩:Addr).add k=⟨b,off+k,none⟩:=by unfold Addr.add; split <;> simp_all
theorem tv (h:St S w0 w os) (cs:Array Value) (E:TypeId):St S w0 (w.alloc (.cells cs E)) (.bx w.heap.size cs.toList :: os):=by
 refine h.push (Fr.alloc _ _ _) ⟨h.fresh,E,cs,heap_alloc_new w _,rfl⟩ fun k f=>?_
 simp[OE.blk]at f; omega
theorem bb {E:TypeId} {z:Value} {cs:List Value} (f:(P.info? E).map (·.zero)=some (some z)) (g:z.cells.toList=cs) (h:St S w0 w os) :
  OpX P n L w ⟨d,.alloc E,ty,pos,after,none⟩ (fun v w'=>∃b,v=pB b 0/\St S w0 w' (.bx b cs :: os)):=by
 refine fx (pB w.heap.size 0) (w.alloc (.cells z.cells E)) (fun a j=>?_) ⟨_,rfl,g ▸ tv h _ _⟩
 cases hi:P.info? E with
 | none=>rw[hi]at f; cases f
 | some i=>
  rw[hi]at f
  simp only[Option.map_some,Option.some.injEq]at f
  simp[execOp,Instr.alloc,zeroValue,typeInfo,hi,f,newVar,newRow]
theorem cg {E:TypeId} {x:Operand} {v:Value} {cs:List Value} (f:L.ev x=some v) (g:v.cells.toList=cs) (h:St S w0 w os) :
  OpX P n L w ⟨d,.box E x,ty,pos,after,none⟩ (fun v w'=>∃b,v=pB b 0/\St S w0 w' (.bx b cs :: os)):=by
 refine fx (pB w.heap.size 0) (w.alloc (.cells v.cells E)) (fun a i=>?_) ⟨_,rfl,g ▸ tv h _ _⟩
 simp[execOp,Instr.box,i.ev f,newVar,newRow]
theorem am {s:TypeId} {x:Operand} {b off f k:Nat} {j:Array Field} {h:Field} (m:P.underlying s=some (.struct j)) (o:j[f]? = some h) (q:h.offset=k) (g:(P.info? h.type).map (·.size == 0)=some false)
  (t:L.ev x=some (pB b off)):OpV P n L w ⟨d,.fieldAddr s x f,ty,pos,after,none⟩ (pB b (off+k)) w:=fun a y=>by
 cases hi:P.info? h.type with
 | none=>rw[hi]at g; cases g
 | some i=>
  have z:¬i.size=0:=by rw[hi]at g; simpa using g
  simp[execOp,Instr.fieldAt,y.ev t,run_underlying m,o,Instr.sureAddr,fieldPlace,sizeOf,typeInfo,hi,z,mq,q]
theorem AX {T E:TypeId} {m:Nat} {x y:Operand} {b off:Nat} {k:IntKind} {i:Int} {g:Nat} (j:P.underlying T=some (.array m E)) (f:(P.info? E).map (·.size)=some g)
  (o:L.ev x=some (pB b off)) (q:L.ev y=some (.int k i)) (t:0<=i) (z:i<(m:Int)):OpV P n L w ⟨d,.indexAddr T x y,ty,pos,after,none⟩ (pB b (off+i.toNat*g)) w:=fun a h=>by
 cases hi:P.info? E with
 | none=>rw[hi]at f; cases f
 | some inf=>
  have A:inf.size=g:=by rw[hi]at f; simpa using f
  simp[execOp,Instr.indexAt,h.ev o,h.ev q,asIntOf,run_underlying j,Instr.sureAddr,t,z,sizeOf,typeInfo,hi,A,mq]
theorem aL {x:Operand} {b off:Nat} (f:L.ev x=some (pB b off)):OpV P n L w ⟨d,.nilCheck x,ty,pos,after,none⟩ (pB b off) w:=fun a g=>by
 simp[execOp,g.ev f]
theorem St.bxc (h:St S w0 w os) (i:Nat) {b:Nat} {cs:List Value} (hi:os[i]? = some (.bx b cs)) (k:Nat):w.cell? ⟨b,k,none⟩=cs[k]?:=by
 obtain⟨_,T,f,j,g⟩:=h.ok _ (List.mem_of_getElem? hi)
 rw[cell_of_row w b k f T (0,0) j,<-g]; simp
theorem au {T:TypeId} {D:TypeDesc} {x:Operand} {b off:Nat} {u:Value} (g:P.underlying T=some D) (j:(match D with | .struct _ | .array _ _=>true | _=>false)=false)
  (h:L.ev x=some (pB b off)) (hc:w.cell? ⟨b,off,none⟩=some u):OpV P n L w ⟨d,.load T x,ty,pos,after,none⟩ u w:=fun a i=>by
 have f:(isAgg T).run P w=.ok false w:=by
  unfold isAgg
  rw[Sem.run_bind,run_underlying g w]
  cases D <;> simp_all
 simp[execOp,Instr.loadAt,i.ev h,Instr.sureAddr,loadVar,f,hc]
theorem aM {T:TypeId} {D:TypeDesc} {x:Operand} {b off:Nat} {us:List Value} (g:P.underlying T=some D) (t:(match D with | .struct _ | .array _ _=>true | _=>false)=true)
  (hi:(P.info? T).map (·.size)=some us.length) (h:L.ev x=some (pB b off)) (hc:∀j u,us[j]? = some u->w.cell? ⟨b,off+j,none⟩=some u) :
  OpV P n L w ⟨d,.load T x,ty,pos,after,none⟩ (.agg us.toArray) w:=fun a k=>by
 have f:(isAgg T).run P w=.ok true w:=by
  unfold isAgg
  rw[Sem.run_bind,run_underlying g w]
  cases D <;> simp_all
 cases hq:P.info? T with
 | none=>simp[hq]at hi
 | some i=>
  have m:i.size=us.length:=by simpa [hq] using hi
  have o:(loadCells ⟨b,off,none⟩ us.length).run P w=.ok us.toArray w:=
   run_loadCells_list (P:=P) w ⟨b,off,none⟩ us (fun j v q=>by rw[mq]; exact hc j v q)
  simp[execOp,Instr.loadAt,k.ev h,Instr.sureAddr,loadVar,f,sizeOf,typeInfo,hq,m,o]
theorem St.bxs (h:St S w0 w os) (i:Nat) {b:Nat} {cs us:List Value} {off:Nat} (hi:os[i]? = some (.bx b cs)) (g:(cs.drop off).take us.length=us):∀j u,us[j]? = some u->w.cell? ⟨b,off+j,none⟩=some u:=by
 intro j u f
 rw[h.bxc i hi]
 rw[<-g,List.getElem?_take]at f
 split at f
 ·simpa using f
 ·cases f
def yN:List Value->Prop
 | []=>True
 | v :: r=>v.oneCell'=true/\yN r
theorem si:∀{l:List Value},yN l->∀v∈l,v.oneCell'=true
 | [],_,v,f=>by cases f
 | u :: r,h,v,f=>by
  rcases List.mem_cons.1 f with rfl | f
  ·exact h.1
  ·exact si h.2 v f
def spl (cs:List Value) (off:Nat) (us:List Value):List Value:=cs.take off++us++cs.drop (off+us.length)
theorem St.setB (h:St S w0 w os) {i b off:Nat} {cs us:List Value} (hi:os[i]? = some (.bx b cs)) :
  ∃T f,w.heap[b]? = some (.cells f T (0,0))/\f.toList=cs/\St S w0 (w.setRow b (f.toList.take off++us++f.toList.drop (off+us.length)).toArray) (os.set i (.bx b (spl cs off us))):=by
 have j:=h.ok _ (List.mem_of_getElem? hi)
 obtain⟨o,T,f,m,g⟩:=j
 refine⟨T,f,m,g,?_⟩
 refine h.set hi (o':=.bx b (spl cs off us)) (Fr.setRow w b _) ⟨o,T,_,setRow_heap w b f _ T (0,0) m,?_⟩ fun k q=>.inl q
 subst g
 simp[spl]
theorem bz {T:TypeId} {x y:Operand} {b off i:Nat} {v:Value} {cs us:List Value} (hi:os[i]? = some (.bx b cs)) (f:(P.info? T).map (·.size)=some us.length)
  (z:L.ev x=some (pB b off)) (A:L.ev y=some v) (j:v.cells.toList=us) (B:yN us) (F:Nat.ble (off+us.length) cs.length=true) (G:St S w0 w os) :
  OpY P n L w ⟨none,.store T x y,ty,pos,after,none⟩ (fun w'=>St S w0 w' (os.set i (.bx b (spl cs off us)))):=by
 obtain⟨I,g,J,k,m⟩:=G.setB (off:=off) (us:=us) hi
 refine qR _ (fun a o=>?_) m
 cases hq:P.info? T with
 | none=>simp[hq]at f
 | some inf=>
  have K:inf.size=us.length:=by simpa [hq] using f
  have q:off+0+us.length<=g.size:=by
   have:=Nat.le_of_ble_eq_true F
   rw[<-k]at this; simpa using this
  have h:=run_storeCells_at P b off I us 0 g w J q (si B)
  have t:v.cells.size=us.length:=by rw[<-j]; simp
  simp only[Nat.add_zero]at h
  simp[execOp,Instr.storeAt,o.ev z,o.ev A,Instr.sureAddr,storeVar,sizeOf,typeInfo,hq,K,j,t,h]
theorem _root_.Go.Gk.RO.one {τ:Type} {e:Enc τ} {v:Value} {l:List τ} (h:RO w e v l):v.oneCell'=true:=by
 obtain⟨a,c,rfl,_⟩:=h; rfl
theorem cK {v:Value} (h:v.oneCell'=true):v.cells.toList=[v]:=by cases v <;> simp_all [Value.cells,Value.oneCell']
def iJ (P:Program) (T:TypeId):Option (List (Nat×Nat)×List Value):=
 match P.info? T,P.underlying T with
 | some it,some (.array m e)=>
  match it.zero,P.info? e with
  | some z,some ie=>some ((List.range m).map fun i=>(i*ie.size,ie.size),z.cells.toList)
  | _,_=>none
 | some it,some (.struct fields)=>
  match it.zero,fields.toList.mapM (fun f=>(P.info? f.type).map fun i=>(f.offset,i.size)) with
  | some z,some places=>some (places,z.cells.toList)
  | _,_=>none
 | _,_=>none
def nT (pl:List (Nat×Nat)):List Value->List (Nat×Value×List Value)->Option (List Value)
 | cs,[]=>some cs
 | cs,(i,_,us) :: r=>match pl[i]? with
  | some (off,sz)=>if Nat.beq us.length sz&&Nat.ble (off+us.length) cs.length then nT pl (spl cs off us) r else none
  | none=>none
theorem rK:∀(us:List Value) (off k:Nat) (cs:Array Value),off+k+us.length<=cs.size ->
  (us.zipIdx k).foldl (fun cs (x:Value×Nat)=>cs.setIfInBounds (off+x.2) x.1) cs=(spl cs.toList (off+k) us).toArray
 | [],off,k,cs,_=>by simp[spl]
 | u :: r,off,k,cs,h=>by
  have f:=rK r off (k+1) (cs.setIfInBounds (off+k) u) (by simp at h ⊢; omega)
  rw[List.zipIdx_cons,List.foldl_cons,f]
  congr 1
  unfold spl
  have e:=list_seg_step cs.toList (off+k) u r (by simp at h ⊢; omega)
  simpa [Array.toList_setIfInBounds,Nat.add_assoc] using e
theorem tM {place:Nat->Option (Nat×Nat)} {g:List (Nat×Nat)} (hpl:∀i x,g[i]? = some x->place i=some x):∀(j:List (Nat×Value×List Value)) (cs f:List Value),
  (∀p∈j,p.2.1.cells.toList=p.2.2)->nT g cs j=some f->Instr.fill place cs.toArray (j.map fun p=>(p.1,p.2.1))=some f.toArray
 | [],cs,f,_,h=>by simp[nT]at h; simp[Instr.fill,h]
 | (i,v,us) :: r,cs,f,hc,h=>by
  simp only[nT]at h
  cases hi:g[i]? with
  | none=>rw[hi]at h; cases h
  | some x=>
   obtain⟨off,A⟩:=x
   rw[hi]at h
   simp only at h
   split at h
   ·rename_i k
    simp only[Bool.and_eq_true]at k
    have B:=Nat.eq_of_beq_eq_true k.1
    have o:=Nat.le_of_ble_eq_true k.2
    have m:v.cells.toList=us:=hc (i,v,us) (by simp)
    have z:v.cells.size=us.length:=by rw[<-m]; simp
    have q:=tM hpl r (spl cs off us) f (fun p t=>hc p (by simp[t])) h
    simp only[List.map_cons,Instr.fill,hpl i _ hi]
    rw[if_neg (by simp; omega)]
    have y:v.cells.zipIdx.foldl (fun cs (x:Value×Nat)=>cs.setIfInBounds (off+x.2) x.1) cs.toArray=(spl cs off us).toArray:=by
     have:=rK us off 0 cs.toArray (by simpa using o)
     simp only[Nat.add_zero]at this
     rw[<-this,<-Array.foldl_toList]
     simp[Array.toList_zipIdx,m]
    rw[y]
    exact q
   ·cases h
theorem AO {T:TypeId} {o:List (Nat×Nat)} {z j:List Value} {k:List (Nat×Value×List Value)} (g:iJ P T=some (o,z)) (hc:∀p∈k,p.2.1.cells.toList=p.2.2) (q:nT o z k=some j) :
  P.built T (k.map fun p=>(p.1,p.2.1))=some j.toArray:=by
 unfold iJ at g
 unfold Program.built
 cases hi:P.info? T with
 | none=>rw[hi]at g; cases g
 | some it=>
  cases hu:P.underlying T with
  | none=>rw[hi,hu]at g; cases g
  | some D=>
   rw[hi,hu]at g
   cases D with
   | array m e=>
    simp only at g ⊢
    cases hz:it.zero with
    | none=>rw[hz]at g; cases g
    | some z0=>
     cases he:P.info? e with
     | none=>rw[hz,he]at g; cases g
     | some ie=>
      rw[hz,he]at g
      simp only[Option.some.injEq,Prod.mk.injEq]at g
      obtain⟨rfl,rfl⟩:=g
      simp only
      have:=tM (place:=fun i=>some (i*ie.size,ie.size)) (fun i x h=>by
       rw[List.getElem?_map]at h
       by_cases hm:i<m
       ·rw[List.getElem?_range hm]at h; simpa using h
       ·rw[List.getElem?_eq_none (by simp; omega)]at h; cases h) k _ j hc q
      simpa using this
   | struct fields=>
    simp only at g ⊢
    cases hz:it.zero with
    | none=>rw[hz]at g; cases g
    | some z0=>
     cases hp:fields.toList.mapM (fun f=>(P.info? f.type).map fun i=>(f.offset,i.size)) with
     | none=>rw[hz,hp]at g; cases g
     | some places=>
      rw[hz,hp]at g
      simp only[Option.some.injEq,Prod.mk.injEq]at g
      obtain⟨rfl,rfl⟩:=g
      simp only
      have:=tM (place:=fun i=>places.toArray[i]?) (fun i x h=>by simpa using h) k _ j hc q
      simpa using this
   | _=>cases g
def qp:List (Nat×Value×List Value)->Prop
 | []=>True
 | p :: r=>p.2.1.cells.toList=p.2.2/\qp r
theorem oK:∀{l:List (Nat×Value×List Value)},qp l->∀p∈l,p.2.1.cells.toList=p.2.2
 | [],_,v,f=>by cases f
 | u :: r,h,v,f=>by
  rcases List.mem_cons.1 f with rfl | f
  ·exact h.1
  ·exact oK h.2 v f
theorem cb {T:TypeId} {f:List (Nat×Operand)} {vs:List (Nat×Value×List Value)} {j:List (Nat×Nat)} {z cells:List Value} (g:(f.map fun p=>(L.ev p.2).map fun v=>(p.1,v))=vs.map (fun p=>some (p.1,p.2.1)))
  (i:iJ P T=some (j,z)) (hc:qp vs) (k:nT j z vs=some cells) :
  OpV P n L w ⟨d,.build T f.toArray,ty,pos,after,none⟩ (.agg cells.toArray) w:=fun a m=>by
 have o:f.map (fun p=>(p.1,a.eval p.2))=vs.map (fun p=>(p.1,p.2.1)):=by
  clear hc k
  induction f generalizing vs with
  | nil=>cases vs <;> simp_all
  | cons p r ih=>
   cases vs with
   | nil=>simp at g
   | cons v s=>
    simp only[List.map_cons,List.cons.injEq]at g
    obtain⟨h,q⟩:=g
    cases hp:L.ev p.2 with
    | none=>rw[hp]at h; cases h
    | some u=>
     rw[hp]at h
     simp only[Option.map_some,Option.some.injEq]at h
     simp[m.ev hp,h,ih q]
 have t:=run_build (P:=P) w T (f.toArray.map fun x=>(x.1,a.eval x.2)) cells.toArray (by
  have:=AO i (oK hc) k
  simpa [o] using this)
 simp only[execOp,Sem.run_bind,t,Result.andThen_ok]; rfl
theorem A6 {T E:TypeId} {m:Nat} {x y:Operand} {cs:Array Value} {k:IntKind} {i:Int} {g:Nat} {u:Value} {D:TypeDesc} (o:P.underlying T=some (.array m E)) (q:P.underlying E=some D)
  (I:(match D with | .struct _ | .array _ _=>true | _=>false)=false) (f:(P.info? E).map (·.size)=some g)
  (t:L.ev x=some (.agg cs)) (z:L.ev y=some (.int k i)) (A:0<=i) (B:i<(m:Int)) (F:cs[i.toNat*g]? = some u):OpV P n L w ⟨d,.index T x y,ty,pos,after,none⟩ u w:=fun a j=>by
 have h:(isAgg E).run P w=.ok false w:=by
  unfold isAgg
  rw[Sem.run_bind,run_underlying q w]
  cases D <;> simp_all
 cases hi:P.info? E with
 | none=>rw[hi]at f; cases f
 | some inf=>
  have G:inf.size=g:=by rw[hi]at f; simpa using f
  simp[execOp,Instr.index,j.ev t,j.ev z,asIntOf,run_underlying o,A,B,sizeOf,typeInfo,hi,G,part,h,F]
end
end Go.Gk
end

section
namespace Go.Gk
open Go Go.RowKit
section
variable {P:Program} {n:Nat} {L:Env} {w w0:World} {Q:Exit->Act->World->Prop} {S:L2} {os:List OE}
variable {d:Option Tmp} {ty:TypeId} {pos:String} {after:Array Edge}
theorem St.trunc {τ:Type} {e:Enc τ} {v:Value} {l:List τ} {i k:Nat} (h:St S w0 w os) (hi:os[i]? = some (own e v l)) (B:k<=l.length):St S w0 w (os.set i (own e (slV v e.sz 0 k) (l.take k))):=by
 have t:=h.ok _ (List.mem_of_getElem? hi)
 have j:(l.take k).length=k:=by simp; omega
 refine h.set hi (o':=own e _ _) (Fr.refl _ _) ⟨e.fl_length _,?_⟩ ?_
 ·rcases t.2 with⟨rfl,F⟩ | ⟨g,f,x,T,rfl,y,G,I,z,A,m⟩
  ·left
   have:k=0:=by omega
   subst this
   simp[slV]
  ·right
   refine⟨g,f,x,T,?_,y,G,by omega,z,A,?_⟩
   ·rw[j]
    by_cases hc:f=0
    ·simp[slV,hc]
    ·simp[slV,hc,Addr.add]
   ·rw[j,e.fl_take,<-m,List.take_take]
    congr 1
    have:=Nat.mul_le_mul_right e.sz B
    omega
 ·intro q o
  left
  rcases t.2 with⟨rfl,F⟩ | ⟨g,f,x,T,rfl,_⟩
  ·simp[OE.blk,slV,Value.ownBlock]at o
  ·simp only[OE.blk]at o ⊢
   by_cases hc:f=0
   ·simpa [slV,hc,Value.ownBlock] using o
   ·simpa [slV,hc,Value.ownBlock,Addr.add] using o
end
end Go.Gk
end

section
namespace Go.Gk
open Go Go.RowKit Go.Lib
section
variable {P:Program} {n:Nat} {L:Env} {w w' w0:World} {Q:Exit->Act->World->Prop} {S:L2} {os os0 os1:List OE}
variable {d:Option Tmp} {ty:TypeId} {pos:String} {after:Array Edge}
def dO (os:List OE):L2:=os.filterMap OE.blk
theorem cr {k:Nat}:k∈dO os↔∃o∈os,o.blk=some k:=by simp[dO,List.mem_filterMap]
theorem OE.ok.re {S q:L2} {B t:Nat} {o:OE} (h:o.ok S B w) (j:∀k,o.blk=some k->fre S B k->fre q t k):o.ok q t w:=by
 cases o with
 | sl v sz n cs=>
  refine⟨h.1,?_⟩
  rcases h.2 with f | ⟨g,x,y,T,rfl,m,rest⟩
  ·exact .inl f
  ·exact .inr ⟨g,x,y,T,rfl,j g rfl m,rest⟩
 | rd v sz n cs=>
  obtain⟨A,a,c,rfl,hc,F⟩:=h
  refine⟨A,a,c,rfl,hc,fun f=>?_⟩
  obtain⟨b,off,rfl,z,m,i⟩:=F f
  exact⟨b,off,rfl,z,j b (by simp[OE.blk,f,Value.ownBlock]) m,i⟩
 | bx b cs=>exact⟨j b rfl h.1,h.2⟩
theorem St.give (h:St S w0 w (os0++os)):St (dO os0) w w os0:=
 ⟨Fr.refl _ _,fun o f=>(h.ok o (List.mem_append_left _ f)).re fun k g _=>.inr (cr.2 ⟨o,f,g⟩),(List.pairwise_append.1 h.dj).1⟩
theorem St.back (h:St S w0 w (os0++os)) (i:St (dO os0) w w' os1):St S w0 w' (os1++os):=by
 have j:∀k,fre (dO os0) w.heap.size k->fre S w0.heap.size k:=by
  intro k f
  rcases f with f | f
  ·exact .inl (Nat.le_trans h.fr.size f)
  ·obtain⟨o,g,x⟩:=cr.1 f
   exact ((h.ok o (List.mem_append_left _ g)).lt x).2
 have y:=(List.pairwise_append.1 h.dj).2
 refine⟨h.fr.step i.fr fun k f=>j k (.inr f),?_,?_⟩
 ·intro o g
  rcases List.mem_append.1 g with g | g
  ·exact (i.ok o g).re fun k _ F=>j k F
  ·refine (h.ok o (List.mem_append_right _ g)).fr i.fr fun k f x=>?_
   obtain⟨p,m,z⟩:=cr.1 f
   exact y.2 p m o g k z x
 ·refine List.pairwise_append.2 ⟨i.dj,y.1,fun o g p m k f t=>?_⟩
  have I:=((h.ok p (List.mem_append_right _ m)).lt t).1
  rcases ((i.ok o g).lt f).2 with A | A
  ·omega
  ·obtain⟨q,G,B⟩:=cr.1 A
   exact y.2 q G p m k B t
theorem RP.give {τ:Type} {e:Enc τ} {v:Value} {l:List τ} (h:RP S w0 e v l) (x:0<e.sz) (j:St S w0 w (os0++os)):RP (dO os0) w e v l:=by
 refine⟨h.now j.fr,fun i k y z=>?_⟩
 obtain⟨o,A,m⟩:=cr.1 y
 have f:=((j.ok o (List.mem_append_left _ A)).lt m).2
 obtain⟨a,c,rfl,hc,B⟩:=h.1
 obtain⟨b,off,rfl,g⟩:=B i
 have q:b=k:=by simpa [Value.ownBlock] using z
 subst q
 rcases f with f | f
 ·have t:0<(e.fl l).length:=by
   rw[e.fl_length]
   exact Nat.mul_pos (List.length_pos_iff.2 i) x
  have:=i7 (g 0 _ (List.getElem?_eq_getElem t))
  simp only at this
  omega
 ·exact h.2 i b f rfl
theorem St.giveO {τ:Type} {e:Enc τ} {v:Value} {l:List τ} (f:St S w0 w (os0++os)) (i:Nat) (hi:os[i]? = some (own e v l)):RP (dO os0) w e v l:=by
 have g:=List.mem_of_getElem? hi
 refine⟨(f.ok _ (List.mem_append_right _ g)).ro,fun t k j m=>?_⟩
 obtain⟨o,q,h⟩:=cr.1 j
 exact (List.pairwise_append.1 f.dj).2.2 o q _ g k h m
theorem RP.tk {τ:Type} {e:Enc τ} {v:Value} {l:List τ} (h:RP S w e v l) {k:Nat} (f:k<=l.length):RP S w e (slV v e.sz 0 k) (l.take k):=h.subh f
theorem OE.ok.red {S:L2} {B:Nat} {τ:Type} {e:Enc τ} {v:Value} {l:List τ} (h:(own e v l).ok S B w):(red e v l).ok S B w:=by
 refine⟨h.1,?_⟩
 rcases h.2 with⟨rfl,k⟩ | ⟨g,m,x,T,rfl,t,o,q,y,z,f⟩
 ·exact⟨none,0,by rw[k],by rw[k]; exact Nat.le_refl _,fun h=>absurd k h⟩
 ·refine⟨_,m,rfl,q,fun _=>⟨g,0,rfl,o.lt,t,fun j u i=>?_⟩⟩
  rw[<-f,List.getElem?_take]at i
  split at i
  ·rw[Nat.zero_add,o.cell j]
   simpa using i
  ·cases i
def zS (u:Value) (o:Option (List Value)):Prop:=match o with
 | none=>u=.pointer none
 | some _=>∃b,u=pB b 0
def zQ (u:Value) (o:Option (List Value)):List OE:=match o,u with
 | some cs,.pointer (some a)=>[.bx a.block cs]
 | _,_=>[]
theorem wE {T E:TypeId} (f:P.underlying T=some (.pointer E)) (b off k:Nat) (w:World):(Op.equalIn (k+1) T (pB b off) (.pointer none)).run P w=.ok false w:=by
 simp[Op.equalIn,run_underlying f]
theorem zX {T E:TypeId} (f:P.underlying T=some (.pointer E)) (k:Nat) (w:World):(Op.equalIn (k+1) T (.pointer none) (.pointer none)).run P w=.ok true w:=by
 simp[Op.equalIn,run_underlying f]
theorem tn {T E:TypeId} (f:P.underlying T=some (.pointer E)) (b off:Nat) (w:World):(Op.equal T (pB b off) (.pointer none)).run P w=.ok false w:=wE f b off 9999 w
theorem ye {T E:TypeId} (f:P.underlying T=some (.pointer E)) (w:World):(Op.equal T (.pointer none) (.pointer none)).run P w=.ok true w:=zX f 9999 w
theorem nc {T E:TypeId} (f:P.underlying T=some (.pointer E)) (b off:Nat):cl P .neq T (pB b off) (.pointer none) (vB true):=fun _ _ w=>by
 simp[eqGuard,binOp,tn f]
theorem pQ {T E:TypeId} (f:P.underlying T=some (.pointer E)):cl P .neq T (.pointer none) (.pointer none) (vB false):=fun _ _ w=>by
 simp[eqGuard,binOp,ye f]
theorem xB {T E:TypeId} (f:P.underlying T=some (.pointer E)) (b off:Nat):cl P .eql T (pB b off) (.pointer none) (vB false):=fun _ _ w=>by
 simp[eqGuard,binOp,tn f]
theorem yv {T E:TypeId} (f:P.underlying T=some (.pointer E)):cl P .eql T (.pointer none) (.pointer none) (vB true):=fun _ _ w=>by
 simp[eqGuard,binOp,ye f]
theorem bS {T:TypeId} {D:TypeDesc} {b:Nat} {us:List Value} (g:P.underlying T=some D) (o:(match D with | .struct _ | .array _ _=>true | _=>false)=true)
  (hi:(P.info? T).map (·.size)=some us.length) (hc:∀j u,us[j]? = some u->w.cell? ⟨b,0+j,none⟩=some u):(loadVar T ⟨b,0,none⟩).run P w=.ok (.agg us.toArray) w:=by
 have f:(isAgg T).run P w=.ok true w:=by
  unfold isAgg
  rw[Sem.run_bind,run_underlying g w]
  cases D <;> simp_all
 cases hq:P.info? T with
 | none=>simp[hq]at hi
 | some i=>
  have h:i.size=us.length:=by simpa [hq] using hi
  have k:(loadCells ⟨b,0,none⟩ us.length).run P w=.ok us.toArray w:=
   run_loadCells_list (P:=P) w ⟨b,0,none⟩ us (fun j v m=>by rw[mq]; exact hc j v m)
  simp[loadVar,f,sizeOf,typeInfo,hq,h,k]
def RV (P:Program) (L:Env) (w:World):ResultVar->Value->Prop
 | .tmp t,v=>L.get t=some v
 | .cell t T,v=>∃b,L.get t=some (pB b 0)/\(loadVar T ⟨b,0,none⟩).run P w=.ok v w
theorem ek (b off:Nat) (w:World):(asAddr (pB b off)).run P w=.ok ⟨b,off,none⟩ w:=rfl
theorem dh {m:Func} {i:ResultVar} {j:Value} {φ:Value->World->Prop} (f:m.results=#[i]) (o:RV P L w i j) (h:φ j w):QE n (bodyPost P m (Ret φ)) .ret L w:=fun a k=>by
 refine⟨k.defers,j,?_,h⟩
 cases i
 ·have g:=k.get _ _ o
  simp[results,f,g]
 ·obtain⟨b1,g,q⟩:=o
  have g:=k.get _ _ g
  simp[results,f,g,q,ek]
theorem js {A:Func} {o q:ResultVar} {t x:Value} {φ:Value->World->Prop} (i:A.results=#[o,q]) (k:RV P L w o t) (m:RV P L w q x) (h:φ (.tuple #[t,x]) w):QE n (bodyPost P A (Ret φ)) .ret L w:=fun a j=>by
 refine⟨j.defers,.tuple #[t,x],?_,h⟩
 cases o <;> cases q
 ·have f:=j.get _ _ k
  have g:=j.get _ _ m
  simp[results,i,f,g]
 ·have f:=j.get _ _ k
  obtain⟨B,g,y⟩:=m
  have g:=j.get _ _ g
  simp[results,i,f,g,y,ek]
 ·obtain⟨b1,f,z⟩:=k
  have f:=j.get _ _ f
  have g:=j.get _ _ m
  simp[results,i,f,g,z,ek]
 ·obtain⟨b1,f,z⟩:=k
  have f:=j.get _ _ f
  obtain⟨B,g,y⟩:=m
  have g:=j.get _ _ g
  simp[results,i,f,g,z,y,ek]
def SHP (v:Value) (m:Nat):Prop:=∃a c,v=.slice a m c/\m<=c/\(m≠0->∃b off,a=some ⟨b,off,none⟩)
theorem RO.shp {τ:Type} {e:Enc τ} {v:Value} {l:List τ} (h:RO w e v l):SHP v l.length:=by
 obtain⟨a,c,rfl,hc,f⟩:=h
 refine⟨a,c,rfl,hc,fun g=>?_⟩
 obtain⟨b,off,i,_⟩:=f (by rintro rfl; simp at g)
 exact⟨b,off,i⟩
theorem oL {τ:Type} {l y:List τ} {i:Int} {x t:τ} (f:l.set i.toNat t=y) (g:aA l i=some x):aA y i=some t:=by
 obtain⟨h,j,_⟩:=ew g
 subst f
 simp[aA,h,j]
theorem Bh {x y:Operand} {T:TypeId} {p q:Int} (g:L.ev x=some (vI p)) (h:L.ev y=some (vI q)):OpV P n L w ⟨d,.call ⟨.builtin .min,#[x,y],#[T,T]⟩,ty,pos,after,none⟩ (vI (min p q)) w:=fun a f=>by
 have i:(if q<p then q else p)=min p q:=by split <;> omega
 have j:(Builtin.min2 (vI p) (vI q)).run P w=.ok (vI (min p q)) w:=by rw[<-i]; rfl
 simp[execOp,resolve,invoke,builtin,Builtin.min_,f.ev g,f.ev h,j]
theorem k8 {x y:Operand} {T:TypeId} {p q:Int} (g:L.ev x=some (vI p)) (h:L.ev y=some (vI q)):OpV P n L w ⟨d,.call ⟨.builtin .max,#[x,y],#[T,T]⟩,ty,pos,after,none⟩ (vI (max p q)) w:=fun a f=>by
 have i:(if p<q then q else p)=max p q:=by split <;> omega
 have j:(Builtin.max2 (vI p) (vI q)).run P w=.ok (vI (max p q)) w:=by rw[<-i]; rfl
 simp[execOp,resolve,invoke,builtin,Builtin.max_,f.ev g,f.ev h,j]
end
end Go.Gk
end

section
namespace Go.Gk
open Go Go.RowKit
section
variable {P:Program} {n:Nat} {L:Env} {w w' w0:World} {Q:Exit->Act->World->Prop} {S:L2} {os os0 os1:List OE}
variable {d:Option Tmp} {ty:TypeId} {pos:String} {after:Array Edge}
theorem zm {T E:TypeId} {τ:Type} {e:Enc τ} {z:Value} {bytes:Nat} (g:P.underlying T=some (.slice E)) (h:TI P E z e.sz bytes) (f:St S w0 w os) :
  OpX P n L w ⟨d,.buildSlice T 0 #[],ty,pos,after,none⟩ (fun v w'=>St S w0 w' (own e v ([]:List τ) :: os)):=by
 obtain⟨m,hi,q,t,x⟩:=h.get
 refine fx (.slice (some ⟨w.heap.size,0,none⟩) 0 0) (w.alloc (.cells #[] E)) (fun a y=>?_) ?_
 ·have i:(Array.map (fun _:Nat=>(default:Value)) (Array.range 0))=#[]:=Array.eq_empty_of_size_eq_zero (by simp)
  simp[execOp,Instr.buildSlice,run_underlying g,sizeOf,typeInfo,hi,Instr.fill,newRow,i]
 ·refine f.push (Fr.alloc _ _ _) (o:=own e _ _) ?_ ?_
  ·exact⟨by simp,.inr ⟨w.heap.size,0,#[],E,rfl,f.fresh,Row.new w _ _,Nat.le_refl _,by simp[maxLen],by simp,by simp⟩⟩
  ·intro k j
   simp[OE.blk,Value.ownBlock]at j
   omega
def SV.of (v:Value):SV:=match v with
 | .slice a n c=>⟨a,n,c⟩
 | _=>⟨none,0,0⟩
theorem RO.sv {τ:Type} {e:Enc τ} {v:Value} {l:List τ} (h:RO w e v l):(SV.of v).v=v:=by
 obtain⟨a,c,rfl,_⟩:=h; rfl
theorem RO.svrp {τ:Type} {e:Enc τ} {v:Value} {l:List τ} (h:RO w e v l):RP [] w e (SV.of v).v l:=by rw[h.sv]; exact h.rp
theorem RP.sv {τ:Type} {e:Enc τ} {v:Value} {l:List τ} (h:RP S w e v l):RP S w e (SV.of v).v l:=by rw[h.1.sv]; exact h
theorem eQ {v:Value} {r:List SV} {vs:List Value} (h:(SV.of v).v=v) (f:eV.fl r=vs):eV.fl (SV.of v :: r)=v :: vs:=by
 rw[<-f]
 show [(SV.of v).v]++eV.fl r=v :: eV.fl r
 rw[h]; rfl
def gU (S:L2) (w:World) {τ:Type} (e:Enc τ):List SV->List (List τ)->Prop
 | [],[]=>True
 | s :: r,l :: m=>RP S w e s.v l/\gU S w e r m
 | _,_=>False
theorem gU.len {τ:Type} {e:Enc τ}:∀{s:List SV} {m:List (List τ)},gU S w e s m->s.length=m.length
 | [],[],_=>rfl
 | _ :: _,_ :: _,h=>by simp[gU.len h.2]
theorem gU.nth {τ:Type} {e:Enc τ}:∀{s:List SV} {m:List (List τ)},gU S w e s m->∀{i:Nat} {l:List τ},m[i]? = some l->∃v,s[i]? = some v/\RP S w e v.v l
 | [],[],_,i,l,hi=>by simp at hi
 | a :: r,b :: m,h,0,l,hi=>by simp at hi; subst hi; exact⟨a,rfl,h.1⟩
 | a :: r,b :: m,h,i+1,l,hi=>by simpa using gU.nth h.2 (by simpa using hi)
theorem gU.get {τ:Type} {e:Enc τ} {s:List SV} {m:List (List τ)} (h:gU S w e s m) {i:Int} {l:List τ} (hi:aA m i=some l):∃v,aA s i=some v/\RP S w e v.v l:=by
 obtain⟨f,_,g⟩:=ew hi
 obtain⟨v,j,k⟩:=h.nth g
 exact⟨v,by simp[aA,f,j],k⟩
theorem r8 {x:Operand} {T E:TypeId} {τ:Type} {v:Value} {s:List SV} {m:List (List τ)} (f:P.underlying T=some (.slice E)) (g:L.ev x=some v) (h:RO w eV v s) (i:s.length=m.length) :
  OpV P n L w ⟨d,.call ⟨.builtin .len,#[x],#[T]⟩,ty,pos,after,none⟩ (vI m.length) w:=by
 have:=aC (n:=n) (d:=d) (ty:=ty) (pos:=pos) (after:=after) f g h
 rwa [i]at this
section
variable {T E:TypeId} {τ:Type} {e:Enc τ} {v:Value} {l r:List τ} {z0:Value} {bytes:Nat}
end
theorem BX (T:TypeId) (x y:Bool) {D:TypeDesc} (f:P.underlying T=some D) (g:D=.bool):cl P .eql T (vB x) (vB y) (vB (x == y)):=fun _ _ w=>by
 subst g
 have h:∀k,(Op.equalIn (k+1) T (vB x) (vB y)).run P w=.ok (x == y) w:=fun k=>by simp[Op.equalIn,run_underlying f]
 have i:(Op.equal T (vB x) (vB y)).run P w=.ok (x == y) w:=h 9999
 simp[eqGuard,binOp,i]
theorem nL (T:TypeId) (x y:Bool) {D:TypeDesc} (f:P.underlying T=some D) (g:D=.bool):cl P .neq T (vB x) (vB y) (vB (x != y)):=fun _ _ w=>by
 subst g
 have h:∀k,(Op.equalIn (k+1) T (vB x) (vB y)).run P w=.ok (x == y) w:=fun k=>by simp[Op.equalIn,run_underlying f]
 have i:(Op.equal T (vB x) (vB y)).run P w=.ok (x == y) w:=h 9999
 simp[eqGuard,binOp,i,bne]
end
end Go.Gk
end

section
namespace Go.Gk
section
variable {P:Program} {n:Nat} {L:Env} {w w0:World} {Q:Exit->Act->World->Prop}
variable {d:Option Nat} {ty:TypeId} {pos:String} {after:Array Edge}
theorem xA {o:Oper} {x:Operand} {f:FuncId} {xs:List Operand} {i:Array TypeId} {vs g:List Value} {a:Act} (j:o.op=.call ⟨.value x,xs.toArray,i⟩)
  (k:a.eval x=.func (.func f) #[] g.toArray) (m:gE P f=true) (h:xs.map a.eval=vs):(execOp a.eval o).run P w=.ok (.enter f (vs++g).toArray) w:=by
 simp only[execOp,j,resolve,k,Deferred.ofValue,Sem.run_bind,Sem.run_pure,Result.andThen_ok,invoke]
 have:(#[]++Array.map a.eval xs.toArray++g.toArray:Array Value)=(vs++g).toArray:=by simp[h]
 rw[this]
 exact mI m
end
end Go.Gk
namespace Go.Gk
section
variable {P:Program} {n:Nat} {L:Env} {w w0:World} {Q:Exit->Act->World->Prop} {S:L2} {os:List OE}
variable {d:Option Nat} {ty:TypeId} {pos:String} {after:Array Edge}
end
end Go.Gk
end

section
namespace Go.Gk
open Go Go.RowKit
theorem AI {a b:OE} (h:OE.dj a b):OE.dj b a:=by
 unfold OE.dj at *
 intro k g f
 exact h k f g
theorem St.perm {S:L2} {w0 w:World} {os os':List OE} (h:St S w0 w os) (f:os.Perm os'):St S w0 w os':=
 ⟨h.fr,fun o i=>h.ok o (f.mem_iff.2 i),(f.pairwise_iff (fun {a b} g=>AI g)).1 h.dj⟩
theorem St.tail {S:L2} {w0 w:World} {l os:List OE} (h:St S w0 w (l++os)):St S w0 w os:=
 ⟨h.fr,fun o f=>h.ok o (List.mem_append_right _ f),(List.pairwise_append.1 h.dj).2.1⟩
section
variable {P:Program} {ops:Array Oper} {Q:Exit->Act->World->Prop} {nw:Nat->Bool} {S:L2} {w0:World} {os:List OE} {ent:Nat->Value->OE} {news:L2}
variable {n:Nat} {L:Env}
end
end Go.Gk
end

section
namespace Go.Gk
open Go Go.RowKit
section
variable {P:Program} {n:Nat} {L:Env} {w w' w0:World} {Q:Exit->Act->World->Prop} {S:L2} {os os0 os1:List OE}
variable {d:Option Tmp} {ty:TypeId} {pos:String} {after:Array Edge}
def twE {τ:Type} (e:Enc τ) (va:Value) (la:List τ) (q:Nat):OE:=if q=0 then red e (.slice none 0 0) ([]:List τ) else red e va la
def Tw {τ:Type} (va:Value) (la:List τ) (v:Value) (l:List τ) (q:Nat):Prop:=
 q=0->∃a c c' t,va=.slice a la.length c/\la.length<=c/\v=.slice a l.length c'/\l=la++t
theorem Tw.ro {τ:Type} {e:Enc τ} {g v:Value} {i l:List τ} {q:Nat} {B:Nat} (h:Tw g i v l q) (k:(twE e g i q).ok S B w) (o:RO w e v l):RO w e g i:=by
 by_cases hq:q=0
 ·obtain⟨a,c,F,t,rfl,hc,rfl,rfl⟩:=h hq
  obtain⟨G,I,x,J,y⟩:=o
  injection x with e1 e2 e3
  subst e1
  refine⟨a,c,rfl,hc,fun z=>?_⟩
  obtain⟨b,off,A,f⟩:=y (by simp[z])
  refine⟨b,off,A,fun j u m=>f j u ?_⟩
  rw[e.fl_append,List.getElem?_append_left (List.getElem?_eq_some_iff.1 m).1]
  exact m
 ·unfold twE at k
  rw[if_neg hq]at k
  exact k.rro
theorem zJ {α:Type} {l:List α} {j:Nat} {x:α} (h:l[j]? = some x):l.set j x=l:=by
 apply List.ext_getElem?
 intro k
 rw[List.getElem?_set]
 split
 ·rename_i f
  subst f
  have:=(List.getElem?_eq_some_iff.1 h).1
  rw[if_pos this,h]
 ·rfl
theorem _root_.Eq.to {f:BinOp} {T:TypeId} {x y:Value} {b g:Bool} (h:b=g) (i:cl P f T x y (vB b)):cl P f T x y (vB g):=h ▸ i
end
end Go.Gk
end

section
namespace Go.Gk
open Go Go.RowKit
def isB (want:Bool):Value->Bool
 | .bool b=>b == want
 | _=>false
def zT (op:BinOp) (x y:Int):Option Value:=match op with
 | .add=>some (vI (wI (x+y)))
 | .sub=>some (vI (wI (x - y)))
 | .eql=>some (vB (x == y))
 | .neq=>some (vB (x != y))
 | .lss=>some (vB (decide (x<y)))
 | .leq=>some (vB (decide (x<=y)))
 | .gtr=>some (vB (decide (y<x)))
 | .geq=>some (vB (decide (y<=x)))
 | _=>none
def kO (L:Env):Op->Option Value
 | .move x=>L.ev x
 | .assign x=>L.ev x
 | .pick c x y=>match L.ev c with
  | some (.bool true)=>L.ev x
  | some (.bool false)=>L.ev y
  | _=>none
 | .extract x i=>match L.ev x with
  | some (.tuple vs)=>vs.toList[i]?
  | _=>none
 | .unOp op _ x=>match op,L.ev x with
  | .not,some (.bool b)=>some (vB (!b))
  | _,_=>none
 | .binOp op _ x y _=>match L.ev x,L.ev y with
  | some (.int .i64 a),some (.int .i64 b)=>zT op a b
  | _,_=>none
 | _=>none
def oQ (ops:Array Oper) (n:Nat):Nat->Env->List Oper->Option (Env×List Oper)
 | 0,L,l=>some (L,l)
 | m+1,L,o :: l=>match o.dst with
  | none=>none
  | some d=>bif Nat.blt d n then
   match o.guard with
   | none=>match kO L o.op with
    | some v=>oQ ops n m ((d,v) :: L) l
    | none=>none
   | some (j,want)=>match (ops[j]?).bind (·.dst) with
    | none=>none
    | some t=>match L.get t with
     | none=>none
     | some v=>bif isB want v then (match kO L o.op with
      | some u=>oQ ops n m ((d,u) :: L) l
      | none=>none) else oQ ops n m ((d,undef) :: L) l
   else none
 | _+1,_,[]=>none
section
variable {P:Program} {n:Nat} {L:Env} {w:World} {Q:Exit->Act->World->Prop}
theorem BJ {f:BinOp} {T:TypeId} {x y:Int} {v:Value} (h:zT f x y=some v):cl P f T (vI x) (vI y) v:=by
 cases f <;> simp only[zT]at h <;> first | (cases h; fail) | (injection h with h; subst h; first | exact B6 _ _ _ | exact tX _ _ _ | exact CD _ _ _ | exact CE _ _ _ | exact Cs _ _ _ | exact CG _ _ _ | exact Ck _ _ _ | exact Cr _ _ _) | cases h
theorem ol {d:Option Tmp} {f:Op} {v:Value} {ty:TypeId} {pos:String} {after:Array Edge} (h:kO L f=some v):OpV P n L w ⟨d,f,ty,pos,after,none⟩ v w:=by
 unfold kO at h
 split at h
 ·exact gY h
 ·exact ba h
 ·split at h
  ·rename_i e; exact xK e h
  ·rename_i e; exact yK e h
  ·cases h
 ·split at h
  ·rename_i e
   refine uB e ?_
   rw[<-Array.getElem?_toList]; exact h
  ·cases h
 ·split at h
  ·rename_i e; cases h; exact jV e (CX _)
  ·cases h
 ·split at h
  ·rename_i g i; exact aj g i (BJ h)
  ·cases h
 ·cases h
theorem aa {ops:Array Oper}:∀(m:Nat) {L i:Env} {rest f:List Oper},oQ ops n m L rest=some (i,f)->wpR P n ops Q f i w->wpR P n ops Q rest L w
 | 0,L,i,rest,f,h,k=>by simp only[oQ]at h; cases h; exact k
 | m+1,L,i,[],f,h,k=>by simp[oQ]at h
 | m+1,L,i,o :: l,f,h,k=>by
  obtain⟨dst,y,ty,pos,after,x⟩:=o
  simp only[oQ]at h
  cases dst with
  | none=>cases h
  | some d=>
   simp only at h
   cases hd:Nat.blt d n with
   | false=>rw[hd]at h; cases h
   | true=>
    rw[hd]at h
    simp only[cond_true]at h
    cases x with
    | none=>
     simp only at h
     cases hv:kO L y with
     | none=>rw[hv]at h; cases h
     | some v=>rw[hv]at h; exact ag (ol hv) hd (aa m h k)
    | some g=>
     obtain⟨j,q⟩:=g
     simp only at h
     cases hj:(ops[j]?).bind (·.dst) with
     | none=>rw[hj]at h; cases h
     | some t=>
      rw[hj]at h
      simp only at h
      cases hg:L.get t with
      | none=>rw[hg]at h; cases h
      | some v=>
       rw[hg]at h
       simp only at h
       cases hb:isB q v with
       | true=>
        rw[hb]at h
        simp only[cond_true]at h
        have z:v=vB q:=by
         cases v <;> simp[isB]at hb
         subst hb; rfl
        subst z
        cases hv:kO L y with
        | none=>rw[hv]at h; cases h
        | some u=>rw[hv]at h; exact bB hj hg (ol hv) hd (aa m h k)
       | false=>
        rw[hb]at h
        simp only[cond_false]at h
        intro a A
        unfold wpList
        rw[if_neg (by
         have:=A.get t _ hg
         simp only[Region.wanted,yielded,hj,Option.bind_some,this]
         cases v <;> simp_all [isB])]
        exact aa m h k _ (A.put hd)
def p7 (ops:Array Oper) (fl:Nat->Bool) (n:Nat):Nat->Env->L2->Option (Env×L2)
 | 0,L,l=>some (L,l)
 | m+1,L,i :: l=>match ops[i]? with
  | some ⟨some d,op,_,_,_,none⟩=>bif fl i&&Nat.blt d n then (match kO L op with
   | some v=>p7 ops fl n m ((d,v) :: L) l
   | none=>none) else none
  | _=>none
 | _+1,_,[]=>none
theorem ao {P:Program} {n:Nat} {w:World} {Q:Exit->Act->World->Prop} {ops:Array Oper} {C D:World->Prop} {fl:Nat->Bool}:∀(m:Nat) {L f:Env} {l g:L2},p7 ops fl n m L l=some (f,g)->C w->lxE P n ops C D Q fl g f w->lxE P n ops C D Q fl l L w
 | 0,L,f,l,g,h,hC,k=>by simp only[p7]at h; cases h; exact k
 | m+1,L,f,[],g,h,hC,k=>by simp[p7]at h
 | m+1,L,f,i :: l,g,h,hC,k=>by
  simp only[p7]at h
  split at h
  ·rename_i d j ty pos after o
   cases hb:fl i&&Nat.blt d n with
   | false=>rw[hb]at h; cases h
   | true=>
    rw[hb]at h
    simp only[cond_true]at h
    rw[Bool.and_eq_true]at hb
    cases hv:kO L j with
    | none=>rw[hv]at h; cases h
    | some v=>rw[hv]at h; exact ai hC o hb.1 (fun w _=>ol hv) hb.2 (ao m h hC k)
  ·cases h
end
end Go.Gk
end
