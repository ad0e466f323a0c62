import Derived.Test.YtmegjloifgfldaaGreatDoorGkC
import Derived.Laws.CopyRow
import Derived.Laws.StructEq
import Derived.Lib.AppendStr
set_option linter.unusedVariables false
set_option linter.unusedSimpArgs false
set_option linter.unusedSectionVars false

section
namespace Go.Gk
open Go Go.RowKit
section
variable {P:Program} {n:Nat} {L:Env} {w w0:World} {Q:Exit->Act->World->Prop} {S:Q2} {os:List OE}
variable {d:Option Tmp} {ty:TypeId} {pos:String} {after:Array Edge}
abbrev pB (b off:Nat):Value:=.pointer (some ⟨b,off,none⟩)
theorem mX (b off k:Nat):(⟨b,off,none⟩:Addr).add k=⟨b,off+k,none⟩:=by unfold Addr.add; split <;> simp_all
theorem u6 (h:St S w0 w os) (cs:Array Value) (E:TypeId):St S w0 (w.alloc (.cells cs E)) (.bx w.heap.size cs.toList :: os):=by
 refine h.push (Fr.alloc _ _ _) ⟨h.fresh,E,cs,heap_alloc_new w _,rfl⟩ fun k f=>?_
 simp[OE.blk]at f; omega
theorem bc {E:TypeId} {z:Value} {cs:List Value} (f:(P.info? E).map (·.zero)=some (some z)) (g:z.cells.toList=cs) (h:St S w0 w os) :
  OpX P n L w ⟨d,.alloc E,ty,pos,after,none⟩ (fun v w'=>∃b,v=pB b 0/\St S w0 w' (.bx b cs :: os)):=by
 refine ez (pB w.heap.size 0) (w.alloc (.cells z.cells E)) (fun a ha=>?_) ⟨_,rfl,g ▸ u6 h _ _⟩
 cases hi:P.info? E with
 | none=>rw[hi]at f; cases f
 | some i=>
  rw[hi]at f
  simp only[Option.map_some,Option.some.injEq]at f
  simp[execOp,Instr.alloc,zeroValue,typeInfo,hi,f,newVar,newRow]
theorem cy {E:TypeId} {x:Operand} {v:Value} {cs:List Value} (hx:L.ev x=some v) (f:v.cells.toList=cs) (g:St S w0 w os) :
  OpX P n L w ⟨d,.box E x,ty,pos,after,none⟩ (fun v w'=>∃b,v=pB b 0/\St S w0 w' (.bx b cs :: os)):=by
 refine ez (pB w.heap.size 0) (w.alloc (.cells v.cells E)) (fun a ha=>?_) ⟨_,rfl,f ▸ u6 g _ _⟩
 simp[execOp,Instr.box,ha.ev hx,newVar,newRow]
theorem ak {s:TypeId} {x:Operand} {b off f k:Nat} {j:Array Field} {h:Field} (hs:P.underlying s=some (.struct j)) (o:j[f]? = some h) (t:h.offset=k) (g:(P.info? h.type).map (·.size == 0)=some false)
  (hx:L.ev x=some (pB b off)):OpV P n L w ⟨d,.fieldAddr s x f,ty,pos,after,none⟩ (pB b (off+k)) w:=fun a ha=>by
 cases hi:P.info? h.type with
 | none=>rw[hi]at g; cases g
 | some i=>
  have z:¬i.size=0:=by rw[hi]at g; simpa using g
  simp[execOp,Instr.fieldAt,ha.ev hx,run_underlying hs,o,Instr.sureAddr,fieldPlace,sizeOf,typeInfo,hi,z,mX,t]
theorem gH {T E:TypeId} {m:Nat} {x y:Operand} {b off:Nat} {k:IntKind} {i:Int} {g:Nat} (h:P.underlying T=some (.array m E)) (f:(P.info? E).map (·.size)=some g)
  (hx:L.ev x=some (pB b off)) (hy:L.ev y=some (.int k i)) (j:0<=i) (o:i<(m:Int)):OpV P n L w ⟨d,.indexAddr T x y,ty,pos,after,none⟩ (pB b (off+i.toNat*g)) w:=fun a ha=>by
 cases hi:P.info? E with
 | none=>rw[hi]at f; cases f
 | some inf=>
  have hs:inf.size=g:=by rw[hi]at f; simpa using f
  simp[execOp,Instr.indexAt,ha.ev hx,ha.ev hy,asIntOf,run_underlying h,Instr.sureAddr,j,o,sizeOf,typeInfo,hi,hs,mX]
theorem aK {x:Operand} {b off:Nat} (hx:L.ev x=some (pB b off)):OpV P n L w ⟨d,.nilCheck x,ty,pos,after,none⟩ (pB b off) w:=fun a ha=>by
 simp[execOp,ha.ev hx]
theorem St.bxc (h:St S w0 w os) (i:Nat) {b:Nat} {cs:List Value} (hi:os[i]? = some (.bx b cs)) (k:Nat):w.cell? ⟨b,k,none⟩=cs[k]?:=by
 obtain⟨_,T,f,hg,g⟩:=h.ok _ (List.mem_of_getElem? hi)
 rw[cell_of_row w b k f T (0,0) hg,<-g]; simp
theorem ar {T:TypeId} {D:TypeDesc} {x:Operand} {b off:Nat} {u:Value} (g:P.underlying T=some D) (h:(match D with | .struct _ | .array _ _=>true | _=>false)=false)
  (hx:L.ev x=some (pB b off)) (hc:w.cell? ⟨b,off,none⟩=some u):OpV P n L w ⟨d,.load T x,ty,pos,after,none⟩ u w:=fun a ha=>by
 have f:(isAgg T).run P w=.ok false w:=by
  unfold isAgg
  rw[Sem.run_bind,run_underlying g w]
  cases D <;> simp_all
 simp[execOp,Instr.loadAt,ha.ev hx,Instr.sureAddr,loadVar,f,hc]
theorem bO {T:TypeId} {D:TypeDesc} {x:Operand} {b off:Nat} {us:List Value} (g:P.underlying T=some D) (k:(match D with | .struct _ | .array _ _=>true | _=>false)=true)
  (hi:(P.info? T).map (·.size)=some us.length) (hx:L.ev x=some (pB b off)) (hc:∀j u,us[j]? = some u->w.cell? ⟨b,off+j,none⟩=some u) :
  OpV P n L w ⟨d,.load T x,ty,pos,after,none⟩ (.agg us.toArray) w:=fun a ha=>by
 have f:(isAgg T).run P w=.ok true w:=by
  unfold isAgg
  rw[Sem.run_bind,run_underlying g w]
  cases D <;> simp_all
 cases hq:P.info? T with
 | none=>simp[hq]at hi
 | some i=>
  have hs:i.size=us.length:=by simpa [hq] using hi
  have hl:(loadCells ⟨b,off,none⟩ us.length).run P w=.ok us.toArray w:=
   run_loadCells_list (P:=P) w ⟨b,off,none⟩ us (fun j v h=>by rw[mX]; exact hc j v h)
  simp[execOp,Instr.loadAt,ha.ev hx,Instr.sureAddr,loadVar,f,sizeOf,typeInfo,hq,hs,hl]
theorem St.bxs (h:St S w0 w os) (i:Nat) {b:Nat} {cs us:List Value} {off:Nat} (hi:os[i]? = some (.bx b cs)) (g:(cs.drop off).take us.length=us):∀j u,us[j]? = some u->w.cell? ⟨b,off+j,none⟩=some u:=by
 intro j u f
 rw[h.bxc i hi]
 rw[<-g,List.getElem?_take]at f
 split at f
 ·simpa using f
 ·cases f
def Bc:List Value->Prop
 | []=>True
 | v :: r=>v.oneCell'=true/\Bc r
theorem tX:∀{l:List Value},Bc l->∀v∈l,v.oneCell'=true
 | [],_,v,f=>by cases f
 | u :: r,h,v,f=>by
  rcases List.mem_cons.1 f with rfl | f
  ·exact h.1
  ·exact tX h.2 v f
def spl (cs:List Value) (off:Nat) (us:List Value):List Value:=cs.take off++us++cs.drop (off+us.length)
theorem St.setB (h:St S w0 w os) {i b off:Nat} {cs us:List Value} (hi:os[i]? = some (.bx b cs)) :
  ∃T f,w.heap[b]? = some (.cells f T (0,0))/\f.toList=cs/\St S w0 (w.setRow b (f.toList.take off++us++f.toList.drop (off+us.length)).toArray) (os.set i (.bx b (spl cs off us))):=by
 have j:=h.ok _ (List.mem_of_getElem? hi)
 obtain⟨o,T,f,hg,g⟩:=j
 refine⟨T,f,hg,g,?_⟩
 refine h.set hi (o':=.bx b (spl cs off us)) (Fr.setRow w b _) ⟨o,T,_,setRow_heap w b f _ T (0,0) hg,?_⟩ fun k t=>.inl t
 subst g
 simp[spl]
theorem bp {T:TypeId} {x y:Operand} {b off i:Nat} {v:Value} {cs us:List Value} (hi:os[i]? = some (.bx b cs)) (f:(P.info? T).map (·.size)=some us.length)
  (hx:L.ev x=some (pB b off)) (hy:L.ev y=some v) (j:v.cells.toList=us) (A:Bc us) (hl:Nat.ble (off+us.length) cs.length=true) (B:St S w0 w os) :
  OpY P n L w ⟨none,.store T x y,ty,pos,after,none⟩ (fun w'=>St S w0 w' (os.set i (.bx b (spl cs off us)))):=by
 obtain⟨F,g,hg,k,o⟩:=B.setB (off:=off) (us:=us) hi
 refine sc _ (fun a ha=>?_) o
 cases hq:P.info? T with
 | none=>simp[hq]at f
 | some inf=>
  have hs:inf.size=us.length:=by simpa [hq] using f
  have t:off+0+us.length<=g.size:=by
   have:=Nat.le_of_ble_eq_true hl
   rw[<-k]at this; simpa using this
  have h:=run_storeCells_at P b off F us 0 g w hg t (tX A)
  have z:v.cells.size=us.length:=by rw[<-j]; simp
  simp only[Nat.add_zero]at h
  simp[execOp,Instr.storeAt,ha.ev hx,ha.ev hy,Instr.sureAddr,storeVar,sizeOf,typeInfo,hq,hs,j,z,h]
theorem _root_.Go.Gk.RO.one {τ:Type} {e:Enc τ} {v:Value} {l:List τ} (h:RO w e v l):v.oneCell'=true:=by
 obtain⟨a,c,rfl,_⟩:=h; rfl
theorem bQ {v:Value} (h:v.oneCell'=true):v.cells.toList=[v]:=by cases v <;> simp_all [Value.cells,Value.oneCell']
def gV (P:Program) (T:TypeId):Option (List (Nat×Nat)×List Value):=
 match P.info? T,P.underlying T with
 | some it,some (.array m e)=>
  match it.zero,P.info? e with
  | some z,some ie=>some ((List.range m).map fun i=>(i*ie.size,ie.size),z.cells.toList)
  | _,_=>none
 | some it,some (.struct fields)=>
  match it.zero,fields.toList.mapM (fun f=>(P.info? f.type).map fun i=>(f.offset,i.size)) with
  | some z,some places=>some (places,z.cells.toList)
  | _,_=>none
 | _,_=>none
def oF (pl:List (Nat×Nat)):List Value->List (Nat×Value×List Value)->Option (List Value)
 | cs,[]=>some cs
 | cs,(i,_,us) :: r=>match pl[i]? with
  | some (off,sz)=>if Nat.beq us.length sz&&Nat.ble (off+us.length) cs.length then oF pl (spl cs off us) r else none
  | none=>none
theorem tg:∀(us:List Value) (off k:Nat) (cs:Array Value),off+k+us.length<=cs.size ->
  (us.zipIdx k).foldl (fun cs (x:Value×Nat)=>cs.setIfInBounds (off+x.2) x.1) cs=(spl cs.toList (off+k) us).toArray
 | [],off,k,cs,_=>by simp[spl]
 | u :: r,off,k,cs,h=>by
  have f:=tg r off (k+1) (cs.setIfInBounds (off+k) u) (by simp at h ⊢; omega)
  rw[List.zipIdx_cons,List.foldl_cons,f]
  congr 1
  unfold spl
  have e:=list_seg_step cs.toList (off+k) u r (by simp at h ⊢; omega)
  simpa [Array.toList_setIfInBounds,Nat.add_assoc] using e
theorem vw {place:Nat->Option (Nat×Nat)} {g:List (Nat×Nat)} (hpl:∀i x,g[i]? = some x->place i=some x):∀(j:List (Nat×Value×List Value)) (cs f:List Value),
  (∀p∈j,p.2.1.cells.toList=p.2.2)->oF g cs j=some f->Instr.fill place cs.toArray (j.map fun p=>(p.1,p.2.1))=some f.toArray
 | [],cs,f,_,h=>by simp[oF]at h; simp[Instr.fill,h]
 | (i,v,us) :: r,cs,f,hc,h=>by
  simp only[oF]at h
  cases hi:g[i]? with
  | none=>rw[hi]at h; cases h
  | some x=>
   obtain⟨off,F⟩:=x
   rw[hi]at h
   simp only at h
   split at h
   ·rename_i hb
    simp only[Bool.and_eq_true]at hb
    have G:=Nat.eq_of_beq_eq_true hb.1
    have o:=Nat.le_of_ble_eq_true hb.2
    have k:v.cells.toList=us:=hc (i,v,us) (by simp)
    have B:v.cells.size=us.length:=by rw[<-k]; simp
    have t:=vw hpl r (spl cs off us) f (fun p z=>hc p (by simp[z])) h
    simp only[List.map_cons,Instr.fill,hpl i _ hi]
    rw[if_neg (by simp; omega)]
    have A:v.cells.zipIdx.foldl (fun cs (x:Value×Nat)=>cs.setIfInBounds (off+x.2) x.1) cs.toArray=(spl cs off us).toArray:=by
     have:=tg us off 0 cs.toArray (by simpa using o)
     simp only[Nat.add_zero]at this
     rw[<-this,<-Array.foldl_toList]
     simp[Array.toList_zipIdx,k]
    rw[A]
    exact t
   ·cases h
theorem Dx {T:TypeId} {k:List (Nat×Nat)} {z h:List Value} {j:List (Nat×Value×List Value)} (g:gV P T=some (k,z)) (hc:∀p∈j,p.2.1.cells.toList=p.2.2) (o:oF k z j=some h) :
  P.built T (j.map fun p=>(p.1,p.2.1))=some h.toArray:=by
 unfold gV at g
 unfold Program.built
 cases hi:P.info? T with
 | none=>rw[hi]at g; cases g
 | some it=>
  cases hu:P.underlying T with
  | none=>rw[hi,hu]at g; cases g
  | some D=>
   rw[hi,hu]at g
   cases D with
   | array m e=>
    simp only at g ⊢
    cases hz:it.zero with
    | none=>rw[hz]at g; cases g
    | some z0=>
     cases he:P.info? e with
     | none=>rw[hz,he]at g; cases g
     | some ie=>
      rw[hz,he]at g
      simp only[Option.some.injEq,Prod.mk.injEq]at g
      obtain⟨rfl,rfl⟩:=g
      simp only
      have:=vw (place:=fun i=>some (i*ie.size,ie.size)) (fun i x hx=>by
       rw[List.getElem?_map]at hx
       by_cases hm:i<m
       ·rw[List.getElem?_range hm]at hx; simpa using hx
       ·rw[List.getElem?_eq_none (by simp; omega)]at hx; cases hx) j _ h hc o
      simpa using this
   | struct fields=>
    simp only at g ⊢
    cases hz:it.zero with
    | none=>rw[hz]at g; cases g
    | some z0=>
     cases hp:fields.toList.mapM (fun f=>(P.info? f.type).map fun i=>(f.offset,i.size)) with
     | none=>rw[hz,hp]at g; cases g
     | some places=>
      rw[hz,hp]at g
      simp only[Option.some.injEq,Prod.mk.injEq]at g
      obtain⟨rfl,rfl⟩:=g
      simp only
      have:=vw (place:=fun i=>places.toArray[i]?) (fun i x hx=>by simpa using hx) j _ h hc o
      simpa using this
   | _=>cases g
def rG:List (Nat×Value×List Value)->Prop
 | []=>True
 | p :: r=>p.2.1.cells.toList=p.2.2/\rG r
theorem pD:∀{l:List (Nat×Value×List Value)},rG l->∀p∈l,p.2.1.cells.toList=p.2.2
 | [],_,v,f=>by cases f
 | u :: r,h,v,f=>by
  rcases List.mem_cons.1 f with rfl | f
  ·exact h.1
  ·exact pD h.2 v f
theorem bR {T:TypeId} {f:List (Nat×Operand)} {vs:List (Nat×Value×List Value)} {j:List (Nat×Nat)} {z cells:List Value} (g:(f.map fun p=>(L.ev p.2).map fun v=>(p.1,v))=vs.map (fun p=>some (p.1,p.2.1)))
  (i:gV P T=some (j,z)) (hc:rG vs) (k:oF j z vs=some cells) :
  OpV P n L w ⟨d,.build T f.toArray,ty,pos,after,none⟩ (.agg cells.toArray) w:=fun a ha=>by
 have he:f.map (fun p=>(p.1,a.eval p.2))=vs.map (fun p=>(p.1,p.2.1)):=by
  clear hc k
  induction f generalizing vs with
  | nil=>cases vs <;> simp_all
  | cons p r ih=>
   cases vs with
   | nil=>simp at g
   | cons v s=>
    simp only[List.map_cons,List.cons.injEq]at g
    obtain⟨h,o⟩:=g
    cases hp:L.ev p.2 with
    | none=>rw[hp]at h; cases h
    | some u=>
     rw[hp]at h
     simp only[Option.map_some,Option.some.injEq]at h
     simp[ha.ev hp,h,ih o]
 have t:=run_build (P:=P) w T (f.toArray.map fun x=>(x.1,a.eval x.2)) cells.toArray (by
  have:=Dx i (pD hc) k
  simpa [he] using this)
 simp only[execOp,Sem.run_bind,t,Result.andThen_ok]; rfl
theorem jh {T E:TypeId} {m:Nat} {x y:Operand} {cs:Array Value} {k:IntKind} {i:Int} {g:Nat} {u:Value} {D:TypeDesc} (j:P.underlying T=some (.array m E)) (o:P.underlying E=some D)
  (B:(match D with | .struct _ | .array _ _=>true | _=>false)=false) (f:(P.info? E).map (·.size)=some g)
  (hx:L.ev x=some (.agg cs)) (hy:L.ev y=some (.int k i)) (t:0<=i) (z:i<(m:Int)) (A:cs[i.toNat*g]? = some u):OpV P n L w ⟨d,.index T x y,ty,pos,after,none⟩ u w:=fun a ha=>by
 have h:(isAgg E).run P w=.ok false w:=by
  unfold isAgg
  rw[Sem.run_bind,run_underlying o w]
  cases D <;> simp_all
 cases hi:P.info? E with
 | none=>rw[hi]at f; cases f
 | some inf=>
  have hs:inf.size=g:=by rw[hi]at f; simpa using f
  simp[execOp,Instr.index,ha.ev hx,ha.ev hy,asIntOf,run_underlying j,t,z,sizeOf,typeInfo,hi,hs,part,h,A]
end
end Go.Gk
end

section
namespace Go.Gk
open Go Go.RowKit
section
variable {P:Program} {n:Nat} {L:Env} {w w0:World} {Q:Exit->Act->World->Prop} {S:Q2} {os:List OE}
variable {d:Option Tmp} {ty:TypeId} {pos:String} {after:Array Edge}
theorem St.trunc {τ:Type} {e:Enc τ} {v:Value} {l:List τ} {i k:Nat} (h:St S w0 w os) (hi:os[i]? = some (own e v l)) (I:k<=l.length):St S w0 w (os.set i (own e (slV v e.sz 0 k) (l.take k))):=by
 have z:=h.ok _ (List.mem_of_getElem? hi)
 have j:(l.take k).length=k:=by simp; omega
 refine h.set hi (o':=own e _ _) (Fr.refl _ _) ⟨e.fl_length _,?_⟩ ?_
 ·rcases z.2 with⟨rfl,hn⟩ | ⟨g,f,A,T,rfl,B,hg,J,F,G,o⟩
  ·left
   have:k=0:=by omega
   subst this
   simp[slV]
  ·right
   refine⟨g,f,A,T,?_,B,hg,by omega,F,G,?_⟩
   ·rw[j]
    by_cases hc:f=0
    ·simp[slV,hc]
    ·simp[slV,hc,Addr.add]
   ·rw[j,e.fl_take,<-o,List.take_take]
    congr 1
    have:=Nat.mul_le_mul_right e.sz I
    omega
 ·intro q t
  left
  rcases z.2 with⟨rfl,hn⟩ | ⟨g,f,A,T,rfl,_⟩
  ·simp[OE.blk,slV,Value.ownBlock]at t
  ·simp only[OE.blk]at t ⊢
   by_cases hc:f=0
   ·simpa [slV,hc,Value.ownBlock] using t
   ·simpa [slV,hc,Value.ownBlock,Addr.add] using t
end
end Go.Gk
end

section
namespace Go.Gk
open Go Go.RowKit Go.Lib
section
variable {P:Program} {n:Nat} {L:Env} {w w' w0:World} {Q:Exit->Act->World->Prop} {S:Q2} {os os0 os1:List OE}
variable {d:Option Tmp} {ty:TypeId} {pos:String} {after:Array Edge}
def dw (os:List OE):Q2:=os.filterMap OE.blk
theorem ch {k:Nat}:k∈dw os↔∃o∈os,o.blk=some k:=by simp[dw,List.mem_filterMap]
theorem OE.ok.re {S j:Q2} {B t:Nat} {o:OE} (h:o.ok S B w) (hb:∀k,o.blk=some k->fre S B k->fre j t k):o.ok j t w:=by
 cases o with
 | sl v sz n cs=>
  refine⟨h.1,?_⟩
  rcases h.2 with hn | ⟨g,z,A,T,rfl,i,rest⟩
  ·exact .inl hn
  ·exact .inr ⟨g,z,A,T,rfl,hb g rfl i,rest⟩
 | rd v sz n cs=>
  obtain⟨hl,a,c,rfl,hc,hx⟩:=h
  refine⟨hl,a,c,rfl,hc,fun hn=>?_⟩
  obtain⟨b,off,rfl,F,i,f⟩:=hx hn
  exact⟨b,off,rfl,F,hb b (by simp[OE.blk,hn,Value.ownBlock]) i,f⟩
 | bx b cs=>exact⟨hb b rfl h.1,h.2⟩
theorem St.give (h:St S w0 w (os0++os)):St (dw os0) w w os0:=
 ⟨Fr.refl _ _,fun o f=>(h.ok o (List.mem_append_left _ f)).re fun k g _=>.inr (ch.2 ⟨o,f,g⟩),(List.pairwise_append.1 h.dj).1⟩
theorem St.back (h:St S w0 w (os0++os)) (i:St (dw os0) w w' os1):St S w0 w' (os1++os):=by
 have j:∀k,fre (dw os0) w.heap.size k->fre S w0.heap.size k:=by
  intro k f
  rcases f with f | f
  ·exact .inl (Nat.le_trans h.fr.size f)
  ·obtain⟨o,g,hb⟩:=ch.1 f
   exact ((h.ok o (List.mem_append_left _ g)).lt hb).2
 have hx:=(List.pairwise_append.1 h.dj).2
 refine⟨h.fr.step i.fr fun k f=>j k (.inr f),?_,?_⟩
 ·intro o g
  rcases List.mem_append.1 g with g | g
  ·exact (i.ok o g).re fun k _ G=>j k G
  ·refine (h.ok o (List.mem_append_right _ g)).fr i.fr fun k f hb=>?_
   obtain⟨p,t,A⟩:=ch.1 f
   exact hx.2 p t o g k A hb
 ·refine List.pairwise_append.2 ⟨i.dj,hx.1,fun o g p t k f z=>?_⟩
  have J:=((h.ok p (List.mem_append_right _ t)).lt z).1
  rcases ((i.ok o g).lt f).2 with B | B
  ·omega
  ·obtain⟨q,I,F⟩:=ch.1 B
   exact hx.2 q I p t k F z
theorem RP.give {τ:Type} {e:Enc τ} {v:Value} {l:List τ} (h:RP S w0 e v l) (A:0<e.sz) (i:St S w0 w (os0++os)):RP (dw os0) w e v l:=by
 refine⟨h.now i.fr,fun hl k B hb=>?_⟩
 obtain⟨o,F,j⟩:=ch.1 B
 have f:=((i.ok o (List.mem_append_left _ F)).lt j).2
 obtain⟨a,c,rfl,hc,G⟩:=h.1
 obtain⟨b,off,rfl,g⟩:=G hl
 have t:b=k:=by simpa [Value.ownBlock] using hb
 subst t
 rcases f with f | f
 ·have z:0<(e.fl l).length:=by
   rw[e.fl_length]
   exact Nat.mul_pos (List.length_pos_iff.2 hl) A
  have:=jw (g 0 _ (List.getElem?_eq_getElem z))
  simp only at this
  omega
 ·exact h.2 hl b f rfl
theorem St.giveO {τ:Type} {e:Enc τ} {v:Value} {l:List τ} (f:St S w0 w (os0++os)) (i:Nat) (hi:os[i]? = some (own e v l)):RP (dw os0) w e v l:=by
 have hm:=List.mem_of_getElem? hi
 refine⟨(f.ok _ (List.mem_append_right _ hm)).ro,fun hl k h hb=>?_⟩
 obtain⟨o,j,g⟩:=ch.1 h
 exact (List.pairwise_append.1 f.dj).2.2 o j _ hm k g hb
theorem RP.tk {τ:Type} {e:Enc τ} {v:Value} {l:List τ} (h:RP S w e v l) {k:Nat} (f:k<=l.length):RP S w e (slV v e.sz 0 k) (l.take k):=h.subh f
theorem OE.ok.red {S:Q2} {B:Nat} {τ:Type} {e:Enc τ} {v:Value} {l:List τ} (h:(own e v l).ok S B w):(red e v l).ok S B w:=by
 refine⟨h.1,?_⟩
 rcases h.2 with⟨rfl,hn⟩ | ⟨g,k,z,T,rfl,t,hg,o,A,F,f⟩
 ·exact⟨none,0,by rw[hn],by rw[hn]; exact Nat.le_refl _,fun h=>absurd hn h⟩
 ·refine⟨_,k,rfl,o,fun _=>⟨g,0,rfl,hg.lt,t,fun j u i=>?_⟩⟩
  rw[<-f,List.getElem?_take]at i
  split at i
  ·rw[Nat.zero_add,hg.cell j]
   simpa using i
  ·cases i
def Cm (u:Value) (o:Option (List Value)):Prop:=match o with
 | none=>u=.pointer none
 | some _=>∃b,u=pB b 0
def Ck (u:Value) (o:Option (List Value)):List OE:=match o,u with
 | some cs,.pointer (some a)=>[.bx a.block cs]
 | _,_=>[]
theorem yU {T E:TypeId} (f:P.underlying T=some (.pointer E)) (b off k:Nat) (w:World):(Op.equalIn (k+1) T (pB b off) (.pointer none)).run P w=.ok false w:=by
 simp[Op.equalIn,run_underlying f]
theorem Ct {T E:TypeId} (f:P.underlying T=some (.pointer E)) (k:Nat) (w:World):(Op.equalIn (k+1) T (.pointer none) (.pointer none)).run P w=.ok true w:=by
 simp[Op.equalIn,run_underlying f]
theorem uW {T E:TypeId} (f:P.underlying T=some (.pointer E)) (b off:Nat) (w:World):(Op.equal T (pB b off) (.pointer none)).run P w=.ok false w:=yU f b off 9999 w
theorem AF {T E:TypeId} (f:P.underlying T=some (.pointer E)) (w:World):(Op.equal T (.pointer none) (.pointer none)).run P w=.ok true w:=Ct f 9999 w
theorem nT {T E:TypeId} (f:P.underlying T=some (.pointer E)) (b off:Nat):bL P .neq T (pB b off) (.pointer none) (vB true):=fun _ _ w=>by
 simp[eqGuard,binOp,uW f]
theorem qJ {T E:TypeId} (f:P.underlying T=some (.pointer E)):bL P .neq T (.pointer none) (.pointer none) (vB false):=fun _ _ w=>by
 simp[eqGuard,binOp,AF f]
theorem uC {T E:TypeId} (f:P.underlying T=some (.pointer E)) (b off:Nat):bL P .eql T (pB b off) (.pointer none) (vB false):=fun _ _ w=>by
 simp[eqGuard,binOp,uW f]
theorem vr {T E:TypeId} (f:P.underlying T=some (.pointer E)):bL P .eql T (.pointer none) (.pointer none) (vB true):=fun _ _ w=>by
 simp[eqGuard,binOp,AF f]
theorem zE {T E:TypeId} (f:P.underlying T=some (.slice E)) (a:Option Addr) (n c k:Nat) (w:World):(Op.equalIn (k+1) T (.slice a n c) (.slice none 0 0)).run P w=.ok a.isNone w:=by
 cases a <;> simp[Op.equalIn,run_underlying f]
theorem xU {T E:TypeId} (f:P.underlying T=some (.slice E)) (a:Option Addr) (n c:Nat) (w:World):(Op.equal T (.slice a n c) (.slice none 0 0)).run P w=.ok a.isNone w:=zE f a n c 9999 w
theorem zZ {T E:TypeId} {a:Option Addr} {n c:Nat} (f:P.underlying T=some (.slice E)):bL P .neq T (.slice a n c) (.slice none 0 0) (vB (!a.isNone)):=fun _ _ w=>by
 simp[eqGuard,binOp,xU f]
theorem Dd {T E:TypeId} {a:Option Addr} {n c:Nat} (f:P.underlying T=some (.slice E)):bL P .eql T (.slice a n c) (.slice none 0 0) (vB a.isNone):=fun _ _ w=>by
 simp[eqGuard,binOp,xU f]
theorem pj (m:Q1):strCells ⟨⟨m⟩⟩=e8.fl m:=by rw[tO]; rfl
theorem i4 (t u ty e:TypeId) (i:TypeInfo) (B:P.underlying t=some (.slice e)) (F:P.underlying u=some .string) (hi:P.info? e=some i) (A:i.size=1)
  (g f j:Nat) (h:Array Value) (T:TypeId) (hg:Row w g h T) (s:ByteArray)
  (k:f+s.size<=j) (z:f+s.size<=h.size) :
  (Builtin.append_ #[t,u] ty #[.slice (some ⟨g,0,none⟩) f j,.string s]).run P w =
   .ok (.slice (some ⟨g,0,none⟩) (f+s.size) j) (w.setRow g (h.toList.take f++strCells s++h.toList.drop (f+s.size)).toArray):=by
 have G:=run_firstCells_string (P:=P) w 1 s
 have o:=ep P g f T (strCells s) 0 h w hg (by simpa [strCells_length] using z) (strCells_oneCell s)
 simp only[Nat.add_zero,strCells_length]at o
 simp[Builtin.append_,run_underlying B,run_underlying F,sizeOf,typeInfo,hi,A,Builtin.lenOf,k,G,Addr.add_lit,o]
theorem vl {f:Array Value} {a k:Nat} {us:List Value} (h:a+us.length<=f.size) (g:k=a+us.length):(f.toList.take a++us++f.toList.drop k).toArray.size=f.size:=by
 subst g
 simp only[List.size_toArray,List.length_append,List.length_take,List.length_drop,Array.length_toList]
 omega
theorem o8 {T U E ty:TypeId} {v:Value} {l m:Q1} {B:Nat} (I:P.underlying T=some (.slice E)) (J:P.underlying U=some .string) (hE:TI P E (.int .u8 0) 1 1)
  (ho:(own e8 v l).ok S B w) (hB:B<=w.heap.size) (hb:l.length+m.length<=225000000000000 / 1) :
  ∃v' w',(Builtin.append_ #[T,U] ty #[v,vS m]).run P w=.ok v' w'/\(own e8 v' (l++m)).ok S B w'/\Fr (own e8 v l).blk.toList w w'/\(∀k,(own e8 v' (l++m)).blk=some k->(own e8 v l).blk=some k\/w.heap.size<=k):=by
 obtain⟨F,hi,Z,hs,ab⟩:=hE.get
 have f:(⟨⟨m⟩⟩:ByteArray).size=m.length:=rfl
 have t:∀x:Q1,(e8.fl x).length=x.length:=fun x=>by rw[e8.fl_length]; exact Nat.mul_one _
 by_cases hm:m=[]
 ·subst hm
  have ac:(strCells ⟨⟨[]⟩⟩)=[]:=rfl
  rcases ho.2 with⟨rfl,hn⟩ | ⟨g,h,z,K,rfl,M,hg,N,O,G,i⟩
  ·have hl:l=[]:=List.eq_nil_of_length_eq_zero hn
   subst hl
   refine⟨.slice none 0 0,w,?_,by simpa using ho,Fr.refl _ _,fun k A=>.inl (by simpa using A)⟩
   have hf:=run_firstCells_string (P:=P) w 1 ⟨⟨[]⟩⟩
   rw[f]at hf
   simp only[List.length_nil]at hf
   simp[Builtin.append_,run_underlying I,run_underlying J,sizeOf,typeInfo,hi,hs,Builtin.lenOf,f,hf]
  ·have R:h<=z.size:=by simpa [e8] using G
   have o:=i4 (P:=P) (w:=w) T U ty E F I J hi hs g l.length h z K hg ⟨⟨[]⟩⟩ (by rw[f]; simpa using N) (by rw[f]; simp; omega)
   refine⟨_,_,o,⟨e8.fl_length _,.inr ⟨g,h,_,K,by simp[f],M,hg.set _ (vl (by simp[f,strCells_length,e8]at G ⊢; omega) (by simp[f,strCells_length,e8])),by simpa using N,O,?_,?_⟩⟩,Fr.setRow w g _,fun k A=>.inl (by simpa [OE.blk,Value.ownBlock] using A)⟩
   ·simp only[ac,f,List.append_nil,List.length_nil,Nat.add_zero,List.take_append_drop]
    simpa [e8] using R
   ·simp only[ac,f,List.append_nil,List.length_nil,Nat.add_zero,List.take_append_drop]
    exact i
 ·have a5:0<m.length:=List.length_pos_iff.2 hm
  rcases ho.2 with⟨rfl,hn⟩ | ⟨g,h,z,K,rfl,M,hg,N,O,G,i⟩
  ·have hl:l=[]:=List.eq_nil_of_length_eq_zero hn
   subst hl
   simp only[List.length_nil,Nat.zero_add]at hb
   have o:=Go.run_append_nil_string (P:=P) w T U ty E F (.int .u8 0) I J hi Z ⟨⟨m⟩⟩ (by rw[f]; omega) (by rw[f]; omega) (by rw[f,ab]; omega)
   have e1:((⟨⟨m⟩⟩:ByteArray).data.map fun b=>Value.int .u8 b.toNat)=(e8.fl m).toArray:=by
    rw[tO]; simp
   rw[e1,f]at o
   refine⟨_,_,o,⟨e8.fl_length _,.inr ⟨w.heap.size,grownCap w m.length 0 E,_,E,?_,.inl hB,Row.new w.drew _ _,?_,?_,?_,?_⟩⟩,(Fr.drew _ w).trans (Fr.alloc _ _ _),?_⟩
   ·simp
   ·simp; exact grownCap_ge w m.length 0 E
   ·exact grownCap_le_maxLen w m.length 0 E (by simp[maxLen]; omega)
   ·have:=grownCap_ge w m.length 0 E
    have V:(Value.int IntKind.u8 0).cells.size=1:=rfl
    simp only[Array.size_append,List.size_toArray,size_zeroCells,V,t]
    simp only[e8]
    omega
   ·simp only[List.nil_append,Array.toList_append,List.toList_toArray]
    rw[<-e8.fl_length]
    exact List.take_left
   ·intro k A
    simp[OE.blk,Value.ownBlock]at A
    right; omega
  ·by_cases hroom:l.length+m.length<=h
   ·have R:h<=z.size:=by simpa [e8] using G
    have o:=i4 (P:=P) (w:=w) T U ty E F I J hi hs g l.length h z K hg ⟨⟨m⟩⟩ (by rw[f]; exact hroom) (by rw[f]; omega)
    rw[pj,f]at o
    refine⟨_,_,o,⟨e8.fl_length _,.inr ⟨g,h,_,K,by simp,M,hg.set _ (vl (by rw[t]; omega) (by rw[t])),by simpa using hroom,O,?_,?_⟩⟩,Fr.setRow w g _,fun k A=>.inl (by simpa [OE.blk,Value.ownBlock] using A)⟩
    ·simp only[List.size_toArray,List.length_append,List.length_take,List.length_drop,Array.length_toList,t]
     simp only[e8]
     omega
    ·have ht:z.toList.take l.length=e8.fl l:=by simpa [e8] using i
     rw[ht,<-e8.fl_append,<-e8.fl_length]
     exact List.take_left
   ·have X:∀j x,(e8.fl l)[j]? = some x->w.cell? ((⟨g,0,none⟩:Addr).add j)=some x:=fun j x Y=>by
     rw[dC,Nat.zero_add,hg.cell j]
     rw[<-i,List.getElem?_take]at Y
     split at Y
     ·simpa using Y
     ·cases Y
    have o:=run_append_grow_string (P:=P) w T U ty E F (.int .u8 0) I J hi Z ⟨g,0,none⟩ l.length h (e8.fl l) (by rw[hs,t]; omega) X ⟨⟨m⟩⟩ (by rw[f]; omega) (by rw[f]; omega)
     (by rw[f,ab]; exact sD (by omega) (by omega) (by omega))
    rw[pj,f]at o
    refine⟨_,_,o,⟨e8.fl_length _,.inr ⟨w.heap.size,grownCap w (l.length+m.length) h E,_,E,?_,.inl hB,Row.new w.drew _ _,?_,?_,?_,?_⟩⟩,(Fr.drew _ w).trans (Fr.alloc _ _ _),?_⟩
    ·simp
    ·simp; exact grownCap_ge w (l.length+m.length) h E
    ·exact grownCap_le_maxLen w (l.length+m.length) h E (by simp[maxLen]; omega)
    ·have:=grownCap_ge w (l.length+m.length) h E
     have V:(Value.int IntKind.u8 0).cells.size=1:=rfl
     simp only[Array.size_append,List.size_toArray,size_zeroCells,V,t]
     simp only[e8]
     omega
    ·simp only[Array.toList_append,List.append_assoc]
     rw[<-List.append_assoc,<-e8.fl_append,<-e8.fl_length]
     exact List.take_left
    ·intro k A
     simp[OE.blk,Value.ownBlock]at A
     right; omega
theorem A0 {x y:Operand} {T U E:TypeId} {v:Value} {l m r:Q1} {i:Nat} (h:P.underlying T=some (.slice E)) (j:P.underlying U=some .string) (k:TI P E (.int .u8 0) 1 1)
  (hx:L.ev x=some v) (hy:L.ev y=some (vS m)) (f:St S w0 w os) (hi:os[i]? = some (own e8 v l)) (hg:apO 1 l m=some r) :
  OpX P n L w ⟨d,.call ⟨.builtin .append,#[x,y],#[T,U]⟩,ty,pos,after,none⟩ (fun g w'=>St S w0 w' (os.set i (own e8 g r))):=by
 obtain⟨rfl,hb⟩:=mK hg
 obtain⟨g,w',o,t,z,A⟩:=o8 (ty:=ty) (m:=m) h j k (f.ok _ (List.mem_of_getElem? hi)) f.fr.size (by omega)
 refine ez g w' (fun a ha=>?_) (f.set hi z t A)
 simp[execOp,resolve,invoke,builtin,ha.ev hx,ha.ev hy,o]
theorem bP {T:TypeId} {D:TypeDesc} {b:Nat} {us:List Value} (g:P.underlying T=some D) (k:(match D with | .struct _ | .array _ _=>true | _=>false)=true)
  (hi:(P.info? T).map (·.size)=some us.length) (hc:∀j u,us[j]? = some u->w.cell? ⟨b,0+j,none⟩=some u):(loadVar T ⟨b,0,none⟩).run P w=.ok (.agg us.toArray) w:=by
 have f:(isAgg T).run P w=.ok true w:=by
  unfold isAgg
  rw[Sem.run_bind,run_underlying g w]
  cases D <;> simp_all
 cases hq:P.info? T with
 | none=>simp[hq]at hi
 | some i=>
  have hs:i.size=us.length:=by simpa [hq] using hi
  have hl:(loadCells ⟨b,0,none⟩ us.length).run P w=.ok us.toArray w:=
   run_loadCells_list (P:=P) w ⟨b,0,none⟩ us (fun j v h=>by rw[mX]; exact hc j v h)
  simp[loadVar,f,sizeOf,typeInfo,hq,hs,hl]
def RV (P:Program) (L:Env) (w:World):ResultVar->Value->Prop
 | .tmp t,v=>L.get t=some v
 | .cell t T,v=>∃b,L.get t=some (pB b 0)/\(loadVar T ⟨b,0,none⟩).run P w=.ok v w
theorem d7 (b off:Nat) (w:World):(asAddr (pB b off)).run P w=.ok ⟨b,off,none⟩ w:=rfl
theorem eu {k:Func} {i:ResultVar} {j:Value} {φ:Value->World->Prop} (f:k.results=#[i]) (o:RV P L w i j) (h:φ j w):QE n (bodyPost P k (Ret φ)) .ret L w:=fun a ha=>by
 refine⟨ha.defers,j,?_,h⟩
 cases i
 ·have g:=ha.get _ _ o
  simp[results,f,g]
 ·obtain⟨b1,g,t⟩:=o
  have g:=ha.get _ _ g
  simp[results,f,g,t,d7]
theorem ff {G:Func} {o t:ResultVar} {z A:Value} {φ:Value->World->Prop} (i:G.results=#[o,t]) (j:RV P L w o z) (k:RV P L w t A) (h:φ (.tuple #[z,A]) w):QE n (bodyPost P G (Ret φ)) .ret L w:=fun a ha=>by
 refine⟨ha.defers,.tuple #[z,A],?_,h⟩
 cases o <;> cases t
 ·have f:=ha.get _ _ j
  have g:=ha.get _ _ k
  simp[results,i,f,g]
 ·have f:=ha.get _ _ j
  obtain⟨I,g,B⟩:=k
  have g:=ha.get _ _ g
  simp[results,i,f,g,B,d7]
 ·obtain⟨b1,f,F⟩:=j
  have f:=ha.get _ _ f
  have g:=ha.get _ _ k
  simp[results,i,f,g,F,d7]
 ·obtain⟨b1,f,F⟩:=j
  have f:=ha.get _ _ f
  obtain⟨I,g,B⟩:=k
  have g:=ha.get _ _ g
  simp[results,i,f,g,F,B,d7]
def SHP (v:Value) (m:Nat):Prop:=∃a c,v=.slice a m c/\m<=c/\(m≠0->∃b off,a=some ⟨b,off,none⟩)
theorem RO.shp {τ:Type} {e:Enc τ} {v:Value} {l:List τ} (h:RO w e v l):SHP v l.length:=by
 obtain⟨a,c,rfl,hc,f⟩:=h
 refine⟨a,c,rfl,hc,fun hn=>?_⟩
 obtain⟨b,off,g,_⟩:=f (by rintro rfl; simp at hn)
 exact⟨b,off,g⟩
theorem za {x y:Operand} {T E:TypeId} {k:IntKind} {i:Int} {τ:Type} {e:Enc τ} {v:Value} {l:List τ} {t:τ} {z:Value} {bytes:Nat} (f:P.underlying T=some (.slice E)) (g:TI P E z e.sz bytes)
  (hx:L.ev x=some v) (hy:L.ev y=some (.int k i)) (h:SHP v l.length) (hg:aC l i=some t) :
  OpV P n L w ⟨d,.indexAddr T x y,ty,pos,after,none⟩ (pP (ixA v e.sz i.toNat)) w:=fun a ha=>by
 obtain⟨j,F,_⟩:=dR hg
 obtain⟨q,c,rfl,hc,o⟩:=h
 obtain⟨b,off,rfl⟩:=o (by omega)
 obtain⟨B,hi,_,hs,_⟩:=g.get
 have A:i<l.length:=by omega
 simp[execOp,ha.ev hx,ha.ev hy,Instr.indexAt,asIntOf,run_underlying f,j,A,sizeOf,typeInfo,hi,hs,ixA]
theorem tS {τ:Type} {l y:List τ} {i:Int} {x t:τ} (hy:l.set i.toNat t=y) (hx:aC l i=some x):aC y i=some t:=by
 obtain⟨f,g,_⟩:=dR hx
 subst hy
 simp[aC,f,g]
theorem rT {x y:Operand} {T:TypeId} {p q:Int} (hx:L.ev x=some (vI p)) (hy:L.ev y=some (vI q)):OpV P n L w ⟨d,.call ⟨.builtin .min,#[x,y],#[T,T]⟩,ty,pos,after,none⟩ (vI (min p q)) w:=fun a ha=>by
 have f:(if q<p then q else p)=min p q:=by split <;> omega
 have g:(Builtin.min2 (vI p) (vI q)).run P w=.ok (vI (min p q)) w:=by rw[<-f]; rfl
 simp[execOp,resolve,invoke,builtin,Builtin.min_,ha.ev hx,ha.ev hy,g]
theorem xp {x y:Operand} {T:TypeId} {p q:Int} (hx:L.ev x=some (vI p)) (hy:L.ev y=some (vI q)):OpV P n L w ⟨d,.call ⟨.builtin .max,#[x,y],#[T,T]⟩,ty,pos,after,none⟩ (vI (max p q)) w:=fun a ha=>by
 have f:(if p<q then q else p)=max p q:=by split <;> omega
 have g:(Builtin.max2 (vI p) (vI q)).run P w=.ok (vI (max p q)) w:=by rw[<-f]; rfl
 simp[execOp,resolve,invoke,builtin,Builtin.max_,ha.ev hx,ha.ev hy,g]
end
end Go.Gk
end

section
namespace Go.Gk
open Go Go.RowKit
section
variable {P:Program} {n:Nat} {L:Env} {w w' w0:World} {Q:Exit->Act->World->Prop} {S:Q2} {os os0 os1:List OE}
variable {d:Option Tmp} {ty:TypeId} {pos:String} {after:Array Edge}
theorem uy {T E:TypeId} {τ:Type} {e:Enc τ} {z:Value} {bytes:Nat} (g:P.underlying T=some (.slice E)) (h:TI P E z e.sz bytes) (f:St S w0 w os) :
  OpX P n L w ⟨d,.buildSlice T 0 #[],ty,pos,after,none⟩ (fun v w'=>St S w0 w' (own e v ([]:List τ) :: os)):=by
 obtain⟨t,hi,A,hs,hb⟩:=h.get
 refine ez (.slice (some ⟨w.heap.size,0,none⟩) 0 0) (w.alloc (.cells #[] E)) (fun a ha=>?_) ?_
 ·have i:(Array.map (fun _:Nat=>(default:Value)) (Array.range 0))=#[]:=Array.eq_empty_of_size_eq_zero (by simp)
  simp[execOp,Instr.buildSlice,run_underlying g,sizeOf,typeInfo,hi,Instr.fill,newRow,i]
 ·refine f.push (Fr.alloc _ _ _) (o:=own e _ _) ?_ ?_
  ·exact⟨by simp,.inr ⟨w.heap.size,0,#[],E,rfl,f.fresh,Row.new w _ _,Nat.le_refl _,by simp[maxLen],by simp,by simp⟩⟩
  ·intro k j
   simp[OE.blk,Value.ownBlock]at j
   omega
def SV.of (v:Value):SV:=match v with
 | .slice a n c=>⟨a,n,c⟩
 | _=>⟨none,0,0⟩
theorem RO.sv {τ:Type} {e:Enc τ} {v:Value} {l:List τ} (h:RO w e v l):(SV.of v).v=v:=by
 obtain⟨a,c,rfl,_⟩:=h; rfl
theorem RO.svrp {τ:Type} {e:Enc τ} {v:Value} {l:List τ} (h:RO w e v l):RP [] w e (SV.of v).v l:=by rw[h.sv]; exact h.rp
theorem RP.sv {τ:Type} {e:Enc τ} {v:Value} {l:List τ} (h:RP S w e v l):RP S w e (SV.of v).v l:=by rw[h.1.sv]; exact h
theorem cb {v:Value} {r:List SV} {vs:List Value} (h:(SV.of v).v=v) (f:eV.fl r=vs):eV.fl (SV.of v :: r)=v :: vs:=by
 rw[<-f]
 show [(SV.of v).v]++eV.fl r=v :: eV.fl r
 rw[h]; rfl
def il (S:Q2) (w:World) {τ:Type} (e:Enc τ):List SV->List (List τ)->Prop
 | [],[]=>True
 | s :: r,l :: m=>RP S w e s.v l/\il S w e r m
 | _,_=>False
theorem il.len {τ:Type} {e:Enc τ}:∀{s:List SV} {m:List (List τ)},il S w e s m->s.length=m.length
 | [],[],_=>rfl
 | _ :: _,_ :: _,h=>by simp[il.len h.2]
theorem il.nth {τ:Type} {e:Enc τ}:∀{s:List SV} {m:List (List τ)},il S w e s m->∀{i:Nat} {l:List τ},m[i]? = some l->∃v,s[i]? = some v/\RP S w e v.v l
 | [],[],_,i,l,hi=>by simp at hi
 | a :: r,b :: m,h,0,l,hi=>by simp at hi; subst hi; exact⟨a,rfl,h.1⟩
 | a :: r,b :: m,h,i+1,l,hi=>by simpa using il.nth h.2 (by simpa using hi)
theorem il.get {τ:Type} {e:Enc τ} {s:List SV} {m:List (List τ)} (h:il S w e s m) {i:Int} {l:List τ} (hi:aC m i=some l):∃v,aC s i=some v/\RP S w e v.v l:=by
 obtain⟨f,_,g⟩:=dR hi
 obtain⟨v,j,k⟩:=h.nth g
 exact⟨v,by simp[aC,f,j],k⟩
theorem tI {x:Operand} {T E:TypeId} {τ:Type} {v:Value} {s:List SV} {m:List (List τ)} (f:P.underlying T=some (.slice E)) (hx:L.ev x=some v) (h:RO w eV v s) (hl:s.length=m.length) :
  OpV P n L w ⟨d,.call ⟨.builtin .len,#[x],#[T]⟩,ty,pos,after,none⟩ (vI m.length) w:=by
 have:=aD (n:=n) (d:=d) (ty:=ty) (pos:=pos) (after:=after) f hx h
 rwa [hl]at this
section
variable {T E:TypeId} {τ:Type} {e:Enc τ} {v:Value} {l r:List τ} {z0:Value} {bytes:Nat}
end
theorem ED (T:TypeId) (x y:Bool) {D:TypeDesc} (f:P.underlying T=some D) (g:D=.bool):bL P .eql T (vB x) (vB y) (vB (x == y)):=fun _ _ w=>by
 subst g
 have h:∀k,(Op.equalIn (k+1) T (vB x) (vB y)).run P w=.ok (x == y) w:=fun k=>by simp[Op.equalIn,run_underlying f]
 have i:(Op.equal T (vB x) (vB y)).run P w=.ok (x == y) w:=h 9999
 simp[eqGuard,binOp,i]
theorem mm (T:TypeId) (x y:Bool) {D:TypeDesc} (f:P.underlying T=some D) (g:D=.bool):bL P .neq T (vB x) (vB y) (vB (x != y)):=fun _ _ w=>by
 subst g
 have h:∀k,(Op.equalIn (k+1) T (vB x) (vB y)).run P w=.ok (x == y) w:=fun k=>by simp[Op.equalIn,run_underlying f]
 have i:(Op.equal T (vB x) (vB y)).run P w=.ok (x == y) w:=h 9999
 simp[eqGuard,binOp,i,bne]
theorem RP.isnil {τ:Type} {e:Enc τ} {v:Value} {l:List τ} {T E:TypeId} (h:RP S w e v l) (f:P.underlying T=some (.slice E)) :
  (l=[]/\bL P .eql T v (.slice none 0 0) (vB true)/\bL P .neq T v (.slice none 0 0) (vB false))\/(bL P .eql T v (.slice none 0 0) (vB false)/\bL P .neq T v (.slice none 0 0) (vB true)):=by
 obtain⟨a,c,rfl,hc,g⟩:=h.1
 cases a with
 | some a=>exact .inr ⟨Dd f,zZ f⟩
 | none=>
  refine .inl ⟨?_,Dd f,zZ f⟩
  cases l with
  | nil=>rfl
  | cons x r=>obtain⟨b,off,i,_⟩:=g (by simp); cases i
theorem kq {ops:Array Oper} {rest:List Oper} {d:Nat} {g:Op} {Φ:Value->World->Prop} {j:Nat} {f:Bool} {t:Tmp}
  (i:(ops[j]?).bind (·.dst)=some t) (hb:L.get t=some (vB f))
  (k:OpX P n L w ⟨some d,g,ty,pos,after,none⟩ Φ) (o:Nat.blt d n=true)
  (h:∀v w',Φ v w'->wpR P n ops Q rest ((d,v) :: L) w'):wpR P n ops Q (⟨some d,g,ty,pos,after,some (j,f)⟩ :: rest) L w:=by
 obtain⟨v,w',z,A⟩:=k
 exact aO i hb z o (h v w' A)
end
end Go.Gk
end

section
namespace Go.Gk
section
variable {P:Program} {n:Nat} {L:Env} {w w0:World} {Q:Exit->Act->World->Prop}
variable {d:Option Nat} {ty:TypeId} {pos:String} {after:Array Edge}
theorem z7 {o:Oper} {x:Operand} {f:FuncId} {xs:List Operand} {i:Array TypeId} {vs g:List Value} {a:Act} (j:o.op=.call ⟨.value x,xs.toArray,i⟩)
  (hx:a.eval x=.func (.func f) #[] g.toArray) (k:gr P f=true) (h:xs.map a.eval=vs):(execOp a.eval o).run P w=.ok (.enter f (vs++g).toArray) w:=by
 simp only[execOp,j,resolve,hx,Deferred.ofValue,Sem.run_bind,Sem.run_pure,Result.andThen_ok,invoke]
 have:(#[]++Array.map a.eval xs.toArray++g.toArray:Array Value)=(vs++g).toArray:=by simp[h]
 rw[this]
 exact nu k
end
end Go.Gk
namespace Go.Gk
section
variable {P:Program} {n:Nat} {L:Env} {w w0:World} {Q:Exit->Act->World->Prop} {S:Q2} {os:List OE}
variable {d:Option Nat} {ty:TypeId} {pos:String} {after:Array Edge}
theorem rn (a:Addr) (m k:Nat):(w.freeze a m).heap[k]? = (w.heap[k]?).map fun o=>if k=a.block/\m≠0 then (match o with
   | .cells c elem (lo,hi)=>.cells c elem (if lo == hi then (a.off,a.off+m) else (min lo a.off,max hi (a.off+m)))
   | o=>o) else o:=by
 unfold World.freeze
 by_cases hm:m=0
 ·simp[hm]
 ·rw[if_neg hm]
  simp only[Array.getElem?_modify]
  by_cases hk:a.block=k
  ·subst hk
   simp only[if_true]
   cases w.heap[a.block]? with
   | none=>rfl
   | some o=>simp[hm]; cases o <;> rfl
  ·rw[if_neg hk]
   have:¬(k=a.block/\m≠0):=fun h=>hk h.1.symm
   simp[this]
theorem wE (a b:Addr) (m:Nat):(w.freeze a m).cell? b=w.cell? b:=by
 unfold World.cell?
 rw[rn]
 cases w.heap[b.block]? with
 | none=>rfl
 | some o=>
  simp only[Option.map_some]
  by_cases hc:b.block=a.block/\m≠0
  ·rw[if_pos hc]; cases o <;> rfl
  ·rw[if_neg hc]
theorem pi (a:Addr) (m:Nat):(w.freeze a m).heap.size=w.heap.size:=by
 unfold World.freeze; split
 ·rfl
 ·simp
theorem Az (a:Addr) (m:Nat):Fr [a.block] w (w.freeze a m):=by
 refine⟨?_,?_,?_,by rw[pi]; exact Nat.le_refl _,fun k f hn=>?_⟩
 ·unfold World.freeze; split <;> rfl
 ·unfold World.freeze; split <;> rfl
 ·unfold World.freeze; split <;> rfl
 ·rw[rn]
  have:¬(k=a.block/\m≠0):=fun h=>hn (by simp[h.1])
  cases w.heap[k]? with
  | none=>rfl
  | some o=>simp[this]
theorem qZ {T E:TypeId} {x:Operand} {v:Value} {l:Q1} {i:Nat} (M:P.underlying T=some (.slice E)) (N:P.underlying E=some (.int .u8)) (hx:L.ev x=some v)
  (A:St S w0 w os) (hi:os[i]? = some (own e8 v l)) (hl:l≠[]) :
  OpX P n L w ⟨d,.convert T T x,ty,pos,after,none⟩ (fun O w'=>O=v/\St S w0 w' (os.set i (red e8 v l))):=by
 have t:=A.ok _ (List.mem_of_getElem? hi)
 have z:=t.red
 obtain⟨h1,R⟩:=t
 rcases R with⟨_,hn⟩ | ⟨g,B,f,U,rfl,hf,hg,ab,ac,ad,K⟩
 ·exact absurd (List.eq_nil_of_length_eq_zero hn) hl
 ·have F:St S w0 (w.freeze ⟨g,f.size,none⟩ 1) (os.set i (red e8 (.slice (some ⟨g,0,none⟩) l.length B) l)):=by
   refine A.set hi (o':=red e8 _ l) (by simpa [OE.blk,Value.ownBlock] using Az (w:=w) ⟨g,f.size,none⟩ 1) ?_ fun k h=>.inl ?_
   ·obtain⟨V,a,c,X,hc,Y⟩:=z
    refine⟨V,a,c,X,hc,fun G=>?_⟩
    obtain⟨b,off,ha,hb,I,o⟩:=Y G
    exact⟨b,off,ha,by rw[pi]; exact hb,I,fun j u Z=>by rw[wE]; exact o j u Z⟩
   ·simp only[OE.blk]at h ⊢
    split at h
    ·cases h
    ·exact h
  refine ez _ _ (fun a ha=>?_) ⟨rfl,F⟩
  have J:w.shape? g=some (U,f.size):=by obtain⟨mk,hg,_⟩:=hg; unfold World.shape?; rw[hg]
  simp[execOp,ha.ev hx,convert,run_underlying M,run_underlying N,markStringish,shape,freeze,Sem.run,J]
end
end Go.Gk
end

section
namespace Go.Gk
open Go Go.RowKit
theorem Do {a b:OE} (h:OE.dj a b):OE.dj b a:=by
 unfold OE.dj at *
 intro k g f
 exact h k f g
theorem St.perm {S:Q2} {w0 w:World} {os os':List OE} (h:St S w0 w os) (f:os.Perm os'):St S w0 w os':=
 ⟨h.fr,fun o i=>h.ok o (f.mem_iff.2 i),(f.pairwise_iff (fun {a b} g=>Do g)).1 h.dj⟩
theorem St.tail {S:Q2} {w0 w:World} {l os:List OE} (h:St S w0 w (l++os)):St S w0 w os:=
 ⟨h.fr,fun o f=>h.ok o (List.mem_append_right _ f),(List.pairwise_append.1 h.dj).2.1⟩
section
variable {P:Program} {ops:Array Oper} {Q:Exit->Act->World->Prop} {nw:Nat->Bool} {S:Q2} {w0:World} {os:List OE} {ent:Nat->Value->OE} {news:Q2}
variable {n:Nat} {L:Env}
end
end Go.Gk
end

section
namespace Go.Gk
open Go Go.RowKit
section
variable {P:Program} {n:Nat} {L:Env} {w w' w0:World} {Q:Exit->Act->World->Prop} {S:Q2} {os os0 os1:List OE}
variable {d:Option Tmp} {ty:TypeId} {pos:String} {after:Array Edge}
def twE {τ:Type} (e:Enc τ) (va:Value) (la:List τ) (q:Nat):OE:=if q=0 then red e (.slice none 0 0) ([]:List τ) else red e va la
def Tw {τ:Type} (va:Value) (la:List τ) (v:Value) (l:List τ) (q:Nat):Prop:=
 q=0->∃a c c' t,va=.slice a la.length c/\la.length<=c/\v=.slice a l.length c'/\l=la++t
theorem Tw.ro {τ:Type} {e:Enc τ} {g v:Value} {i l:List τ} {q:Nat} {B:Nat} (h:Tw g i v l q) (he:(twE e g i q).ok S B w) (o:RO w e v l):RO w e g i:=by
 by_cases hq:q=0
 ·obtain⟨a,c,F,t,rfl,hc,rfl,rfl⟩:=h hq
  obtain⟨G,I,z,J,A⟩:=o
  injection z with e1 e2 e3
  subst e1
  refine⟨a,c,rfl,hc,fun hl=>?_⟩
  obtain⟨b,off,hb,f⟩:=A (by simp[hl])
  refine⟨b,off,hb,fun j u k=>f j u ?_⟩
  rw[e.fl_append,List.getElem?_append_left (List.getElem?_eq_some_iff.1 k).1]
  exact k
 ·unfold twE at he
  rw[if_neg hq]at he
  exact he.rro
theorem Cd {α:Type} {l:List α} {j:Nat} {x:α} (h:l[j]? = some x):l.set j x=l:=by
 apply List.ext_getElem?
 intro k
 rw[List.getElem?_set]
 split
 ·rename_i f
  subst f
  have:=(List.getElem?_eq_some_iff.1 h).1
  rw[if_pos this,h]
 ·rfl
theorem _root_.Eq.to {f:BinOp} {T:TypeId} {x y:Value} {b g:Bool} (h:b=g) (hb:bL P f T x y (vB b)):bL P f T x y (vB g):=h ▸ hb
end
end Go.Gk
end

section
namespace Go.Gk
open Go Go.RowKit
def isB (want:Bool):Value->Bool
 | .bool b=>b == want
 | _=>false
def Cn (op:BinOp) (x y:Int):Option Value:=match op with
 | .add=>some (vI (wI (x+y)))
 | .sub=>some (vI (wI (x - y)))
 | .eql=>some (vB (x == y))
 | .neq=>some (vB (x != y))
 | .lss=>some (vB (decide (x<y)))
 | .leq=>some (vB (decide (x<=y)))
 | .gtr=>some (vB (decide (y<x)))
 | .geq=>some (vB (decide (y<=x)))
 | _=>none
def lA (L:Env):Op->Option Value
 | .move x=>L.ev x
 | .assign x=>L.ev x
 | .pick c x y=>match L.ev c with
  | some (.bool true)=>L.ev x
  | some (.bool false)=>L.ev y
  | _=>none
 | .extract x i=>match L.ev x with
  | some (.tuple vs)=>vs.toList[i]?
  | _=>none
 | .unOp op _ x=>match op,L.ev x with
  | .not,some (.bool b)=>some (vB (!b))
  | _,_=>none
 | .binOp op _ x y _=>match L.ev x,L.ev y with
  | some (.int .i64 a),some (.int .i64 b)=>Cn op a b
  | _,_=>none
 | _=>none
def pK (ops:Array Oper) (n:Nat):Nat->Env->List Oper->Option (Env×List Oper)
 | 0,L,l=>some (L,l)
 | m+1,L,o :: l=>match o.dst with
  | none=>none
  | some d=>bif Nat.blt d n then
   match o.guard with
   | none=>match lA L o.op with
    | some v=>pK ops n m ((d,v) :: L) l
    | none=>none
   | some (j,want)=>match (ops[j]?).bind (·.dst) with
    | none=>none
    | some t=>match L.get t with
     | none=>none
     | some v=>bif isB want v then (match lA L o.op with
      | some u=>pK ops n m ((d,u) :: L) l
      | none=>none) else pK ops n m ((d,undef) :: L) l
   else none
 | _+1,_,[]=>none
section
variable {P:Program} {n:Nat} {L:Env} {w:World} {Q:Exit->Act->World->Prop}
theorem En {f:BinOp} {T:TypeId} {x y:Int} {v:Value} (h:Cn f x y=some v):bL P f T (vI x) (vI y) v:=by
 cases f <;> simp only[Cn]at h <;> first | (cases h; fail) | (injection h with h; subst h; first | exact jF _ _ _ | exact rc _ _ _ | exact ol _ _ _ | exact Fl _ _ _ | exact gz _ _ _ | exact Fn _ _ _ | exact E7 _ _ _ | exact uY _ _ _) | cases h
theorem oU {d:Option Tmp} {f:Op} {v:Value} {ty:TypeId} {pos:String} {after:Array Edge} (h:lA L f=some v):OpV P n L w ⟨d,f,ty,pos,after,none⟩ v w:=by
 unfold lA at h
 split at h
 ·exact ea h
 ·exact bd h
 ·split at h
  ·rename_i e; exact Af e h
  ·rename_i e; exact A6 e h
  ·cases h
 ·split at h
  ·rename_i e
   refine wA e ?_
   rw[<-Array.getElem?_toList]; exact h
  ·cases h
 ·split at h
  ·rename_i e; cases h; exact nH e (FK _)
  ·cases h
 ·split at h
  ·rename_i g i; exact aj g i (En h)
  ·cases h
 ·cases h
theorem aa {ops:Array Oper}:∀(m:Nat) {L i:Env} {rest f:List Oper},pK ops n m L rest=some (i,f)->wpR P n ops Q f i w->wpR P n ops Q rest L w
 | 0,L,i,rest,f,h,k=>by simp only[pK]at h; cases h; exact k
 | m+1,L,i,[],f,h,k=>by simp[pK]at h
 | m+1,L,i,o :: l,f,h,k=>by
  obtain⟨dst,B,ty,pos,after,A⟩:=o
  simp only[pK]at h
  cases dst with
  | none=>cases h
  | some d=>
   simp only at h
   cases hd:Nat.blt d n with
   | false=>rw[hd]at h; cases h
   | true=>
    rw[hd]at h
    simp only[cond_true]at h
    cases A with
    | none=>
     simp only at h
     cases hv:lA L B with
     | none=>rw[hv]at h; cases h
     | some v=>rw[hv]at h; exact ag (oU hv) hd (aa m h k)
    | some g=>
     obtain⟨j,z⟩:=g
     simp only at h
     cases hj:(ops[j]?).bind (·.dst) with
     | none=>rw[hj]at h; cases h
     | some t=>
      rw[hj]at h
      simp only at h
      cases hg:L.get t with
      | none=>rw[hg]at h; cases h
      | some v=>
       rw[hg]at h
       simp only at h
       cases hb:isB z v with
       | true=>
        rw[hb]at h
        simp only[cond_true]at h
        have F:v=vB z:=by
         cases v <;> simp[isB]at hb
         subst hb; rfl
        subst F
        cases hv:lA L B with
        | none=>rw[hv]at h; cases h
        | some u=>rw[hv]at h; exact aO hj hg (oU hv) hd (aa m h k)
       | false=>
        rw[hb]at h
        simp only[cond_false]at h
        intro a ha
        unfold wpList
        rw[if_neg (by
         have:=ha.get t _ hg
         simp only[Region.wanted,yielded,hj,Option.bind_some,this]
         cases v <;> simp_all [isB])]
        exact aa m h k _ (ha.put hd)
def qV (ops:Array Oper) (fl:Nat->Bool) (n:Nat):Nat->Env->Q2->Option (Env×Q2)
 | 0,L,l=>some (L,l)
 | m+1,L,i :: l=>match ops[i]? with
  | some ⟨some d,op,_,_,_,none⟩=>bif fl i&&Nat.blt d n then (match lA L op with
   | some v=>qV ops fl n m ((d,v) :: L) l
   | none=>none) else none
  | _=>none
 | _+1,_,[]=>none
theorem an {P:Program} {n:Nat} {w:World} {Q:Exit->Act->World->Prop} {ops:Array Oper} {C D:World->Prop} {fl:Nat->Bool}:∀(m:Nat) {L f:Env} {l l':Q2},qV ops fl n m L l=some (f,l')->C w->lxE P n ops C D Q fl l' f w->lxE P n ops C D Q fl l L w
 | 0,L,f,l,l',h,hC,k=>by simp only[qV]at h; cases h; exact k
 | m+1,L,f,[],l',h,hC,k=>by simp[qV]at h
 | m+1,L,f,i :: l,l',h,hC,k=>by
  simp only[qV]at h
  split at h
  ·rename_i d g ty pos after j
   cases hb:fl i&&Nat.blt d n with
   | false=>rw[hb]at h; cases h
   | true=>
    rw[hb]at h
    simp only[cond_true]at h
    rw[Bool.and_eq_true]at hb
    cases hv:lA L g with
    | none=>rw[hv]at h; cases h
    | some v=>rw[hv]at h; exact ai hC j hb.1 (fun w _=>oU hv) hb.2 (an m h hC k)
  ·cases h
end
end Go.Gk
end
