import Derived.Test.YthnmbmmifamifaaGreatDoorGkS
import Derived.Laws.CopyRow
import Derived.Laws.StructEq
import Derived.Lib.AppendStr
import Derived.Scope
import Derived.ScopeJumps
set_option linter.unusedVariables false
set_option linter.unusedSimpArgs false
set_option linter.unusedSectionVars false
section
namespace Go.Gk
open Go Go.RowKit
section
variable {P:Program} {n:Nat} {L:Env} {w w0:World} {Q:Exit->Act->World->Prop} {S:L01} {os:List OE}
variable {d:Option Tmp} {ty:TypeId} {pos:String} {after:Array Edge}
abbrev pB (b off:Nat):Value:=.pointer (some ⟨b,off,none⟩)
theorem sU (b off k:Nat):(⟨b,off,none⟩:Addr).add k=⟨b,off+k,none⟩:=by unfold Addr.add; split <;> simp_all
theorem CO (h:St S w0 w os) (cs:Array Value) (E:TypeId):St S w0 (w.alloc (.cells cs E)) (.bx w.heap.size cs.toList :: os):=by
 refine h.push (Fr.alloc _ _ _) ⟨h.fresh,E,cs,heap_alloc_new w _,rfl⟩ fun k j=>?_
 simp[OE.blk]at j; omega
theorem mx {E:TypeId} {z:Value} {cs:List Value} (hE:(P.info? E).map (·.zero)=some (some z)) (hz:z.cells.toList=cs) (hS:St S w0 w os) :
  OpX P n L w ⟨d,.alloc E,ty,pos,after,none⟩ (fun v w'=>∃b,v=pB b 0/\St S w0 w' (.bx b cs :: os)):=by
 refine jY (pB w.heap.size 0) (w.alloc (.cells z.cells E)) (fun a ha=>?_) ⟨_,rfl,hz ▸ CO hS _ _⟩
 cases hi:P.info? E with
 | none=>rw[hi]at hE; cases hE
 | some i=>
  rw[hi]at hE
  simp only[eN,fj]at hE
  simp[execOp,Instr.alloc,zeroValue,typeInfo,hi,hE,newVar,newRow]
theorem rF {E:TypeId} {x:Operand} {v:Value} {cs:List Value} (hx:L.ev x=some v) (hz:v.cells.toList=cs) (hS:St S w0 w os) :
  OpX P n L w ⟨d,.box E x,ty,pos,after,none⟩ (fun v w'=>∃b,v=pB b 0/\St S w0 w' (.bx b cs :: os)):=by
 refine jY (pB w.heap.size 0) (w.alloc (.cells v.cells E)) (fun a ha=>?_) ⟨_,rfl,hz ▸ CO hS _ _⟩
 simp[execOp,Instr.box,ha.ev hx,newVar,newRow]
theorem dH {s:TypeId} {x:Operand} {b off f k:Nat} {A:Array Field} {z:Field} (hs:P.underlying s=some (.struct A)) (hf:A[f]? = some z) (B:z.offset=k) (j:(P.info? z.type).map (·.size == 0)=some false)
  (hx:L.ev x=some (pB b off)):OpV P n L w ⟨d,.fieldAddr s x f,ty,pos,after,none⟩ (pB b (off+k)) w:=fun a ha=>by
 cases hi:P.info? z.type with
 | none=>rw[hi]at j; cases j
 | some i=>
  have G:¬i.size=0:=by rw[hi]at j; simpa using j
  simp[execOp,Instr.fieldAt,ha.ev hx,run_underlying hs,hf,Instr.sureAddr,fieldPlace,sizeOf,typeInfo,hi,G,sU,B]
theorem uC {T E:TypeId} {m:Nat} {x y:Operand} {b off:Nat} {k:IntKind} {i:Int} {j:Nat} (hT:P.underlying T=some (.array m E)) (hE:(P.info? E).map (·.size)=some j)
  (hx:L.ev x=some (pB b off)) (hy:L.ev y=some (.int k i)) (z:0<=i) (A:i<(m:Int)):OpV P n L w ⟨d,.indexAddr T x y,ty,pos,after,none⟩ (pB b (off+i.toNat*j)) w:=fun a ha=>by
 cases hi:P.info? E with
 | none=>rw[hi]at hE; cases hE
 | some inf=>
  have hs:inf.size=j:=by rw[hi]at hE; simpa using hE
  simp[execOp,Instr.indexAt,ha.ev hx,ha.ev hy,asIntOf,run_underlying hT,Instr.sureAddr,z,A,sizeOf,typeInfo,hi,hs,sU]
theorem mU {x:Operand} {b off:Nat} (hx:L.ev x=some (pB b off)):OpV P n L w ⟨d,.nilCheck x,ty,pos,after,none⟩ (pB b off) w:=fun a ha=>by
 simp[execOp,ha.ev hx]
theorem St.bxc (h:St S w0 w os) (i:Nat) {b:Nat} {cs:List Value} (hi:os[i]? = some (.bx b cs)) (k:Nat):w.cell? ⟨b,k,none⟩=cs[k]?:=by
 obtain⟨_,T,j,hg,z⟩:=h.ok _ (bI hi)
 rw[cell_of_row w b k j T (0,0) hg,<-z]; simp
theorem bX {T:TypeId} {D:TypeDesc} {x:Operand} {b off:Nat} {u:Value} (hT:P.underlying T=some D) (k:(match D with | .struct _ | .array _ _=>true | _=>false)=false)
  (hx:L.ev x=some (pB b off)) (hc:w.cell? ⟨b,off,none⟩=some u):OpV P n L w ⟨d,.load T x,ty,pos,after,none⟩ u w:=fun a ha=>by
 have j:(isAgg T).run P w=.ok false w:=by
  unfold isAgg
  rw[Sem.run_bind,run_underlying hT w]
  cases D <;> simp_all
 simp[execOp,Instr.loadAt,ha.ev hx,Instr.sureAddr,loadVar,j,hc]
theorem gj {T:TypeId} {D:TypeDesc} {x:Operand} {b off:Nat} {us:List Value} (hT:P.underlying T=some D) (A:(match D with | .struct _ | .array _ _=>true | _=>false)=true)
  (hi:(P.info? T).map (·.size)=some us.length) (hx:L.ev x=some (pB b off)) (hc:∀j u,us[j]? = some u->w.cell? ⟨b,off+j,none⟩=some u) :
  OpV P n L w ⟨d,.load T x,ty,pos,after,none⟩ (.agg us.toArray) w:=fun a ha=>by
 have k:(isAgg T).run P w=.ok true w:=by
  unfold isAgg
  rw[Sem.run_bind,run_underlying hT w]
  cases D <;> simp_all
 cases hq:P.info? T with
 | none=>simp[hq]at hi
 | some i=>
  have hs:i.size=us.length:=by simpa [hq] using hi
  have hl:(loadCells ⟨b,off,none⟩ us.length).run P w=.ok us.toArray w:=
   run_loadCells_list (P:=P) w ⟨b,off,none⟩ us (fun j v z=>by rw[sU]; exact hc j v z)
  simp[execOp,Instr.loadAt,ha.ev hx,Instr.sureAddr,loadVar,k,sizeOf,typeInfo,hq,hs,hl]
theorem St.bxs (h:St S w0 w os) (i:Nat) {b:Nat} {cs us:List Value} {off:Nat} (hi:os[i]? = some (.bx b cs)) (hu:(cs.drop off).take us.length=us):∀j u,us[j]? = some u->w.cell? ⟨b,off+j,none⟩=some u:=by
 intro j u k
 rw[h.bxc i hi]
 rw[<-hu,bY]at k
 split at k
 ·simpa using k
 ·cases k
def yk:List Value->Prop
 | []=>True
 | v :: r=>v.oneCell'=true/\yk r
theorem Bt:∀{l:List Value},yk l->∀v∈l,v.oneCell'=true
 | [],_,v,j=>by cases j
 | u :: r,h,v,j=>by
  rcases aJ.1 j with rfl | j
  ·exact h.1
  ·exact Bt h.2 v j
def spl (cs:List Value) (off:Nat) (us:List Value):List Value:=cs.take off++us++cs.drop (off+us.length)
theorem St.setB (h:St S w0 w os) {i b off:Nat} {cs us:List Value} (hi:os[i]? = some (.bx b cs)) :
  ∃T j,w.heap[b]? = some (.cells j T (0,0))/\j.toList=cs/\St S w0 (w.setRow b (j.toList.take off++us++j.toList.drop (off+us.length)).toArray) (os.set i (.bx b (spl cs off us))):=by
 have A:=h.ok _ (bI hi)
 obtain⟨hf,T,j,hg,z⟩:=A
 refine⟨T,j,hg,z,?_⟩
 refine h.set hi (o':=.bx b (spl cs off us)) (Fr.setRow w b _) ⟨hf,T,_,setRow_heap w b j _ T (0,0) hg,?_⟩ fun k B=>.inl B
 subst z
 simp[spl]
theorem mG {T:TypeId} {x y:Operand} {b off i:Nat} {v:Value} {cs us:List Value} (hi:os[i]? = some (.bx b cs)) (j:(P.info? T).map (·.size)=some us.length)
  (hx:L.ev x=some (pB b off)) (hy:L.ev y=some v) (A:v.cells.toList=us) (N:yk us) (hl:Nat.ble (off+us.length) cs.length=true) (hS:St S w0 w os) :
  OpY P n L w ⟨none,.store T x y,ty,pos,after,none⟩ (fun w'=>St S w0 w' (os.set i (.bx b (spl cs off us)))):=by
 obtain⟨O,k,hg,B,G⟩:=hS.setB (off:=off) (us:=us) hi
 refine zi _ (fun a ha=>?_) G
 cases hq:P.info? T with
 | none=>simp[hq]at j
 | some inf=>
  have hs:inf.size=us.length:=by simpa [hq] using j
  have I:off+0+us.length<=k.size:=by
   have:=ai hl
   rw[<-B]at this; simpa using this
  have z:=run_storeCells_at P b off O us 0 k w hg I (Bt N)
  have J:v.cells.size=us.length:=by rw[<-A]; simp
  simp only[bb]at z
  simp[execOp,Instr.storeAt,ha.ev hx,ha.ev hy,Instr.sureAddr,storeVar,sizeOf,typeInfo,hq,hs,A,J,z]
theorem _root_.Go.Gk.RO.one {τ:Type} {e:Enc τ} {v:Value} {l:List τ} (h:RO w e v l):v.oneCell'=true:=by
 obtain⟨a,c,rfl,_⟩:=h; rfl
theorem nG {v:Value} (h:v.oneCell'=true):v.cells.toList=[v]:=by cases v <;> simp_all [Value.cells,Value.oneCell']
def mV (P:Program) (T:TypeId):Option (List (Nat×Nat)×List Value):=
 match P.info? T,P.underlying T with
 | some it,some (.array m e)=>
  match it.zero,P.info? e with
  | some z,some ie=>some ((List.range m).map fun i=>(i*ie.size,ie.size),z.cells.toList)
  | _,_=>none
 | some it,some (.struct fields)=>
  match it.zero,fields.toList.mapM (fun f=>(P.info? f.type).map fun i=>(f.offset,i.size)) with
  | some z,some places=>some (places,z.cells.toList)
  | _,_=>none
 | _,_=>none
def qR (pl:List (Nat×Nat)):List Value->List (Nat×Value×List Value)->Option (List Value)
 | cs,[]=>some cs
 | cs,(i,_,us) :: r=>match pl[i]? with
  | some (off,sz)=>if Nat.beq us.length sz&&Nat.ble (off+us.length) cs.length then qR pl (spl cs off us) r else none
  | none=>none
theorem Ao:∀(us:List Value) (off k:Nat) (cs:Array Value),off+k+us.length<=cs.size ->
  (us.zipIdx k).foldl (fun cs (x:Value×Nat)=>cs.setIfInBounds (off+x.2) x.1) cs=(spl cs.toList (off+k) us).toArray
 | [],off,k,cs,_=>by simp[spl]
 | u :: r,off,k,cs,h=>by
  have j:=Ao r off (k+1) (cs.setIfInBounds (off+k) u) (by simp at h ⊢; omega)
  rw[List.zipIdx_cons,eo,j]
  congr 1
  unfold spl
  have e:=list_seg_step cs.toList (off+k) u r (by simp at h ⊢; omega)
  simpa [Array.toList_setIfInBounds,dW] using e
theorem xO {place:Nat->Option (Nat×Nat)} {pl:List (Nat×Nat)} (hpl:∀i x,pl[i]? = some x->place i=some x):∀(k:List (Nat×Value×List Value)) (cs j:List Value),
  (∀p∈k,p.2.1.cells.toList=p.2.2)->qR pl cs k=some j->Instr.fill place cs.toArray (k.map fun p=>(p.1,p.2.1))=some j.toArray
 | [],cs,j,_,h=>by simp[qR]at h; simp[Instr.fill,h]
 | (i,v,us) :: r,cs,j,hc,h=>by
  simp only[qR]at h
  cases hi:pl[i]? with
  | none=>rw[hi]at h; cases h
  | some x=>
   obtain⟨off,I⟩:=x
   rw[hi]at h
   simp only at h
   split at h
   ·rename_i hb
    simp only[aW]at hb
    have J:=bP hb.1
    have A:=ai hb.2
    have z:v.cells.toList=us:=hc (i,v,us) (by simp)
    have G:v.cells.size=us.length:=by rw[<-z]; simp
    have B:=xO hpl r (spl cs off us) j (fun p hp=>hc p (by simp[hp])) h
    simp only[dm,Instr.fill,hpl i _ hi]
    rw[ae (by simp; omega)]
    have hf:v.cells.zipIdx.foldl (fun cs (x:Value×Nat)=>cs.setIfInBounds (off+x.2) x.1) cs.toArray=(spl cs off us).toArray:=by
     have:=Ao us off 0 cs.toArray (by simpa using A)
     simp only[bb]at this
     rw[<-this,<-Array.foldl_toList]
     simp[Array.toList_zipIdx,z]
    rw[hf]
    exact B
   ·cases h
theorem NX {T:TypeId} {pl:List (Nat×Nat)} {z k:List Value} {A:List (Nat×Value×List Value)} (j:mV P T=some (pl,z)) (hc:∀p∈A,p.2.1.cells.toList=p.2.2) (hf:qR pl z A=some k) :
  P.built T (A.map fun p=>(p.1,p.2.1))=some k.toArray:=by
 unfold mV at j
 unfold Program.built
 cases hi:P.info? T with
 | none=>rw[hi]at j; cases j
 | some it=>
  cases hu:P.underlying T with
  | none=>rw[hi,hu]at j; cases j
  | some D=>
   rw[hi,hu]at j
   cases D with
   | array m e=>
    simp only at j ⊢
    cases hz:it.zero with
    | none=>rw[hz]at j; cases j
    | some z0=>
     cases he:P.info? e with
     | none=>rw[hz,he]at j; cases j
     | some ie=>
      rw[hz,he]at j
      simp only[fj,iD]at j
      obtain⟨rfl,rfl⟩:=j
      simp only
      have:=xO (place:=fun i=>some (i*ie.size,ie.size)) (fun i x hx=>by
       rw[f9]at hx
       by_cases hm:i<m
       ·rw[List.getElem?_range hm]at hx; simpa using hx
       ·rw[dw (by simp; omega)]at hx; cases hx) A _ k hc hf
      simpa using this
   | struct fields=>
    simp only at j ⊢
    cases hz:it.zero with
    | none=>rw[hz]at j; cases j
    | some z0=>
     cases hp:fields.toList.mapM (fun f=>(P.info? f.type).map fun i=>(f.offset,i.size)) with
     | none=>rw[hz,hp]at j; cases j
     | some places=>
      rw[hz,hp]at j
      simp only[fj,iD]at j
      obtain⟨rfl,rfl⟩:=j
      simp only
      have:=xO (place:=fun i=>places.toArray[i]?) (fun i x hx=>by simpa using hx) A _ k hc hf
      simpa using this
   | _=>cases j
def rz:List (Nat×Value×List Value)->Prop
 | []=>True
 | p :: r=>p.2.1.cells.toList=p.2.2/\rz r
theorem rx:∀{l:List (Nat×Value×List Value)},rz l->∀p∈l,p.2.1.cells.toList=p.2.2
 | [],_,v,j=>by cases j
 | u :: r,h,v,j=>by
  rcases aJ.1 j with rfl | j
  ·exact h.1
  ·exact rx h.2 v j
theorem ig {T:TypeId} {j:List (Nat×Operand)} {vs:List (Nat×Value×List Value)} {pl:List (Nat×Nat)} {z cells:List Value} (k:(j.map fun p=>(L.ev p.2).map fun v=>(p.1,v))=vs.map (fun p=>some (p.1,p.2.1)))
  (B:mV P T=some (pl,z)) (hc:rz vs) (hf:qR pl z vs=some cells) :
  OpV P n L w ⟨d,.build T j.toArray,ty,pos,after,none⟩ (.agg cells.toArray) w:=fun a ha=>by
 have he:j.map (fun p=>(p.1,a.eval p.2))=vs.map (fun p=>(p.1,p.2.1)):=by
  clear hc hf
  induction j generalizing vs with
  | nil=>cases vs <;> simp_all
  | cons p r ih=>
   cases vs with
   | nil=>simp at k
   | cons v s=>
    simp only[dm,iG]at k
    obtain⟨A,G⟩:=k
    cases hp:L.ev p.2 with
    | none=>rw[hp]at A; cases A
    | some u=>
     rw[hp]at A
     simp only[eN,fj]at A
     simp[ha.ev hp,A,ih G]
 have I:=run_build (P:=P) w T (j.toArray.map fun x=>(x.1,a.eval x.2)) cells.toArray (by
  have:=NX B (rx hc) hf
  simpa [he] using this)
 simp only[execOp,Sem.run_bind,I,Result.andThen_ok]; rfl
theorem Ol {T E:TypeId} {m:Nat} {x y:Operand} {cs:Array Value} {k:IntKind} {i:Int} {z:Nat} {u:Value} {D:TypeDesc} (hT:P.underlying T=some (.array m E)) (hE:P.underlying E=some D)
  (I:(match D with | .struct _ | .array _ _=>true | _=>false)=false) (j:(P.info? E).map (·.size)=some z)
  (hx:L.ev x=some (.agg cs)) (hy:L.ev y=some (.int k i)) (B:0<=i) (G:i<(m:Int)) (hu:cs[i.toNat*z]? = some u):OpV P n L w ⟨d,.index T x y,ty,pos,after,none⟩ u w:=fun a ha=>by
 have A:(isAgg E).run P w=.ok false w:=by
  unfold isAgg
  rw[Sem.run_bind,run_underlying hE w]
  cases D <;> simp_all
 cases hi:P.info? E with
 | none=>rw[hi]at j; cases j
 | some inf=>
  have hs:inf.size=z:=by rw[hi]at j; simpa using j
  simp[execOp,Instr.index,ha.ev hx,ha.ev hy,asIntOf,run_underlying hT,B,G,sizeOf,typeInfo,hi,hs,part,A,hu]
end
def eP {α β:Type} (e:Enc α) (f:Enc β):Enc (α×β):=⟨e.sz+f.sz,fun t=>e.cells t.1++f.cells t.2,fun t=>by rw[aR,e.len,f.len],fun t u h=>by
 rcases ce.1 h with h | h
 ·exact e.one _ _ h
 ·exact f.one _ _ h⟩
section
variable {P:Program} {n:Nat} {L:Env} {w w0:World} {Q:Exit->Act->World->Prop} {S:L01} {os:List OE}
variable {d:Option Tmp} {ty:TypeId} {pos:String} {after:Array Edge}
theorem jH {s:TypeId} {x:Operand} {A:Addr} {f k:Nat} {B:Array Field} {z:Field} (hs:P.underlying s=some (.struct B)) (hf:B[f]? = some z) (G:z.offset=k) (j:(P.info? z.type).map (·.size == 0)=some false)
  (hx:L.ev x=some (pP A)):OpV P n L w ⟨d,.fieldAddr s x f,ty,pos,after,none⟩ (pP (A.add k)) w:=fun a ha=>by
 cases hi:P.info? z.type with
 | none=>rw[hi]at j; cases j
 | some i=>
  have I:¬i.size=0:=by rw[hi]at j; simpa using j
  simp[execOp,Instr.fieldAt,ha.ev hx,run_underlying hs,hf,Instr.sureAddr,fieldPlace,sizeOf,typeInfo,hi,I,G]
theorem Oo {x:Operand} {T:TypeId} {D:TypeDesc} {τ:Type} {e:Enc τ} {v:Value} {l:List τ} {i:Int} {t:τ} {k:Nat} {u:Value} (hT:P.underlying T=some D) (j:(match D with | .struct _ | .array _ _=>true | _=>false)=false)
  (hx:L.ev x=some (pP ((ixA v e.sz i.toNat).add k))) (h:RO w e v l) (hg:au l i=some t) (z:Nat.blt k e.sz=true) (hu:(e.cells t)[k]? = some u) :
  OpV P n L w ⟨d,.load T x,ty,pos,after,none⟩ u w:=CK hT j hx (h.cellAt (iS hg).2.2 (ai z) hu)
theorem Oj {x:Operand} {T:TypeId} {D:TypeDesc} {τ:Type} {e:Enc τ} {v:Value} {l:List τ} {i:Int} {t:τ} (hT:P.underlying T=some D) (z:(match D with | .struct _ | .array _ _=>true | _=>false)=true)
  (hi:(P.info? T).map (·.size)=some e.sz) (hx:L.ev x=some (pP (ixA v e.sz i.toNat))) (h:RO w e v l) (hg:au l i=some t) :
  OpV P n L w ⟨d,.load T x,ty,pos,after,none⟩ (.agg (e.cells t).toArray) w:=fun a ha=>by
 have k:(isAgg T).run P w=.ok true w:=by
  unfold isAgg
  rw[Sem.run_bind,run_underlying hT w]
  cases D <;> simp_all
 cases hq:P.info? T with
 | none=>simp[hq]at hi
 | some inf=>
  have hs:inf.size=(e.cells t).length:=by rw[e.len]; simpa [hq] using hi
  have hl:(loadCells (ixA v e.sz i.toNat) (e.cells t).length).run P w=.ok (e.cells t).toArray w:=
   run_loadCells_list (P:=P) w _ (e.cells t) (fun j u hu=>h.cellAt (iS hg).2.2 (by have:=(br.1 hu).1; rwa [e.len]at this) hu)
  simp[execOp,Instr.loadAt,ha.ev hx,Instr.sureAddr,loadVar,k,sizeOf,typeInfo,hq,hs,hl]
theorem K8 {T E:TypeId} {m:Nat} {A:List (Nat×Operand)} {vs:List (Nat×Value×List Value)} {τ:Type} {e:Enc τ} {l:List τ} {z:Value} {bytes:Nat} (hT:P.underlying T=some (.slice E)) (hE:TI P E z e.sz bytes)
  (B:(A.map fun p=>(L.ev p.2).map fun v=>(p.1,v))=vs.map (fun p=>some (p.1,p.2.1))) (hc:rz vs) (hl:l.length=m)
  (hf:qR ((List.range m).map fun i=>(i*e.sz,e.sz)) ((List.range (m*e.sz)).map (fun i=>z.cells[i%z.cells.size]!)) vs=some (e.fl l)) (N:0<m*e.sz) (Y:m*e.sz<=16777216) (hS:St S w0 w os) :
  OpX P n L w ⟨d,.buildSlice T m A.toArray,ty,pos,after,none⟩ (fun v w'=>St S w0 w' (own e v l :: os)):=by
 obtain⟨G,hi,O,hs,hb⟩:=hE.get
 have I:=e.fl_length l
 have Z:m<=m*e.sz:=dX _ (eu fun h=>by rw[h]at N; simp at N)
 refine jY (.slice (some ⟨w.heap.size,0,none⟩) m m) (w.alloc (.cells (e.fl l).toArray E)) (fun a ha=>?_) ?_
 ·have he:A.map (fun p=>(p.1,a.eval p.2))=vs.map (fun p=>(p.1,p.2.1)):=by
   clear hc hf
   induction A generalizing vs with
   | nil=>cases vs <;> simp_all
   | cons p r ih=>
    cases vs with
    | nil=>simp at B
    | cons v s=>
     simp only[dm,iG]at B
     obtain⟨J,U⟩:=B
     cases hp:L.ev p.2 with
     | none=>rw[hp]at J; cases J
     | some u=>
      rw[hp]at J
      simp only[eN,fj]at J
      simp[ha.ev hp,J,ih U]
  have j:=xO (place:=fun i=>some (i*G.size,G.size)) (pl:=(List.range m).map fun i=>(i*e.sz,e.sz)) (fun i x hx=>by
   rw[f9]at hx
   by_cases hm:i<m
   ·rw[List.getElem?_range hm]at hx; rw[hs]; simpa using hx
   ·rw[dw (by simp; omega)]at hx; cases hx) vs _ _ (rx hc) hf
  have V:=run_buildSlice (P:=P) w T E m (A.toArray.map fun x=>(x.1,a.eval x.2)) (e.fl l).toArray G z hT hi O (by rw[hs]; omega) (by rw[hs]; omega) (by
   have:(A.toArray.map fun x=>(x.1,a.eval x.2)).toList=vs.map (fun p=>(p.1,p.2.1)):=by simp[he]
   rw[this]
   have R:((List.range (m*e.sz)).map (fun i=>z.cells[i%z.cells.size]!)).toArray=(Array.range (m*e.sz)).map (z.cells[·%z.cells.size]!):=by
    apply Array.ext'; simp
   rw[R]at j
   rw[hs]at j ⊢
   exact j)
  simp only[execOp,Sem.run_bind,V,Result.andThen_ok]; rfl
 ·refine hS.push (Fr.alloc _ _ _) (o:=own e _ _) ?_ ?_
  ·refine⟨e.fl_length _,.inr ⟨w.heap.size,m,(e.fl l).toArray,E,?_,hS.fresh,Row.new w _ _,?_,?_,?_,?_⟩⟩
   ·rw[hl]
   ·omega
   ·simp[maxLen]; omega
   ·simp[I,hl]
   ·simp only[]
    rw[aC (by rw[I]; exact aq _)]
  ·intro k X
   simp[OE.blk,Value.ownBlock]at X
   omega
theorem St.trunc {τ:Type} {e:Enc τ} {v:Value} {l:List τ} {i k:Nat} (h:St S w0 w os) (hi:os[i]? = some (own e v l)) (R:k<=l.length):St S w0 w (os.set i (own e (slV v e.sz 0 k) (l.take k))):=by
 have G:=h.ok _ (bI hi)
 have z:(l.take k).length=k:=by simp; omega
 refine h.set hi (o':=own e _ _) (Fr.refl _ _) ⟨e.fl_length _,?_⟩ ?_
 ·rcases G.2 with⟨rfl,hn⟩ | ⟨g,j,I,T,rfl,J,hg,U,N,O,A⟩
  ·left
   have:k=0:=by omega
   subst this
   simp[slV]
  ·right
   refine⟨g,j,I,T,?_,J,hg,by omega,N,O,?_⟩
   ·rw[z]
    by_cases hc:j=0
    ·simp[slV,hc]
    ·simp[slV,hc,Addr.add]
   ·rw[z,e.fl_take,<-A,List.take_take]
    congr 1
    have:=bg e.sz R
    omega
 ·intro q B
  left
  rcases G.2 with⟨rfl,hn⟩ | ⟨g,j,I,T,rfl,_⟩
  ·simp[OE.blk,slV,Value.ownBlock]at B
  ·simp only[OE.blk]at B ⊢
   by_cases hc:j=0
   ·simpa [slV,hc,Value.ownBlock] using B
   ·simpa [slV,hc,Value.ownBlock,Addr.add] using B
end
end Go.Gk
end
section
namespace Go.Gk
open Go Go.RowKit Go.Lib
section
variable {P:Program} {n:Nat} {L:Env} {w w' w0:World} {Q:Exit->Act->World->Prop} {S:L01} {os os0 os1:List OE}
variable {d:Option Tmp} {ty:TypeId} {pos:String} {after:Array Edge}
def fg (os:List OE):L01:=os.filterMap OE.blk
theorem fh {k:Nat}:k∈fg os↔∃o∈os,o.blk=some k:=by simp[fg,List.mem_filterMap]
theorem OE.ok.re {S z:L01} {B A:Nat} {o:OE} (h:o.ok S B w) (hb:∀k,o.blk=some k->fre S B k->fre z A k):o.ok z A w:=by
 cases o with
 | sl v sz n cs=>
  refine⟨h.1,?_⟩
  rcases h.2 with hn | ⟨g,G,I,T,rfl,hf,rest⟩
  ·exact .inl hn
  ·exact .inr ⟨g,G,I,T,rfl,hb g rfl hf,rest⟩
 | rd v sz n cs=>
  obtain⟨hl,a,c,rfl,hc,hx⟩:=h
  refine⟨hl,a,c,rfl,hc,fun hn=>?_⟩
  obtain⟨b,off,rfl,J,hf,j⟩:=hx hn
  exact⟨b,off,rfl,J,hb b (by simp[OE.blk,hn,Value.ownBlock]) hf,j⟩
 | bx b cs=>exact⟨hb b rfl h.1,h.2⟩
theorem St.give (h:St S w0 w (os0++os)):St (fg os0) w w os0:=
 ⟨Fr.refl _ _,fun o j=>(h.ok o (cg _ j)).re fun k z _=>.inr (fh.2 ⟨o,j,z⟩),(da.1 h.dj).1⟩
theorem St.back (h:St S w0 w (os0++os)) (A:St (fg os0) w w' os1):St S w0 w' (os1++os):=by
 have B:∀k,fre (fg os0) w.heap.size k->fre S w0.heap.size k:=by
  intro k j
  rcases j with j | j
  ·exact .inl (aA h.fr.size j)
  ·obtain⟨o,z,hb⟩:=fh.1 j
   exact ((h.ok o (cg _ z)).lt hb).2
 have hx:=(da.1 h.dj).2
 refine⟨h.fr.step A.fr fun k j=>B k (.inr j),?_,?_⟩
 ·intro o z
  rcases ce.1 z with z | z
  ·exact (A.ok o z).re fun k _ hf=>B k hf
  ·refine (h.ok o (bU _ z)).fr A.fr fun k j hb=>?_
   obtain⟨p,hp,I⟩:=fh.1 j
   exact hx.2 p hp o z k I hb
 ·refine da.2 ⟨A.dj,hx.1,fun o z p hp k j G=>?_⟩
  have R:=((h.ok p (bU _ hp)).lt G).1
  rcases ((A.ok o z).lt j).2 with J | J
  ·omega
  ·obtain⟨q,O,N⟩:=fh.1 J
   exact hx.2 q O p hp k N G
theorem RP.give {τ:Type} {e:Enc τ} {v:Value} {l:List τ} (h:RP S w0 e v l) (hz:0<e.sz) (hS:St S w0 w (os0++os)):RP (fg os0) w e v l:=by
 refine⟨h.now hS.fr,fun hl k I hb=>?_⟩
 obtain⟨o,J,A⟩:=fh.1 I
 have j:=((hS.ok o (cg _ J)).lt A).2
 obtain⟨a,c,rfl,hc,N⟩:=h.1
 obtain⟨b,off,rfl,z⟩:=N hl
 have B:b=k:=by simpa [Value.ownBlock] using hb
 subst B
 rcases j with j | j
 ·have G:0<(e.fl l).length:=by
   rw[e.fl_length]
   exact Nat.mul_pos (fE.2 hl) hz
  have:=py (z 0 _ (aw G))
  simp only at this
  omega
 ·exact h.2 hl b j rfl
theorem St.giveO {τ:Type} {e:Enc τ} {v:Value} {l:List τ} (hS:St S w0 w (os0++os)) (i:Nat) (hi:os[i]? = some (own e v l)):RP (fg os0) w e v l:=by
 have hm:=bI hi
 refine⟨(hS.ok _ (bU _ hm)).ro,fun hl k z hb=>?_⟩
 obtain⟨o,A,j⟩:=fh.1 z
 exact (da.1 hS.dj).2.2 o A _ hm k j hb
theorem RP.tk {τ:Type} {e:Enc τ} {v:Value} {l:List τ} (h:RP S w e v l) {k:Nat} (j:k<=l.length):RP S w e (slV v e.sz 0 k) (l.take k):=h.subh j
theorem OE.ok.red {S:L01} {B:Nat} {τ:Type} {e:Enc τ} {v:Value} {l:List τ} (h:(own e v l).ok S B w):(red e v l).ok S B w:=by
 refine⟨h.1,?_⟩
 rcases h.2 with⟨rfl,hn⟩ | ⟨g,A,I,T,rfl,hf,hg,G,J,N,k⟩
 ·exact⟨none,0,by rw[hn],by rw[hn]; exact aq _,fun h=>absurd hn h⟩
 ·refine⟨_,A,rfl,G,fun _=>⟨g,0,rfl,hg.lt,hf,fun j u z=>?_⟩⟩
  rw[<-k,bY]at z
  split at z
  ·rw[bn,hg.cell j]
   simpa using z
  ·cases z
def Hn (u:Value) (o:Option (List Value)):Prop:=match o with
 | none=>u=.pointer none
 | some _=>∃b,u=pB b 0
def Hk (u:Value) (o:Option (List Value)):List OE:=match o,u with
 | some cs,.pointer (some a)=>[.bx a.block cs]
 | _,_=>[]
theorem Hg {T E:TypeId} (hT:P.underlying T=some (.pointer E)) (b off k:Nat) (w:World):(Op.equalIn (k+1) T (pB b off) (.pointer none)).run P w=.ok false w:=by
 simp[Op.equalIn,run_underlying hT]
theorem Mt {T E:TypeId} (hT:P.underlying T=some (.pointer E)) (k:Nat) (w:World):(Op.equalIn (k+1) T (.pointer none) (.pointer none)).run P w=.ok true w:=by
 simp[Op.equalIn,run_underlying hT]
theorem CC {T E:TypeId} (hT:P.underlying T=some (.pointer E)) (b off:Nat) (w:World):(Op.equal T (pB b off) (.pointer none)).run P w=.ok false w:=Hg hT b off 9999 w
theorem JD {T E:TypeId} (hT:P.underlying T=some (.pointer E)) (w:World):(Op.equal T (.pointer none) (.pointer none)).run P w=.ok true w:=Mt hT 9999 w
theorem Qv {T E:TypeId} (hT:P.underlying T=some (.pointer E)) (b off:Nat):cL P .neq T (pB b off) (.pointer none) (vB true):=fun _ _ w=>by
 simp[eqGuard,binOp,CC hT]
theorem QR {T E:TypeId} (hT:P.underlying T=some (.pointer E)):cL P .neq T (.pointer none) (.pointer none) (vB false):=fun _ _ w=>by
 simp[eqGuard,binOp,JD hT]
theorem IW {T E:TypeId} (hT:P.underlying T=some (.pointer E)) (b off:Nat):cL P .eql T (pB b off) (.pointer none) (vB false):=fun _ _ w=>by
 simp[eqGuard,binOp,CC hT]
theorem J5 {T E:TypeId} (hT:P.underlying T=some (.pointer E)):cL P .eql T (.pointer none) (.pointer none) (vB true):=fun _ _ w=>by
 simp[eqGuard,binOp,JD hT]
theorem Ir {T E:TypeId} (hT:P.underlying T=some (.slice E)) (a:Option Addr) (n c k:Nat) (w:World):(Op.equalIn (k+1) T (.slice a n c) (.slice none 0 0)).run P w=.ok a.isNone w:=by
 cases a <;> simp[Op.equalIn,run_underlying hT]
theorem F1 {T E:TypeId} (hT:P.underlying T=some (.slice E)) (a:Option Addr) (n c:Nat) (w:World):(Op.equal T (.slice a n c) (.slice none 0 0)).run P w=.ok a.isNone w:=Ir hT a n c 9999 w
theorem IS {T E:TypeId} {a:Option Addr} {n c:Nat} (hT:P.underlying T=some (.slice E)):cL P .neq T (.slice a n c) (.slice none 0 0) (vB (!a.isNone)):=fun _ _ w=>by
 simp[eqGuard,binOp,F1 hT]
theorem NC {T E:TypeId} {a:Option Addr} {n c:Nat} (hT:P.underlying T=some (.slice E)):cL P .eql T (.slice a n c) (.slice none 0 0) (vB a.isNone):=fun _ _ w=>by
 simp[eqGuard,binOp,F1 hT]
theorem ve (m:L00):strCells ⟨⟨m⟩⟩=e8.fl m:=by rw[Ba]; rfl
theorem o8 (t u ty e:TypeId) (i:TypeInfo) (J:P.underlying t=some (.slice e)) (hu:P.underlying u=some .string) (hi:P.info? e=some i) (I:i.size=1)
  (g j z:Nat) (k:Array Value) (T:TypeId) (hg:Row w g k T) (s:ByteArray)
  (A:j+s.size<=z) (G:j+s.size<=k.size) :
  (Builtin.append_ #[t,u] ty #[.slice (some ⟨g,0,none⟩) j z,.string s]).run P w =
   .ok (.slice (some ⟨g,0,none⟩) (j+s.size) z) (w.setRow g (k.toList.take j++strCells s++k.toList.drop (j+s.size)).toArray):=by
 have hf:=run_firstCells_string (P:=P) w 1 s
 have B:=kJ P g j T (strCells s) 0 k w hg (by simpa [strCells_length] using G) (strCells_oneCell s)
 simp only[bb,strCells_length]at B
 simp[Builtin.append_,run_underlying J,run_underlying hu,sizeOf,typeInfo,hi,I,Builtin.lenOf,A,hf,Addr.add_lit,B]
theorem C9 {j:Array Value} {a k:Nat} {us:List Value} (h:a+us.length<=j.size) (z:k=a+us.length):(j.toList.take a++us++j.toList.drop k).toArray.size=j.size:=by
 subst z
 simp only[eM,aR,az,bj,fF]
 omega
theorem p8 {T U E ty:TypeId} {v:Value} {l m:L00} {B:Nat} (hT:P.underlying T=some (.slice E)) (X:P.underlying U=some .string) (hE:TI P E (.int .u8 0) 1 1)
  (ho:(own e8 v l).ok S B w) (hB:B<=w.heap.size) (hb:l.length+m.length<=225000000000000 / 1) :
  ∃v' w',(Builtin.append_ #[T,U] ty #[v,vS m]).run P w=.ok v' w'/\(own e8 v' (l++m)).ok S B w'/\Fr (own e8 v l).blk.toList w w'/\(∀k,(own e8 v' (l++m)).blk=some k->(own e8 v l).blk=some k\/w.heap.size<=k):=by
 obtain⟨R,hi,b2,hs,b3⟩:=hE.get
 have z:(⟨⟨m⟩⟩:ByteArray).size=m.length:=rfl
 have J:∀x:L00,(e8.fl x).length=x.length:=fun x=>by rw[e8.fl_length]; exact de _
 by_cases hm:m=[]
 ·subst hm
  have b4:(strCells ⟨⟨[]⟩⟩)=[]:=rfl
  rcases ho.2 with⟨rfl,hn⟩ | ⟨g,A,N,Y,rfl,Z,hg,ab,ac,V,G⟩
  ·have hl:l=[]:=bA hn
   subst hl
   refine⟨.slice none 0 0,w,?_,by simpa using ho,Fr.refl _ _,fun k O=>.inl (by simpa using O)⟩
   have hf:=run_firstCells_string (P:=P) w 1 ⟨⟨[]⟩⟩
   rw[z]at hf
   simp only[fw]at hf
   simp[Builtin.append_,run_underlying hT,run_underlying X,sizeOf,typeInfo,hi,hs,Builtin.lenOf,z,hf]
  ·have ad:A<=N.size:=by simpa [e8] using V
   have I:=o8 (P:=P) (w:=w) T U ty E R hT X hi hs g l.length A N Y hg ⟨⟨[]⟩⟩ (by rw[z]; simpa using ab) (by rw[z]; simp; omega)
   refine⟨_,_,I,⟨e8.fl_length _,.inr ⟨g,A,_,Y,by simp[z],Z,hg.set _ (C9 (by simp[z,strCells_length,e8]at V ⊢; omega) (by simp[z,strCells_length,e8])),by simpa using ab,ac,?_,?_⟩⟩,Fr.setRow w g _,fun k O=>.inl (by simpa [OE.blk,Value.ownBlock] using O)⟩
   ·simp only[b4,z,dS,fw,bb,ch]
    simpa [e8] using ad
   ·simp only[b4,z,dS,fw,bb,ch]
    exact G
 ·have cf:0<m.length:=fE.2 hm
  rcases ho.2 with⟨rfl,hn⟩ | ⟨g,A,N,Y,rfl,Z,hg,ab,ac,V,G⟩
  ·have hl:l=[]:=bA hn
   subst hl
   simp only[fw,bn]at hb
   have I:=Go.run_append_nil_string (P:=P) w T U ty E R (.int .u8 0) hT X hi b2 ⟨⟨m⟩⟩ (by rw[z]; omega) (by rw[z]; omega) (by rw[z,b3]; omega)
   have e1:((⟨⟨m⟩⟩:ByteArray).data.map fun b=>Value.int .u8 b.toNat)=(e8.fl m).toArray:=by
    rw[Ba]; simp
   rw[e1,z]at I
   refine⟨_,_,I,⟨e8.fl_length _,.inr ⟨w.heap.size,grownCap w m.length 0 E,_,E,?_,.inl hB,Row.new w.drew _ _,?_,?_,?_,?_⟩⟩,(Fr.drew _ w).trans (Fr.alloc _ _ _),?_⟩
   ·simp
   ·simp; exact grownCap_ge w m.length 0 E
   ·exact grownCap_le_maxLen w m.length 0 E (by simp[maxLen]; omega)
   ·have:=grownCap_ge w m.length 0 E
    have ap:(Value.int IntKind.u8 0).cells.size=1:=rfl
    simp only[Array.size_append,eM,size_zeroCells,ap,J]
    simp only[e8]
    omega
   ·simp only[cZ,Array.toList_append,List.toList_toArray]
    rw[<-e8.fl_length]
    exact g9
   ·intro k O
    simp[OE.blk,Value.ownBlock]at O
    right; omega
  ·by_cases hroom:l.length+m.length<=A
   ·have ad:A<=N.size:=by simpa [e8] using V
    have I:=o8 (P:=P) (w:=w) T U ty E R hT X hi hs g l.length A N Y hg ⟨⟨m⟩⟩ (by rw[z]; exact hroom) (by rw[z]; omega)
    rw[ve,z]at I
    refine⟨_,_,I,⟨e8.fl_length _,.inr ⟨g,A,_,Y,by simp,Z,hg.set _ (C9 (by rw[J]; omega) (by rw[J])),by simpa using hroom,ac,?_,?_⟩⟩,Fr.setRow w g _,fun k O=>.inl (by simpa [OE.blk,Value.ownBlock] using O)⟩
    ·simp only[eM,aR,az,bj,fF,J]
     simp only[e8]
     omega
    ·have ht:N.toList.take l.length=e8.fl l:=by simpa [e8] using G
     rw[ht,<-e8.fl_append,<-e8.fl_length]
     exact g9
   ·have ax:∀j x,(e8.fl l)[j]? = some x->w.cell? ((⟨g,0,none⟩:Addr).add j)=some x:=fun j x hj=>by
     rw[jQ,bn,hg.cell j]
     rw[<-G,bY]at hj
     split at hj
     ·simpa using hj
     ·cases hj
    have I:=run_append_grow_string (P:=P) w T U ty E R (.int .u8 0) hT X hi b2 ⟨g,0,none⟩ l.length A (e8.fl l) (by rw[hs,J]; omega) ax ⟨⟨m⟩⟩ (by rw[z]; omega) (by rw[z]; omega)
     (by rw[z,b3]; exact zT q10 q10 q10)
    rw[ve,z]at I
    refine⟨_,_,I,⟨e8.fl_length _,.inr ⟨w.heap.size,grownCap w (l.length+m.length) A E,_,E,?_,.inl hB,Row.new w.drew _ _,?_,?_,?_,?_⟩⟩,(Fr.drew _ w).trans (Fr.alloc _ _ _),?_⟩
    ·simp
    ·simp; exact grownCap_ge w (l.length+m.length) A E
    ·exact grownCap_le_maxLen w (l.length+m.length) A E (by simp[maxLen]; omega)
    ·have:=grownCap_ge w (l.length+m.length) A E
     have ap:(Value.int IntKind.u8 0).cells.size=1:=rfl
     simp only[Array.size_append,eM,size_zeroCells,ap,J]
     simp only[e8]
     omega
    ·simp only[Array.toList_append,bh]
     rw[<-bh,<-e8.fl_append,<-e8.fl_length]
     exact g9
    ·intro k O
     simp[OE.blk,Value.ownBlock]at O
     right; omega
theorem KA {x y:Operand} {T U E:TypeId} {v:Value} {l m r:L00} {i:Nat} (hT:P.underlying T=some (.slice E)) (k:P.underlying U=some .string) (hE:TI P E (.int .u8 0) 1 1)
  (hx:L.ev x=some v) (hy:L.ev y=some (vS m)) (hS:St S w0 w os) (hi:os[i]? = some (own e8 v l)) (hg:apO 1 l m=some r) :
  OpX P n L w ⟨d,.call ⟨.builtin .append,#[x,y],#[T,U]⟩,ty,pos,after,none⟩ (fun j w'=>St S w0 w' (os.set i (own e8 j r))):=by
 obtain⟨rfl,hb⟩:=qx hg
 obtain⟨j,w',z,A,B,G⟩:=p8 (ty:=ty) (m:=m) hT k hE (hS.ok _ (bI hi)) hS.fr.size q10
 refine jY j w' (fun a ha=>?_) (hS.set hi B A G)
 simp[execOp,resolve,invoke,builtin,ha.ev hx,ha.ev hy,z]
theorem HD {x y:Operand} {T U E:TypeId} {m r:L00} (hT:P.underlying T=some (.slice E)) (A:P.underlying U=some .string) (hE:TI P E (.int .u8 0) 1 1)
  (hx:L.ev x=some (.slice none 0 0)) (hy:L.ev y=some (vS m)) (hS:St S w0 w os) (hg:apO 1 [] m=some r) :
  OpX P n L w ⟨d,.call ⟨.builtin .append,#[x,y],#[T,U]⟩,ty,pos,after,none⟩ (fun z w'=>St S w0 w' (own e8 z r :: os)):=by
 obtain⟨j,hb⟩:=qx hg
 have j:r=m:=j
 subst j
 have hn:(own e8 (.slice none 0 0) ([]:L00)).ok S w0.heap.size w:=⟨by simp,.inl ⟨rfl,rfl⟩⟩
 obtain⟨z,w',B,G,I,J⟩:=p8 (ty:=ty) (m:=r) hT A hE hn hS.fr.size q10
 refine jY z w' (fun a ha=>?_) (hS.push (by simpa [OE.blk,Value.ownBlock] using I) G fun k N=>?_)
 ·simp[execOp,resolve,invoke,builtin,ha.ev hx,ha.ev hy,B]
 ·rcases J k N with h | h
  ·simp[OE.blk,Value.ownBlock]at h
  ·exact h
theorem JM {ops:Array Oper} {C D:World->Prop} {fl:Nat->Bool} {i:Nat} {r:L01} {d:Nat} {op:Op} {v:Value} (j:C w) (k:ops[i]? = some ⟨some d,op,ty,pos,after,none⟩) (hf:fl i=false)
  (z:OpV P n L w ⟨some d,op,ty,pos,after,none⟩ v w) (hd:Nat.blt d n=true) (h:lxE P n ops C D Q fl r ((d,v) :: L) w):lxE P n ops C D Q fl (i :: r) L w:=
 sP j k hf (Φ:=fun A w'=>A=v/\w'=w) (jY v w z ⟨rfl,rfl⟩) hd (by rintro _ _ ⟨rfl,rfl⟩; exact h)
theorem zH {T:TypeId} {D:TypeDesc} {b:Nat} {us:List Value} (hT:P.underlying T=some D) (A:(match D with | .struct _ | .array _ _=>true | _=>false)=true)
  (hi:(P.info? T).map (·.size)=some us.length) (hc:∀j u,us[j]? = some u->w.cell? ⟨b,0+j,none⟩=some u):(loadVar T ⟨b,0,none⟩).run P w=.ok (.agg us.toArray) w:=by
 have k:(isAgg T).run P w=.ok true w:=by
  unfold isAgg
  rw[Sem.run_bind,run_underlying hT w]
  cases D <;> simp_all
 cases hq:P.info? T with
 | none=>simp[hq]at hi
 | some i=>
  have hs:i.size=us.length:=by simpa [hq] using hi
  have hl:(loadCells ⟨b,0,none⟩ us.length).run P w=.ok us.toArray w:=
   run_loadCells_list (P:=P) w ⟨b,0,none⟩ us (fun j v z=>by rw[sU]; exact hc j v z)
  simp[loadVar,k,sizeOf,typeInfo,hq,hs,hl]
def RV (P:Program) (L:Env) (w:World):ResultVar->Value->Prop
 | .tmp t,v=>L.get t=some v
 | .cell t T,v=>∃b,L.get t=some (pB b 0)/\(loadVar T ⟨b,0,none⟩).run P w=.ok v w
theorem jG (b off:Nat) (w:World):(asAddr (pB b off)).run P w=.ok ⟨b,off,none⟩ w:=rfl
theorem Kl {fn:Func} {z:ResultVar} {A:Value} {φ:Value->World->Prop} (j:fn.results=#[z]) (B:RV P L w z A) (h:φ A w):QE n (bodyPost P fn (Ret φ)) .ret L w:=fun a ha=>by
 refine⟨ha.defers,A,?_,h⟩
 cases z
 ·have k:=ha.get _ _ B
  simp[results,j,k]
 ·obtain⟨b1,k,G⟩:=B
  have k:=ha.get _ _ k
  simp[results,j,k,G,jG]
theorem RF {fn:Func} {G I:ResultVar} {J N:Value} {φ:Value->World->Prop} (z:fn.results=#[G,I]) (A:RV P L w G J) (B:RV P L w I N) (h:φ (.tuple #[J,N]) w):QE n (bodyPost P fn (Ret φ)) .ret L w:=fun a ha=>by
 refine⟨ha.defers,.tuple #[J,N],?_,h⟩
 cases G <;> cases I
 ·have j:=ha.get _ _ A
  have k:=ha.get _ _ B
  simp[results,z,j,k]
 ·have j:=ha.get _ _ A
  obtain⟨U,k,O⟩:=B
  have k:=ha.get _ _ k
  simp[results,z,j,k,O,jG]
 ·obtain⟨b1,j,R⟩:=A
  have j:=ha.get _ _ j
  have k:=ha.get _ _ B
  simp[results,z,j,k,R,jG]
 ·obtain⟨b1,j,R⟩:=A
  have j:=ha.get _ _ j
  obtain⟨U,k,O⟩:=B
  have k:=ha.get _ _ k
  simp[results,z,j,k,R,O,jG]
def SHP (v:Value) (m:Nat):Prop:=∃a c,v=.slice a m c/\m<=c/\(m≠0->∃b off,a=some ⟨b,off,none⟩)
theorem RO.shp {τ:Type} {e:Enc τ} {v:Value} {l:List τ} (h:RO w e v l):SHP v l.length:=by
 obtain⟨a,c,rfl,hc,j⟩:=h
 refine⟨a,c,rfl,hc,fun hn=>?_⟩
 obtain⟨b,off,k,_⟩:=j (by rintro rfl; simp at hn)
 exact⟨b,off,k⟩
theorem HA {x y:Operand} {T E:TypeId} {k:IntKind} {i:Int} {τ:Type} {e:Enc τ} {v:Value} {l:List τ} {t:τ} {z:Value} {bytes:Nat} (hT:P.underlying T=some (.slice E)) (hE:TI P E z e.sz bytes)
  (hx:L.ev x=some v) (hy:L.ev y=some (.int k i)) (h:SHP v l.length) (hg:au l i=some t) :
  OpV P n L w ⟨d,.indexAddr T x y,ty,pos,after,none⟩ (pP (ixA v e.sz i.toNat)) w:=fun a ha=>by
 obtain⟨j,I,_⟩:=iS hg
 obtain⟨q,c,rfl,hc,A⟩:=h
 obtain⟨b,off,rfl⟩:=A q10
 obtain⟨G,hi,_,hs,_⟩:=hE.get
 have B:i<l.length:=by omega
 simp[execOp,ha.ev hx,ha.ev hy,Instr.indexAt,asIntOf,run_underlying hT,j,B,sizeOf,typeInfo,hi,hs,ixA]
theorem vr {τ:Type} {l y:List τ} {i:Int} {x t:τ} (hy:l.set i.toNat t=y) (hx:au l i=some x):au y i=some t:=by
 obtain⟨j,k,_⟩:=iS hx
 subst hy
 simp[au,j,k]
theorem yM {x y:Operand} {T:TypeId} {p q:Int} (hx:L.ev x=some (vI p)) (hy:L.ev y=some (vI q)):OpV P n L w ⟨d,.call ⟨.builtin .min,#[x,y],#[T,T]⟩,ty,pos,after,none⟩ (vI (min p q)) w:=fun a ha=>by
 have j:(if q<p then q else p)=min p q:=by split <;> omega
 have k:(Builtin.min2 (vI p) (vI q)).run P w=.ok (vI (min p q)) w:=by rw[<-j]; rfl
 simp[execOp,resolve,invoke,builtin,Builtin.min_,ha.ev hx,ha.ev hy,k]
theorem OB {x y:Operand} {T:TypeId} {p q:Int} (hx:L.ev x=some (vI p)) (hy:L.ev y=some (vI q)):OpV P n L w ⟨d,.call ⟨.builtin .max,#[x,y],#[T,T]⟩,ty,pos,after,none⟩ (vI (max p q)) w:=fun a ha=>by
 have j:(if p<q then q else p)=max p q:=by split <;> omega
 have k:(Builtin.max2 (vI p) (vI q)).run P w=.ok (vI (max p q)) w:=by rw[<-j]; rfl
 simp[execOp,resolve,invoke,builtin,Builtin.max_,ha.ev hx,ha.ev hy,k]
end
end Go.Gk
end
section
namespace Go.Gk
open Go Go.RowKit
section
variable {P:Program} {n:Nat} {L:Env} {w w' w0:World} {Q:Exit->Act->World->Prop} {S:L01} {os os0 os1:List OE}
variable {d:Option Tmp} {ty:TypeId} {pos:String} {after:Array Edge}
theorem B1 {T E:TypeId} {τ:Type} {e:Enc τ} {z:Value} {bytes:Nat} (hT:P.underlying T=some (.slice E)) (hE:TI P E z e.sz bytes) (hS:St S w0 w os) :
  OpX P n L w ⟨d,.buildSlice T 0 #[],ty,pos,after,none⟩ (fun v w'=>St S w0 w' (own e v ([]:List τ) :: os)):=by
 obtain⟨B,hi,G,hs,hb⟩:=hE.get
 refine jY (.slice (some ⟨w.heap.size,0,none⟩) 0 0) (w.alloc (.cells #[] E)) (fun a ha=>?_) ?_
 ·have j:(Array.map (fun _:Nat=>(default:Value)) (Array.range 0))=#[]:=Array.eq_empty_of_size_eq_zero (by simp)
  simp[execOp,Instr.buildSlice,run_underlying hT,sizeOf,typeInfo,hi,Instr.fill,newRow,j]
 ·refine hS.push (Fr.alloc _ _ _) (o:=own e _ _) ?_ ?_
  ·exact⟨by simp,.inr ⟨w.heap.size,0,#[],E,rfl,hS.fresh,Row.new w _ _,aq _,by simp[maxLen],by simp,by simp⟩⟩
  ·intro k A
   simp[OE.blk,Value.ownBlock]at A
   omega
def SV.of (v:Value):SV:=match v with
 | .slice a n c=>⟨a,n,c⟩
 | _=>⟨none,0,0⟩
theorem RO.sv {τ:Type} {e:Enc τ} {v:Value} {l:List τ} (h:RO w e v l):(SV.of v).v=v:=by
 obtain⟨a,c,rfl,_⟩:=h; rfl
theorem RO.svrp {τ:Type} {e:Enc τ} {v:Value} {l:List τ} (h:RO w e v l):RP [] w e (SV.of v).v l:=by rw[h.sv]; exact h.rp
theorem RP.sv {τ:Type} {e:Enc τ} {v:Value} {l:List τ} (h:RP S w e v l):RP S w e (SV.of v).v l:=by rw[h.1.sv]; exact h
theorem ul {v:Value} {r:List SV} {vs:List Value} (h:(SV.of v).v=v) (j:eV.fl r=vs):eV.fl (SV.of v :: r)=v :: vs:=by
 rw[<-j]
 show [(SV.of v).v]++eV.fl r=v :: eV.fl r
 rw[h]; rfl
def ki (S:L01) (w:World) {τ:Type} (e:Enc τ):List SV->List (List τ)->Prop
 | [],[]=>True
 | s :: r,l :: m=>RP S w e s.v l/\ki S w e r m
 | _,_=>False
theorem ki.len {τ:Type} {e:Enc τ}:∀{s:List SV} {m:List (List τ)},ki S w e s m->s.length=m.length
 | [],[],_=>rfl
 | _ :: _,_ :: _,h=>by simp[ki.len h.2]
theorem ki.nth {τ:Type} {e:Enc τ}:∀{s:List SV} {m:List (List τ)},ki S w e s m->∀{i:Nat} {l:List τ},m[i]? = some l->∃v,s[i]? = some v/\RP S w e v.v l
 | [],[],_,i,l,hi=>by simp at hi
 | a :: r,b :: m,h,0,l,hi=>by simp at hi; subst hi; exact⟨a,rfl,h.1⟩
 | a :: r,b :: m,h,i+1,l,hi=>by simpa using ki.nth h.2 (by simpa using hi)
theorem ki.get {τ:Type} {e:Enc τ} {s:List SV} {m:List (List τ)} (h:ki S w e s m) {i:Int} {l:List τ} (hi:au m i=some l):∃v,au s i=some v/\RP S w e v.v l:=by
 obtain⟨j,_,k⟩:=iS hi
 obtain⟨v,z,A⟩:=h.nth k
 exact⟨v,by simp[au,j,z],A⟩
theorem Nz {x:Operand} {T E:TypeId} {τ:Type} {v:Value} {s:List SV} {m:List (List τ)} (hT:P.underlying T=some (.slice E)) (hx:L.ev x=some v) (h:RO w eV v s) (hl:s.length=m.length) :
  OpV P n L w ⟨d,.call ⟨.builtin .len,#[x],#[T]⟩,ty,pos,after,none⟩ (vI m.length) w:=by
 have:=dV (n:=n) (d:=d) (ty:=ty) (pos:=pos) (after:=after) hT hx h
 rwa [hl]at this
section
variable {T E:TypeId} {τ:Type} {e:Enc τ} {v:Value} {l r:List τ} {z0:Value} {bytes:Nat}
end
theorem Ig (T:TypeId) (x y:Bool) {D:TypeDesc} (hT:P.underlying T=some D) (j:D=.bool):cL P .eql T (vB x) (vB y) (vB (x == y)):=fun _ _ w=>by
 subst j
 have h:∀k,(Op.equalIn (k+1) T (vB x) (vB y)).run P w=.ok (x == y) w:=fun k=>by simp[Op.equalIn,run_underlying hT]
 have z:(Op.equal T (vB x) (vB y)).run P w=.ok (x == y) w:=h 9999
 simp[eqGuard,binOp,z]
theorem KC (T:TypeId) (x y:Bool) {D:TypeDesc} (hT:P.underlying T=some D) (j:D=.bool):cL P .neq T (vB x) (vB y) (vB (x != y)):=fun _ _ w=>by
 subst j
 have h:∀k,(Op.equalIn (k+1) T (vB x) (vB y)).run P w=.ok (x == y) w:=fun k=>by simp[Op.equalIn,run_underlying hT]
 have z:(Op.equal T (vB x) (vB y)).run P w=.ok (x == y) w:=h 9999
 simp[eqGuard,binOp,z,bne]
theorem RP.isnil {τ:Type} {e:Enc τ} {v:Value} {l:List τ} {T E:TypeId} (h:RP S w e v l) (hT:P.underlying T=some (.slice E)) :
  (l=[]/\cL P .eql T v (.slice none 0 0) (vB true)/\cL P .neq T v (.slice none 0 0) (vB false))\/(cL P .eql T v (.slice none 0 0) (vB false)/\cL P .neq T v (.slice none 0 0) (vB true)):=by
 obtain⟨a,c,rfl,hc,j⟩:=h.1
 cases a with
 | some a=>exact .inr ⟨NC hT,IS hT⟩
 | none=>
  refine .inl ⟨?_,NC hT,IS hT⟩
  cases l with
  | nil=>rfl
  | cons x r=>obtain⟨b,off,k,_⟩:=j (by simp); cases k
end
end Go.Gk
end
section
namespace Go.Gk
section
variable {P:Program} {n:Nat} {L:Env} {w w0:World} {Q:Exit->Act->World->Prop}
variable {d:Option Nat} {ty:TypeId} {pos:String} {after:Array Edge}
theorem IV {o:Oper} {x:Operand} {f:FuncId} {xs:List Operand} {k:Array TypeId} {vs j:List Value} {a:Act} (z:o.op=.call ⟨.value x,xs.toArray,k⟩)
  (hx:a.eval x=.func (.func f) #[] j.toArray) (hf:mK P f=true) (hargs:xs.map a.eval=vs):(execOp a.eval o).run P w=.ok (.enter f (vs++j).toArray) w:=by
 simp only[execOp,z,resolve,hx,Deferred.ofValue,Sem.run_bind,Sem.run_pure,Result.andThen_ok,invoke]
 have:(#[]++Array.map a.eval xs.toArray++j.toArray:Array Value)=(vs++j).toArray:=by simp[hargs]
 rw[this]
 exact tv hf
end
section
variable {P:Program} {n:Nat} {L:Env} {w w0:World} {Q:Exit->Act->World->Prop} {S:L01} {os:List OE}
variable {d:Option Nat} {ty:TypeId} {pos:String} {after:Array Edge}
end
end Go.Gk
end
section
namespace Go.Gk
open Go Go.RowKit
theorem NP {a b:OE} (h:OE.dj a b):OE.dj b a:=by
 unfold OE.dj at *
 intro k z j
 exact h k j z
theorem St.perm {S:L01} {w0 w:World} {os os':List OE} (h:St S w0 w os) (hp:os.Perm os'):St S w0 w os':=
 ⟨h.fr,fun o k=>h.ok o (hp.mem_iff.2 k),(hp.pairwise_iff (fun {a b} j=>NP j)).1 h.dj⟩
theorem St.tail {S:L01} {w0 w:World} {l os:List OE} (h:St S w0 w (l++os)):St S w0 w os:=
 ⟨h.fr,fun o j=>h.ok o (bU _ j),(da.1 h.dj).2.1⟩
section
variable {P:Program} {ops:Array Oper} {Q:Exit->Act->World->Prop} {nw:Nat->Bool} {S:L01} {w0:World} {os:List OE} {ent:Nat->Value->OE} {news:L01}
variable {n:Nat} {L:Env}
end
section
variable {P:Program} {n:Nat} {L:Env} {w w' w0:World} {Q:Exit->Act->World->Prop} {S:L01} {os os0 os1:List OE}
variable {d:Option Tmp} {ty:TypeId} {pos:String} {after:Array Edge}
def twE {τ:Type} (e:Enc τ) (va:Value) (la:List τ) (q:Nat):OE:=if q=0 then red e (.slice none 0 0) ([]:List τ) else red e va la
def Tw {τ:Type} (va:Value) (la:List τ) (v:Value) (l:List τ) (q:Nat):Prop:=
 q=0->∃a c c' t,va=.slice a la.length c/\la.length<=c/\v=.slice a l.length c'/\l=la++t
theorem Tw.ro {τ:Type} {e:Enc τ} {z v:Value} {A l:List τ} {q:Nat} {B:Nat} (h:Tw z A v l q) (he:(twE e z A q).ok S B w) (I:RO w e v l):RO w e z A:=by
 by_cases hq:q=0
 ·obtain⟨a,c,O,t,rfl,hc,rfl,rfl⟩:=h hq
  obtain⟨R,U,J,V,N⟩:=I
  injection J with e1 e2 e3
  subst e1
  refine⟨a,c,rfl,hc,fun hl=>?_⟩
  obtain⟨b,off,hb,k⟩:=N (by simp[hl])
  refine⟨b,off,hb,fun j u G=>k j u ?_⟩
  rw[e.fl_append,eK (br.1 G).1]
  exact G
 ·unfold twE at he
  rw[ae hq]at he
  exact he.rro
theorem Mb {α:Type} {l:List α} {j:Nat} {x:α} (h:l[j]? = some x):l.set j x=l:=by
 apply jw
 intro k
 rw[gd]
 split
 ·rename_i z
  subst z
  have:=(br.1 h).1
  rw[af this,h]
 ·rfl
theorem _root_.Eq.to {op:BinOp} {T:TypeId} {x y:Value} {b j:Bool} (h:b=j) (hb:cL P op T x y (vB b)):cL P op T x y (vB j):=h ▸ hb
end
def isB (want:Bool):Value->Bool
 | .bool b=>b == want
 | _=>false
def Ml (op:BinOp) (x y:Int):Option Value:=match op with
 | .add=>some (vI (wI (x+y)))
 | .sub=>some (vI (wI (x - y)))
 | .eql=>some (vB (x == y))
 | .neq=>some (vB (x != y))
 | .lss=>some (vB (decide (x<y)))
 | .leq=>some (vB (decide (x<=y)))
 | .gtr=>some (vB (decide (y<x)))
 | .geq=>some (vB (decide (y<=x)))
 | _=>none
def tn (L:Env):Op->Option Value
 | .move x=>L.ev x
 | .assign x=>L.ev x
 | .pick c x y=>match L.ev c with
  | some (.bool true)=>L.ev x
  | some (.bool false)=>L.ev y
  | _=>none
 | .extract x i=>match L.ev x with
  | some (.tuple vs)=>vs.toList[i]?
  | _=>none
 | .unOp op _ x=>match op,L.ev x with
  | .not,some (.bool b)=>some (vB (!b))
  | _,_=>none
 | .binOp op _ x y _=>match L.ev x,L.ev y with
  | some (.int .i64 a),some (.int .i64 b)=>Ml op a b
  | _,_=>none
 | _=>none
def vH (ops:Array Oper) (n:Nat):Nat->Env->List Oper->Option (Env×List Oper)
 | 0,L,l=>some (L,l)
 | m+1,L,o :: l=>match o.dst with
  | none=>none
  | some d=>bif Nat.blt d n then
   match o.guard with
   | none=>match tn L o.op with
    | some v=>vH ops n m ((d,v) :: L) l
    | none=>none
   | some (j,want)=>match (ops[j]?).bind (·.dst) with
    | none=>none
    | some t=>match L.get t with
     | none=>none
     | some v=>bif isB want v then (match tn L o.op with
      | some u=>vH ops n m ((d,u) :: L) l
      | none=>none) else vH ops n m ((d,undef) :: L) l
   else none
 | _+1,_,[]=>none
section
variable {P:Program} {n:Nat} {L:Env} {w:World} {Q:Exit->Act->World->Prop}
theorem PI {op:BinOp} {T:TypeId} {x y:Int} {v:Value} (h:Ml op x y=some v):cL P op T (vI x) (vI y) v:=by
 cases op <;> simp only[Ml]at h <;> first | (cases h; fail) | (injection h with h; subst h; first | exact IA _ _ _ | exact Ki _ _ _ | exact JS _ _ _ | exact JU _ _ _ | exact Js _ _ _ | exact JY _ _ _ | exact Jc _ _ _ | exact xy _ _ _) | cases h
theorem zg {d:Option Tmp} {op:Op} {v:Value} {ty:TypeId} {pos:String} {after:Array Edge} (h:tn L op=some v):OpV P n L w ⟨d,op,ty,pos,after,none⟩ v w:=by
 unfold tn at h
 split at h
 ·exact je h
 ·exact fk h
 ·split at h
  ·rename_i e; exact qZ e h
  ·rename_i e; exact rk e h
  ·cases h
 ·split at h
  ·rename_i e
   refine vg e ?_
   rw[<-iI]; exact h
  ·cases h
 ·split at h
  ·rename_i e; cases h; exact wF e (Ng _)
  ·cases h
 ·split at h
  ·rename_i j k; exact bk j k (PI h)
  ·cases h
 ·cases h
theorem ar {ops:Array Oper}:∀(m:Nat) {L A:Env} {rest z:List Oper},vH ops n m L rest=some (A,z)->wpR P n ops Q z A w->wpR P n ops Q rest L w
 | 0,L,A,rest,z,h,k=>by simp only[vH]at h; cases h; exact k
 | m+1,L,A,[],z,h,k=>by simp[vH]at h
 | m+1,L,A,o :: l,z,h,k=>by
  obtain⟨dst,op,ty,pos,after,G⟩:=o
  simp only[vH]at h
  cases dst with
  | none=>cases h
  | some d=>
   simp only at h
   cases hd:Nat.blt d n with
   | false=>rw[hd]at h; cases h
   | true=>
    rw[hd]at h
    simp only[cond_true]at h
    cases G with
    | none=>
     simp only at h
     cases hv:tn L op with
     | none=>rw[hv]at h; cases h
     | some v=>rw[hv]at h; exact aQ (zg hv) hd (ar m h k)
    | some g=>
     obtain⟨j,B⟩:=g
     simp only at h
     cases hj:(ops[j]?).bind (·.dst) with
     | none=>rw[hj]at h; cases h
     | some t=>
      rw[hj]at h
      simp only at h
      cases hg:L.get t with
      | none=>rw[hg]at h; cases h
      | some v=>
       rw[hg]at h
       simp only at h
       cases hb:isB B v with
       | true=>
        rw[hb]at h
        simp only[cond_true]at h
        have I:v=vB B:=by
         cases v <;> simp[isB]at hb
         subst hb; rfl
        subst I
        cases hv:tn L op with
        | none=>rw[hv]at h; cases h
        | some u=>rw[hv]at h; exact kk hj hg (zg hv) hd (ar m h k)
       | false=>
        rw[hb]at h
        simp only[cond_false]at h
        intro a ha
        unfold wpList
        rw[ae (by
         have:=ha.get t _ hg
         simp only[Region.wanted,yielded,hj,Option.bind_some,this]
         cases v <;> simp_all [isB])]
        exact ar m h k _ (ha.put hd)
def xH (ops:Array Oper) (fl:Nat->Bool) (n:Nat):Nat->Env->L01->Option (Env×L01)
 | 0,L,l=>some (L,l)
 | m+1,L,i :: l=>match ops[i]? with
  | some ⟨some d,op,_,_,_,none⟩=>bif fl i&&Nat.blt d n then (match tn L op with
   | some v=>xH ops fl n m ((d,v) :: L) l
   | none=>none) else none
  | _=>none
 | _+1,_,[]=>none
theorem bT {P:Program} {n:Nat} {w:World} {Q:Exit->Act->World->Prop} {ops:Array Oper} {C D:World->Prop} {fl:Nat->Bool}:∀(m:Nat) {L j:Env} {l z:L01},xH ops fl n m L l=some (j,z)->C w->lxE P n ops C D Q fl z j w->lxE P n ops C D Q fl l L w
 | 0,L,j,l,z,h,hC,k=>by simp only[xH]at h; cases h; exact k
 | m+1,L,j,[],z,h,hC,k=>by simp[xH]at h
 | m+1,L,j,i :: l,z,h,hC,k=>by
  simp only[xH]at h
  split at h
  ·rename_i d op ty pos after A
   cases hb:fl i&&Nat.blt d n with
   | false=>rw[hb]at h; cases h
   | true=>
    rw[hb]at h
    simp only[cond_true]at h
    rw[aW]at hb
    cases hv:tn L op with
    | none=>rw[hv]at h; cases h
    | some v=>rw[hv]at h; exact aN hC A hb.1 (fun w _=>zg hv) hb.2 (bT m h hC k)
  ·cases h
end
def Up (cs:List Value) (off:Nat) (xs cs' xs':List Value):Prop:=∃A B,cs=A++(xs++B)/\cs'=A++(xs'++B)/\A.length=off
theorem Up.here {xs xs' B:List Value}:Up (xs++B) 0 xs (xs'++B) xs':=⟨[],B,rfl,rfl,rfl⟩
theorem Up.last {xs xs':List Value}:Up xs 0 xs xs' xs':=⟨[],[],by simp,by simp,rfl⟩
theorem Up.skip {cs j xs xs' A:List Value} {k off o:Nat} (hA:A.length=k) (h:Up cs off xs j xs') (z:k+off=o):Up (A++cs) o xs (A++j) xs':=by
 obtain⟨C,B,G,I,J⟩:=h
 exact⟨A++C,B,by rw[G,bh],by rw[I,bh],by rw[aR,hA,J,z]⟩
theorem Up.get {cs j xs':List Value} {off:Nat} {u:Value} (h:Up cs off [u] j xs'):cs[off]? = some u:=by
 obtain⟨A,B,rfl,_,rfl⟩:=h
 simp
theorem Up.get0 {cs:List Value} {off:Nat} {u:Value} (h:Up cs off [u] cs [u]):cs[off]? = some u:=h.get
theorem Up.gets {cs k xs xs':List Value} {off:Nat} (h:Up cs off xs k xs') {j:Nat} {u:Value} (z:xs[j]? = some u):cs[off+j]? = some u:=by
 obtain⟨A,B,rfl,_,rfl⟩:=h
 rw[dL q10,dZ,eK (br.1 z).1]
 exact z
theorem Up.spl {cs j xs xs':List Value} {off:Nat} (h:Up cs off xs j xs') (hl:xs'.length=xs.length):spl cs off xs'=j:=by
 obtain⟨A,B,rfl,rfl,rfl⟩:=h
 unfold Go.Gk.spl
 rw[g9,hl,<-bh A xs B,List.drop_left' (by simp),bh]
theorem Up.le {cs j xs xs':List Value} {off:Nat} (h:Up cs off xs j xs'):off+xs.length<=cs.length:=by
 obtain⟨A,B,rfl,rfl,rfl⟩:=h
 simp only[aR]; omega
section
variable {τ:Type} {e:Enc τ} {l:List τ}
theorem N7 {j:Int} {t t':τ} {u z:Value} (hy:au l j=some t) (hu:e.cells t=[u]) (A:e.cells t'=[z]):Up (e.fl l) (j.toNat*1) [u] (e.fl (l.set j.toNat t')) [z]:=by
 obtain⟨I,k,hg⟩:=iS hy
 have hl:l=l.take j.toNat++(t :: l.drop (j.toNat+1)):=by
  have G:l[j.toNat]=t:=by rw[aw k]at hg; exact fv hg
  rw[<-G,<-bZ k,ch]
 have hs:l.set j.toNat t'=l.take j.toNat++(t' :: l.drop (j.toNat+1)):=by
  rw[List.set_eq_take_append_cons_drop,af k]
 refine⟨e.fl (l.take j.toNat),e.fl (l.drop (j.toNat+1)),?_,?_,?_⟩
 ·conv=>lhs; rw[hl]
  rw[e.fl_append]; congr 1
  simp[Enc.fl,hu]
 ·rw[hs,e.fl_append]; congr 1
  simp[Enc.fl,A]
 ·have B:e.sz=1:=by rw[<-e.len t,hu]; rfl
  rw[e.fl_length,B,az]; omega
theorem Up.sub {cs j G z xs xs':List Value} {off k:Nat} (h:Up cs off G j z) (g:Up G k xs z xs'):Up cs (off+k) xs j xs':=by
 obtain⟨A,B,rfl,rfl,rfl⟩:=h
 obtain⟨C,D,rfl,rfl,rfl⟩:=g
 exact⟨A++C,D++B,by simp,by simp,by simp⟩
theorem Up.elt {cs k:List Value} {off:Nat} {j:Int} {t t':τ} {u z:Value} (h:Up cs off (e.fl l) k (e.fl (l.set j.toNat t'))) (hy:au l j=some t) (hu:e.cells t=[u]) (A:e.cells t'=[z]):Up cs (off+j.toNat*1) [u] k [z]:=
 h.sub (N7 hy hu A)
theorem Up.elr {cs:List Value} {off:Nat} {j:Int} {t:τ} {u:Value} (h:Up cs off (e.fl l) cs (e.fl l)) (hy:au l j=some t) (hu:e.cells t=[u]):cs[off+j.toNat*1]? = some u:=by
 obtain⟨A,z,hg⟩:=iS hy
 have k:e.sz=1:=by rw[<-e.len t,hu]; rfl
 have:=e.fl_get l j.toNat t hg 0 q10
 rw[k,hu]at this
 exact h.gets (by simpa using this)
theorem cA {j:Int} {t:τ} {m:Nat} (hy:au l j=some t) (hl:l.length=m):0<=j/\j<(m:Int):=by
 obtain⟨z,k,_⟩:=iS hy
 omega
theorem dQ {m:Nat} (hl:l.length=m) (hs:e.sz=1):(e.fl l).length=m:=by rw[e.fl_length,hs,de,hl]
theorem PF {A B:List Value} {a b c:Nat} (j:A.length=a) (k:B.length=b) (h:a+b=c):(A++B).length=c:=by rw[aR,j,k,h]
theorem oU:∀u∈e.fl l,u.oneCell'=true:=e.fl_one l
theorem OY {A B:List Value} (j:∀u∈A,u.oneCell'=true) (k:∀u∈B,u.oneCell'=true):∀u∈A++B,u.oneCell'=true:=fun u hu=>by
 rcases ce.1 hu with h | h
 ·exact j u h
 ·exact k u h
theorem nM {v:Value} (h:v.oneCell'=true):∀u∈[v],u.oneCell'=true:=fun u hu=>by
 simp at hu; subst hu; exact h
theorem zj {j:Int} {t:τ} {u:Value} (hy:au l j=some t) (hu:e.cells t=[u]):((e.fl l).toArray)[j.toNat*1]? = some u:=by
 have:=Up.elr (cs:=e.fl l) (off:=0) Up.last hy hu
 simpa using this
end
section
variable {P:Program} {n:Nat} {L:Env} {w w0:World} {Q:Exit->Act->World->Prop} {S:L01} {os:List OE}
variable {d:Option Tmp} {ty:TypeId} {pos:String} {after:Array Edge}
theorem cE {T E:TypeId} {m:Nat} {x y:Operand} {b off:Nat} {k:IntKind} {i:Int} (hT:P.underlying T=some (.array m E)) (hE:(P.info? E).map (·.size)=some 1)
  (hx:L.ev x=some (pB b off)) (hy:L.ev y=some (.int k i)) (h:0<=i/\i<(m:Int)):OpV P n L w ⟨d,.indexAddr T x y,ty,pos,after,none⟩ (pB b (off+i.toNat*1)) w:=
 uC hT hE hx hy h.1 h.2
theorem mH {T:TypeId} {D:TypeDesc} {x:Operand} {b off m:Nat} {us:List Value} (hT:P.underlying T=some D) (k:(match D with | .struct _ | .array _ _=>true | _=>false)=true)
  (hi:(P.info? T).map (·.size)=some m) (hl:us.length=m) (hx:L.ev x=some (pB b off)) (hc:∀j u,us[j]? = some u->w.cell? ⟨b,off+j,none⟩=some u) :
  OpV P n L w ⟨d,.load T x,ty,pos,after,none⟩ (.agg us.toArray) w:=gj hT k (by rw[hl]; exact hi) hx hc
theorem St.bxg (h:St S w0 w os) (i:Nat) {b:Nat} {cs:List Value} (hi:os[i]? = some (.bx b cs)) {off:Nat} {u:Value} (hu:cs[off]? = some u):w.cell? ⟨b,off,none⟩=some u:=(h.bxc i hi off).trans hu
theorem St.bxgs (h:St S w0 w os) (i:Nat) {b:Nat} {cs xs k xs':List Value} (hi:os[i]? = some (.bx b cs)) {off:Nat} (hu:Up cs off xs k xs'):∀j u,xs[j]? = some u->w.cell? ⟨b,off+j,none⟩=some u:=
 fun j u z=>(h.bxc i hi _).trans (hu.gets z)
theorem St.bxgs0 (h:St S w0 w os) (i:Nat) {b:Nat} {cs xs:List Value} (hi:os[i]? = some (.bx b cs)) {off:Nat} (hu:Up cs off xs cs xs):∀j u,xs[j]? = some u->w.cell? ⟨b,off+j,none⟩=some u:=h.bxgs i hi hu
theorem St.bxroA {τ:Type} {e:Enc τ} {l:List τ} {b off m:Nat} {cs:List Value} (h:St S w0 w os) (i:Nat) (hi:os[i]? = some (.bx b cs)) (hl:l.length=m) (hu:Up cs off (e.fl l) cs (e.fl l)):RO w e (.slice (some ⟨b,off,none⟩) m m) l:=by
 subst hl
 exact⟨_,_,rfl,aq _,fun _=>⟨b,off,rfl,h.bxgs i hi hu⟩⟩
theorem jx {T:TypeId} {x y:Operand} {b off i m:Nat} {v:Value} {cs xs j xs':List Value} (hi:os[i]? = some (.bx b cs)) (k:(P.info? T).map (·.size)=some m)
  (hx:L.ev x=some (pB b off)) (hy:L.ev y=some v) (G:v.cells.toList=xs') (hu:Up cs off xs j xs') (hm:xs.length=m) (I:xs'.length=m) (R:∀u∈xs',u.oneCell'=true) (hS:St S w0 w os) :
  OpY P n L w ⟨none,.store T x y,ty,pos,after,none⟩ (fun w'=>St S w0 w' (os.set i (.bx b j))):=by
 obtain⟨U,z,hg,J,A⟩:=hS.setB (off:=off) (us:=xs') hi
 rw[hu.spl q10]at A
 refine zi _ (fun a ha=>?_) A
 cases hq:P.info? T with
 | none=>simp[hq]at k
 | some inf=>
  have hs:inf.size=xs'.length:=by rw[I]; simpa [hq] using k
  have N:off+0+xs'.length<=z.size:=by
   have:=hu.le
   rw[<-J]at this
   simp only[fF]at this
   omega
  have B:=run_storeCells_at P b off U xs' 0 z w hg N R
  have O:v.cells.size=xs'.length:=by rw[<-G]; simp
  simp only[bb]at B
  simp[execOp,Instr.storeAt,ha.ev hx,ha.ev hy,Instr.sureAddr,storeVar,sizeOf,typeInfo,hq,hs,G,O,B]
theorem LO {T E:TypeId} {m:Nat} {x y:Operand} {cs:Array Value} {k:IntKind} {i:Int} {u:Value} {D:TypeDesc} (hT:P.underlying T=some (.array m E)) (hE:P.underlying E=some D)
  (z:(match D with | .struct _ | .array _ _=>true | _=>false)=false) (j:(P.info? E).map (·.size)=some 1)
  (hx:L.ev x=some (.agg cs)) (hy:L.ev y=some (.int k i)) (h:0<=i/\i<(m:Int)) (hu:cs[i.toNat*1]? = some u):OpV P n L w ⟨d,.index T x y,ty,pos,after,none⟩ u w:=
 Ol hT hE z j hx hy h.1 h.2 hu
theorem Ni {b off m lo hi:Nat}:slV (.slice (some ⟨b,off,none⟩) m m) 1 lo hi=.slice (some (if m=lo then ⟨b,off,none⟩ else (⟨b,off,none⟩:Addr).add (lo*1))) (hi - lo) (m - lo):=by
 simp only[slV]
 split <;> rfl
theorem Rd {x y z:Operand} {T E:TypeId} {k A:IntKind} {lo hi:Int} {τ:Type} {e:Enc τ} {l r:List τ} {b off m:Nat} (hT:P.underlying T=some (.array m E)) (hE:(P.info? E).map (·.size)=some 1) (hs:e.sz=1)
  (hx:L.ev x=some (pB b off)) (hy:L.ev y=some (.int k lo)) (hz:L.ev z=some (.int A hi)) (hm:l.length=m) (hg:slO l lo hi=some r) :
  OpV P n L w ⟨d,.slice T x (some y) (some z) none,ty,pos,after,none⟩ (slV (.slice (some ⟨b,off,none⟩) m m) e.sz lo.toNat hi.toNat) w:=fun a ha=>by
 obtain⟨⟨B,R,U⟩,_⟩:=gL hg
 cases hi':P.info? E with
 | none=>rw[hi']at hE; cases hE
 | some inf=>
  have j:inf.size=1:=by rw[hi']at hE; simpa using hE
  have G:lo<=hi:=by omega
  have I:hi<=(m:Int):=by omega
  have J:0<=hi:=by omega
  have N:lo<=(m:Int):=by omega
  have O:(hi.toNat:Int)=hi:=by omega
  rw[hs,Ni]
  simp[execOp,ha.ev hx,ha.ev hy,ha.ev hz,Instr.sliceAt,Instr.sureAddr,run_underlying hT,Instr.sliceBounds,run_sliceBound,B,G,I,J,N,O,sizeOf,typeInfo,hi',j]
theorem RW {x y:Operand} {T E:TypeId} {k:IntKind} {lo:Int} {τ:Type} {e:Enc τ} {l r:List τ} {b off m:Nat} (hT:P.underlying T=some (.array m E)) (hE:(P.info? E).map (·.size)=some 1) (hs:e.sz=1)
  (hx:L.ev x=some (pB b off)) (hy:L.ev y=some (.int k lo)) (hm:l.length=m) (hg:drO l lo=some r) :
  OpV P n L w ⟨d,.slice T x (some y) none none,ty,pos,after,none⟩ (slV (.slice (some ⟨b,off,none⟩) m m) e.sz lo.toNat l.length) w:=fun a ha=>by
 obtain⟨⟨z,B⟩,_⟩:=oC hg
 cases hi':P.info? E with
 | none=>rw[hi']at hE; cases hE
 | some inf=>
  have j:inf.size=1:=by rw[hi']at hE; simpa using hE
  have A:lo<=(m:Int):=by omega
  rw[hs,hm,Ni]
  simp[execOp,ha.ev hx,ha.ev hy,Instr.sliceAt,Instr.sureAddr,run_underlying hT,Instr.sliceBounds,run_sliceBound,z,A,sizeOf,typeInfo,hi',j]
theorem JC {x y:Operand} {T T2 E:TypeId} {τ:Type} {e:Enc τ} {z:Value} {bytes:Nat} {u:Value} {l m:List τ} {i lo hi b off q:Nat} {cs k:List Value} (hT:P.underlying T=some (.slice E)) (hE:TI P E z e.sz bytes) (j:e.sz=1)
  (hx:L.ev x=some (slV (.slice (some ⟨b,off,none⟩) q q) e.sz lo hi)) (hy:L.ev y=some u) (hS:St S w0 w os) (R:os[i]? = some (.bx b cs)) (hq:l.length=q) (ad:Up cs off (e.fl l) k (e.fl (cpL l m lo hi))) (hu:RO w e u m) (h1:lo<=hi) (h2:hi<=l.length) :
  OpX P n L w ⟨d,.call ⟨.builtin .copy,#[x,y],#[T,T2]⟩,ty,pos,after,none⟩ (fun r w'=>r=vI (min m.length (hi - lo):Nat)/\St S w0 w' (os.set i (.bx b k))):=by
 obtain⟨ca,U,_,hs,_⟩:=hE.get
 have Z:=qb (P:=P) hu (min m.length (hi - lo)) (Nat.min_le_left _ _)
 obtain⟨ua,uc,rfl,cf,cm⟩:=hu
 obtain⟨A,B,hA,b2,V⟩:=ad
 have b3:e.fl (m.take (min m.length (hi - lo)))=(e.fl m).take (min m.length (hi - lo)):=by rw[e.fl_take,j,de]
 have I:(e.fl (m.take (min m.length (hi - lo)))).length=min m.length (hi - lo):=by rw[e.fl_length,j]; simp
 have b4:cpL l m lo hi=l.take lo++m.take (min m.length (hi - lo))++l.drop (lo+min m.length (hi - lo)):=by
  unfold cpL
  congr 2
  by_cases h:m.length<=hi - lo
  ·rw[aT h,aC h,aC (aq _)]
  ·rw[Nat.min_eq_right q10]
 have J:spl cs (off+lo) (e.fl (m.take (min m.length (hi - lo))))=k:=by
  have b5:l=l.take lo++(l.drop lo).take (min m.length (hi - lo))++l.drop (lo+min m.length (hi - lo)):=by
   rw[bh,<-ia,ch,ch]
  have ab:Up cs (off+lo) (e.fl ((l.drop lo).take (min m.length (hi - lo)))) k (e.fl (m.take (min m.length (hi - lo)))):=by
   refine⟨A++e.fl (l.take lo),e.fl (l.drop (lo+min m.length (hi - lo)))++B,?_,?_,?_⟩
   ·rw[hA]
    conv=>lhs; rw[b5]
    simp[e.fl_append]
   ·rw[b2,b4]; simp[e.fl_append]
   ·rw[aR,V,e.fl_length,j,az]; omega
  refine ab.spl ?_
  rw[I,e.fl_length,j,az,bj]; omega
 obtain⟨T',G,hg,b6,X⟩:=hS.setB (off:=off+lo) (us:=e.fl (m.take (min m.length (hi - lo)))) R
 rw[J]at X
 have b9:off+lo+min m.length (hi - lo)<=G.size:=by
  have:G.size=cs.length:=by rw[<-b6]; simp
  rw[this,hA,aR,aR,V,e.fl_length,j]; omega
 by_cases hcl:q=lo
 ·have hz:hi - lo=0:=by omega
  refine jY (vI 0) w (fun a ha=>?_) ⟨by rw[hz]; simp,?_⟩
  ·have N:slV (.slice (some ⟨b,off,none⟩) q q) e.sz lo hi=.slice (some ⟨b,off,none⟩) (hi - lo) (q - lo):=by simp[slV,hcl]
   rw[N]at hx
   simp only[hz,Nat.min_zero]at Z hx
   have hr:(Builtin.copy_ #[T,T2] ty #[.slice (some ⟨b,off,none⟩) 0 (q - lo),.slice ua m.length uc]).run P w=.ok (vI 0) w:=by
    simp[Builtin.copy_,run_underlying hT,Builtin.lenOf,sizeOf,typeInfo,U,hs,Z,goInt,Enc.fl,storeCells]
   simp[execOp,resolve,invoke,builtin,ha.ev hx,ha.ev hy,hr]
  ·have:k=cs:=by
    rw[<-J,hz]; simp[spl,Enc.fl]
   rw[this]
   have O:os.set i (.bx b cs)=os:=Mb R
   rw[O]; exact hS
 ·have N:slV (.slice (some ⟨b,off,none⟩) q q) e.sz lo hi=.slice (some ⟨b,off+lo,none⟩) (hi - lo) (q - lo):=by simp[slV,hcl,jQ,j]
  rw[N]at hx
  have Y:=run_storeCells_at P b (off+lo) T' (e.fl (m.take (min m.length (hi - lo)))) 0 G w hg (by rw[I]; omega) (e.fl_one _)
  simp only[bb]at Y
  refine jY _ _ (fun a ha=>?_) ⟨rfl,X⟩
  have hr:(Builtin.copy_ #[T,T2] ty #[.slice (some ⟨b,off+lo,none⟩) (hi - lo) (q - lo),.slice ua m.length uc]).run P w=.ok (vI (min m.length (hi - lo):Nat)) (w.setRow b (G.toList.take (off+lo)++e.fl (m.take (min m.length (hi - lo)))++G.toList.drop (off+lo+(e.fl (m.take (min m.length (hi - lo)))).length)).toArray):=by
   simp[Builtin.copy_,run_underlying hT,Builtin.lenOf,sizeOf,typeInfo,U,hs,Z,Y,goInt]
  simp[execOp,resolve,invoke,builtin,ha.ev hx,ha.ev hy,hr]
def GA {τ:Type} (S:L01) (w0:World) (g:Nat) (e:Enc τ) (l:List τ):Prop:=(∀j u,(e.fl l)[j]? = some u->w0.cell? ⟨g,j,none⟩=some u)/\g ∉ S
theorem GA.cells {τ:Type} {g:Nat} {e:Enc τ} {l:List τ} (h:GA S w0 g e l) (hf:Fr S w0 w):∀j u,(e.fl l)[j]? = some u->w.cell? ⟨g,0+j,none⟩=some u:=fun j u k=>by
 have:=h.1 j u k
 rw[bn,hf.cell (py this) h.2]
 exact this
theorem GA.cell {τ:Type} {g:Nat} {e:Enc τ} {l:List τ} (h:GA S w0 g e l) (hf:Fr S w0 w) {j:Int} {t:τ} {u:Value} (hy:au l j=some t) (hu:e.cells t=[u]):w.cell? ⟨g,0+j.toNat*1,none⟩=some u:=
 h.cells hf _ u (by have:=Up.elr (cs:=e.fl l) (off:=0) Up.last hy hu; simpa using this)
theorem GA.now {τ:Type} {g:Nat} {e:Enc τ} {l:List τ} (h:GA S w0 g e l) (hf:Fr S w0 w):GA [] w g e l:=⟨fun j u k=>by have:=h.cells hf j u k; simpa using this,by simp⟩
theorem GA.give {τ:Type} {g:Nat} {e:Enc τ} {l:List τ} {os0:List OE} (h:GA S w0 g e l) (z:0<(e.fl l).length) (hS:St S w0 w (os0++os)):GA (fg os0) w g e l:=by
 refine⟨fun j u B=>by have:=h.cells hS.fr j u B; simpa using this,fun G=>?_⟩
 obtain⟨o,I,A⟩:=fh.1 G
 have k:=((hS.ok o (cg _ I)).lt A).2
 rcases k with k | k
 ·have:=py (h.1 0 _ (aw z))
  simp only at this
  omega
 ·exact h.2 k
theorem JR {x z u:Operand} {T E:TypeId} {k A:IntKind} {hi m:Int} {τ:Type} {e:Enc τ} {v z0:Value} {l:List τ} {bytes:Nat} (hT:P.underlying T=some (.slice E)) (hE:TI P E z0 e.sz bytes)
  (hx:L.ev x=some v) (hz:L.ev z=some (.int k hi)) (hu:L.ev u=some (.int A m)) (h:RO w e v l) (hg:0<=hi/\hi.toNat<=l.length/\m=hi) :
  OpV P n L w ⟨d,.slice T x none (some z) (some u),ty,pos,after,none⟩ (slV3 v e.sz 0 hi.toNat hi.toNat) w:=fun a ha=>by
 obtain⟨b,c,rfl,hc,_⟩:=h
 obtain⟨J,j,_,hs,_⟩:=hE.get
 obtain⟨B,N,rfl⟩:=hg
 have G:m<=(c:Int):=by omega
 have I:(m.toNat:Int)=m:=jd q10
 simp[execOp,ha.ev hx,ha.ev hz,ha.ev hu,Instr.sliceAt,Instr.slice,run_underlying hT,Instr.sliceBounds,run_sliceBound,B,G,I,sizeOf,typeInfo,j,hs,slV3]
theorem OE.ok.cut3 {B:Nat} {τ:Type} {e:Enc τ} {v:Value} {l:List τ} {k:Nat} (h:(own e v l).ok S B w) (J:k<=l.length):(own e (slV3 v e.sz 0 k k) (l.take k)).ok S B w:=by
 refine⟨e.fl_length _,?_⟩
 rcases h.2 with⟨rfl,hn⟩ | ⟨g,A,G,T,rfl,hf,hg,O,R,I,z⟩
 ·have:k=0:=by omega
  subst this
  exact .inl ⟨by simp[slV3],by simp⟩
 ·have N:slV3 (.slice (some ⟨g,0,none⟩) l.length A) e.sz 0 k k=.slice (some ⟨g,0,none⟩) k k:=by
   simp[slV3,jQ]
  have j:(l.take k).length=k:=by simp; omega
  refine .inr ⟨g,k,G,T,by rw[N,j],hf,hg,by rw[j]; exact aq _,by omega,aA (bg _ q10) I,?_⟩
  rw[j,e.fl_take,<-z,List.take_take,aT (bg _ J)]
theorem St.trunc3 {τ:Type} {e:Enc τ} {v:Value} {l:List τ} {i k:Nat} (h:St S w0 w os) (hi:os[i]? = some (own e v l)) (A:k<=l.length):St S w0 w (os.set i (own e (slV3 v e.sz 0 k k) (l.take k))):=by
 refine h.set hi (Fr.refl _ _) ((h.ok _ (bI hi)).cut3 A) fun q j=>.inl ?_
 have z:=h.ok _ (bI hi)
 rcases z.2 with⟨rfl,hn⟩ | ⟨g,B,G,T,rfl,_⟩
 ·simp[OE.blk,slV3,Value.ownBlock]at j
 ·simpa [OE.blk,slV3,jQ,Value.ownBlock] using j
end
section
variable {S:L01} {w0 w:World} {os os0:List OE} {b:Nat} {cs:List Value}
def RB (S:L01) (w0:World) (b:Nat) (cs:List Value):Prop:=(∀j u,cs[j]? = some u->w0.cell? ⟨b,j,none⟩=some u)/\b ∉ S/\b<w0.heap.size
theorem RB.cells (h:RB S w0 b cs) (hf:Fr S w0 w):∀j u,cs[j]? = some u->w.cell? ⟨b,0+j,none⟩=some u:=fun j u k=>by
 have:=h.1 j u k
 rw[bn,hf.cell (py this) h.2.1]
 exact this
theorem RB.cell (h:RB S w0 b cs) (hf:Fr S w0 w) (j:Nat) {u:Value} (k:cs[j]? = some u):w.cell? ⟨b,0+j,none⟩=some u:=h.cells hf j u k
theorem RB.now (h:RB S w0 b cs) (hf:Fr S w0 w):RB [] w b cs:=
 ⟨fun j u k=>by have:=h.cells hf j u k; simpa using this,by simp,aO h.2.2 hf.size⟩
theorem RB.give (h:RB S w0 b cs) (hS:St S w0 w (os0++os)):RB (fg os0) w b cs:=by
 refine⟨fun j u A=>by have:=h.cells hS.fr j u A; simpa using this,fun B=>?_,aO h.2.2 hS.fr.size⟩
 obtain⟨o,G,z⟩:=fh.1 B
 have k:=((hS.ok o (cg _ G)).lt z).2
 rcases k with k | k
 ·have:=h.2.2
  omega
 ·exact h.2.1 k
theorem St.rb (hS:St S w0 w os) (i:Nat) (hi:os[i]? = some (.bx b cs)):RB [] w b cs:=by
 obtain⟨hf,T,z,hg,A⟩:=hS.ok _ (bI hi)
 exact⟨fun j u k=>by rw[hS.bxc i hi]; exact k,by simp,(du.1 hg).1⟩
theorem St.giveB (hS:St S w0 w (os0++os)) (i:Nat) (hi:os[i]? = some (.bx b cs)):RB (fg os0) w b cs:=by
 have hm:=bI hi
 have j:(os0++os)[os0.length+i]? = some (.bx b cs):=by rw[dL q10]; simpa using hi
 obtain⟨z,_,A⟩:=hS.rb _ j
 refine⟨z,fun B=>?_,A⟩
 obtain⟨o,G,k⟩:=fh.1 B
 exact (da.1 hS.dj).2.2 o G _ hm b k rfl
end
theorem Eh {τ:Type} (k:Nat) (l:List τ):(l.take k).length<=l.length:=by rw[az]; exact Nat.min_le_right _ _
theorem Jz (a:Addr) (k:Nat):a.add (0*k)=a:=by
 rw[eW]
 unfold Addr.add
 cases a with
 | mk b off sp=>cases sp <;> simp
theorem qu (a:Option Addr) (k:Nat):a.map (·.add (0*k))=a:=by
 cases a with
 | none=>rfl
 | some a=>simp only[eN,Jz]
theorem RO.full {w:World} {τ:Type} {e:Enc τ} {v:Value} {l:List τ} (h:RO w e v l):v=slV v e.sz 0 l.length:=by
 obtain⟨a,c,rfl,hc,_⟩:=h
 simp only[slV,fW,qu,ite_self]
theorem RO.cut3 {w:World} {τ:Type} {e:Enc τ} {v:Value} {l:List τ} (h:RO w e v l) (k m:Nat):Go.Gk.slV3 (slV v e.sz 0 k) e.sz 0 m m=Go.Gk.slV3 v e.sz 0 m m:=by
 obtain⟨a,c,rfl,hc,_⟩:=h
 simp only[slV,Go.Gk.slV3,fW,qu,ite_self]
theorem RO.tk3 {w:World} {τ:Type} {e:Enc τ} {v:Value} {l:List τ} (h:RO w e v l) {k:Nat} (j:k<=l.length):RO w e (slV3 v e.sz 0 k k) (l.take k):=by
 have:=h.sub3 (lo:=0) (hi:=k) (m:=k) (eR _) j (aq _)
 simpa using this
theorem RP.tk3 {S:L01} {w:World} {τ:Type} {e:Enc τ} {v:Value} {l:List τ} (h:RP S w e v l) {k:Nat} (B:k<=l.length):RP S w e (slV3 v e.sz 0 k k) (l.take k):=by
 refine⟨h.1.tk3 B,fun hl j G hb=>?_⟩
 have z:l≠[]:=by rintro rfl; simp at hl
 refine h.2 z j G ?_
 obtain⟨a,c,rfl,hc,_⟩:=h.1
 have A:BM (.slice a k k)=some j:=by simpa only [Go.Gk.slV3,fW,qu,ite_self] using hb
 cases a <;> exact A
section
variable {S Sb:L01} {w0 wb w w':World} {es es1 os os0 osF osK:List OE}
def OE.kept (S:L01) (w:World):OE->Prop
 | .bx b cs=>RB S w b cs
 | .rd v sz n cs=>cs.length=n*sz/\∃a c,v=.slice a n c/\n<=c /\
   (n≠0->∃b off,a=some ⟨b,off,none⟩/\b<w.heap.size/\b ∉ S/\∀j u,cs[j]? = some u->w.cell? ⟨b,off+j,none⟩=some u)
 | .sl ..=>True
def OE.kp:OE->OE
 | .sl v sz n cs=>.rd v sz n cs
 | o=>o
theorem OE.kept.to {o:OE} {S':L01} (h:o.kept S w) (hf:Fr S w w') (hS:∀k,k<w.heap.size->k ∉ S->k ∉ S'):o.kept S' w':=by
 cases o with
 | sl v sz n cs=>trivial
 | bx b cs=>
  obtain⟨h1,h2,h3⟩:=h
  refine⟨fun j u hj=>?_,hS _ h3 h2,aO h3 hf.size⟩
  rw[hf.cell h3 h2]
  exact h1 j u hj
 | rd v sz n cs=>
  obtain⟨hl,a,c,rfl,hc,hx⟩:=h
  refine⟨hl,a,c,rfl,hc,fun hn=>?_⟩
  obtain⟨b,off,rfl,hb,hs,hcell⟩:=hx hn
  refine⟨b,off,rfl,aO hb hf.size,hS _ hb hs,fun j u hj=>?_⟩
  rw[hf.cell hb hs]
  exact hcell j u hj
theorem OE.kept.fr {o:OE} (h:o.kept S w) (hf:Fr S w w'):o.kept S w':=h.to hf fun _ _ h=>h
theorem OE.kept.blk {o:OE} (h:o.kept S w) (ho:∀v sz n cs,o≠.sl v sz n cs) {k:Nat} (hk:o.blk=some k):k<w.heap.size/\k ∉ S:=by
 cases o with
 | sl v sz n cs=>exact absurd rfl (ho v sz n cs)
 | bx b cs=>simp[OE.blk]at hk; subst hk; exact⟨h.2.2,h.2.1⟩
 | rd v sz n cs=>
  obtain⟨hl,a,c,rfl,hc,hx⟩:=h
  simp only[OE.blk]at hk
  split at hk
  ·cases hk
  ·rename_i hn
   obtain⟨b,off,rfl,hb,hs,_⟩:=hx hn
   simp[Value.ownBlock]at hk
   subst hk
   exact⟨hb,hs⟩
theorem OE.ok.kept {o:OE} {B:Nat} (h:o.ok S B w) {S':L01} (hd:∀k,o.blk=some k->k ∉ S'):o.kp.kept S' w:=by
 cases o with
 | sl v sz n cs=>
  refine⟨h.1,?_⟩
  rcases h.2 with⟨rfl,rfl⟩ | ⟨g,cap,cur,T,rfl,hf,hg,hnc,hcm,hcs,htake⟩
  ·exact⟨none,0,rfl,aq _,fun h=>absurd rfl h⟩
  ·refine⟨_,cap,rfl,hnc,fun _=>⟨g,0,rfl,hg.lt,hd g rfl,fun j u hj=>?_⟩⟩
   rw[<-htake,bY]at hj
   split at hj
   ·rw[bn,hg.cell j]
    simpa using hj
   ·cases hj
 | rd v sz n cs=>
  obtain⟨hl,a,c,rfl,hc,hx⟩:=h
  refine⟨hl,a,c,rfl,hc,fun hn=>?_⟩
  obtain⟨b,off,rfl,hb,_,hcell⟩:=hx hn
  exact⟨b,off,rfl,hb,hd b (by simp[OE.blk,hn,Value.ownBlock]),hcell⟩
 | bx b cs=>
  obtain⟨hf,T,cur,hg,hcs⟩:=h
  have hlt:=(du.1 hg).1
  refine⟨fun j u hj=>?_,hd b rfl,hlt⟩
  rw[cell_of_row w b j cur T _ hg,<-iI,hcs]
  exact hj
def Rds (S:L01) (w:World) (es:List OE):Prop:=∀o∈es,o.kept S w
structure Fz (S:L01) (w0:World) (Sb:L01) (wb:World):Prop where
 fr:Fr S w0 wb
 sb:∀b∈Sb,fre S w0.heap.size b
def Sf (S:L01) (w0 w:World) (es os:List OE):Prop:=∃Sb wb,Fz S w0 Sb wb/\Rds Sb wb es/\St Sb wb w os
theorem Rds.nil:Rds S w []:=fun o h=>by cases h
theorem Rds.cons {o:OE} (h:o.kept S w) (hr:Rds S w es):Rds S w (o :: es):=fun p hp=>by
 rcases aJ.1 hp with rfl | hp
 ·exact h
 ·exact hr p hp
theorem Rds.app (h:Rds S w es) (h1:Rds S w es1):Rds S w (es++es1):=fun p hp=>(ce.1 hp).elim (h p) (h1 p)
theorem RB.kept {b:Nat} {cs:List Value} (h:RB S w b cs):(OE.bx b cs).kept S w:=h
theorem RP.kept {τ:Type} {e:Enc τ} {v:Value} {l:List τ} (hz:0<e.sz) (h:RP S w e v l):(red e v l).kept S w:=by
 refine⟨e.fl_length l,?_⟩
 obtain⟨a,c,rfl,hc,hr⟩:=h.1
 refine⟨a,c,rfl,hc,fun hn=>?_⟩
 have hl:l≠[]:=by rintro rfl; exact hn rfl
 obtain⟨b,off,rfl,hcell⟩:=hr hl
 have hne:0<(e.fl l).length:=by
  rw[e.fl_length]
  exact Nat.mul_pos (fE.2 hl) hz
 exact⟨b,off,rfl,py (hcell 0 _ (aw hne)),fun hb=>h.2 hl b hb rfl,hcell⟩
theorem OE.kept.rp {τ:Type} {e:Enc τ} {v:Value} {l:List τ} (h:(red e v l).kept S w):RP S w e v l:=by
 obtain⟨_,a,c,rfl,hc,hcell⟩:=h
 refine⟨⟨a,c,rfl,hc,fun hl=>?_⟩,fun hl k hk hb=>?_⟩
 ·obtain⟨b,off,h1,_,_,h2⟩:=hcell (by simpa using hl)
  exact⟨b,off,h1,h2⟩
 ·obtain⟨b,off,rfl,_,hs,_⟩:=hcell (by simpa using hl)
  have:b=k:=by simpa [Value.ownBlock] using hb
  exact hs (this ▸ hk)
def xW (es:List OE) (k:Nat):Option OE:=es[es.length - 1 - k]?
theorem Rds.rp (h:Rds S w es) (k:Nat) {τ:Type} {e:Enc τ} {v:Value} {l:List τ} (hk:xW es k=some (red e v l)):RP S w e v l:=(h _ (bI hk)).rp
theorem Rds.pick {es':List OE} (h:Rds S w es) (ix:L01) (he:es'.map some=ix.map (fun i=>xW es i)):Rds S w es':=fun o ho=>by
 have h1:some o∈es'.map some:=List.mem_map_of_mem ho
 rw[he]at h1
 obtain⟨i,_,hi⟩:=List.mem_map.1 h1
 exact h o (bI hi)
theorem Sf.of (hA:Rds S w0 es) (hS:St S w0 w os):Sf S w0 w es os:=⟨S,w0,⟨Fr.refl _ _,fun b hb=>.inr hb⟩,hA,hS⟩
theorem Sf.mk' (hF:Fz S w0 Sb wb) (hA:Rds Sb wb es) (hS:St Sb wb w os):Sf S w0 w es os:=⟨Sb,wb,hF,hA,hS⟩
theorem Fz.start:Fz S w0 S w0:=⟨Fr.refl _ _,fun b hb=>.inr hb⟩
theorem Fz.st (hF:Fz S w0 Sb wb) (hS:St Sb wb w os):St S w0 w os:=by
 have hfre:∀k,fre Sb wb.heap.size k->fre S w0.heap.size k:=by
  intro k hk
  rcases hk with hk | hk
  ·exact .inl (aA hF.fr.size hk)
  ·exact hF.sb k hk
 refine⟨hF.fr.step hS.fr hF.sb,fun o ho=>(hS.ok o ho).re fun k _ hf=>hfre k hf,hS.dj⟩
end
theorem OE.kept.nil {S:L01} {w:World} {τ:Type} {e:Enc τ}:(red e (.slice none 0 0) ([]:List τ)).kept S w:=⟨by simp,none,0,rfl,aq _,fun h=>absurd rfl h⟩
def ut {α:Type} (x:Option α) (p:Prop) (q:α->Prop):Prop:=match x with
 | none=>p
 | some c=>q c
theorem Ly {α:Type} {p:Prop} {q:α->Prop} (h:p):ut none p q:=h
theorem MC {α:Type} {c:α} {p:Prop} {q:α->Prop} (h:q c):ut (some c) p q:=h
def OE.ns:OE->Bool
 | .sl ..=>false
 | _=>true
def Off (T:L01) (es:List OE):Prop:=∀o∈es,∀b,o.blk=some b->b ∉ T
def TOk (S T:L01) (w0:World):Prop:=∀b∈T,b<w0.heap.size/\b ∉ S
def SfT (S T:L01) (w0 w:World) (es os:List OE):Prop:=∃Sb wb,Fz S w0 Sb wb/\Rds Sb wb es/\Off T es/\St Sb wb w os
section
variable {S T Sb:L01} {w0 wb w w':World} {es es1 os os0 osF osK:List OE}
theorem TOk.nil:TOk S [] w0:=fun b h=>by cases h
theorem Off.nil:Off T []:=fun o h=>by cases h
theorem Off.emp:Off [] es:=fun o _ b _ h=>by cases h
theorem Off.cons {o:OE} (h:∀b,o.blk=some b->b ∉ T) (hr:Off T es):Off T (o :: es):=fun p hp=>by
 rcases aJ.1 hp with rfl | hp
 ·exact h
 ·exact hr p hp
theorem Off.app (h:Off T es) (h1:Off T es1):Off T (es++es1):=fun p hp=>(ce.1 hp).elim (h p) (h1 p)
theorem OE.kept.off {o:OE} (h:o.kept T w) (hn:o.ns=true):∀b,o.blk=some b->b ∉ T:=fun b hb=>(h.blk (fun v sz n cs e=>by rw[e]at hn; cases hn) hb).2
theorem OE.kept.all {o:OE} (h:o.kept T w):o.kept [] w:=h.to (Fr.refl _ _) fun _ _ _=>by simp
theorem OE.kept.more {o:OE} (h:o.kept Sb w) (hn:∀b,o.blk=some b->b ∉ T):o.kept (T++Sb) w:=by
 cases o with
 | sl v sz n cs=>trivial
 | bx b cs=>
  obtain⟨h1,h2,h3⟩:=h
  exact⟨h1,fun hb=>(ce.1 hb).elim (hn b rfl) h2,h3⟩
 | rd v sz n cs=>
  obtain⟨hl,a,c,rfl,hc,hx⟩:=h
  refine⟨hl,a,c,rfl,hc,fun hne=>?_⟩
  obtain⟨b,off,rfl,hb,hs,hcell⟩:=hx hne
  exact⟨b,off,rfl,hb,fun hbb=>(ce.1 hbb).elim (hn b (by simp[OE.blk,hne,Value.ownBlock])) hs,hcell⟩
theorem Rds.off (h:Rds T w es) (hn:es.all OE.ns=true):Off T es:=fun o ho=>(h o ho).off (cr.1 hn o ho)
theorem Rds.all (h:Rds T w es):Rds [] w es:=fun o ho=>(h o ho).all
theorem Rds.rpT (h:Rds Sb w es) (hP:Off T es) (k:Nat) {τ:Type} {e:Enc τ} {v:Value} {l:List τ} (hk:xW es k=some (red e v l)):RP (T++Sb) w e v l:=
 ((h _ (bI hk)).more (hP _ (bI hk))).rp
theorem Rds.nthT (h:Rds T w es) (k:Nat) {o:OE} (hk:xW es k=some o):o.kept T w:=h _ (bI hk)
theorem OE.blk_kp (o:OE):∀b,o.kp.blk=some b->o.blk=some b:=fun b h=>by
 cases o with
 | sl v sz n cs=>
  simp only[OE.kp,OE.blk]at h ⊢
  split at h
  ·cases h
  ·exact h
 | bx b cs=>exact h
 | rd v sz n cs=>exact h
theorem Fz.offF (hF:Fz S w0 Sb wb) (hT:TOk S T w0) (hP:Off T es) (hS:St Sb wb w (osF++osK)):Off T (osF.map OE.kp++es):=by
 refine Off.app (fun o ho b hb hbT=>?_) hP
 obtain⟨q,hq,rfl⟩:=List.mem_map.1 ho
 have h1:=(((hF.st hS).ok q (cg _ hq)).lt (OE.blk_kp q b hb)).2
 obtain⟨h2,h3⟩:=hT b hbT
 rcases h1 with h1 | h1
 ·omega
 ·exact h3 h1
theorem Fz.frzK (hF:Fz S w0 Sb wb) (hT:TOk S T w0) (hA:Rds Sb wb es) (hP:Off T es) (hS:St Sb wb w (osF++osK)) :
  Fz S w0 (fg osK) w/\Rds (fg osK) w (osF.map OE.kp++es)/\Off T (osF.map OE.kp++es)/\St (fg osK) w w osK:=by
 have hst:=hF.st hS
 have hp:=da.1 hS.dj
 refine⟨⟨hst.fr,fun b hb=>?_⟩,Rds.app ?_ ?_,hF.offF hT hP hS,?_⟩
 ·obtain⟨o,ho,hob⟩:=fh.1 hb
  exact ((hst.ok o (bU _ ho)).lt hob).2
 ·intro p hp'
  obtain⟨o,ho,rfl⟩:=List.mem_map.1 hp'
  refine (hS.ok o (cg _ ho)).kept fun k hk hx=>?_
  obtain⟨q,hq,hqb⟩:=fh.1 hx
  exact hp.2.2 o ho q hq k hk hqb
 ·intro o ho
  refine (hA o ho).to hS.fr fun k hk hs hx=>?_
  obtain⟨q,hq,hqb⟩:=fh.1 hx
  rcases ((hS.ok q (bU _ hq)).lt hqb).2 with h | h
  ·omega
  ·exact hs h
 ·exact⟨Fr.refl _ _,fun o ho=>(hS.ok o (bU _ ho)).re fun k hk _=>.inr (fh.2 ⟨o,ho,hk⟩),hp.2.1⟩
theorem Fz.okT (hF:Fz S w0 (fg osK) w) (hT:TOk S T w0) (hS:St (fg osK) w w osK):TOk [] (T++fg osK) w:=fun b hb=>by
 refine⟨?_,by simp⟩
 rcases ce.1 hb with hb | hb
 ·exact aO (hT b hb).1 hF.fr.size
 ·obtain⟨o,ho,hob⟩:=fh.1 hb
  exact ((hS.ok o ho).lt hob).1
theorem Fz.callK (hF:Fz S w0 (fg osK) w) (hA:Rds (fg osK) w es) (hP:Off T es) (hS:St (fg osK) w w osK) (hC:St [] w w' []) (hR:Rds (T++fg osK) w' es1) (hn:es1.all OE.ns=true) :
  ∃Sb' wb',Fz S w0 Sb' wb'/\Rds Sb' wb' (es1++es)/\Off T (es1++es)/\St Sb' wb' w' osK:=by
 have h4:St (fg osK) w w' osK:=by have:=hS.call hC; rwa [cZ]at this
 have hb:∀b∈fg osK,b<w.heap.size:=fun b hb=>by
  obtain⟨o,ho,hob⟩:=fh.1 hb
  exact ((hS.ok o ho).lt hob).1
 refine⟨fg osK,w',⟨(hF.st h4).fr,hF.sb⟩,Rds.app (fun o ho=>(hR o ho).to (Fr.refl _ _) fun k _ hk hx=>hk (bU _ hx)) (fun o ho=>(hA o ho).fr h4.fr),?_,?_⟩
 ·refine Off.app (fun o ho b hb hx=>?_) hP
  exact (hR o ho).off (cr.1 hn o ho) b hb (cg _ hx)
 ·exact⟨Fr.refl _ _,fun o ho=>(h4.ok o ho).re fun k hk _=>.inr (fh.2 ⟨o,ho,hk⟩),h4.dj⟩
theorem Fz.outT (hF:Fz [] w0 Sb wb) (hT:TOk [] T w0) (hA:Rds Sb wb es) (hP:Off T es) (hS:St Sb wb w os):St [] w0 w []/\Rds T w (os.map OE.kp++es):=by
 obtain⟨h1,h2,h3,h4⟩:=Fz.frzK (osK:=[]) hF hT hA hP (by rw[dS]; exact hS)
 refine⟨h1.st h4,fun o ho=>?_⟩
 have:=(h2 o ho).more (h3 o ho)
 exact this.to (Fr.refl _ _) fun k _ hk hx=>hk (cg _ hx)
theorem SfT.mk' (hF:Fz S w0 Sb wb) (hA:Rds Sb wb es) (hP:Off T es) (hS:St Sb wb w os):SfT S T w0 w es os:=⟨Sb,wb,hF,hA,hP,hS⟩
theorem Off.pick {es':List OE} (h:Off T es) (ix:L01) (he:es'.map some=ix.map (fun i=>xW es i)):Off T es':=fun o ho=>by
 have h1:some o∈es'.map some:=List.mem_map_of_mem ho
 rw[he]at h1
 obtain⟨i,_,hi⟩:=List.mem_map.1 h1
 exact h o (bI hi)
theorem Off.nilrd {τ:Type} {e:Enc τ}:∀b,(red e (.slice none 0 0) ([]:List τ)).blk=some b->b ∉ T:=fun b h=>by simp[red,OE.blk]at h
end
section
variable {P:Program} {n:Nat} {L:Env} {w:World}
theorem Qz {fn:Func} {r1 r2 r3:ResultVar} {v1 v2 v3:Value} {φ:Value->World->Prop} (hres:fn.results=#[r1,r2,r3]) (h1:RV P L w r1 v1) (h2:RV P L w r2 v2) (h3:RV P L w r3 v3) (h:φ (.tuple #[v1,v2,v3]) w):QE n (bodyPost P fn (Ret φ)) .ret L w:=fun a ha=>by
 refine⟨ha.defers,.tuple #[v1,v2,v3],?_,h⟩
 cases r1 <;> cases r2 <;> cases r3
 ·have g1:=ha.get _ _ h1
  have g2:=ha.get _ _ h2
  have g3:=ha.get _ _ h3
  simp[results,hres,g1,g2,g3]
 ·have g1:=ha.get _ _ h1
  have g2:=ha.get _ _ h2
  obtain⟨b3,g3,k3⟩:=h3
  have g3:=ha.get _ _ g3
  simp[results,hres,g1,g2,g3,k3,jG]
 ·have g1:=ha.get _ _ h1
  obtain⟨b2,g2,k2⟩:=h2
  have g2:=ha.get _ _ g2
  have g3:=ha.get _ _ h3
  simp[results,hres,g1,g2,k2,g3,jG]
 ·have g1:=ha.get _ _ h1
  obtain⟨b2,g2,k2⟩:=h2
  have g2:=ha.get _ _ g2
  obtain⟨b3,g3,k3⟩:=h3
  have g3:=ha.get _ _ g3
  simp[results,hres,g1,g2,k2,g3,k3,jG]
 ·obtain⟨b1,g1,k1⟩:=h1
  have g1:=ha.get _ _ g1
  have g2:=ha.get _ _ h2
  have g3:=ha.get _ _ h3
  simp[results,hres,g1,k1,g2,g3,jG]
 ·obtain⟨b1,g1,k1⟩:=h1
  have g1:=ha.get _ _ g1
  have g2:=ha.get _ _ h2
  obtain⟨b3,g3,k3⟩:=h3
  have g3:=ha.get _ _ g3
  simp[results,hres,g1,k1,g2,g3,k3,jG]
 ·obtain⟨b1,g1,k1⟩:=h1
  have g1:=ha.get _ _ g1
  obtain⟨b2,g2,k2⟩:=h2
  have g2:=ha.get _ _ g2
  have g3:=ha.get _ _ h3
  simp[results,hres,g1,k1,g2,k2,g3,jG]
 ·obtain⟨b1,g1,k1⟩:=h1
  have g1:=ha.get _ _ g1
  obtain⟨b2,g2,k2⟩:=h2
  have g2:=ha.get _ _ g2
  obtain⟨b3,g3,k3⟩:=h3
  have g3:=ha.get _ _ g3
  simp[results,hres,g1,k1,g2,k2,g3,k3,jG]
end
section
variable {P:Program} {n:Nat} {L:Env} {w w' w0:World} {S:L01} {os:List OE}
variable {d:Option Tmp} {ty:TypeId} {pos:String} {after:Array Edge}
end
section
variable {P:Program} {ops:Array Oper} {Q:Exit->Act->World->Prop} {nw:Nat->Bool} {cs:Nat->Option Nat} {S:L01} {w0:World} {os:List OE} {ent:Nat->Value->OE}
def jJ (nw:Nat->Bool) (cs:Nat->Option Nat) (listed:Array Bool) (k:Nat):Bool:=nw k&&listed.getD k false&&(match cs k with | none=>true | some c=>!listed.getD c false)
theorem qc {p q:Nat->Bool} (l:L01):(l.filter p).Perm (l.filter (fun k=>p k&&q k)++l.filter (fun k=>p k&&!q k)):=by
 have:=(List.filter_append_perm q (l.filter p)).symm
 rw[List.filter_filter,List.filter_filter]at this
 refine this.trans ?_
 have j:(fun a=>q a&&p a)=(fun k=>p k&&q k):=by funext k; exact Bool.and_comm _ _
 have z:(fun a=>(!q a)&&p a)=(fun k=>p k&&!q k):=by funext k; exact Bool.and_comm _ _
 rw[j,z]
theorem Cu {n j:Nat} (h:j<n) {p:Nat->Bool} (hp:p j=true):(List.range n).filter (fun k=>p k&&k == j)=[j]:=by
 have z:(List.range n).filter (fun k=>p k&&k == j)=(List.range n).filter (fun k=>k == j):=by
  refine fo fun k _=>?_
  by_cases hk:k=j
  ·subst hk; simp[hp]
  ·simp[hk]
 rw[z]
 have A:=List.filter_beq (l:=List.range n) j
 rw[A,List.nodup_range.count,af (dY.2 h)]; rfl
variable {n:Nat} {L:Env}
theorem Dj (z:∀j A,ops[j]? = some A->∀e∈A.after,Region.binds .any e=true->e.on<j):∀(f j k:Nat),ip ops f j k=true->k<j
 | 0,_,_,h=>by simp[ip]at h
 | f+1,j,k,h=>by
  simp only[ip]at h
  cases hj:ops[j]? with
  | none=>simp[hj]at h
  | some A=>
   simp only[hj,List.any_eq_true,aW,fu]at h
   obtain⟨e,he,hb,h | h⟩:=h
   ·have:=z j A hj e (by simpa using he) hb
    have:=bP h; omega
   ·have:=z j A hj e (by simpa using he) hb
    have:=Dj z f e.on k h; omega
end
abbrev Th:=Value×List OE×List OE
abbrev Gt:=Nat->Th
def kx (g:Gt) (i:Nat) (v:Th):Gt:=fun k=>if k=i then v else g k
theorem IR {g:Gt} {i j:Nat} {u v:Th} (h:i≠j):kx (kx g i u) j v=kx (kx g j v) i u:=by
 funext k
 unfold kx
 by_cases h1:k=i <;> by_cases h2:k=j <;> simp_all
theorem qh {α β:Type} {f g:α->List β}:∀{l:List α},(∀k∈l,f k=g k)->l.flatMap f=l.flatMap g
 | [],_=>rfl
 | k :: l,h=>by rw[dU,dU,h k (fQ ..),qh fun x hx=>h x (gU _ hx)]
theorem uh (g:Gt) (i:Nat) (v:Th):kx g i v i=v:=af rfl
theorem qk {g:Gt} {i k:Nat} {v:Th} (h:k≠i):kx g i v k=g k:=ae h
section
variable {S T Sl Tl:L01} {w0 w w':World} {es es1 os os1 rest lent:List OE}
theorem Rds.sub (h:Rds S w es) (hs:∀o∈es1,o∈es):Rds S w es1:=fun o j=>h o (hs o j)
theorem Off.sub (h:Off T es) (hs:∀o∈es1,o∈es):Off T es1:=fun o j=>h o (hs o j)
theorem OE.kept.to' {o:OE} {G:L01} (h:o.kept S w) (hf:Fr S w w') (hS:∀k,k<w.heap.size->o.blk=some k->k ∉ S->k ∉ G):o.kept G w':=by
 cases o with
 | sl v sz n cs=>trivial
 | bx b cs=>
  obtain⟨J,I,A⟩:=h
  refine⟨fun j u B=>?_,hS _ A rfl I,aO A hf.size⟩
  rw[hf.cell A I]
  exact J j u B
 | rd v sz n cs=>
  obtain⟨hl,a,c,rfl,hc,hx⟩:=h
  refine⟨hl,a,c,rfl,hc,fun hn=>?_⟩
  obtain⟨b,off,rfl,hb,hs,z⟩:=hx hn
  refine⟨b,off,rfl,aO hb hf.size,hS _ hb (by simp[OE.blk,hn,Value.ownBlock]) hs,fun j u B=>?_⟩
  rw[hf.cell hb hs]
  exact z j u B
theorem SfT.tail (h:SfT S T w0 w (es1++es) (os1++os)):SfT S T w0 w es os:=by
 obtain⟨Sb,wb,hZ,hA,hP,hS⟩:=h
 exact⟨Sb,wb,hZ,hA.sub (fun o j=>bU _ j),hP.sub (fun o j=>bU _ j),hS.tail⟩
theorem SfT.tail' (h:SfT S T w0 w es (os1++os)):SfT S T w0 w es os:=by
 obtain⟨Sb,wb,hZ,hA,hP,hS⟩:=h
 exact⟨Sb,wb,hZ,hA,hP,hS.tail⟩
theorem SfT.perm (h:SfT S T w0 w es os) (j:∀o∈es1,o∈es) (k:os.Perm os1):SfT S T w0 w es1 os1:=by
 obtain⟨Sb,wb,hZ,hA,hP,hS⟩:=h
 exact⟨Sb,wb,hZ,hA.sub j,hP.sub j,hS.perm k⟩
theorem KL {Sb:L01} {wb:World} {o:OE} (j:o.kept Sb wb) (hn:o.ns=true) {b:Nat} (hb:o.blk=some b):b<wb.heap.size/\b ∉ Sb:=
 j.blk (fun v k n cs e=>by rw[e]at hn; cases hn) hb
theorem SfT.frS (h:SfT S T w0 w es os):Fr S w0 w:=by
 obtain⟨Sb,wb,hZ,hA,hP,hS⟩:=h
 exact (hZ.st hS).fr
theorem SfT.lend (h:SfT S T w0 w es (lent++rest)) (hT:TOk S T w0) (hn:∀o∈es,o.ns=true) :
  TOk (fg lent) (T++fg rest) w/\Rds (fg lent) w es/\Off (T++fg rest) es/\St (fg lent) w w lent:=by
 obtain⟨Sb,wb,hZ,hA,hP,hS⟩:=h
 have G:=hZ.st hS
 have N:=(da.1 hS.dj).2.2
 refine⟨fun b hb=>?_,fun o j=>(hA o j).to hS.fr fun k R hs hx=>?_,fun o j b hb hx=>?_,hS.give⟩
 ·rcases ce.1 hb with hb | hb
  ·obtain⟨O,B⟩:=hT b hb
   refine⟨aO O G.fr.size,fun hx=>?_⟩
   obtain⟨o,j,A⟩:=fh.1 hx
   rcases ((G.ok o (cg _ j)).lt A).2 with J | J
   ·omega
   ·exact B J
  ·obtain⟨o,j,A⟩:=fh.1 hb
   refine⟨((G.ok o (bU _ j)).lt A).1,fun hx=>?_⟩
   obtain⟨q,I,z⟩:=fh.1 hx
   exact N q I o j b z A
 ·obtain⟨q,I,z⟩:=fh.1 hx
  rcases ((hS.ok q (cg _ I)).lt z).2 with h | h
  ·omega
  ·exact hs h
 ·rcases ce.1 hx with hx | hx
  ·exact hP o j b hb hx
  ·obtain⟨q,I,z⟩:=fh.1 hx
   have B:=((hS.ok q (bU _ I)).lt z).2
   have J:=KL (hA o j) (hn o j) hb
   rcases B with B | B
   ·omega
   ·exact J.2 B
theorem SfT.unlend (h:SfT S T w0 w es (lent++rest)) (hn:∀o∈es,o.ns=true) (Y:∀o∈es1,o.ns=true)
  (X:SfT (fg lent) (T++fg rest) w w' es1 os1):SfT S T w0 w' (es1++es) (os1++rest):=by
 obtain⟨Sb,wb,hZ,hA,hP,hS⟩:=h
 obtain⟨Z,wc,O,R,J,B⟩:=X
 have U:=O.st B
 have hb:St Sb wb w' (os1++rest):=hS.back U
 have G:=hZ.st hb
 refine⟨fg (os1++rest),w',⟨G.fr,fun b V=>?_⟩,Rds.app (fun o j=>?_) (fun o j=>?_),Off.app (fun o j b hb hx=>J o j b hb (cg _ hx)) hP,
  Fr.refl _ _,fun o j=>(hb.ok o j).re fun k N _=>.inr (fh.2 ⟨o,j,N⟩),hb.dj⟩
 ·obtain⟨o,j,I⟩:=fh.1 V
  exact ((G.ok o j).lt I).2
 ·refine (R o j).to' B.fr fun k N I hs hx=>?_
  obtain⟨q,z,A⟩:=fh.1 hx
  rcases ce.1 z with z | z
  ·rcases ((B.ok q z).lt A).2 with h | h
   ·omega
   ·exact hs h
  ·exact J o j k I (bU _ (fh.2 ⟨q,z,A⟩))
 ·refine (hA o j).to hb.fr fun k N hs hx=>?_
  obtain⟨q,z,A⟩:=fh.1 hx
  rcases ((hb.ok q z).lt A).2 with h | h
  ·omega
  ·exact hs h
end
section
variable {P:Program} {ops:Array Oper} {Q:Exit->Act->World->Prop} {nw:Nat->Bool} {cs:Nat->Option Nat} {ks:Nat->L01} {xs:Nat->List OE} {bs:Nat->L01} {S T:L01} {w0:World} {es os:List OE} {ent:Nat->List Th->Value->List OE->List OE->Prop} {ds:Nat->L01}
def coM (n:Nat) (cs:Nat->Option Nat) (g:Gt) (j:Nat):List OE:=((List.range n).filter (fun k=>cs k == some j)).flatMap (fun k=>(g k).2.1)
def ckM (ks:Nat->L01) (g:Gt) (j:Nat):List OE:=(ks j).flatMap (fun k=>(g k).2.2)
def brM (n:Nat) (bs:Nat->L01) (xs:Nat->List OE) (j:Nat):List OE:=((List.range n).filter (fun k=>(bs j).contains k)).flatMap xs
def TrM (P:Program) (S:L01) (w0:World) (ops:Array Oper) (es os:List OE) (ent:Nat->List Th->Value->List OE->List OE->Prop) (hs:List Th) (co ck:List OE) (o:Oper) (i:Nat) (a:Act):Prop:=
 Region.wanted o (yielded ops a.tmps)=true/\∀w Sl Tl,Fr S w0 w->TOk Sl Tl w->Rds Sl w (ck++es)->Off Tl (ck++es)->St Sl w w (co++os) ->
  (∃v w' x y,((execOp a.eval o).run P w=.ok (.value v) w'\/v=undef/\(execOp a.eval o).run P w=.ok .skip w')/\ent i hs v x y/\SfT Sl Tl w w' y (x++os)) \/
  ∃f args,(execOp a.eval o).run P w=.ok (.enter f args) w/\Calls P f args w (Ret fun v w'=>∃x y,ent i hs v x y/\SfT Sl Tl w w' y (x++os))
theorem TrM.of_same {hs:List Th} {co ck:List OE} {o:Oper} {i:Nat} {a j:Act} (hy:TrM P S w0 ops es os ent hs co ck o i a) (he:execOp j.eval o=execOp a.eval o)
  (k:Region.wanted o (yielded ops j.tmps)=Region.wanted o (yielded ops a.tmps)):TrM P S w0 ops es os ent hs co ck o i j:=by
 unfold TrM at *
 rw[he,k]
 exact hy
def lxM (P:Program) (ops:Array Oper) (Q:Exit->Act->World->Prop) (nw:Nat->Bool) (cs:Nat->Option Nat) (ks:Nat->L01) (xs:Nat->List OE) (bs ds:Nat->L01) (S T:L01) (w0:World) (es os:List OE) (ent:Nat->List Th->Value->List OE->List OE->Prop):L01->Gt->Act->Prop
 | [],g,a=>∀w,SfT S T w0 w (((List.range ops.size).filter nw).flatMap (fun k=>(g k).2.2)++es) (((List.range ops.size).filter (fun k=>nw k&&cs k == none)).flatMap (fun k=>(g k).2.1)++os)->Q .normal a w
 | i :: r,g,a=>match ops[i]? with
  | none=>lxM P ops Q nw cs ks xs bs ds S T w0 es os ent r g a
  | some o=>if nw i then TrM P S w0 ops es (brM ops.size bs xs i++os) ent ((ds i).map g) (coM ops.size cs g i++xs i) (ckM ks g i) o i a/\(∃v x y,ent i ((ds i).map g) v x y)/\∀v x y,ent i ((ds i).map g) v x y->lxM P ops Q nw cs ks xs bs ds S T w0 es os ent r (kx g i (v,x,y)) (a.put o.dst v)
   else ∃v,Ins P ops (fun w=>SfT S T w0 w es os) o v a/\lxM P ops Q nw cs ks xs bs ds S T w0 es os ent r g (a.put o.dst v)
theorem FP {n i j:Nat} {g:Gt} {v:Th} (h:cs i≠some j):coM n cs (kx g i v) j=coM n cs g j:=by
 unfold coM
 refine qh fun k A=>?_
 have B:cs k=some j:=by simpa using (kj.1 A).2
 have z:k≠i:=fun e=>h (by rw[<-e]; exact B)
 rw[qk z]
theorem FO {i j:Nat} {g:Gt} {v:Th} (h:i ∉ ks j):ckM ks (kx g i v) j=ckM ks g j:=by
 unfold ckM
 refine qh fun k A=>?_
 have z:k≠i:=fun e=>h (by rw[<-e]; exact A)
 rw[qk z]
theorem rR {i j:Nat} {g:Gt} {v:Th} (h:i ∉ ds j):(ds j).map (kx g i v)=(ds j).map g:=by
 refine List.map_congr_left fun k A=>?_
 have z:k≠i:=fun e=>h (by rw[<-e]; exact A)
 rw[qk z]
theorem KN (hs:sJ ops) (ax:∃w,SfT S T w0 w es os) {i j:Nat} {r:L01} {g:Gt} {a:Act}
  (bx:∀z k,ops[i]? = some z->ops[j]? = some k->z.apart ops k=true) (ab:cs i≠some j/\cs j≠some i) (ac:i ∉ ks j/\j ∉ ks i) (B:i ∉ ds j/\j ∉ ds i) (b2:i≠j)
  (h:lxM P ops Q nw cs ks xs bs ds S T w0 es os ent (i :: j :: r) g a):lxM P ops Q nw cs ks xs bs ds S T w0 es os ent (j :: i :: r) g a:=by
 cases hi:ops[i]? with
 | none=>
  simp only[lxM,hi]at h
  cases hj:ops[j]? with
  | none=>simp only[lxM,hi,hj]at h ⊢; exact h
  | some k=>simp only[lxM,hi,hj]at h ⊢; exact h
 | some z=>
  cases hj:ops[j]? with
  | none=>simp only[lxM,hi,hj]at h ⊢; exact h
  | some k=>
   obtain⟨I,Y,J⟩:=Oper.apart_spec (bx z k hi hj)
   have R:=fun cs b=>hs i z cs b hi
   have U:=fun cs b=>hs j k cs b hj
   simp only[lxM,hi,hj]at h ⊢
   by_cases hni:nw i=true
   ·rw[af hni]at h
    obtain⟨Z,V,A⟩:=h
    by_cases hnj:nw j=true
    ·simp only[hni,hnj,bo]at A ⊢
     obtain⟨N,x0,y0,G⟩:=V
     have h0:=(A N x0 y0 G).1
     have ad:=(A N x0 y0 G).2.1
     rw[FP ab.1,FO ac.1,rR B.1]at h0
     rw[rR B.1]at ad
     refine⟨h0.of_same (execOp_put k U a z.dst N I).symm (wanted_put k a z.dst N I).symm,ad,fun v x y he=>⟨?_,?_,fun u x' y' ap=>?_⟩⟩
     ·rw[FP ab.2,FO ac.2,rR B.2]; exact Z.of_same (execOp_put z R a k.dst v J) (wanted_put z a k.dst v J)
     ·rw[rR B.2]; exact⟨N,x0,y0,G⟩
     rw[rR B.2]at ap
     have:=(A u x' y' ap).2.2 v x y (by rw[rR B.1]; exact he)
     rw[IR b2]at this
     rw[<-Act.put_comm a u v Y]; exact this
    ·simp only[hni,hnj,bo,cC]at A ⊢
     have get:∀u x y,ent i ((ds i).map g) u x y->∃v,Ins P ops (fun w=>SfT S T w0 w es os) k v a/\lxM P ops Q nw cs ks xs bs ds S T w0 es os ent r (kx g i (u,x,y)) ((a.put z.dst u).put k.dst v):=fun u x y he=>by
      obtain⟨v,O,X⟩:=A u x y he
      exact⟨v,O.of_same (execOp_put k U a z.dst u I).symm (wanted_put k a z.dst u I).symm,X⟩
     obtain⟨N,x0,y0,G⟩:=V
     obtain⟨v,O,_⟩:=get N x0 y0 G
     refine⟨v,O,?_⟩
     refine⟨Z.of_same (execOp_put z R a k.dst v J) (wanted_put z a k.dst v J),⟨N,x0,y0,G⟩,fun u x y he=>?_⟩
     obtain⟨v',b5,X⟩:=get u x y he
     obtain⟨w,hw⟩:=ax
     have:v'=v:=Ins.unique (w:=w) hw b5 O
     subst this
     rw[<-Act.put_comm a u v' Y]; exact X
   ·rw[ae hni]at h
    obtain⟨v,O,h⟩:=h
    by_cases hnj:nw j=true
    ·simp only[hni,hnj,bo,cC]at h ⊢
     obtain⟨Z,V,A⟩:=h
     refine⟨Z.of_same (execOp_put k U a z.dst v I).symm (wanted_put k a z.dst v I).symm,V,fun u x y he=>⟨v,O.of_same (execOp_put z R a k.dst u J) (wanted_put z a k.dst u J),?_⟩⟩
     rw[<-Act.put_comm a v u Y]; exact A u x y he
    ·simp only[hni,hnj,cC]at h ⊢
     obtain⟨u,hu,X⟩:=h
     refine⟨u,hu.of_same (execOp_put k U a z.dst v I).symm (wanted_put k a z.dst v I).symm,v,O.of_same (execOp_put z R a k.dst u J) (wanted_put z a k.dst u J),?_⟩
     rw[<-Act.put_comm a v u Y]; exact X
theorem zY (hs:sJ ops) (A:∃w,SfT S T w0 w es os) {j:Nat}:∀(l1 z:L01) (g:Gt) (a:Act),(∀i∈l1,i≠j/\(cs i≠some j/\cs j≠some i)/\(i ∉ ks j/\j ∉ ks i)/\(i ∉ ds j/\j ∉ ds i)/\∀B I,ops[i]? = some B->ops[j]? = some I->B.apart ops I=true) ->
   lxM P ops Q nw cs ks xs bs ds S T w0 es os ent (l1++j :: z) g a->lxM P ops Q nw cs ks xs bs ds S T w0 es os ent (j :: (l1++z)) g a
 | [],_,_,_,_,h=>h
 | i :: l1,z,g,a,hall,h=>by
  have G:∀g a,lxM P ops Q nw cs ks xs bs ds S T w0 es os ent (l1++j :: z) g a->lxM P ops Q nw cs ks xs bs ds S T w0 es os ent (j :: (l1++z)) g a:=fun g a h=>
   zY hs A l1 z g a (fun k J=>hall k (by simp[J])) h
  have N:lxM P ops Q nw cs ks xs bs ds S T w0 es os ent (i :: j :: (l1++z)) g a:=by
   rw[i9]at h
   cases hi:ops[i]? with
   | none=>
    unfold lxM at h ⊢
    simp only[hi]at h ⊢
    exact G _ _ h
   | some B=>
    unfold lxM at h ⊢
    simp only[hi]at h ⊢
    by_cases hn:nw i=true
    ·rw[af hn]at h ⊢
     exact⟨h.1,h.2.1,fun v x y he=>G _ _ (h.2.2 v x y he)⟩
    ·rw[ae hn]at h ⊢
     obtain⟨v,O,h⟩:=h
     exact⟨v,O,G _ _ h⟩
  have hi:=hall i (by simp)
  exact KN hs A hi.2.2.2.2 hi.2.1 hi.2.2.1 hi.2.2.2.1 hi.1 N
theorem BR {n:Nat} {nw:Nat->Bool} {g:Gt} {listed:Array Bool} {k:Nat} (j:k<n) (hn:nw k=true) (hl:listed.getD k false=true) {o:OE} (z:o∈(g k).2.2) :
  o∈((List.range n).filter (fun k=>nw k&&listed.getD k false)).flatMap (fun k=>(g k).2.2):=
 jN.2 ⟨k,kj.2 ⟨dY.2 j,by rw[hn,hl]; rfl⟩,z⟩
theorem MB {α:Type} (A B C D E:List α):((A++B)++((C++D)++E)).Perm (((A++C)++E)++(B++D)):=by
 simp only[bh]
 refine fL A ?_
 refine (List.perm_append_comm_assoc B C (D++E)).trans (fL C ?_)
 rw[<-bh]
 exact List.perm_append_comm
theorem It {α:Type} (A E B D:List α):((A++E)++(B++D)).Perm ((A++B)++(D++E)):=by
 simp only[bh]
 refine fL A ?_
 refine List.perm_append_comm.trans ?_
 rw[bh]
theorem KD {α:Type} (A B C j k E:List α):((A++B)++((C++(j++k))++E)).Perm (((A++C)++(j++E))++(B++k)):=by
 have h:=MB A B (C++j) k E
 simp only[bh]at h ⊢
 exact h
theorem Ic {α:Type} (A B j k E:List α):((A++(j++E))++(B++k)).Perm ((A++B)++((j++k)++E)):=by
 refine (It A (j++E) B k).trans ?_
 rw[bh j]
 exact (List.perm_append_comm_assoc k j E).append_left _
theorem tU (c5:∀c k,c<ops.size->k∈bs c->k<ops.size/\ip ops ops.size k c=true) (c6:∀k,nw k=false->xs k=[]) (hT:TOk S T w0) (b6:∀o∈es,o.ns=true) (c7:∀i h v x y,ent i h v x y->∀o∈y,o.ns=true) (hs:sJ ops)
  (Y:∀k c,k<ops.size->cs k=some c->nw k=true/\c<ops.size/\nw c=true/\ip ops ops.size c k=true) (J:∀c oc,ops[c]? = some oc->∀k,ip ops ops.size c k=true->k<c)
  (ad:∀c k,c<ops.size->k∈ks c->k<ops.size/\nw k=true/\ip ops ops.size c k=true) (c0:∀c k,c<ops.size->k∈ds c->ip ops ops.size c k=true)
  (ct:∀j oj,ops[j]? = some oj->∀e∈oj.after,Region.binds .any e=true->e.on<j)
  (cx:∀i j,i<j->j<ops.size->ip ops ops.size j i=false->∀oi oj,ops[i]? = some oi->ops[j]? = some oj->oi.apart ops oj=true) :
  ∀(m:Nat) (l:L01) (listed:Array Bool) (g:Gt) (a:Act) (w:World),l.length=m->l.Pairwise (·<·)->listed.size=ops.size->closed ops listed ->
   (∀i,i∈l↔i<ops.size/\listed.getD i true=false)->(∀k,nw k=true->listed.getD k false=true->∀o∈(g k).2.2,o.ns=true) ->
   SfT S T w0 w (((List.range ops.size).filter (fun k=>nw k&&listed.getD k false)).flatMap (fun k=>(g k).2.2)++es) (((List.range ops.size).filter (jJ nw cs listed)).flatMap (fun i=>(g i).2.1)++(((List.range ops.size).filter (fun k=>!listed.getD k false)).flatMap xs++os)) ->
   lxM P ops Q nw cs ks xs bs ds S T w0 es os ent l g a->wpAny P .any ops Q m listed a w
 | 0,l,listed,g,a,w,hm,_,hsz,_,hmem,hgn,hS,h=>by
  have hl:l=[]:=bA hm
  subst hl
  have B:∀k,k<ops.size->listed.getD k false=true:=fun k z=>by
   cases hl:listed.getD k false with
   | true=>rfl
   | false=>
    have ad:k<listed.size:=by omega
    have:k∈([]:L01):=(hmem k).2 ⟨z,by simp[ad]at hl ⊢; exact hl⟩
    cases this
  refine⟨?_,?_⟩
  ·refine List.eq_nil_iff_forall_not_mem.2 fun i hi=>?_
   obtain⟨ap,o,eU,_⟩:=mem_ready.1 hi
   have:=(hmem i).2 ⟨(du.1 eU).1,ap⟩
   cases this
  ·have e:(List.range ops.size).filter (jJ nw cs listed)=(List.range ops.size).filter (fun k=>nw k&&cs k == none):=by
    refine fo fun k z=>?_
    have z:=dY.1 z
    unfold jJ
    rw[B k z,Bool.and_true]
    cases hc:cs k with
    | none=>rfl
    | some c=>
     show (nw k&&!listed.getD c false)=(nw k&&(some c == none))
     rw[B c (Y k c z hc).2.1]; rfl
   have e2:(List.range ops.size).filter (fun k=>nw k&&listed.getD k false)=(List.range ops.size).filter nw:=by
    refine fo fun k z=>?_
    rw[B k (dY.1 z),Bool.and_true]
   have e3:(List.range ops.size).filter (fun k=>!listed.getD k false)=[]:=by
    refine List.filter_eq_nil_iff.2 fun k z=>?_
    rw[B k (dY.1 z)]; simp
   rw[e,e2,e3]at hS
   exact h w hS
 | m+1,l,listed,g,a,w,hm,hsort,hsz,hcl,hmem,hgn,hS,h=>by
  refine⟨fun el=>?_,fun j hj=>?_⟩
  ·exfalso
   cases l with
   | nil=>simp at hm
   | cons i r=>
    obtain⟨U,ap⟩:=(hmem i).1 (by simp)
    have hi:i∈Region.ready .any ops listed:=by
     refine mem_ready.2 ⟨ap,ops[i],by simp[U],fun e he hb=>?_⟩
     have ac:=ct i ops[i] (by simp[U]) e he hb
     cases hl:listed.getD e.on false with
     | true=>rfl
     | false=>
      have b6:e.on<listed.size:=by rw[hsz]; omega
      have e0:listed.getD e.on true=false:=by simp[b6]at hl ⊢; exact hl
      have e1:=(hmem e.on).2 ⟨by omega,e0⟩
      rcases aJ.1 e1 with h1 | h1
      ·omega
      ·have:=(jo.1 hsort).1 e.on h1
       omega
    rw[el]at hi
    cases hi
  ·obtain⟨ap,oj,Z,B⟩:=mem_ready.1 hj
   have G:j<ops.size:=(du.1 Z).1
   have e6:j∈l:=(hmem j).2 ⟨G,ap⟩
   obtain⟨l1,l2,rfl⟩:=List.append_of_mem e6
   have ac:∀i∈l1,i<j:=fun i hi=>(da.1 hsort).2.2 i hi j (by simp)
   have c8:∀i∈l1++l2,ip ops ops.size j i=false:=fun i hi=>by
    cases hr:ip ops ops.size j i with
    | false=>rfl
    | true=>
     have N:=jL hcl ops.size j i oj Z B hr
     have h3:=(hmem i).1 (by rcases ce.1 hi with h | h <;> simp[h])
     rw[cG]at N
     have h4:=h3.2
     rw[cG]at h4
     have:i<listed.size:=by rw[hsz]; exact h3.1
     simp[this]at N h4
     rw[N]at h4; cases h4
   have e7:∀i∈l1,cs i≠some j/\cs j≠some i:=fun i hi=>by
    have U:=((hmem i).1 (by simp[hi])).1
    refine⟨fun hc=>?_,fun hc=>?_⟩
    ·have:=(Y i j U hc).2.2.2
     rw[c8 i (by simp[hi])]at this; cases this
    ·obtain⟨_,V,_,O⟩:=Y j i G hc
     have:=J i ops[i] (by simp[V]) j O
     have:=ac i hi; omega
   have e9:∀i∈l1,i ∉ ks j/\j ∉ ks i:=fun i hi=>by
    have U:=((hmem i).1 (by simp[hi])).1
    refine⟨fun hc=>?_,fun hc=>?_⟩
    ·have:=(ad j i G hc).2.2
     rw[c8 i (by simp[hi])]at this; cases this
    ·have O:=(ad i j U hc).2.2
     have:=J i ops[i] (by simp[U]) j O
     have:=ac i hi; omega
   have fd:∀i∈l1,i ∉ ds j/\j ∉ ds i:=fun i hi=>by
    have U:=((hmem i).1 (by simp[hi])).1
    refine⟨fun hc=>?_,fun hc=>?_⟩
    ·have:=c0 j i G hc
     rw[c8 i (by simp[hi])]at this; cases this
    ·have O:=c0 i j U hc
     have:=J i ops[i] (by simp[U]) j O
     have:=ac i hi; omega
   have h1:=zY hs ⟨w,hS.tail.tail' ⟩ l1 l2 g a (fun i hi=>⟨Nat.ne_of_lt (ac i hi),e7 i hi,e9 i hi,fd i hi,fun oi fm fs er=>by
    refine cx i j (ac i hi) G ?_ oi fm fs er
    cases hr:ip ops ops.size j i with
    | false=>rfl
    | true=>
     have N:=jL hcl ops.size j i oj Z B hr
     have h3:=((hmem i).1 (by simp[hi])).2
     rw[cG]at N h3
     have:i<listed.size:=by rw[hsz]; exact fT (ac i hi) G
     simp[this]at N h3
     rw[N]at h3; cases h3⟩) h
   have b9:(l1++l2).Pairwise (·<·):=by
    refine hsort.sublist ?_
    exact List.Sublist.append_left (List.sublist_cons_self j l2) l1
   have c9:(l1++l2).length=m:=by simp at hm ⊢; omega
   have dc:closed ops (listed.setIfInBounds j true):=by
    intro k ok z hl e he hb
    by_cases hkj:j=k
    ·subst hkj
     have:ok=oj:=fv (z.symm.trans Z)
     subst this
     exact getD_set_true (B e he hb)
    ·rw[getD_set_ne false hkj]at hl
     exact getD_set_true (hcl k ok z hl e he hb)
   have fA:j ∉ l1++l2:=by
    intro hx
    rcases ce.1 hx with hx | hx
    ·exact absurd (ac j hx) (jW _)
    ·have:=(da.1 hsort).2.1
     have:=(jo.1 this).1 j hx
     exact absurd this (jW _)
   have c1:∀i,i∈l1++l2↔i<ops.size/\(listed.setIfInBounds j true).getD i true=false:=by
    intro i
    by_cases hij:j=i
    ·subst hij
     constructor
     ·intro hx; exact absurd hx fA
     ·intro hx
      have:=pZ (listed:=listed) (i:=j) (by rw[hsz]; exact G) true
      rw[this]at hx; cases hx.2
    ·rw[getD_set_ne true hij,<-hmem i]
     simp only[ce,aJ]
     constructor
     ·rintro (hx | hx)
      ·exact .inl hx
      ·exact .inr (.inr hx)
     ·rintro (hx | hx | hx)
      ·exact .inl hx
      ·exact absurd hx.symm hij
      ·exact .inr hx
   have ca:listed.getD j false=false:=by
    have:j<listed.size:=by omega
    simp[this]at ap ⊢; exact ap
   have I:∀k,(listed.setIfInBounds j true).getD k false=if k=j then true else listed.getD k false:=fun k=>by
    by_cases hkj:k=j
    ·subst hkj; rw[af rfl]; exact pZ q10 false
    ·rw[ae hkj,getD_set_ne false (fun e=>hkj e.symm)]
   have dd:listed.getD j false=false:=ca
   have hX:(((List.range ops.size).filter (fun k=>!listed.getD k false)).flatMap xs).Perm (xs j++((List.range ops.size).filter (fun k=>!(listed.setIfInBounds j true).getD k false)).flatMap xs):=by
    have ax:=qc (p:=fun k=>!listed.getD k false) (q:=fun k=>k == j) (List.range ops.size)
    rw[Cu G (by rw[dd]; rfl)]at ax
    have e4:(List.range ops.size).filter (fun k=>!listed.getD k false&&!(k == j))=(List.range ops.size).filter (fun k=>!(listed.setIfInBounds j true).getD k false):=by
     refine fo fun k z=>?_
     rw[I]
     by_cases hkj:k=j
     ·subst hkj; simp
     ·rw[ae hkj]; simp[hkj]
    rw[e4]at ax
    have h8:=ax.flatMap_right (f:=xs)
    rw[List.flatMap_append]at h8
    simpa using h8
   obtain⟨X,c2⟩:∃X,((List.range ops.size).filter (fun k=>!(listed.setIfInBounds j true).getD k false)).flatMap xs=X:=⟨_,rfl⟩
   rw[c2]at hX
   have fB:∀k,(bs j).contains k=true->k<ops.size/\listed.getD k false=false/\k≠j:=fun k z=>by
    have fP:k∈bs j:=by simpa using z
    obtain⟨V,O⟩:=c5 j k G fP
    refine⟨V,?_,fun e=>?_⟩
    ·cases hl:listed.getD k false with
     | false=>rfl
     | true=>
      have h7:=jL hcl ops.size k j ops[k] (by simp[V]) (fun e he hb=>hcl k ops[k] (by simp[V]) hl e he hb) O
      rw[dd]at h7; cases h7
    ·have:=J k ops[k] (by simp[V]) j O
     omega
   obtain⟨X2,ec⟩:∃X2,X.Perm (brM ops.size bs xs j++X2):=by
    have ax:=qc (p:=fun k=>!(listed.setIfInBounds j true).getD k false) (q:=fun k=>(bs j).contains k) (List.range ops.size)
    have e5:(List.range ops.size).filter (fun k=>!(listed.setIfInBounds j true).getD k false&&(bs j).contains k)=(List.range ops.size).filter (fun k=>(bs j).contains k):=by
     refine fo fun k z=>?_
     cases hq:(bs j).contains k with
     | false=>rw[Bool.and_false]
     | true=>
      obtain⟨_,O,h7⟩:=fB k hq
      rw[I,ae h7,O]; rfl
    rw[e5]at ax
    have h8:=ax.flatMap_right (f:=xs)
    rw[List.flatMap_append,c2]at h8
    exact⟨_,h8⟩
   simp only[lxM,Z]at h1
   by_cases hn:nw j=true
   ·rw[af hn]at h1
    obtain⟨⟨hw,ex⟩,_,d5⟩:=h1
    obtain⟨R,hR⟩:∃R,(List.range ops.size).filter (fun k=>jJ nw cs listed k&&!(cs k == some j))=R:=⟨_,rfl⟩
    have f0:(List.range ops.size).filter (fun k=>jJ nw cs listed k&&cs k == some j)=(List.range ops.size).filter (fun k=>cs k == some j):=by
     refine fo fun k z=>?_
     have z:=dY.1 z
     by_cases hc:cs k=some j
     ·obtain⟨h3,_,_,h4⟩:=Y k j z hc
      have V:listed.getD k false=true:=by
       have N:=jL hcl ops.size j k oj Z B h4
       rw[cG]at N ⊢
       have:k<listed.size:=by omega
       simp[this]at N ⊢; exact N
      have:jJ nw cs listed k=true:=by unfold jJ; rw[h3,V,hc]; simp[ca]
      simp[this,hc]
     ·simp[hc]
    have hp:=qc (p:=jJ nw cs listed) (q:=fun k=>cs k == some j) (List.range ops.size)
    rw[f0,hR]at hp
    obtain⟨K,hK⟩:∃K,((List.range ops.size).filter (fun k=>nw k&&listed.getD k false)).flatMap (fun k=>(g k).2.2)=K:=⟨_,rfl⟩
    have ed:∀o∈K++es,o.ns=true:=fun o A=>by
     rcases ce.1 A with A | A
     ·rw[<-hK]at A
      obtain⟨k,z,A⟩:=jN.1 A
      have:=(kj.1 z).2
      simp only[aW]at this
      exact hgn k this.1 this.2 o A
     ·exact b6 o A
    rw[hK]at hS
    have dk:SfT S T w0 w (K++es) ((coM ops.size cs g j++xs j++(brM ops.size bs xs j++os))++(R.flatMap (fun i=>(g i).2.1)++X2)):=by
     refine hS.perm (fun o A=>A) ?_
     have N:((List.range ops.size).filter (jJ nw cs listed)).flatMap (fun i=>(g i).2.1) |>.Perm (coM ops.size cs g j++R.flatMap (fun i=>(g i).2.1)):=by
      have:=hp.flatMap_right (f:=fun i=>(g i).2.1)
      rw[List.flatMap_append]at this
      exact this
     exact (N.append ((hX.trans (ec.append_left _)).append_right os)).trans (KD _ _ _ _ _ _)
    obtain⟨f1,f2,f3,f4⟩:=dk.lend hT ed
    have d0:∀o∈ckM ks g j++es,o∈K++es:=fun o A=>by
     rcases ce.1 A with A | A
     ·refine cg _ ?_
      obtain⟨k,z,A⟩:=jN.1 A
      obtain⟨V,O,h7⟩:=ad j k G z
      have N:=jL hcl ops.size j k oj Z B h7
      rw[<-hK]
      exact BR V O N A
     ·exact bU _ A
    have f5:∀c,cs j=some c->listed.getD c false=false:=fun c hc=>by
     obtain⟨_,V,_,O⟩:=Y j c G hc
     cases hl:listed.getD c false with
     | false=>rfl
     | true=>
      have h7:=jL hcl ops.size c j ops[c] (by simp[V]) (fun e he hb=>hcl c ops[c] (by simp[V]) hl e he hb) O
      rw[ca]at h7; cases h7
    have f6:∀k∈R,k≠j:=fun k z e=>by
     rw[<-hR]at z
     have:=(kj.1 z).2
     rw[e]at this
     unfold jJ at this
     rw[ca]at this
     simp at this
    have f7:∀v,((List.range ops.size).filter (jJ nw cs (listed.setIfInBounds j true))).flatMap (fun i=>(kx g j v i).2.1) |>.Perm (v.2.1++R.flatMap (fun i=>(g i).2.1)):=fun v=>by
     have d1:=qc (p:=jJ nw cs (listed.setIfInBounds j true)) (q:=fun k=>k == j) (List.range ops.size)
     have f8:jJ nw cs (listed.setIfInBounds j true) j=true:=by
      unfold jJ
      rw[hn,I,af rfl]
      cases hc:cs j with
      | none=>rfl
      | some c=>
       have cy:c≠j:=fun e=>by
        obtain⟨_,V,_,O⟩:=Y j c G hc
        have:=J c ops[c] (by simp[V]) j O
        omega
       simp only[I,ae cy,f5 c hc]; rfl
     rw[Cu G f8]at d1
     have d8:(List.range ops.size).filter (fun k=>jJ nw cs (listed.setIfInBounds j true) k&&!(k == j))=R:=by
      rw[<-hR]
      refine fo fun k z=>?_
      by_cases hkj:k=j
      ·subst hkj
       have:jJ nw cs listed k=false:=by unfold jJ; rw[ca]; simp
       simp[this]
      ·unfold jJ
       rw[I,ae hkj]
       cases hc:cs k with
       | none=>simp[hkj]
       | some c=>
        by_cases hcj2:c=j
        ·subst hcj2; simp only[I,bo]; simp
        ·simp only[I,ae hcj2]
         have:(some c == some j)=false:=by simp[hcj2]
         simp[this,hkj]
     rw[d8]at d1
     have h8:=d1.flatMap_right (f:=fun i=>(kx g j v i).2.1)
     rw[List.flatMap_append]at h8
     refine h8.trans (List.Perm.of_eq ?_)
     simp only[dU,List.flatMap_nil,dS]
     rw[uh]
     congr 1
     refine qh fun k z=>?_
     rw[qk (f6 k z)]
    have ga:∀v:Th,∀o∈((List.range ops.size).filter (fun k=>nw k&&(listed.setIfInBounds j true).getD k false)).flatMap (fun k=>(kx g j v k).2.2)++es,o∈v.2.2++(K++es):=fun v o A=>by
     rcases ce.1 A with A | A
     ·obtain⟨k,z,A⟩:=jN.1 A
      obtain⟨gb,c3⟩:=kj.1 z
      simp only[aW]at c3
      by_cases hkj:k=j
      ·subst hkj; rw[uh]at A; exact cg _ A
      ·rw[qk hkj]at A
       rw[I,ae hkj]at c3
       refine bU _ (cg _ ?_)
       rw[<-hK]
       exact BR (dY.1 gb) c3.1 c3.2 A
     ·exact bU _ (bU _ A)
    have eC:∀v:Th,(∀o∈v.2.2,o.ns=true)->∀k,nw k=true->(listed.setIfInBounds j true).getD k false=true->∀o∈(kx g j v k).2.2,o.ns=true:=fun v hv k z hl o A=>by
     by_cases hkj:k=j
     ·subst hkj; rw[uh]at A; exact hv o A
     ·rw[qk hkj]at A
      rw[I,ae hkj]at hl
      exact hgn k z hl o A
    unfold wpOp
    simp only[Z]
    rw[af hw]
    left
    have go:∀v x y w',ent j ((ds j).map g) v x y->SfT (fg (coM ops.size cs g j++xs j++(brM ops.size bs xs j++os))) (T++fg (R.flatMap (fun i=>(g i).2.1)++X2)) w w' y (x++(brM ops.size bs xs j++os))->wpAny P .any ops Q m (listed.setIfInBounds j true) (a.put oj.dst v) w':=fun v x y w' he bx=>by
     have ek:=c7 j _ v x y he
     have h9:=dk.unlend ed ek bx
     refine tU c5 c6 hT b6 c7 hs Y J ad c0 ct cx m (l1++l2) _ (kx g j (v,x,y)) _ w' c9 b9 (by simp[hsz]) dc c1 (eC (v,x,y) ek) ?_ (d5 v x y he)
     refine h9.perm (ga (v,x,y)) ?_
     rw[c2]
     refine List.Perm.trans ?_ ((f7 (v,x,y)).append_right (X++os)).symm
     exact (Ic _ _ _ _ _).trans ((ec.symm.append_right os).append_left _)
    rcases ex w _ _ dk.frS f1 (f2.sub d0) (f3.sub d0) f4 with⟨v,w',x,y,hr | ⟨rfl,hr⟩,he,bx⟩ | ⟨f,args,hr,hC⟩
    ·unfold Oper.wp
     rw[hr]
     exact go v x y w' he bx
    ·unfold Oper.wp
     rw[hr]
     exact go undef x y w' he bx
    ·unfold Oper.wp
     rw[hr]
     refine Calls.mono hC fun e w' he=>?_
     cases e with
     | returned v=>obtain⟨x,y,he,bx⟩:=he; exact go v x y w' he bx
     | panicked c=>exact he.elim
     | outgrown=>exact he.elim
   ·rw[ae hn]at h1
    obtain⟨v,hv,N⟩:=h1
    have cm:nw j=false:=by simpa using hn
    have gs:(List.range ops.size).filter (jJ nw cs (listed.setIfInBounds j true))=(List.range ops.size).filter (jJ nw cs listed):=by
     refine fo fun k z=>?_
     have z:=dY.1 z
     unfold jJ
     rw[I]
     by_cases hkj:k=j
     ·subst hkj; rw[cm]; rfl
     ·rw[ae hkj]
      cases hc:cs k with
      | none=>rfl
      | some c=>
       have cy:c≠j:=fun e=>by
        have:=(Y k c z hc).2.2.1
        rw[e,cm]at this; cases this
       simp only[I,ae cy]
    have gA:(List.range ops.size).filter (fun k=>nw k&&(listed.setIfInBounds j true).getD k false)=(List.range ops.size).filter (fun k=>nw k&&listed.getD k false):=by
     refine fo fun k z=>?_
     rw[I]
     by_cases hkj:k=j
     ·subst hkj; rw[cm]; rfl
     ·rw[ae hkj]
    have ih:wpAny P .any ops Q m (listed.setIfInBounds j true) (a.put oj.dst v) w:=
     tU c5 c6 hT b6 c7 hs Y J ad c0 ct cx m (l1++l2) _ g _ w c9 b9 (by simp[hsz]) dc c1 (fun k z hl=>by
      rw[I]at hl
      by_cases hkj:k=j
      ·subst hkj; rw[cm]at z; cases z
      ·rw[ae hkj]at hl; exact hgn k z hl) (by rw[gs,gA,c2]; rw[c6 j cm,cZ]at hX; exact hS.perm (fun o A=>A) ((hX.append_right os).append_left _)) N
    unfold wpOp
    simp only[Z]
    rcases hv with⟨hw,hv⟩ | ⟨hw,rfl⟩
    ·rw[af hw]
     left
     unfold Oper.wp
     rw[hv w hS.tail.tail']
     exact ih
    ·rw[ae (by rw[hw]; simp)]
     exact ih
variable {n:Nat} {L:Env}
def iZ (P:Program) (n:Nat) (ops:Array Oper) (Q:Exit->Act->World->Prop) (nw:Nat->Bool) (cs:Nat->Option Nat) (ks:Nat->L01) (xs:Nat->List OE) (bs ds:Nat->L01) (S T:L01) (w0:World) (es os:List OE) (ent:Nat->List Th->Value->List OE->List OE->Prop) (l:L01) (g:Gt) (L:Env):Prop:=
 ∀a,Rep n L a->lxM P ops Q nw cs ks xs bs ds S T w0 es os ent l g a
theorem Lr {g:Gt} (h:∀w,SfT S T w0 w (((List.range ops.size).filter nw).flatMap (fun k=>(g k).2.2)++es) (((List.range ops.size).filter (fun k=>nw k&&cs k == none)).flatMap (fun k=>(g k).2.1)++os)->QE n Q .normal L w):iZ P n ops Q nw cs ks xs bs ds S T w0 es os ent [] g L:=
 fun a ha w j=>h w j a ha
theorem Rs {i:Nat} {r:L01} {g:Gt} {d:Nat} {op:Op} {ty:TypeId} {pos:String} {after:Array Edge} {v:Value} (k:ops[i]? = some ⟨some d,op,ty,pos,after,none⟩) (hf:nw i=false)
  (z:∀w Sb wb,Fz S w0 Sb wb->Rds Sb wb es->Off T es->St Sb wb w os->OpV P n L w ⟨some d,op,ty,pos,after,none⟩ v w) (hd:Nat.blt d n=true) (h:iZ P n ops Q nw cs ks xs bs ds S T w0 es os ent r g ((d,v) :: L)):iZ P n ops Q nw cs ks xs bs ds S T w0 es os ent (i :: r) g L:=fun a ha=>by
 simp only[lxM,k,hf,bK,cC]
 refine⟨v,.inl ⟨by simp[Region.wanted],fun w' j=>?_⟩,h _ (ha.put hd)⟩
 obtain⟨Sb,wb,hZ,hA,hP,hS⟩:=j
 exact z w' Sb wb hZ hA hP hS a ha
theorem Mw (E:List Th->Value->List OE->List OE->Prop) (hh:List Th) (co ck bw:List OE) {i:Nat} {r:L01} {g:Gt} {d:Nat} {op:Op} {ty:TypeId} {pos:String} {after:Array Edge} (G:ops[i]? = some ⟨some d,op,ty,pos,after,none⟩) (hf:nw i=true) (hE:∀h v x y,ent i h v x y=E h v x y)
  (z:coM ops.size cs g i++xs i=co) (A:ckM ks g i=ck) (k:brM ops.size bs xs i++os=bw) (j:(ds i).map g=hh) (B:∃v x y,E hh v x y)
  (I:∀w Sl Tl,Fr S w0 w->Fz Sl w Sl w->TOk Sl Tl w->Rds Sl w (ck++es)->Off Tl (ck++es)->St Sl w w (co++bw)->OpX P n L w ⟨some d,op,ty,pos,after,none⟩ (fun v w'=>∃x y,E hh v x y/\SfT Sl Tl w w' y (x++bw))) (hd:Nat.blt d n=true)
  (h:∀v x y,E hh v x y->iZ P n ops Q nw cs ks xs bs ds S T w0 es os ent r (kx g i (v,x,y)) ((d,v) :: L)):iZ P n ops Q nw cs ks xs bs ds S T w0 es os ent (i :: r) g L:=fun a ha=>by
 simp only[lxM,G,hf,bo]
 refine⟨⟨by simp[Region.wanted],fun w Sl Tl J hT hA hP hS=>?_⟩,by simp only[hE,j]; exact B,fun v x y he=>h v x y (by rwa [hE,j]at he) _ (ha.put hd)⟩
 rw[z,k]at hS
 rw[k]
 rw[A]at hA hP
 obtain⟨v,w',N,x,y,he,O⟩:=I w Sl Tl J Fz.start hT hA hP hS
 exact .inl ⟨v,w',x,y,.inl (N a ha),by rw[hE,j]; exact he,O⟩
theorem Kc (E:List Th->Value->List OE->List OE->Prop) (hh:List Th) (co ck bw:List OE) {i:Nat} {r:L01} {g:Gt} {d:Nat} {f:FuncId} {z:List Operand} {I:Array TypeId} {vs:List Value} {ty:TypeId} {pos:String} {after:Array Edge}
  (J:ops[i]? = some ⟨some d,.call ⟨.value (.func f),z.toArray,I⟩,ty,pos,after,none⟩) (hf:nw i=true) (hE:∀h v x y,ent i h v x y=E h v x y)
  (A:coM ops.size cs g i++xs i=co) (B:ckM ks g i=ck) (k:brM ops.size bs xs i++os=bw) (j:(ds i).map g=hh) (G:∃v x y,E hh v x y) (hg:mK P f=true) (hargs:L.evs z=some vs)
  (N:∀w Sl Tl,Fr S w0 w->Fz Sl w Sl w->TOk Sl Tl w->Rds Sl w (ck++es)->Off Tl (ck++es)->St Sl w w (co++bw)->Calls P f vs.toArray w (Ret fun v w'=>∃x y,E hh v x y/\SfT Sl Tl w w' y (x++bw))) (hd:Nat.blt d n=true)
  (h:∀v x y,E hh v x y->iZ P n ops Q nw cs ks xs bs ds S T w0 es os ent r (kx g i (v,x,y)) ((d,v) :: L)):iZ P n ops Q nw cs ks xs bs ds S T w0 es os ent (i :: r) g L:=fun a ha=>by
 simp only[lxM,J,hf,bo]
 refine⟨⟨by simp[Region.wanted],fun w Sl Tl O hT hA hP hS=>?_⟩,by simp only[hE,j]; exact G,fun v x y he=>h v x y (by rwa [hE,j]at he) _ (ha.put hd)⟩
 rw[A,k]at hS
 rw[k]
 rw[B]at hA hP
 refine .inr ⟨f,vs.toArray,CL rfl hg (ha.evs hargs),?_⟩
 have:=N w Sl Tl O Fz.start hT hA hP hS
 simp only[hE,j]
 exact this
theorem GO (E:List Th->Value->List OE->List OE->Prop) (hh:List Th) (co ck bw:List OE) {i:Nat} {r:L01} {g:Gt} {d:Nat} {A:Operand} {f:FuncId} {j:List Value} {B:List Operand} {N:Array TypeId} {vs:List Value} {ty:TypeId} {pos:String} {after:Array Edge}
  (O:ops[i]? = some ⟨some d,.call ⟨.value A,B.toArray,N⟩,ty,pos,after,none⟩) (hf:nw i=true) (hE:∀h v x y,ent i h v x y=E h v x y)
  (G:coM ops.size cs g i++xs i=co) (I:ckM ks g i=ck) (z:brM ops.size bs xs i++os=bw) (k:(ds i).map g=hh) (J:∃v x y,E hh v x y) (hx:L.ev A=some (.func (.func f) #[] j.toArray)) (hg:mK P f=true) (hargs:L.evs B=some vs)
  (R:∀w Sl Tl,Fr S w0 w->Fz Sl w Sl w->TOk Sl Tl w->Rds Sl w (ck++es)->Off Tl (ck++es)->St Sl w w (co++bw)->Calls P f (vs++j).toArray w (Ret fun v w'=>∃x y,E hh v x y/\SfT Sl Tl w w' y (x++bw))) (hd:Nat.blt d n=true)
  (h:∀v x y,E hh v x y->iZ P n ops Q nw cs ks xs bs ds S T w0 es os ent r (kx g i (v,x,y)) ((d,v) :: L)):iZ P n ops Q nw cs ks xs bs ds S T w0 es os ent (i :: r) g L:=fun a ha=>by
 simp only[lxM,O,hf,bo]
 refine⟨⟨by simp[Region.wanted],fun w Sl Tl U hT hA hP hS=>?_⟩,by simp only[hE,k]; exact J,fun v x y he=>h v x y (by rwa [hE,k]at he) _ (ha.put hd)⟩
 rw[G,z]at hS
 rw[z]
 rw[I]at hA hP
 refine .inr ⟨f,(vs++j).toArray,IV rfl (ha.ev hx) hg (ha.evs hargs),?_⟩
 have:=R w Sl Tl U Fz.start hT hA hP hS
 simp only[hE,k]
 exact this
theorem QH (E:List Th->Value->List OE->List OE->Prop) (hh:List Th) (co ck bw:List OE) {i:Nat} {r:L01} {g:Gt} {op:Op} {ty:TypeId} {pos:String} {after:Array Edge} (G:ops[i]? = some ⟨none,op,ty,pos,after,none⟩) (hf:nw i=true) (hE:∀h v x y,ent i h v x y=E h v x y)
  (z:coM ops.size cs g i++xs i=co) (A:ckM ks g i=ck) (k:brM ops.size bs xs i++os=bw) (j:(ds i).map g=hh) (B:∃v x y,E hh v x y)
  (I:∀w Sl Tl,Fr S w0 w->Fz Sl w Sl w->TOk Sl Tl w->Rds Sl w (ck++es)->Off Tl (ck++es)->St Sl w w (co++bw)->OpY P n L w ⟨none,op,ty,pos,after,none⟩ (fun w'=>∃x y,E hh undef x y/\SfT Sl Tl w w' y (x++bw)))
  (h:∀v x y,E hh v x y->iZ P n ops Q nw cs ks xs bs ds S T w0 es os ent r (kx g i (v,x,y)) L):iZ P n ops Q nw cs ks xs bs ds S T w0 es os ent (i :: r) g L:=fun a ha=>by
 simp only[lxM,G,hf,bo]
 refine⟨⟨by simp[Region.wanted],fun w Sl Tl J hT hA hP hS=>?_⟩,by simp only[hE,j]; exact B,fun v x y he=>h v x y (by rwa [hE,j]at he) _ ha⟩
 rw[z,k]at hS
 rw[k]
 rw[A]at hA hP
 obtain⟨w',N,x,y,he,O⟩:=I w Sl Tl J Fz.start hT hA hP hS
 exact .inl ⟨undef,w',x,y,.inr ⟨rfl,N a ha⟩,by rw[hE,j]; exact he,O⟩
theorem PN {o:Oper} {w:World} {φ ψ:World->Prop} (h:OpY P n L w o φ) (hi:∀w',φ w'->ψ w'):OpY P n L w o ψ:=by
 obtain⟨w',j,k⟩:=h
 exact⟨w',j,hi w' k⟩
theorem ur {P:Program} {f:FuncId} {args:Array Value} {w:World} {φ ψ:Value->World->Prop} (h:Calls P f args w (Ret φ)) (hi:∀v w',φ v w'->ψ v w'):Calls P f args w (Ret ψ):=
 h.mono fun e w' he=>by
  cases e with
  | returned v=>exact hi v w' he
  | panicked c=>exact he.elim
  | outgrown=>exact he.elim
theorem Ot {o:Oper} {w:World} {φ ψ:Value->World->Prop} (h:OpX P n L w o φ) (hi:∀v w',φ v w'->ψ v w'):OpX P n L w o ψ:=by
 obtain⟨v,w',j,k⟩:=h
 exact⟨v,w',j,hi v w' k⟩
theorem R4 {o:Oper} {w:World} {v:Value} {ψ:Value->World->Prop} (h:OpV P n L w o v w) (hi:ψ v w):OpX P n L w o ψ:=⟨v,w,h,hi⟩
def NL (ops:Array Oper) (nw:Nat->Bool) (cs:Nat->Option Nat) (ks bs ds:Nat->L01):Bool:=
 (List.range ops.size).all fun k=>((match cs k with | none=>true | some c=>nw k&&Nat.blt c ops.size&&nw c&&ip ops ops.size c k)&&(ks k).all fun c=>Nat.blt c ops.size&&nw c&&ip ops ops.size k c)&&((ds k).all fun c=>ip ops ops.size k c)&&(bs k).all fun c=>Nat.blt c ops.size&&ip ops ops.size c k
theorem IG {y:List OE} (h:y.all OE.ns=true):∀o∈y,o.ns=true:=cr.1 h
theorem DW {id:Nat} {l:List Oper} {w:World} (nw:Nat->Bool) (cs:Nat->Option Nat) (ks:Nat->L01) (xs:Nat->List OE) (bs ds:Nat->L01) (ent:Nat->List Th->Value->List OE->List OE->Prop) (V:SfT S T w0 w es ((List.range l.length).flatMap xs++os)) (N:∀k,nw k=false->xs k=[]) (hT:TOk S T w0) (O:es.all OE.ns=true)
  (R:∀i h v x y,ent i h v x y->∀o∈y,o.ns=true) (hm:P.follows .mixedOrders=true)
  (G:(qo l.toArray&&wu l.toArray&&vX l.toArray (fun _=>true))=true) (X:NL l.toArray nw cs ks bs ds=true)
  (h:iZ P n l.toArray Q nw cs ks xs bs ds S T w0 es os ent (List.range l.length) (fun _=>(undef,[],[])) L):wpC P n (.region id l.toArray true) Q L w:=
 fun a ha=>by
  simp only[aW]at G
  have B:=Ab G.1.2
  refine wp_region_any hm ?_
  have A:∀k,k<l.toArray.size->_:=fun k z=>cr.1 X k (dY.2 z)
  refine tU (fun c k hc z=>?_) N hT (IG O) R (vm G.1.1) (fun k c z hc=>?_) (fun c oc _ k Y=>Dj B _ _ _ Y) (fun c k hc z=>?_) (fun c k hc z=>?_) B (fun i j I Z h3 oi U h4 h5=>(zR G.2 i j I Z h3 oi U h4 h5).1) _ (List.range l.length) _ (fun _=>(undef,[],[])) a _ (by simp) List.pairwise_lt_range (by simp) (fun j U hj hl=>?_) (fun i=>?_) (fun k _ _ o ho=>by cases ho) ?_ (h a ha)
  ·have:=A c hc
   simp only[aW]at this
   have:=cr.1 this.2 k z
   simp only[aW]at this
   exact⟨by have:=this.1; rwa [gm]at this,this.2⟩
  ·have:=A k z
   simp only[hc,aW]at this
   have:=this.1.1.1
   exact⟨this.1.1.1,by have:=this.1.1.2; rwa [gm]at this,this.1.2,this.2⟩
  ·have:=A c hc
   simp only[aW]at this
   have:=cr.1 this.1.1.2 k z
   simp only[aW]at this
   exact⟨by have:=this.1.1; rwa [gm]at this,this.1.2,this.2⟩
  ·have:=A c hc
   simp only[aW]at this
   exact cr.1 this.1.2 k z
  ·rw[cG,gN]at hl
   split at hl <;> simp at hl
  ·rw[cG,gN]
   by_cases I:i<l.length
   ·simp[I]
   ·simp[I]
  ·have J:∀k,(Array.replicate l.toArray.size false).getD k false=false:=fun k=>by
    rw[cG,gN]; split <;> rfl
   have e:(List.range l.toArray.size).filter (jJ nw cs (Array.replicate l.toArray.size false))=[]:=by
    refine List.filter_eq_nil_iff.2 fun k z=>?_
    unfold jJ
    rw[J]; simp
   have e2:(List.range l.toArray.size).filter (fun k=>nw k&&(Array.replicate l.toArray.size false).getD k false)=[]:=by
    refine List.filter_eq_nil_iff.2 fun k z=>?_
    rw[J]; simp
   have e3:(List.range l.toArray.size).filter (fun k=>!(Array.replicate l.toArray.size false).getD k false)=List.range l.toArray.size:=by
    refine List.filter_eq_self.2 fun k z=>?_
    rw[J]; rfl
   rw[e,e2,e3]
   obtain⟨Sb,wb,hZ,hA,hP,hS⟩:=V
   exact⟨Sb,wb,hZ,hA,hP,by simpa using hS.drew⟩
end
def lenV (v:Value):Nat:=match v with
 | .slice _ n _=>n
 | _=>0
def nY (v:Value) (sz lo hi:Nat) (vp:Value):Prop:=(∃a n c a' c',v=.slice a n c/\vp=.slice a' (hi - lo) c'/\hi - lo<=c'/\(lo<hi->a'=a.map (·.add (lo*sz))))/\lo<=hi/\hi<=lenV v
section
variable {w w0:World} {S:L01} {τ:Type} {e:Enc τ} {v vp:Value} {l:List τ} {lo hi:Nat}
theorem Tf (a:Option Addr) (j:Nat):a=a.map (·.add (0*j)):=by cases a <;> simp[Addr.add]
theorem RO.lenV (h:RO w e v l):lenV v=l.length:=by obtain⟨a,c,rfl,_⟩:=h; rfl
theorem RO.whole (h:RO w e v l):nY v e.sz 0 l.length v:=by
 have hl:=h.lenV
 obtain⟨a,c,rfl,hc,_⟩:=h
 exact⟨⟨a,_,c,a,c,rfl,by simp,by omega,fun _=>Tf a _⟩,eR _,by rw[hl]; exact aq _⟩
theorem RO.part (h:RO w e v l) (j:lo<=hi) (k:hi<=l.length):nY v e.sz lo hi (slV v e.sz lo hi):=by
 have hl:=h.lenV
 obtain⟨a,c,rfl,hc,_⟩:=h
 exact⟨⟨a,_,c,_,_,rfl,rfl,by omega,fun z=>ae q10⟩,j,by rw[hl]; exact k⟩
theorem nY.cut {j k:Nat} (hp:nY v j lo hi vp) (J:k<=hi - lo):nY v j (lo+k) hi (slV vp j k (hi - lo)):=by
 obtain⟨⟨a,n,c,A,z,rfl,rfl,hc,ha⟩,N,G⟩:=hp
 refine⟨⟨a,n,c,if z=k then A else A.map (·.add (k*j)),z - k,rfl,?_,?_,fun I=>?_⟩,by omega,G⟩
 ·simp only[slV]; rw[show hi - lo - k=hi - (lo+k) by omega]
 ·omega
 ·have B:¬z=k:=by omega
  rw[ae B,ha q10,Option.map_map]
  cases a with
  | none=>rfl
  | some x=>
   simp only[eN,Function.comp,bd]
   congr 1
   unfold Addr.add
   by_cases e1:lo*j=0 <;> by_cases e2:k*j=0 <;> simp[e1,e2,dW]
theorem RO.po (h:RO w e v l) (hp:nY v e.sz lo hi vp):RO w e vp ((l.drop lo).take (hi - lo)):=by
 have hl:=h.lenV
 obtain⟨⟨a,n,c,N,O,rfl,rfl,hc,ha⟩,X,R⟩:=hp
 obtain⟨Y,Z,G,V,U⟩:=h
 injection G with G e2 e3
 subst G e3
 simp only[Gk.lenV]at R hl
 have k:((l.drop lo).take (hi - lo)).length=hi - lo:=by simp; omega
 refine⟨N,O,by rw[k],by rw[k]; exact hc,fun z=>?_⟩
 have I:lo<hi:=by
  rcases cI lo hi with J | J
  ·exact J
  ·rw[show hi - lo=0 by omega]at z; simp at z
 have hn:l≠[]:=by rintro rfl; simp at z
 obtain⟨b,off,rfl,B⟩:=U hn
 refine⟨b,off+lo*e.sz,by rw[ha I]; simp[jQ],fun j u A=>?_⟩
 rw[e.fl_take,e.fl_drop,bY]at A
 split at A
 ·rw[dt]at A
  have:=B _ _ A
  rw[dW]
  exact this
 ·cases A
theorem RP.po (h:RP S w e v l) (hp:nY v e.sz lo hi vp):RP S w e vp ((l.drop lo).take (hi - lo)):=by
 refine⟨h.1.po hp,fun j k B hb=>?_⟩
 have hl:=h.1.lenV
 have hn:l≠[]:=by rintro rfl; simp at j
 refine h.2 hn k B ?_
 obtain⟨⟨a,n,c,G,I,rfl,rfl,hc,ha⟩,J,N⟩:=hp
 have z:lo<hi:=by
  rcases cI lo hi with A | A
  ·exact A
  ·rw[show hi - lo=0 by omega]at j; simp at j
 rw[ha z]at hb
 cases a with
 | none=>simp[Value.ownBlock]at hb
 | some x=>simp[Value.ownBlock]at hb ⊢; rw[<-hb]; unfold Addr.add; split <;> rfl
theorem Mf (h:RO w e v l) (hp:nY v e.sz lo hi vp) {j:Nat} (I:j<hi - lo):ixA vp e.sz j=ixA v e.sz (lo+j):=by
 obtain⟨⟨a,n,c,J,N,rfl,rfl,hc,ha⟩,O,z⟩:=hp
 obtain⟨R,U,k,G,B⟩:=h
 injection k with k e2 e3
 subst k e2 e3
 simp only[Gk.lenV]at z
 have A:l≠[]:=by rintro rfl; simp at z; omega
 obtain⟨b,off,rfl,_⟩:=B A
 rw[ha q10]
 simp[ixA,jQ,bd,dW]
end
section
variable {P:Program} {n:Nat} {L:Env} {w w0:World} {S:L01} {os:List OE} {d:Option Tmp} {ty:TypeId} {pos:String} {after:Array Edge}
theorem Ds {x y:Operand} {T:TypeId} {τ:Type} {e:Enc τ} {z:Value} {bytes:Nat} {v vp u:Value} {l:List τ} {lo hi:Nat} {i:Nat} {j:Int} {t t':τ} (hT:TI P T z 1 bytes)
  (hx:L.ev x=some (pP (ixA vp e.sz j.toNat))) (hy:L.ev y=some u) (hS:St S w0 w os) (k:os[i]? = some (own e v l)) (hp:nY v e.sz lo hi vp) (hg:au ((l.drop lo).take (hi - lo)) j=some t') (hu:e.cells t=[u]) :
  OpY P n L w ⟨none,.store T x y,ty,pos,after,none⟩ (fun w'=>St S w0 w' (os.set i (own e v (l.set (lo+j.toNat) t)))):=by
 have A:RO w e v l:=(hS.ok _ (bI k)).ro
 have B:=(iS hg).2.1
 have hl:=A.lenV
 have:=hp.2.2
 rw[az,bj]at B
 rw[Mf A hp q10]at hx
 exact wT hT hx hy hu hS k q10
end
section
variable {P:Program} {n:Nat} {L:Env} {w w0:World} {S:L01} {os:List OE} {d:Option Tmp} {ty:TypeId} {pos:String} {after:Array Edge}
theorem B3 {x y:Operand} {T T2 E:TypeId} {τ:Type} {e:Enc τ} {z:Value} {bytes:Nat} {u:Value} {m:List τ} (hT:P.underlying T=some (.slice E)) (B:P.underlying T2=some (.slice E)) (hE:TI P E z e.sz bytes) (hz:z.cells.size=e.sz) (G:bytes<=65536) (j:0<bytes)
  (hx:L.ev x=some (.slice none 0 0)) (hy:L.ev y=some u) (hS:St S w0 w os) (hu:RO w e u m) (hb:m.length*bytes<=225000000000000) :
  OpX P n L w ⟨d,.call ⟨.builtin .append,#[x,y],#[T,T2]⟩,ty,pos,after,none⟩ (fun A w'=>St S w0 w' (own e A m :: os)):=by
 have hn:(own e (.slice none 0 0) ([]:List τ)).ok S w0.heap.size w:=⟨by simp,.inl ⟨rfl,rfl⟩⟩
 obtain⟨A,w',I,J,N,O⟩:=pU (ty:=ty) hT hE hz G j hn hu hS.fr.size (by simpa using hb)
 refine jY A w' (fun a ha=>?_) (hS.push (by simpa [OE.blk,Value.ownBlock] using N) J fun k R=>?_)
 ·have U:(Builtin.append_ #[T,T2] ty #[.slice none 0 0,u]).run P w=(Builtin.append_ #[T,T] ty #[.slice none 0 0,u]).run P w:=by
   simp[Builtin.append_,run_underlying hT,run_underlying B]
  simp[execOp,resolve,invoke,builtin,ha.ev hx,ha.ev hy,U,I]
 ·rcases O k R with h | h
  ·simp[OE.blk,Value.ownBlock]at h
  ·exact h
theorem Hl {x y:Operand} {T T2 E:TypeId} {τ:Type} {e:Enc τ} {z:Value} {bytes:Nat} {u:Value} {m r:List τ} (hT:P.underlying T=some (.slice E)) (j:P.underlying T2=some (.slice E)) (hE:TI P E z e.sz bytes) (hz:(Nat.beq z.cells.size e.sz&&Nat.ble bytes 65536&&Nat.blt 0 bytes)=true)
  (hx:L.ev x=some (.slice none 0 0)) (hy:L.ev y=some u) (hS:St S w0 w os) (hu:RO w e u m) (hg:apO bytes [] m=some r) :
  OpX P n L w ⟨d,.call ⟨.builtin .append,#[x,y],#[T,T2]⟩,ty,pos,after,none⟩ (fun k w'=>St S w0 w' (own e k r :: os)):=by
 obtain⟨rfl,hb⟩:=qx hg
 simp only[aW,gm]at hz
 exact B3 hT j hE (bP hz.1.1) (ai hz.1.2) hz.2 hx hy hS hu (by simpa using hb)
end
section
variable {P:Program} {n:Nat} {L:Env} {w:World} {Q:Exit->Act->World->Prop}
theorem I1 {c:Code} (h:wpC P n c (Exit.noGoto Q) L w):wpC P n (.scope c) Q L w:=fun a ha=>wp_scope_straight (h a ha)
theorem Ip {l:Nat} (h:QE n Q .normal L w):wpC P n (.label l) Q L w:=fun a ha=>wp_label (h a ha)
theorem LF (h:QE n Q .normal L w):QE n (Exit.noGoto Q) .normal L w:=h
theorem Dv (h:QE n Q .ret L w):QE n (Exit.noGoto Q) .ret L w:=h
end
section
variable {P:Program} {n:Nat} {L:Env} {w:World} {Q:Exit->Act->World->Prop}
theorem GQ {c rest:Code} (l:Nat) (hf:findLabel c l=some rest) (h:wpC P n c (Exit.jump l (fun a w=>rest.wp P (Exit.noGoto Q) a w) Q) L w):wpC P n (.scope c) Q L w:=fun a ha=>
 wp_scope_jumps l _ (fun _ _=>0) hf (h a ha) fun a w j=>wp_mono j fun e a w q=>by cases e <;> first | exact q | exact q.elim
theorem L7 {l:Nat} (h:QE n Q (.goto l) L w):wpC P n (.goto l) Q L w:=fun a ha=>wp_goto (h a ha)
theorem K4 {l:Nat} {J:Act->World->Prop} (h:QE n Q .ret L w):QE n (Exit.jump l J Q) .ret L w:=h
theorem LH {l:Nat} {rest:Code} (h:wpC P n rest (Exit.noGoto Q) L w):QE n (Exit.jump l (fun a w=>rest.wp P (Exit.noGoto Q) a w) Q) (.goto l) L w:=fun a ha=>⟨rfl,h a ha⟩
theorem H5 {K:Act->World->Prop} {l:Nat} (h:QE n Q (.goto l) L w):QE n (Exit.then K Q) (.goto l) L w:=h
end
section
variable {P:Program} {n:Nat} {L:Env} {w:World} {S:L01} {d:Option Tmp} {ty:TypeId} {pos:String} {after:Array Edge}
theorem RS {x y z u:Operand} {T E:TypeId} {k B j:IntKind} {lo hi:Int} {τ:Type} {e:Enc τ} {v z0:Value} {l r:List τ} {bytes:Nat} (hT:P.underlying T=some (.slice E)) (hE:TI P E z0 e.sz bytes)
  (hx:L.ev x=some v) (hy:L.ev y=some (.int j lo)) (hz:L.ev z=some (.int k hi)) (hu:L.ev u=some (.int B hi)) (h:RO w e v l) (hg:slO l lo hi=some r) :
  OpV P n L w ⟨d,.slice T x (some y) (some z) (some u),ty,pos,after,none⟩ (slV3 v e.sz lo.toNat hi.toNat hi.toNat) w:=fun a ha=>by
 obtain⟨b,c,rfl,hc,_⟩:=h
 obtain⟨R,A,_,hs,_⟩:=hE.get
 obtain⟨⟨G,I,U⟩,rfl⟩:=gL hg
 have J:hi<=(c:Int):=by omega
 have N:(hi.toNat:Int)=hi:=jd q10
 have O:0<=hi:=by omega
 have V:(lo.toNat:Int)=lo:=jd q10
 have X:lo.toNat<=hi.toNat:=by omega
 simp[execOp,ha.ev hx,ha.ev hy,ha.ev hz,ha.ev hu,Instr.sliceAt,Instr.slice,run_underlying hT,Instr.sliceBounds,run_sliceBound,G,I,J,N,O,sizeOf,typeInfo,A,hs,slV3]
theorem RO.g_sl3 {τ:Type} {e:Enc τ} {v:Value} {l r:List τ} {lo hi:Int} (h:RO w e v l) (hg:slO l lo hi=some r):RO w e (slV3 v e.sz lo.toNat hi.toNat hi.toNat) r:=by
 obtain⟨⟨k,z,j⟩,rfl⟩:=gL hg
 exact h.sub3 q10 j (aq _)
end
section
variable {P:Program} {n:Nat} {L:Env} {w w0:World} {S:L01} {os:List OE} {d:Option Tmp} {ty:TypeId} {pos:String} {after:Array Edge}
theorem SP {x:Operand} {T E:TypeId} {b m:Nat} (hT:P.underlying T=some (.array m E)) (hE:(P.info? E).map (·.size)=some 1) (hx:L.ev x=some (pB b 0)) :
  OpV P n L w ⟨d,.slice T x none none none,ty,pos,after,none⟩ (.slice (some ⟨b,0,none⟩) m m) w:=fun a ha=>by
 cases hi':P.info? E with
 | none=>rw[hi']at hE; cases hE
 | some inf=>
  have j:inf.size=1:=by rw[hi']at hE; simpa using hE
  simp[execOp,ha.ev hx,Instr.sliceAt,Instr.sureAddr,run_underlying hT,Instr.sliceBounds,run_sliceBound,sizeOf,typeInfo,hi',j,Addr.add]
theorem St.bxOwn {τ:Type} {e:Enc τ} {l:List τ} {b i m:Nat} (h:St S w0 w os) (hi:os[i]? = some (.bx b (e.fl l))) (hm:l.length=m) (hs:e.sz=1) (G:Nat.ble m 1000=true) :
  St S w0 w (os.set i (own e (.slice (some ⟨b,0,none⟩) m m) l)):=by
 have A:=h.ok _ (bI hi)
 obtain⟨hf,T,j,hg,z⟩:=A
 subst hm
 have hl:(e.fl l).length=l.length:=by rw[e.fl_length,hs,de]
 have B:j.size=l.length:=by rw[<-hl,<-z]; simp
 have J:=ai G
 refine h.set hi (Fr.refl _ _) ⟨e.fl_length l,.inr ⟨b,l.length,j,T,rfl,hf,.of hg,aq _,by unfold maxLen; omega,by rw[hs,B]; omega,?_⟩⟩ fun k I=>.inl I
 rw[hs,de,z,<-hl,cJ]
theorem kG (T:TypeId) (x:Int) (y:UInt64) (k:Nat) (h:y.toNat=k):cL P .shr T (vI x) (v64 y) (vI (kV x k)):=by subst h; exact LZ T x y
theorem GA.part {τ:Type} {g:Nat} {e:Enc τ} {l l1:List τ} {off:Nat} (h:GA S w0 g e l) (hf:Fr S w0 w) (hp:((e.fl l).drop off).take (e.fl l1).length=e.fl l1):∀j u,(e.fl l1)[j]? = some u->w.cell? ⟨g,off+j,none⟩=some u:=fun j u k=>by
 have z:j<(e.fl l1).length:=(br.1 k).1
 rw[<-hp,bY,af z,dt]at k
 have:=h.cells hf (off+j) u k
 rwa [bn]at this
theorem RO.pcut {τ:Type} {e:Enc τ} {v vp:Value} {l y:List τ} {lo hi:Nat} {k:Int} (h:RO w e v l) (hp:nY v e.sz lo hi vp) (hg:drO ((l.drop lo).take (hi - lo)) k=some y) :
  nY v e.sz (lo+k.toNat) hi (slV vp e.sz k.toNat ((l.drop lo).take (hi - lo)).length):=by
 obtain⟨⟨A,z⟩,_⟩:=oC hg
 have hl:=h.lenV
 have j:((l.drop lo).take (hi - lo)).length=hi - lo:=by have:=hp.2.1; have:=hp.2.2; simp; omega
 rw[j]at z ⊢
 exact hp.cut z
end
end Go.Gk
end
