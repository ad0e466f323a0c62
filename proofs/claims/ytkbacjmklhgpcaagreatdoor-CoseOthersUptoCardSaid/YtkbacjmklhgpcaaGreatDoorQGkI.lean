import Derived.Test.YtkbacjmklhgpcaaGreatDoorQGkS
import Derived.Laws.CopyRow
import Derived.Laws.StructEq
import Derived.Lib.AppendStr
import Derived.Scope
import Derived.ScopeJumps
set_option linter.unusedVariables false
set_option linter.unusedSimpArgs false
set_option linter.unusedSectionVars false
section
namespace Go.Gk
open Go Go.RowKit
section
variable {P:Program} {n:Nat} {L:Env} {w w0:World} {Q:Exit->Act->World->Prop} {S:L02} {os:List OE}
variable {d:Option Tmp} {ty:TypeId} {pos:String} {after:Array Edge}
abbrev pB (b off:Nat):Value:=.pointer (some ⟨b,off,none⟩)
theorem rm (b off k:Nat):(⟨b,off,none⟩:Addr).add k=⟨b,off+k,none⟩:=by unfold Addr.add; split <;> simp_all
theorem Bo (h:St S w0 w os) (cs:Array Value) (E:TypeId):St S w0 (w.alloc (.cells cs E)) (.bx w.heap.size cs.toList :: os):=by
 refine h.push (Fr.alloc _ _ _) ⟨h.fresh,E,cs,heap_alloc_new w _,rfl⟩ fun k j=>?_
 simp[OE.blk]at j; omega
theorem mU {E:TypeId} {z:Value} {cs:List Value} (hE:(P.info? E).map (·.zero)=some (some z)) (hz:z.cells.toList=cs) (hS:St S w0 w os) :
  OpX P n L w ⟨d,.alloc E,ty,pos,after,none⟩ (fun v w'=>∃b,v=pB b 0/\St S w0 w' (.bx b cs :: os)):=by
 refine iC (pB w.heap.size 0) (w.alloc (.cells z.cells E)) (fun a ha=>?_) ⟨_,rfl,hz ▸ Bo hS _ _⟩
 cases hi:P.info? E with
 | none=>rw[hi]at hE; cases hE
 | some i=>
  rw[hi]at hE
  simp only[bL,eh]at hE
  simp[execOp,Instr.alloc,zeroValue,typeInfo,hi,hE,newVar,newRow]
theorem sU {E:TypeId} {x:Operand} {v:Value} {cs:List Value} (hx:L.ev x=some v) (hz:v.cells.toList=cs) (hS:St S w0 w os) :
  OpX P n L w ⟨d,.box E x,ty,pos,after,none⟩ (fun v w'=>∃b,v=pB b 0/\St S w0 w' (.bx b cs :: os)):=by
 refine iC (pB w.heap.size 0) (w.alloc (.cells v.cells E)) (fun a ha=>?_) ⟨_,rfl,hz ▸ Bo hS _ _⟩
 simp[execOp,Instr.box,ha.ev hx,newVar,newRow]
theorem bu {s:TypeId} {x:Operand} {b off f k:Nat} {B:Array Field} {A:Field} (hs:P.underlying s=some (.struct B)) (hf:B[f]? = some A) (G:A.offset=k) (j:(P.info? A.type).map (·.size == 0)=some false)
  (hx:L.ev x=some (pB b off)):OpV P n L w ⟨d,.fieldAddr s x f,ty,pos,after,none⟩ (pB b (off+k)) w:=fun a ha=>by
 cases hi:P.info? A.type with
 | none=>rw[hi]at j; cases j
 | some i=>
  have I:¬i.size=0:=by rw[hi]at j; simpa using j
  simp[execOp,Instr.fieldAt,ha.ev hx,run_underlying hs,hf,Instr.sureAddr,fieldPlace,sizeOf,typeInfo,hi,I,rm,G]
theorem kw {T E:TypeId} {m:Nat} {x y:Operand} {b off:Nat} {k:IntKind} {i:Int} {j:Nat} (hT:P.underlying T=some (.array m E)) (hE:(P.info? E).map (·.size)=some j)
  (hx:L.ev x=some (pB b off)) (hy:L.ev y=some (.int k i)) (A:0<=i) (B:i<(m:Int)):OpV P n L w ⟨d,.indexAddr T x y,ty,pos,after,none⟩ (pB b (off+i.toNat*j)) w:=fun a ha=>by
 cases hi:P.info? E with
 | none=>rw[hi]at hE; cases hE
 | some inf=>
  have hs:inf.size=j:=by rw[hi]at hE; simpa using hE
  simp[execOp,Instr.indexAt,ha.ev hx,ha.ev hy,asIntOf,run_underlying hT,Instr.sureAddr,A,B,sizeOf,typeInfo,hi,hs,rm]
theorem gW {x:Operand} {b off:Nat} (hx:L.ev x=some (pB b off)):OpV P n L w ⟨d,.nilCheck x,ty,pos,after,none⟩ (pB b off) w:=fun a ha=>by
 simp[execOp,ha.ev hx]
theorem St.bxc (h:St S w0 w os) (i:Nat) {b:Nat} {cs:List Value} (hi:os[i]? = some (.bx b cs)) (k:Nat):w.cell? ⟨b,k,none⟩=cs[k]?:=by
 obtain⟨_,T,j,hg,A⟩:=h.ok _ (bf hi)
 rw[cell_of_row w b k j T (0,0) hg,<-A]; simp
theorem cb {T:TypeId} {D:TypeDesc} {x:Operand} {b off:Nat} {u:Value} (hT:P.underlying T=some D) (A:(match D with | .struct _ | .array _ _=>true | _=>false)=false)
  (hx:L.ev x=some (pB b off)) (hc:w.cell? ⟨b,off,none⟩=some u):OpV P n L w ⟨d,.load T x,ty,pos,after,none⟩ u w:=fun a ha=>by
 have j:(isAgg T).run P w=.ok false w:=by
  unfold isAgg
  rw[Sem.run_bind,run_underlying hT w]
  cases D <;> simp_all
 simp[execOp,Instr.loadAt,ha.ev hx,Instr.sureAddr,loadVar,j,hc]
theorem BS {T:TypeId} {D:TypeDesc} {x:Operand} {b off:Nat} {us:List Value} (hT:P.underlying T=some D) (G:(match D with | .struct _ | .array _ _=>true | _=>false)=true)
  (hi:(P.info? T).map (·.size)=some us.length) (hx:L.ev x=some (pB b off)) (hc:∀j u,us[j]? = some u->w.cell? ⟨b,off+j,none⟩=some u) :
  OpV P n L w ⟨d,.load T x,ty,pos,after,none⟩ (.agg us.toArray) w:=fun a ha=>by
 have A:(isAgg T).run P w=.ok true w:=by
  unfold isAgg
  rw[Sem.run_bind,run_underlying hT w]
  cases D <;> simp_all
 cases hq:P.info? T with
 | none=>simp[hq]at hi
 | some i=>
  have hs:i.size=us.length:=by simpa [hq] using hi
  have hl:(loadCells ⟨b,off,none⟩ us.length).run P w=.ok us.toArray w:=
   run_loadCells_list (P:=P) w ⟨b,off,none⟩ us (fun j v B=>by rw[rm]; exact hc j v B)
  simp[execOp,Instr.loadAt,ha.ev hx,Instr.sureAddr,loadVar,A,sizeOf,typeInfo,hq,hs,hl]
theorem St.bxs (h:St S w0 w os) (i:Nat) {b:Nat} {cs us:List Value} {off:Nat} (hi:os[i]? = some (.bx b cs)) (hu:(cs.drop off).take us.length=us):∀j u,us[j]? = some u->w.cell? ⟨b,off+j,none⟩=some u:=by
 intro j u A
 rw[h.bxc i hi]
 rw[<-hu,bP]at A
 split at A
 ·simpa using A
 ·cases A
def tW:List Value->Prop
 | []=>True
 | v :: r=>v.oneCell'=true/\tW r
theorem Ae:∀{l:List Value},tW l->∀v∈l,v.oneCell'=true
 | [],_,v,j=>by cases j
 | u :: r,h,v,j=>by
  rcases aM.1 j with rfl | j
  ·exact h.1
  ·exact Ae h.2 v j
def spl (cs:List Value) (off:Nat) (us:List Value):List Value:=cs.take off++us++cs.drop (off+us.length)
theorem St.setB (h:St S w0 w os) {i b off:Nat} {cs us:List Value} (hi:os[i]? = some (.bx b cs)) :
  ∃T j,w.heap[b]? = some (.cells j T (0,0))/\j.toList=cs/\St S w0 (w.setRow b (j.toList.take off++us++j.toList.drop (off+us.length)).toArray) (os.set i (.bx b (spl cs off us))):=by
 have B:=h.ok _ (bf hi)
 obtain⟨hf,T,j,hg,A⟩:=B
 refine⟨T,j,hg,A,?_⟩
 refine h.set hi (o':=.bx b (spl cs off us)) (Fr.setRow w b _) ⟨hf,T,_,setRow_heap w b j _ T (0,0) hg,?_⟩ fun k G=>.inl G
 subst A
 simp[spl]
theorem jN {T:TypeId} {x y:Operand} {b off i:Nat} {v:Value} {cs us:List Value} (hi:os[i]? = some (.bx b cs)) (j:(P.info? T).map (·.size)=some us.length)
  (hx:L.ev x=some (pB b off)) (hy:L.ev y=some v) (G:v.cells.toList=us) (R:tW us) (hl:Nat.ble (off+us.length) cs.length=true) (hS:St S w0 w os) :
  OpY P n L w ⟨none,.store T x y,ty,pos,after,none⟩ (fun w'=>St S w0 w' (os.set i (.bx b (spl cs off us)))):=by
 obtain⟨U,A,hg,I,J⟩:=hS.setB (off:=off) (us:=us) hi
 refine tg _ (fun a ha=>?_) J
 cases hq:P.info? T with
 | none=>simp[hq]at j
 | some inf=>
  have hs:inf.size=us.length:=by simpa [hq] using j
  have N:off+0+us.length<=A.size:=by
   have:=ao hl
   rw[<-I]at this; simpa using this
  have B:=run_storeCells_at P b off U us 0 A w hg N (Ae R)
  have O:v.cells.size=us.length:=by rw[<-G]; simp
  simp only[br]at B
  simp[execOp,Instr.storeAt,ha.ev hx,ha.ev hy,Instr.sureAddr,storeVar,sizeOf,typeInfo,hq,hs,G,O,B]
theorem _root_.Go.Gk.RO.one {τ:Type} {e:Enc τ} {v:Value} {l:List τ} (h:RO w e v l):v.oneCell'=true:=by
 obtain⟨a,c,rfl,_⟩:=h; rfl
theorem jI {v:Value} (h:v.oneCell'=true):v.cells.toList=[v]:=by cases v <;> simp_all [Value.cells,Value.oneCell']
def ko (P:Program) (T:TypeId):Option (List (Nat×Nat)×List Value):=
 match P.info? T,P.underlying T with
 | some it,some (.array m e)=>
  match it.zero,P.info? e with
  | some z,some ie=>some ((List.range m).map fun i=>(i*ie.size,ie.size),z.cells.toList)
  | _,_=>none
 | some it,some (.struct fields)=>
  match it.zero,fields.toList.mapM (fun f=>(P.info? f.type).map fun i=>(f.offset,i.size)) with
  | some z,some places=>some (places,z.cells.toList)
  | _,_=>none
 | _,_=>none
def nJ (pl:List (Nat×Nat)):List Value->List (Nat×Value×List Value)->Option (List Value)
 | cs,[]=>some cs
 | cs,(i,_,us) :: r=>match pl[i]? with
  | some (off,sz)=>if Nat.beq us.length sz&&Nat.ble (off+us.length) cs.length then nJ pl (spl cs off us) r else none
  | none=>none
theorem yD:∀(us:List Value) (off k:Nat) (cs:Array Value),off+k+us.length<=cs.size ->
  (us.zipIdx k).foldl (fun cs (x:Value×Nat)=>cs.setIfInBounds (off+x.2) x.1) cs=(spl cs.toList (off+k) us).toArray
 | [],off,k,cs,_=>by simp[spl]
 | u :: r,off,k,cs,h=>by
  have j:=yD r off (k+1) (cs.setIfInBounds (off+k) u) (by simp at h ⊢; omega)
  rw[List.zipIdx_cons,eo,j]
  congr 1
  unfold spl
  have e:=list_seg_step cs.toList (off+k) u r (by simp at h ⊢; omega)
  simpa [Array.toList_setIfInBounds,d9] using e
theorem vL {place:Nat->Option (Nat×Nat)} {pl:List (Nat×Nat)} (hpl:∀i x,pl[i]? = some x->place i=some x):∀(A:List (Nat×Value×List Value)) (cs j:List Value),
  (∀p∈A,p.2.1.cells.toList=p.2.2)->nJ pl cs A=some j->Instr.fill place cs.toArray (A.map fun p=>(p.1,p.2.1))=some j.toArray
 | [],cs,j,_,h=>by simp[nJ]at h; simp[Instr.fill,h]
 | (i,v,us) :: r,cs,j,hc,h=>by
  simp only[nJ]at h
  cases hi:pl[i]? with
  | none=>rw[hi]at h; cases h
  | some x=>
   obtain⟨off,N⟩:=x
   rw[hi]at h
   simp only at h
   split at h
   ·rename_i hb
    simp only[aO]at hb
    have O:=bJ hb.1
    have G:=ao hb.2
    have B:v.cells.toList=us:=hc (i,v,us) (by simp)
    have J:v.cells.size=us.length:=by rw[<-B]; simp
    have I:=vL hpl r (spl cs off us) j (fun p hp=>hc p (by simp[hp])) h
    simp only[cZ,Instr.fill,hpl i _ hi]
    rw[ae (by simp; omega)]
    have hf:v.cells.zipIdx.foldl (fun cs (x:Value×Nat)=>cs.setIfInBounds (off+x.2) x.1) cs.toArray=(spl cs off us).toArray:=by
     have:=yD us off 0 cs.toArray (by simpa using G)
     simp only[br]at this
     rw[<-this,<-Array.foldl_toList]
     simp[Array.toList_zipIdx,B]
    rw[hf]
    exact I
   ·cases h
theorem Md {T:TypeId} {pl:List (Nat×Nat)} {z A:List Value} {B:List (Nat×Value×List Value)} (j:ko P T=some (pl,z)) (hc:∀p∈B,p.2.1.cells.toList=p.2.2) (hf:nJ pl z B=some A) :
  P.built T (B.map fun p=>(p.1,p.2.1))=some A.toArray:=by
 unfold ko at j
 unfold Program.built
 cases hi:P.info? T with
 | none=>rw[hi]at j; cases j
 | some it=>
  cases hu:P.underlying T with
  | none=>rw[hi,hu]at j; cases j
  | some D=>
   rw[hi,hu]at j
   cases D with
   | array m e=>
    simp only at j ⊢
    cases hz:it.zero with
    | none=>rw[hz]at j; cases j
    | some z0=>
     cases he:P.info? e with
     | none=>rw[hz,he]at j; cases j
     | some ie=>
      rw[hz,he]at j
      simp only[eh,jo]at j
      obtain⟨rfl,rfl⟩:=j
      simp only
      have:=vL (place:=fun i=>some (i*ie.size,ie.size)) (fun i x hx=>by
       rw[fG]at hx
       by_cases hm:i<m
       ·rw[List.getElem?_range hm]at hx; simpa using hx
       ·rw[dC (by simp; omega)]at hx; cases hx) B _ A hc hf
      simpa using this
   | struct fields=>
    simp only at j ⊢
    cases hz:it.zero with
    | none=>rw[hz]at j; cases j
    | some z0=>
     cases hp:fields.toList.mapM (fun f=>(P.info? f.type).map fun i=>(f.offset,i.size)) with
     | none=>rw[hz,hp]at j; cases j
     | some places=>
      rw[hz,hp]at j
      simp only[eh,jo]at j
      obtain⟨rfl,rfl⟩:=j
      simp only
      have:=vL (place:=fun i=>places.toArray[i]?) (fun i x hx=>by simpa using hx) B _ A hc hf
      simpa using this
   | _=>cases j
def oz:List (Nat×Value×List Value)->Prop
 | []=>True
 | p :: r=>p.2.1.cells.toList=p.2.2/\oz r
theorem p9:∀{l:List (Nat×Value×List Value)},oz l->∀p∈l,p.2.1.cells.toList=p.2.2
 | [],_,v,j=>by cases j
 | u :: r,h,v,j=>by
  rcases aM.1 j with rfl | j
  ·exact h.1
  ·exact p9 h.2 v j
theorem sF {T:TypeId} {j:List (Nat×Operand)} {vs:List (Nat×Value×List Value)} {pl:List (Nat×Nat)} {z cells:List Value} (A:(j.map fun p=>(L.ev p.2).map fun v=>(p.1,v))=vs.map (fun p=>some (p.1,p.2.1)))
  (G:ko P T=some (pl,z)) (hc:oz vs) (hf:nJ pl z vs=some cells) :
  OpV P n L w ⟨d,.build T j.toArray,ty,pos,after,none⟩ (.agg cells.toArray) w:=fun a ha=>by
 have he:j.map (fun p=>(p.1,a.eval p.2))=vs.map (fun p=>(p.1,p.2.1)):=by
  clear hc hf
  induction j generalizing vs with
  | nil=>cases vs <;> simp_all
  | cons p r ih=>
   cases vs with
   | nil=>simp at A
   | cons v s=>
    simp only[cZ,f9]at A
    obtain⟨B,I⟩:=A
    cases hp:L.ev p.2 with
    | none=>rw[hp]at B; cases B
    | some u=>
     rw[hp]at B
     simp only[bL,eh]at B
     simp[ha.ev hp,B,ih I]
 have J:=run_build (P:=P) w T (j.toArray.map fun x=>(x.1,a.eval x.2)) cells.toArray (by
  have:=Md G (p9 hc) hf
  simpa [he] using this)
 simp only[execOp,Sem.run_bind,J,Result.andThen_ok]; rfl
theorem MC {T E:TypeId} {m:Nat} {x y:Operand} {cs:Array Value} {k:IntKind} {i:Int} {A:Nat} {u:Value} {D:TypeDesc} (hT:P.underlying T=some (.array m E)) (hE:P.underlying E=some D)
  (J:(match D with | .struct _ | .array _ _=>true | _=>false)=false) (j:(P.info? E).map (·.size)=some A)
  (hx:L.ev x=some (.agg cs)) (hy:L.ev y=some (.int k i)) (G:0<=i) (I:i<(m:Int)) (hu:cs[i.toNat*A]? = some u):OpV P n L w ⟨d,.index T x y,ty,pos,after,none⟩ u w:=fun a ha=>by
 have B:(isAgg E).run P w=.ok false w:=by
  unfold isAgg
  rw[Sem.run_bind,run_underlying hE w]
  cases D <;> simp_all
 cases hi:P.info? E with
 | none=>rw[hi]at j; cases j
 | some inf=>
  have hs:inf.size=A:=by rw[hi]at j; simpa using j
  simp[execOp,Instr.index,ha.ev hx,ha.ev hy,asIntOf,run_underlying hT,G,I,sizeOf,typeInfo,hi,hs,part,B,hu]
end
def eB:Enc Bool:=⟨1,fun x=>[vB x],fun _=>rfl,fun _ u h=>by simp at h; subst h; rfl⟩
def eP {α β:Type} (e:Enc α) (f:Enc β):Enc (α×β):=⟨e.sz+f.sz,fun t=>e.cells t.1++f.cells t.2,fun t=>by rw[aE,e.len,f.len],fun t u h=>by
 rcases bE.1 h with h | h
 ·exact e.one _ _ h
 ·exact f.one _ _ h⟩
section
variable {P:Program} {n:Nat} {L:Env} {w w0:World} {Q:Exit->Act->World->Prop} {S:L02} {os:List OE}
variable {d:Option Tmp} {ty:TypeId} {pos:String} {after:Array Edge}
theorem iL {s:TypeId} {x:Operand} {a0:Addr} {f k:Nat} {B:Array Field} {A:Field} (hs:P.underlying s=some (.struct B)) (hf:B[f]? = some A) (G:A.offset=k) (j:(P.info? A.type).map (·.size == 0)=some false)
  (hx:L.ev x=some (pP a0)):OpV P n L w ⟨d,.fieldAddr s x f,ty,pos,after,none⟩ (pP (a0.add k)) w:=fun a ha=>by
 cases hi:P.info? A.type with
 | none=>rw[hi]at j; cases j
 | some i=>
  have I:¬i.size=0:=by rw[hi]at j; simpa using j
  simp[execOp,Instr.fieldAt,ha.ev hx,run_underlying hs,hf,Instr.sureAddr,fieldPlace,sizeOf,typeInfo,hi,I,G]
theorem ME {x:Operand} {T:TypeId} {D:TypeDesc} {τ:Type} {e:Enc τ} {v:Value} {l:List τ} {i:Int} {t:τ} {k:Nat} {u:Value} (hT:P.underlying T=some D) (j:(match D with | .struct _ | .array _ _=>true | _=>false)=false)
  (hx:L.ev x=some (pP ((ixA v e.sz i.toNat).add k))) (h:RO w e v l) (hg:ax l i=some t) (A:Nat.blt k e.sz=true) (hu:(e.cells t)[k]? = some u) :
  OpV P n L w ⟨d,.load T x,ty,pos,after,none⟩ u w:=Bh hT j hx (h.cellAt (gj hg).2.2 (ao A) hu)
theorem wH {x:Operand} {T:TypeId} {D:TypeDesc} {τ:Type} {e:Enc τ} {v:Value} {l:List τ} {i:Int} {t:τ} (hT:P.underlying T=some D) (B:(match D with | .struct _ | .array _ _=>true | _=>false)=true)
  (hi:(P.info? T).map (·.size)=some e.sz) (hx:L.ev x=some (pP (ixA v e.sz i.toNat))) (h:RO w e v l) (hg:ax l i=some t) :
  OpV P n L w ⟨d,.load T x,ty,pos,after,none⟩ (.agg (e.cells t).toArray) w:=fun a ha=>by
 have A:(isAgg T).run P w=.ok true w:=by
  unfold isAgg
  rw[Sem.run_bind,run_underlying hT w]
  cases D <;> simp_all
 cases hq:P.info? T with
 | none=>simp[hq]at hi
 | some inf=>
  have hs:inf.size=(e.cells t).length:=by rw[e.len]; simpa [hq] using hi
  have hl:(loadCells (ixA v e.sz i.toNat) (e.cells t).length).run P w=.ok (e.cells t).toArray w:=
   run_loadCells_list (P:=P) w _ (e.cells t) (fun j u hu=>h.cellAt (gj hg).2.2 (by have:=(aF.1 hu).1; rwa [e.len]at this) hu)
  simp[execOp,Instr.loadAt,ha.ev hx,Instr.sureAddr,loadVar,A,sizeOf,typeInfo,hq,hs,hl]
theorem Pu {τ:Type} (e:Enc τ) (l:List τ) (j:Nat) (t:τ) (A:j<l.length):e.fl (l.set j t)=(e.fl l).take (j*e.sz)++e.cells t++(e.fl l).drop ((j+1)*e.sz):=by
 rw[<-e.fl_take,<-e.fl_drop,fI,ag A,e.fl_append]
 simp[Enc.fl]
theorem o9 {α:Type} (c:List α) (a:Nat) (h:a<=c.length):∃A B,c=A++B/\A.length=a:=⟨c.take a,c.drop a,(cD a c).symm,by simp; omega⟩
theorem LX {α:Type} (c us:List α) (a k j m:Nat) (hm:m<=c.length) (ha:a+j<=m) (hk:k+us.length<=j) :
  (c.take (a+k)++us++c.drop (a+k+us.length)).take m=(c.take m).take a++(((c.drop a).take j).take k++us++((c.drop a).take j).drop (k+us.length))++(c.take m).drop (a+j):=by
 obtain⟨A,G,rfl,rfl⟩:=o9 c a (by omega)
 simp only[aE]at hm
 obtain⟨B,I,rfl,rfl⟩:=o9 G k (by omega)
 simp only[aE]at hm
 obtain⟨C,J,rfl,hC⟩:=o9 I us.length (by omega)
 simp only[aE]at hm
 obtain⟨D,N,rfl,hD⟩:=o9 J (j - B.length - us.length) (by omega)
 simp only[aE]at hm
 obtain⟨E,F,rfl,hE⟩:=o9 N (m - A.length - j) (by omega)
 have O:(A++(B++(C++(D++(E++F))))).take (A.length+B.length)=A++B:=by
  rw[<-aS,show A.length+B.length=(A++B).length by simp,fE rfl]
 have R:(A++(B++(C++(D++(E++F))))).drop (A.length+B.length+us.length)=D++(E++F):=by
  rw[<-aS,<-aS,show A.length+B.length+us.length=(A++B++C).length by simp; omega,ju rfl]
 have U:(A++(B++(C++(D++(E++F))))).drop A.length=B++(C++(D++(E++F))):=ju rfl
 have V:(B++(C++(D++(E++F)))).take j=B++(C++D):=by
  rw[show B++(C++(D++(E++F)))=(B++(C++D))++(E++F) by simp,fE (by simp; omega)]
 have X:(B++(C++D)).take B.length=B:=fE rfl
 have Y:(B++(C++D)).drop (B.length+us.length)=D:=by
  rw[<-aS,ju (by simp; omega)]
 have Z:(A++(B++(C++(D++(E++F))))).take m=A++(B++(C++(D++E))):=by
  rw[show A++(B++(C++(D++(E++F))))=(A++(B++(C++(D++E))))++F by simp,fE (by simp; omega)]
 have e8:(A++(B++(C++(D++E)))).take A.length=A:=fE rfl
 have e9:(A++(B++(C++(D++E)))).drop (A.length+j)=E:=by
  rw[show A++(B++(C++(D++E)))=(A++(B++(C++D)))++E by simp,ju (by simp; omega)]
 rw[O,R,U,V,X,Y,Z,e8,e9,show A++B++us++(D++(E++F))=(A++(B++us++D)++E)++F by simp,fE (by simp; omega)]
theorem FJ {x y:Operand} {T:TypeId} {τ:Type} {e:Enc τ} {v u:Value} {l:List τ} {i k:Nat} {j:Int} {t B:τ} {us:List Value} (hT:(P.info? T).map (·.size)=some us.length)
  (hx:L.ev x=some (pP ((ixA v e.sz j.toNat).add k))) (hy:L.ev y=some u) (hu:u.cells.toList=us) (hS:St S w0 w os) (hi:os[i]? = some (own e v l)) (hg:ax l j=some B)
  (X:e.cells t=(e.cells B).take k++us++(e.cells B).drop (k+us.length)) (U:Nat.ble (k+us.length) e.sz=true) :
  OpY P n L w ⟨none,.store T x y,ty,pos,after,none⟩ (fun w'=>St S w0 w' (os.set i (own e v (l.set j.toNat t)))):=by
 have Y:=hS.ok _ (bf hi)
 obtain⟨_,Z,ab⟩:=gj hg
 have b6:=ao U
 have ac:∀q∈us,q.oneCell'=true:=fun q I=>e.one t q (by rw[X]; simp[I])
 rcases Y.2 with⟨rfl,hn⟩ | ⟨g,J,A,T',rfl,al,N,O,ap,b7,G⟩
 ·omega
 ·have hm:(j.toNat+1)*e.sz<=l.length*e.sz:=aT _ Z
  have bx:(j.toNat+1)*e.sz=j.toNat*e.sz+e.sz:=by rw[aW,cy]
  have b8:l.length*e.sz<=J*e.sz:=aT _ O
  have b2:(ixA (.slice (some ⟨g,0,none⟩) l.length J) e.sz j.toNat).add k=⟨g,j.toNat*e.sz+k,none⟩:=by simp[ixA,iO]
  rw[b2]at hx
  cases I:P.info? T with
  | none=>simp[I]at hT
  | some inf=>
   have hs:inf.size=us.length:=by simpa [I] using hT
   have R:=iV P g (j.toNat*e.sz+k) T' us 0 A w N (by omega) ac
   simp only[br]at R
   have b3:u.cells.size=us.length:=by rw[<-hu]; simp
   refine tg _ (fun a ha=>?_) (hS.set hi (Fr.setRow w g (A.toList.take (j.toNat*e.sz+k)++us++A.toList.drop (j.toNat*e.sz+k+us.length)).toArray) (o':=own e _ _) ⟨e.fl_length _,.inr ⟨g,J,_,T',by simp,al,N.set _ (by simp; omega),by simpa using O,ap,?_,?_⟩⟩ fun k U=>.inl U)
   ·simp[execOp,ha.ev hx,ha.ev hy,Instr.storeAt,Instr.sureAddr,storeVar,sizeOf,typeInfo,I,hs,hu,b3,R]
   ·simp; omega
   ·rw[dI,Pu e l _ t Z,X,<-G]
    have b9:(e.cells B).length=e.sz:=e.len B
    have V:e.cells B=(A.toList.drop (j.toNat*e.sz)).take e.sz:=by
     apply List.ext_getElem?
     intro q
     rw[bP]
     split
     ·rename_i b4
      have h1:=e.fl_get l j.toNat B ab q b4
      rw[<-h1,<-G,bP,ag (by omega),dX]
     ·rw[dC (by omega)]
    rw[V]
    simp only[bx]
    exact LX A.toList us (j.toNat*e.sz) k e.sz (l.length*e.sz) (by simp; omega) (by omega) (by omega)
theorem At {T E:TypeId} {m:Nat} {A:List (Nat×Operand)} {vs:List (Nat×Value×List Value)} {τ:Type} {e:Enc τ} {l:List τ} {z:Value} {bytes:Nat} (hT:P.underlying T=some (.slice E)) (hE:TI P E z e.sz bytes)
  (B:(A.map fun p=>(L.ev p.2).map fun v=>(p.1,v))=vs.map (fun p=>some (p.1,p.2.1))) (hc:oz vs) (hl:l.length=m)
  (hf:nJ ((List.range m).map fun i=>(i*e.sz,e.sz)) ((List.range (m*e.sz)).map (fun i=>z.cells[i%z.cells.size]!)) vs=some (e.fl l)) (N:0<m*e.sz) (Y:m*e.sz<=16777216) (hS:St S w0 w os) :
  OpX P n L w ⟨d,.buildSlice T m A.toArray,ty,pos,after,none⟩ (fun v w'=>St S w0 w' (own e v l :: os)):=by
 obtain⟨G,hi,O,hs,hb⟩:=hE.get
 have I:=e.fl_length l
 have Z:m<=m*e.sz:=eK _ (eF fun h=>by rw[h]at N; simp at N)
 refine iC (.slice (some ⟨w.heap.size,0,none⟩) m m) (w.alloc (.cells (e.fl l).toArray E)) (fun a ha=>?_) ?_
 ·have he:A.map (fun p=>(p.1,a.eval p.2))=vs.map (fun p=>(p.1,p.2.1)):=by
   clear hc hf
   induction A generalizing vs with
   | nil=>cases vs <;> simp_all
   | cons p r ih=>
    cases vs with
    | nil=>simp at B
    | cons v s=>
     simp only[cZ,f9]at B
     obtain⟨J,U⟩:=B
     cases hp:L.ev p.2 with
     | none=>rw[hp]at J; cases J
     | some u=>
      rw[hp]at J
      simp only[bL,eh]at J
      simp[ha.ev hp,J,ih U]
  have j:=vL (place:=fun i=>some (i*G.size,G.size)) (pl:=(List.range m).map fun i=>(i*e.sz,e.sz)) (fun i x hx=>by
   rw[fG]at hx
   by_cases hm:i<m
   ·rw[List.getElem?_range hm]at hx; rw[hs]; simpa using hx
   ·rw[dC (by simp; omega)]at hx; cases hx) vs _ _ (p9 hc) hf
  have V:=run_buildSlice (P:=P) w T E m (A.toArray.map fun x=>(x.1,a.eval x.2)) (e.fl l).toArray G z hT hi O (by rw[hs]; omega) (by rw[hs]; omega) (by
   have:(A.toArray.map fun x=>(x.1,a.eval x.2)).toList=vs.map (fun p=>(p.1,p.2.1)):=by simp[he]
   rw[this]
   have R:((List.range (m*e.sz)).map (fun i=>z.cells[i%z.cells.size]!)).toArray=(Array.range (m*e.sz)).map (z.cells[·%z.cells.size]!):=by
    apply Array.ext'; simp
   rw[R]at j
   rw[hs]at j ⊢
   exact j)
  simp only[execOp,Sem.run_bind,V,Result.andThen_ok]; rfl
 ·refine hS.push (Fr.alloc _ _ _) (o:=own e _ _) ?_ ?_
  ·refine⟨e.fl_length _,.inr ⟨w.heap.size,m,(e.fl l).toArray,E,?_,hS.fresh,Row.new w _ _,?_,?_,?_,?_⟩⟩
   ·rw[hl]
   ·omega
   ·simp[maxLen]; omega
   ·simp[I,hl]
   ·simp only[]
    rw[aC (by rw[I]; exact aw _)]
  ·intro k X
   simp[OE.blk,Value.ownBlock]at X
   omega
theorem St.trunc {τ:Type} {e:Enc τ} {v:Value} {l:List τ} {i k:Nat} (h:St S w0 w os) (hi:os[i]? = some (own e v l)) (U:k<=l.length):St S w0 w (os.set i (own e (slV v e.sz 0 k) (l.take k))):=by
 have I:=h.ok _ (bf hi)
 have A:(l.take k).length=k:=by simp; omega
 refine h.set hi (o':=own e _ _) (Fr.refl _ _) ⟨e.fl_length _,?_⟩ ?_
 ·rcases I.2 with⟨rfl,hn⟩ | ⟨g,j,J,T,rfl,N,hg,V,O,R,B⟩
  ·left
   have:k=0:=by omega
   subst this
   simp[slV]
  ·right
   refine⟨g,j,J,T,?_,N,hg,by omega,O,R,?_⟩
   ·rw[A]
    by_cases hc:j=0
    ·simp[slV,hc]
    ·simp[slV,hc,Addr.add]
   ·rw[A,e.fl_take,<-B,List.take_take]
    congr 1
    have:=aT e.sz U
    omega
 ·intro q G
  left
  rcases I.2 with⟨rfl,hn⟩ | ⟨g,j,J,T,rfl,_⟩
  ·simp[OE.blk,slV,Value.ownBlock]at G
  ·simp only[OE.blk]at G ⊢
   by_cases hc:j=0
   ·simpa [slV,hc,Value.ownBlock] using G
   ·simpa [slV,hc,Value.ownBlock,Addr.add] using G
def EqF (P:Program) (xs ys:Array Value) (fs:List Field) (b:Bool):Prop:=∀(k:Nat) (w:World),(Op.eqFields (k+1) xs ys fs).run P w=.ok b w
theorem NE {xs j:Array Value}:EqF P xs j [] true:=fun k w=>by simp[Op.eqFields]
theorem qS {T:TypeId} {D:TypeDesc} {xs:Array Value} {off:Nat} {u:Value} (hT:P.underlying T=some D) (A:(match D with | .struct _ | .array _ _=>true | _=>false)=false) (hu:xs[off]? = some u) (w:World):(part T xs off).run P w=.ok u w:=by
 have j:(isAgg T).run P w=.ok false w:=by
  unfold isAgg
  rw[Sem.run_bind,run_underlying hT w]
  cases D <;> simp_all
 simp[part,j,hu]
theorem EV {xs j : Array Value} {f : Field} {A : List Field} {k : IntKind} {a b : Int} {r : Bool} (hn : (f.name != "_") = true) (hT : P.underlying f.type = some (.int k)) (hx : xs[f.offset]? = some (.int k a)) (hy : j[f.offset]? = some (.int k b)) (h : EqF P xs j A r) :
  EqF P xs j (f :: A) ((a == b)&&r):=fun d w=>by
 have B : f.name ≠ "_" := by simpa using hn
 simp only[Op.eqFields,B,ne_eq,iS,am,Sem.run_bind,qS hT rfl hx,qS hT rfl hy,Result.andThen_ok,run_equalIn_int w d _ k k a b hT]
 cases hab:(a == b) <;> simp[h d w]
theorem PD {xs j : Array Value} {f : Field} {A : List Field} {a b : UInt64} {r : Bool} (hn : (f.name != "_") = true) (hT : P.underlying f.type = some (.int .u64)) (hx : xs[f.offset]? = some (v64 a)) (hy : j[f.offset]? = some (v64 b)) (h : EqF P xs j A r) :
  EqF P xs j (f :: A) ((a == b)&&r):=by
 have B:=EV hn hT hx hy h
 have G:((a.toNat:Int) == (b.toNat:Int))=(a == b):=by
  by_cases hab:a=b
  ·subst hab; simp
  ·have:¬(a.toNat:Int)=(b.toNat:Int):=fun e=>hab (cx.1 (by omega))
   rw[c8.2 this,c8.2 hab]
 rwa [G]at B
theorem QJ {xs j : Array Value} {f : Field} {A : List Field} {a b : L01} {r : Bool} (hn : (f.name != "_") = true) (hT : P.underlying f.type = some .string) (hx : xs[f.offset]? = some (vS a)) (hy : j[f.offset]? = some (vS b)) (h : EqF P xs j A r) :
  EqF P xs j (f :: A) ((a == b)&&r):=fun d w=>by
 have B : f.name ≠ "_" := by simpa using hn
 simp only[Op.eqFields,B,ne_eq,iS,am,Sem.run_bind,qS hT rfl hx,qS hT rfl hy,Result.andThen_ok,run_equalIn_string w d _ ⟨⟨a⟩⟩ ⟨⟨b⟩⟩ hT,sf]
 cases hab:(a == b) <;> simp[h d w]
theorem agx {op:BinOp} {T:TypeId} {x y:Value} {b b':Bool} (h:cj P op T x y (vB b)) (hb:b=b'):cj P op T x y (vB b'):=hb ▸ h
theorem O0 {T:TypeId} {A:Array Field} {xs j:Array Value} {b:Bool} (hT:P.underlying T=some (.struct A)) (hp:P.stoodInHeld T=false) (hg:P.eqGuardType P.depth T=false) (h:EqF P xs j A.toList b):cj P .neq T (.agg xs) (.agg j) (vB (!b)):=fun x y w=>by
 have hf:P.fieldsOf T=A:=by simp[Program.fieldsOf,hT]
 have B:P.underlying T=some (.struct (P.fieldsOf T)):=by rw[hf]; exact hT
 simp only[Sem.run_bind,run_eqGuard_agg w .neq T x y xs j hg,Result.andThen_ok,run_neq_struct w T xs j,run_equalIn_agg w 9999 T xs j B hp,hf,h 9998 w]
end
end Go.Gk
end
section
namespace Go.Gk
open Go Go.RowKit Go.Lib
section
variable {P:Program} {n:Nat} {L:Env} {w w' w0:World} {Q:Exit->Act->World->Prop} {S:L02} {os os0 os1:List OE}
variable {d:Option Tmp} {ty:TypeId} {pos:String} {after:Array Edge}
def ep (os:List OE):L02:=os.filterMap OE.blk
theorem dO {k:Nat}:k∈ep os↔∃o∈os,o.blk=some k:=by simp[ep,List.mem_filterMap]
theorem OE.ok.re {S A:L02} {B G:Nat} {o:OE} (h:o.ok S B w) (hb:∀k,o.blk=some k->fre S B k->fre A G k):o.ok A G w:=by
 cases o with
 | sl v sz n cs=>
  refine⟨h.1,?_⟩
  rcases h.2 with hn | ⟨g,I,J,T,rfl,hf,rest⟩
  ·exact .inl hn
  ·exact .inr ⟨g,I,J,T,rfl,hb g rfl hf,rest⟩
 | rd v sz n cs=>
  obtain⟨hl,a,c,rfl,hc,hx⟩:=h
  refine⟨hl,a,c,rfl,hc,fun hn=>?_⟩
  obtain⟨b,off,rfl,N,hf,j⟩:=hx hn
  exact⟨b,off,rfl,N,hb b (by simp[OE.blk,hn,Value.ownBlock]) hf,j⟩
 | bx b cs=>exact⟨hb b rfl h.1,h.2⟩
theorem St.give (h:St S w0 w (os0++os)):St (ep os0) w w os0:=
 ⟨Fr.refl _ _,fun o j=>(h.ok o (bW _ j)).re fun k A _=>.inr (dO.2 ⟨o,j,A⟩),(cc.1 h.dj).1⟩
theorem St.back (h:St S w0 w (os0++os)) (B:St (ep os0) w w' os1):St S w0 w' (os1++os):=by
 have G:∀k,fre (ep os0) w.heap.size k->fre S w0.heap.size k:=by
  intro k j
  rcases j with j | j
  ·exact .inl (aZ h.fr.size j)
  ·obtain⟨o,A,hb⟩:=dO.1 j
   exact ((h.ok o (bW _ A)).lt hb).2
 have hx:=(cc.1 h.dj).2
 refine⟨h.fr.step B.fr fun k j=>G k (.inr j),?_,?_⟩
 ·intro o A
  rcases bE.1 A with A | A
  ·exact (B.ok o A).re fun k _ hf=>G k hf
  ·refine (h.ok o (bC _ A)).fr B.fr fun k j hb=>?_
   obtain⟨p,hp,J⟩:=dO.1 j
   exact hx.2 p hp o A k J hb
 ·refine cc.2 ⟨B.dj,hx.1,fun o A p hp k j I=>?_⟩
  have U:=((h.ok p (bC _ hp)).lt I).1
  rcases ((B.ok o A).lt j).2 with N | N
  ·omega
  ·obtain⟨q,R,O⟩:=dO.1 N
   exact hx.2 q R p hp k O I
theorem RP.give {τ:Type} {e:Enc τ} {v:Value} {l:List τ} (h:RP S w0 e v l) (hz:0<e.sz) (hS:St S w0 w (os0++os)):RP (ep os0) w e v l:=by
 refine⟨h.now hS.fr,fun hl k J hb=>?_⟩
 obtain⟨o,N,B⟩:=dO.1 J
 have j:=((hS.ok o (bW _ N)).lt B).2
 obtain⟨a,c,rfl,hc,O⟩:=h.1
 obtain⟨b,off,rfl,A⟩:=O hl
 have G:b=k:=by simpa [Value.ownBlock] using hb
 subst G
 rcases j with j | j
 ·have I:0<(e.fl l).length:=by
   rw[e.fl_length]
   exact Nat.mul_pos (fg.2 hl) hz
  have:=mg (A 0 _ (aA I))
  simp only at this
  omega
 ·exact h.2 hl b j rfl
theorem St.giveO {τ:Type} {e:Enc τ} {v:Value} {l:List τ} (hS:St S w0 w (os0++os)) (i:Nat) (hi:os[i]? = some (own e v l)):RP (ep os0) w e v l:=by
 have hm:=bf hi
 refine⟨(hS.ok _ (bC _ hm)).ro,fun hl k A hb=>?_⟩
 obtain⟨o,B,j⟩:=dO.1 A
 exact (cc.1 hS.dj).2.2 o B _ hm k j hb
theorem RP.tk {τ:Type} {e:Enc τ} {v:Value} {l:List τ} (h:RP S w e v l) {k:Nat} (j:k<=l.length):RP S w e (slV v e.sz 0 k) (l.take k):=h.subh j
theorem OE.ok.red {S:L02} {B:Nat} {τ:Type} {e:Enc τ} {v:Value} {l:List τ} (h:(own e v l).ok S B w):(red e v l).ok S B w:=by
 refine⟨h.1,?_⟩
 rcases h.2 with⟨rfl,hn⟩ | ⟨g,I,N,T,rfl,hf,hg,J,O,R,A⟩
 ·exact⟨none,0,by rw[hn],by rw[hn]; exact aw _,fun h=>absurd hn h⟩
 ·refine⟨_,I,rfl,J,fun _=>⟨g,0,rfl,hg.lt,hf,fun j u G=>?_⟩⟩
  rw[<-A,bP]at G
  split at G
  ·rw[bm,hg.cell j]
   simpa using G
  ·cases G
theorem St.freeze {τ:Type} {e:Enc τ} {v:Value} {l:List τ} {i:Nat} (h:St S w0 w os) (hi:os[i]? = some (own e v l)):St S w0 w (os.set i (red e v l)):=by
 refine h.set hi (o':=red e v l) (Fr.refl _ _) (h.ok _ (bf hi)).red fun k j=>.inl ?_
 simp only[OE.blk]at j ⊢
 split at j
 ·cases j
 ·exact j
theorem St.rnil {τ:Type} (e:Enc τ) (h:St S w0 w os):St S w0 w (red e (.slice none 0 0) ([]:List τ) :: os):=
 h.push (Fr.refl _ _) ⟨by simp,none,0,rfl,aw _,fun h=>absurd rfl h⟩ (by simp[OE.blk])
def sA (u:Value) (o:Option (List Value)):Prop:=match o with
 | none=>u=.pointer none
 | some _=>∃b,u=pB b 0
def o7 (u:Value) (o:Option (List Value)):List OE:=match o,u with
 | some cs,.pointer (some a)=>[.bx a.block cs]
 | _,_=>[]
theorem FD {T E:TypeId} (hT:P.underlying T=some (.pointer E)) (b off k:Nat) (w:World):(Op.equalIn (k+1) T (pB b off) (.pointer none)).run P w=.ok false w:=by
 simp[Op.equalIn,run_underlying hT]
theorem Kq {T E:TypeId} (hT:P.underlying T=some (.pointer E)) (k:Nat) (w:World):(Op.equalIn (k+1) T (.pointer none) (.pointer none)).run P w=.ok true w:=by
 simp[Op.equalIn,run_underlying hT]
theorem Bc {T E:TypeId} (hT:P.underlying T=some (.pointer E)) (b off:Nat) (w:World):(Op.equal T (pB b off) (.pointer none)).run P w=.ok false w:=FD hT b off 9999 w
theorem HQ {T E:TypeId} (hT:P.underlying T=some (.pointer E)) (w:World):(Op.equal T (.pointer none) (.pointer none)).run P w=.ok true w:=Kq hT 9999 w
theorem OR {T E:TypeId} (hT:P.underlying T=some (.pointer E)) (b off:Nat):cj P .neq T (pB b off) (.pointer none) (vB true):=fun _ _ w=>by
 simp[eqGuard,binOp,Bc hT]
theorem Pc {T E:TypeId} (hT:P.underlying T=some (.pointer E)):cj P .neq T (.pointer none) (.pointer none) (vB false):=fun _ _ w=>by
 simp[eqGuard,binOp,HQ hT]
theorem G4 {T E:TypeId} (hT:P.underlying T=some (.pointer E)) (b off:Nat):cj P .eql T (pB b off) (.pointer none) (vB false):=fun _ _ w=>by
 simp[eqGuard,binOp,Bc hT]
theorem Ia {T E:TypeId} (hT:P.underlying T=some (.pointer E)):cj P .eql T (.pointer none) (.pointer none) (vB true):=fun _ _ w=>by
 simp[eqGuard,binOp,HQ hT]
theorem GB {T E:TypeId} (hT:P.underlying T=some (.slice E)) (a:Option Addr) (n c k:Nat) (w:World):(Op.equalIn (k+1) T (.slice a n c) (.slice none 0 0)).run P w=.ok a.isNone w:=by
 cases a <;> simp[Op.equalIn,run_underlying hT]
theorem Em {T E:TypeId} (hT:P.underlying T=some (.slice E)) (a:Option Addr) (n c:Nat) (w:World):(Op.equal T (.slice a n c) (.slice none 0 0)).run P w=.ok a.isNone w:=GB hT a n c 9999 w
theorem AP {T E:TypeId} {a:Option Addr} {n c:Nat} (hT:P.underlying T=some (.slice E)):cj P .neq T (.slice a n c) (.slice none 0 0) (vB (!a.isNone)):=fun _ _ w=>by
 simp[eqGuard,binOp,Em hT]
theorem LH {T E:TypeId} {a:Option Addr} {n c:Nat} (hT:P.underlying T=some (.slice E)):cj P .eql T (.slice a n c) (.slice none 0 0) (vB a.isNone):=fun _ _ w=>by
 simp[eqGuard,binOp,Em hT]
theorem tE (m:L01):strCells ⟨⟨m⟩⟩=e8.fl m:=by rw[we]; rfl
theorem nj (t u ty e:TypeId) (i:TypeInfo) (O:P.underlying t=some (.slice e)) (hu:P.underlying u=some .string) (hi:P.info? e=some i) (N:i.size=1)
  (g j B:Nat) (A:Array Value) (T:TypeId) (hg:Row w g A T) (s:ByteArray)
  (G:j+s.size<=B) (J:j+s.size<=A.size) :
  (Builtin.append_ #[t,u] ty #[.slice (some ⟨g,0,none⟩) j B,.string s]).run P w =
   .ok (.slice (some ⟨g,0,none⟩) (j+s.size) B) (w.setRow g (A.toList.take j++strCells s++A.toList.drop (j+s.size)).toArray):=by
 have hf:=run_firstCells_string (P:=P) w 1 s
 have I:=iV P g j T (strCells s) 0 A w hg (by simpa [strCells_length] using J) (strCells_oneCell s)
 simp only[br,strCells_length]at I
 simp[Builtin.append_,run_underlying O,run_underlying hu,sizeOf,typeInfo,hi,N,Builtin.lenOf,G,hf,Addr.add_lit,I]
theorem BG {j:Array Value} {a k:Nat} {us:List Value} (h:a+us.length<=j.size) (A:k=a+us.length):(j.toList.take a++us++j.toList.drop k).toArray.size=j.size:=by
 subst A
 simp only[ej,aE,aN,bZ,fh]
 omega
theorem tn {T U E ty:TypeId} {v:Value} {l m:L01} {B:Nat} (hT:P.underlying T=some (.slice E)) (hU:P.underlying U=some .string) (hE:TI P E (.int .u8 0) 1 1)
  (ho:(own e8 v l).ok S B w) (hB:B<=w.heap.size) (hb:l.length+m.length<=225000000000000 / 1) :
  ∃v' w',(Builtin.append_ #[T,U] ty #[v,vS m]).run P w=.ok v' w'/\(own e8 v' (l++m)).ok S B w'/\Fr (own e8 v l).blk.toList w w'/\(∀k,(own e8 v' (l++m)).blk=some k->(own e8 v l).blk=some k\/w.heap.size<=k):=by
 obtain⟨V,hi,b2,hs,b3⟩:=hE.get
 have A:(⟨⟨m⟩⟩:ByteArray).size=m.length:=rfl
 have N:∀x:L01,(e8.fl x).length=x.length:=fun x=>by rw[e8.fl_length]; exact cE _
 by_cases hm:m=[]
 ·subst hm
  have b4:(strCells ⟨⟨[]⟩⟩)=[]:=rfl
  rcases ho.2 with⟨rfl,hn⟩ | ⟨g,G,O,Y,rfl,Z,hg,ab,ac,X,I⟩
  ·have hl:l=[]:=bn hn
   subst hl
   refine⟨.slice none 0 0,w,?_,by simpa using ho,Fr.refl _ _,fun k R=>.inl (by simpa using R)⟩
   have hf:=run_firstCells_string (P:=P) w 1 ⟨⟨[]⟩⟩
   rw[A]at hf
   simp only[eu]at hf
   simp[Builtin.append_,run_underlying hT,run_underlying hU,sizeOf,typeInfo,hi,hs,Builtin.lenOf,A,hf]
  ·have ad:G<=O.size:=by simpa [e8] using X
   have J:=nj (P:=P) (w:=w) T U ty E V hT hU hi hs g l.length G O Y hg ⟨⟨[]⟩⟩ (by rw[A]; simpa using ab) (by rw[A]; simp; omega)
   refine⟨_,_,J,⟨e8.fl_length _,.inr ⟨g,G,_,Y,by simp[A],Z,hg.set _ (BG (by simp[A,strCells_length,e8]at X ⊢; omega) (by simp[A,strCells_length,e8])),by simpa using ab,ac,?_,?_⟩⟩,Fr.setRow w g _,fun k R=>.inl (by simpa [OE.blk,Value.ownBlock] using R)⟩
   ·simp only[b4,A,bM,eu,br,cD]
    simpa [e8] using ad
   ·simp only[b4,A,bM,eu,br,cD]
    exact I
 ·have ce:0<m.length:=fg.2 hm
  rcases ho.2 with⟨rfl,hn⟩ | ⟨g,G,O,Y,rfl,Z,hg,ab,ac,X,I⟩
  ·have hl:l=[]:=bn hn
   subst hl
   simp only[eu,bm]at hb
   have J:=Go.run_append_nil_string (P:=P) w T U ty E V (.int .u8 0) hT hU hi b2 ⟨⟨m⟩⟩ (by rw[A]; omega) (by rw[A]; omega) (by rw[A,b3]; omega)
   have e1:((⟨⟨m⟩⟩:ByteArray).data.map fun b=>Value.int .u8 b.toNat)=(e8.fl m).toArray:=by
    rw[we]; simp
   rw[e1,A]at J
   refine⟨_,_,J,⟨e8.fl_length _,.inr ⟨w.heap.size,grownCap w m.length 0 E,_,E,?_,.inl hB,Row.new w.drew _ _,?_,?_,?_,?_⟩⟩,(Fr.drew _ w).trans (Fr.alloc _ _ _),?_⟩
   ·simp
   ·simp; exact grownCap_ge w m.length 0 E
   ·exact grownCap_le_maxLen w m.length 0 E (by simp[maxLen]; omega)
   ·have:=grownCap_ge w m.length 0 E
    have al:(Value.int IntKind.u8 0).cells.size=1:=rfl
    simp only[iP,ej,size_zeroCells,al,N]
    simp only[e8]
    omega
   ·simp only[bT,ib,List.toList_toArray]
    rw[<-e8.fl_length]
    exact gi
   ·intro k R
    simp[OE.blk,Value.ownBlock]at R
    right; omega
  ·by_cases hroom:l.length+m.length<=G
   ·have ad:G<=O.size:=by simpa [e8] using X
    have J:=nj (P:=P) (w:=w) T U ty E V hT hU hi hs g l.length G O Y hg ⟨⟨m⟩⟩ (by rw[A]; exact hroom) (by rw[A]; omega)
    rw[tE,A]at J
    refine⟨_,_,J,⟨e8.fl_length _,.inr ⟨g,G,_,Y,by simp,Z,hg.set _ (BG (by rw[N]; omega) (by rw[N])),by simpa using hroom,ac,?_,?_⟩⟩,Fr.setRow w g _,fun k R=>.inl (by simpa [OE.blk,Value.ownBlock] using R)⟩
    ·simp only[ej,aE,aN,bZ,fh,N]
     simp only[e8]
     omega
    ·have ht:O.toList.take l.length=e8.fl l:=by simpa [e8] using I
     rw[ht,<-e8.fl_append,<-e8.fl_length]
     exact gi
   ·have ap:∀j x,(e8.fl l)[j]? = some x->w.cell? ((⟨g,0,none⟩:Addr).add j)=some x:=fun j x hj=>by
     rw[iO,bm,hg.cell j]
     rw[<-I,bP]at hj
     split at hj
     ·simpa using hj
     ·cases hj
    have J:=run_append_grow_string (P:=P) w T U ty E V (.int .u8 0) hT hU hi b2 ⟨g,0,none⟩ l.length G (e8.fl l) (by rw[hs,N]; omega) ap ⟨⟨m⟩⟩ (by rw[A]; omega) (by rw[A]; omega)
     (by rw[A,b3]; exact xV (by omega) (by omega) (by omega))
    rw[tE,A]at J
    refine⟨_,_,J,⟨e8.fl_length _,.inr ⟨w.heap.size,grownCap w (l.length+m.length) G E,_,E,?_,.inl hB,Row.new w.drew _ _,?_,?_,?_,?_⟩⟩,(Fr.drew _ w).trans (Fr.alloc _ _ _),?_⟩
    ·simp
    ·simp; exact grownCap_ge w (l.length+m.length) G E
    ·exact grownCap_le_maxLen w (l.length+m.length) G E (by simp[maxLen]; omega)
    ·have:=grownCap_ge w (l.length+m.length) G E
     have al:(Value.int IntKind.u8 0).cells.size=1:=rfl
     simp only[iP,ej,size_zeroCells,al,N]
     simp only[e8]
     omega
    ·simp only[ib,aS]
     rw[<-aS,<-e8.fl_append,<-e8.fl_length]
     exact gi
    ·intro k R
     simp[OE.blk,Value.ownBlock]at R
     right; omega
theorem yB {x y:Operand} {T U E:TypeId} {v:Value} {l m r:L01} {i:Nat} (hT:P.underlying T=some (.slice E)) (hU:P.underlying U=some .string) (hE:TI P E (.int .u8 0) 1 1)
  (hx:L.ev x=some v) (hy:L.ev y=some (vS m)) (hS:St S w0 w os) (hi:os[i]? = some (own e8 v l)) (hg:apO 1 l m=some r) :
  OpX P n L w ⟨d,.call ⟨.builtin .append,#[x,y],#[T,U]⟩,ty,pos,after,none⟩ (fun j w'=>St S w0 w' (os.set i (own e8 j r))):=by
 obtain⟨rfl,hb⟩:=qV hg
 obtain⟨j,w',A,B,G,I⟩:=tn (ty:=ty) (m:=m) hT hU hE (hS.ok _ (bf hi)) hS.fr.size (by omega)
 refine iC j w' (fun a ha=>?_) (hS.set hi G B I)
 simp[execOp,resolve,invoke,builtin,ha.ev hx,ha.ev hy,A]
theorem HX {ops:Array Oper} {C D:World->Prop} {fl:Nat->Bool} {i:Nat} {r:L02} {d:Nat} {op:Op} {v:Value} (j:C w) (A:ops[i]? = some ⟨some d,op,ty,pos,after,none⟩) (hf:fl i=false)
  (B:OpV P n L w ⟨some d,op,ty,pos,after,none⟩ v w) (hd:Nat.blt d n=true) (h:lxE P n ops C D Q fl r ((d,v) :: L) w):lxE P n ops C D Q fl (i :: r) L w:=
 vH j A hf (Φ:=fun G w'=>G=v/\w'=w) (iC v w B ⟨rfl,rfl⟩) hd (by rintro _ _ ⟨rfl,rfl⟩; exact h)
theorem xJ {T:TypeId} {D:TypeDesc} {b:Nat} {us:List Value} (hT:P.underlying T=some D) (G:(match D with | .struct _ | .array _ _=>true | _=>false)=true)
  (hi:(P.info? T).map (·.size)=some us.length) (hc:∀j u,us[j]? = some u->w.cell? ⟨b,0+j,none⟩=some u):(loadVar T ⟨b,0,none⟩).run P w=.ok (.agg us.toArray) w:=by
 have A:(isAgg T).run P w=.ok true w:=by
  unfold isAgg
  rw[Sem.run_bind,run_underlying hT w]
  cases D <;> simp_all
 cases hq:P.info? T with
 | none=>simp[hq]at hi
 | some i=>
  have hs:i.size=us.length:=by simpa [hq] using hi
  have hl:(loadCells ⟨b,0,none⟩ us.length).run P w=.ok us.toArray w:=
   run_loadCells_list (P:=P) w ⟨b,0,none⟩ us (fun j v B=>by rw[rm]; exact hc j v B)
  simp[loadVar,A,sizeOf,typeInfo,hq,hs,hl]
def RV (P:Program) (L:Env) (w:World):ResultVar->Value->Prop
 | .tmp t,v=>L.get t=some v
 | .cell t T,v=>∃b,L.get t=some (pB b 0)/\(loadVar T ⟨b,0,none⟩).run P w=.ok v w
theorem i8 (b off:Nat) (w:World):(asAddr (pB b off)).run P w=.ok ⟨b,off,none⟩ w:=rfl
theorem Ik {fn:Func} {B:ResultVar} {G:Value} {φ:Value->World->Prop} (j:fn.results=#[B]) (I:RV P L w B G) (h:φ G w):QE n (bodyPost P fn (Ret φ)) .ret L w:=fun a ha=>by
 refine⟨ha.defers,G,?_,h⟩
 cases B
 ·have A:=ha.get _ _ I
  simp[results,j,A]
 ·obtain⟨b1,A,J⟩:=I
  have A:=ha.get _ _ A
  simp[results,j,A,J,i8]
theorem Qh {fn:Func} {J N:ResultVar} {O R:Value} {φ:Value->World->Prop} (B:fn.results=#[J,N]) (G:RV P L w J O) (I:RV P L w N R) (h:φ (.tuple #[O,R]) w):QE n (bodyPost P fn (Ret φ)) .ret L w:=fun a ha=>by
 refine⟨ha.defers,.tuple #[O,R],?_,h⟩
 cases J <;> cases N
 ·have j:=ha.get _ _ G
  have A:=ha.get _ _ I
  simp[results,B,j,A]
 ·have j:=ha.get _ _ G
  obtain⟨X,A,U⟩:=I
  have A:=ha.get _ _ A
  simp[results,B,j,A,U,i8]
 ·obtain⟨b1,j,V⟩:=G
  have j:=ha.get _ _ j
  have A:=ha.get _ _ I
  simp[results,B,j,A,V,i8]
 ·obtain⟨b1,j,V⟩:=G
  have j:=ha.get _ _ j
  obtain⟨X,A,U⟩:=I
  have A:=ha.get _ _ A
  simp[results,B,j,A,V,U,i8]
def SHP (v:Value) (m:Nat):Prop:=∃a c,v=.slice a m c/\m<=c/\(m≠0->∃b off,a=some ⟨b,off,none⟩)
theorem RO.shp {τ:Type} {e:Enc τ} {v:Value} {l:List τ} (h:RO w e v l):SHP v l.length:=by
 obtain⟨a,c,rfl,hc,j⟩:=h
 refine⟨a,c,rfl,hc,fun hn=>?_⟩
 obtain⟨b,off,A,_⟩:=j (by rintro rfl; simp at hn)
 exact⟨b,off,A⟩
theorem FP {x y:Operand} {T E:TypeId} {k:IntKind} {i:Int} {τ:Type} {e:Enc τ} {v:Value} {l:List τ} {t:τ} {z:Value} {bytes:Nat} (hT:P.underlying T=some (.slice E)) (hE:TI P E z e.sz bytes)
  (hx:L.ev x=some v) (hy:L.ev y=some (.int k i)) (h:SHP v l.length) (hg:ax l i=some t) :
  OpV P n L w ⟨d,.indexAddr T x y,ty,pos,after,none⟩ (pP (ixA v e.sz i.toNat)) w:=fun a ha=>by
 obtain⟨j,I,_⟩:=gj hg
 obtain⟨q,c,rfl,hc,A⟩:=h
 obtain⟨b,off,rfl⟩:=A (by omega)
 obtain⟨G,hi,_,hs,_⟩:=hE.get
 have B:i<l.length:=by omega
 simp[execOp,ha.ev hx,ha.ev hy,Instr.indexAt,asIntOf,run_underlying hT,j,B,sizeOf,typeInfo,hi,hs,ixA]
theorem zT {τ:Type} {l y:List τ} {i:Int} {x t:τ} (hy:l.set i.toNat t=y) (hx:ax l i=some x):ax y i=some t:=by
 obtain⟨j,A,_⟩:=gj hx
 subst hy
 simp[ax,j,A]
def eWv (vb:Value) (o:Option (Nat×Nat)):Value:=match o with
 | none=>.slice none 0 0
 | some p=>match vb with
  | .slice a _ c=>.slice (if c=p.1 then a else a.map (·.add (p.1*1))) (p.2 - p.1) (c - p.1)
  | _=>.slice none 0 0
def eW (vb:Value):Enc (Option (Nat×Nat)):=⟨1,fun o=>[eWv vb o],fun _=>rfl,fun o u h=>by
 simp at h; subst h
 cases o with
 | none=>rfl
 | some p=>cases vb <;> rfl⟩
theorem wG {v:Value} {l:L01} (h:RO w e8 v l) (lo hi:Nat):slV v e8.sz lo hi=eWv v (some (lo,hi)):=by
 obtain⟨a,c,rfl,_⟩:=h
 rfl
theorem RP.eW {v:Value} {l:L01} {o:Option (Nat×Nat)} {c:Nat×Nat} (h:RP S w e8 v l) (j:o=some c) (A:c.1<=c.2) (B:c.2<=l.length):RP S w e8 (eWv v o) (vwL l c):=by
 subst j
 rw[<-wG h.1]
 exact h.sub A B
theorem RP.eWn {v:Value} {l:L01} (h:RP S w e8 v l) (hl:l≠[]) (o:Option (Nat×Nat)):∃a m c,eWv v o=.slice a m c/\a.isNone=o.isNone:=by
 obtain⟨a,c,rfl,hc,j⟩:=h.1
 obtain⟨b,off,rfl,_⟩:=j hl
 cases o with
 | none=>exact⟨none,0,0,rfl,rfl⟩
 | some p=>
  refine⟨_,_,_,rfl,?_⟩
  split <;> simp
theorem RP.eWne {v:Value} {l:L01} {T E:TypeId} (h:RP S w e8 v l) (hT:P.underlying T=some (.slice E)) (o:Option (Nat×Nat)) (hl:l≠[]):cj P .neq T (eWv v o) (.slice none 0 0) (vB o.isSome):=by
 obtain⟨a,m,c,j,A⟩:=h.eWn hl o
 rw[j]
 have:=AP (P:=P) (T:=T) (E:=E) (a:=a) (n:=m) (c:=c) hT
 rw[A]at this
 cases o <;> exact this
theorem W_sl {x y z:Operand} {T E:TypeId} {k j:IntKind} {lo hi:Int} {v:Value} {l r:L01} {z0:Value} {bytes:Nat} (hT:P.underlying T=some (.slice E)) (hE:TI P E z0 e8.sz bytes)
  (hx:L.ev x=some v) (hy:L.ev y=some (.int k lo)) (hz:L.ev z=some (.int j hi)) (h:RO w e8 v l) (hg:slO l lo hi=some r) :
  OpV P n L w ⟨d,.slice T x (some y) (some z) none,ty,pos,after,none⟩ (eWv v (some (lo.toNat,hi.toNat))) w:=by
 have:=PW (n:=n) (d:=d) (ty:=ty) (pos:=pos) (after:=after) hT hE hx hy hz h hg
 rwa [wG h]at this
theorem RP.W_sl {v:Value} {l r:L01} {lo hi:Int} (h:RP S w e8 v l) (hg:slO l lo hi=some r):RP S w e8 (eWv v (some (lo.toNat,hi.toNat))) r:=by
 rw[<-wG h.1]; exact h.g_sl hg
theorem sY {x y:Operand} {T:TypeId} {p q:Int} (hx:L.ev x=some (vI p)) (hy:L.ev y=some (vI q)):OpV P n L w ⟨d,.call ⟨.builtin .min,#[x,y],#[T,T]⟩,ty,pos,after,none⟩ (vI (min p q)) w:=fun a ha=>by
 have j:(if q<p then q else p)=min p q:=by split <;> omega
 have A:(Builtin.min2 (vI p) (vI q)).run P w=.ok (vI (min p q)) w:=by rw[<-j]; rfl
 simp[execOp,resolve,invoke,builtin,Builtin.min_,ha.ev hx,ha.ev hy,A]
theorem MP {x y:Operand} {T:TypeId} {p q:Int} (hx:L.ev x=some (vI p)) (hy:L.ev y=some (vI q)):OpV P n L w ⟨d,.call ⟨.builtin .max,#[x,y],#[T,T]⟩,ty,pos,after,none⟩ (vI (max p q)) w:=fun a ha=>by
 have j:(if p<q then q else p)=max p q:=by split <;> omega
 have A:(Builtin.max2 (vI p) (vI q)).run P w=.ok (vI (max p q)) w:=by rw[<-j]; rfl
 simp[execOp,resolve,invoke,builtin,Builtin.max_,ha.ev hx,ha.ev hy,A]
theorem St.bxro {τ:Type} {e:Enc τ} {l:List τ} {b:Nat} {cs:List Value} (h:St S w0 w os) (i:Nat) (hi:os[i]? = some (.bx b cs)) (hl:cs=e.fl l):RO w e (.slice (some ⟨b,0,none⟩) l.length l.length) l:=by
 refine⟨_,_,rfl,aw _,fun _=>⟨b,0,rfl,fun j u A=>?_⟩⟩
 rw[bm,h.bxc i hi,hl]
 exact A
theorem QU {x y:Operand} {T E:TypeId} {k:IntKind} {lo:Int} {τ:Type} {e:Enc τ} {l r:List τ} {b:Nat} {z0:Value} {bytes m:Nat} (hT:P.underlying T=some (.array m E)) (hE:TI P E z0 e.sz bytes)
  (hx:L.ev x=some (pB b 0)) (hy:L.ev y=some (.int k lo)) (hm:l.length=m) (hg:drO l lo=some r) :
  OpV P n L w ⟨d,.slice T x (some y) none none,ty,pos,after,none⟩ (slV (.slice (some ⟨b,0,none⟩) l.length l.length) e.sz lo.toNat l.length) w:=fun a ha=>by
 obtain⟨⟨A,J⟩,_⟩:=lD hg
 obtain⟨I,j,_,hs,_⟩:=hE.get
 have B:lo<=(m:Int):=by omega
 subst hm
 have G:slV (.slice (some ⟨b,0,none⟩) l.length l.length) e.sz lo.toNat l.length=.slice (some (if l.length=lo.toNat then ⟨b,0,none⟩ else (⟨b,0,none⟩:Addr).add (lo.toNat*e.sz))) (l.length - lo.toNat) (l.length - lo.toNat):=by
  simp only[slV]
  split <;> rfl
 rw[G]
 simp[execOp,ha.ev hx,ha.ev hy,Instr.sliceAt,Instr.sureAddr,run_underlying hT,Instr.sliceBounds,run_sliceBound,A,B,sizeOf,typeInfo,j,hs]
end
end Go.Gk
end
section
namespace Go.Gk
open Go Go.RowKit
section
variable {P:Program} {n:Nat} {L:Env} {w w' w0:World} {Q:Exit->Act->World->Prop} {S:L02} {os os0 os1:List OE}
variable {d:Option Tmp} {ty:TypeId} {pos:String} {after:Array Edge}
theorem JW {x:Operand} {p:Addr} (hx:L.ev x=some (pP p)):OpV P n L w ⟨d,.nilCheck x,ty,pos,after,none⟩ (pP p) w:=fun a ha=>by
 simp[execOp,ha.ev hx]
theorem AN {T E:TypeId} {τ:Type} {e:Enc τ} {z:Value} {bytes:Nat} (hT:P.underlying T=some (.slice E)) (hE:TI P E z e.sz bytes) (hS:St S w0 w os) :
  OpX P n L w ⟨d,.buildSlice T 0 #[],ty,pos,after,none⟩ (fun v w'=>St S w0 w' (own e v ([]:List τ) :: os)):=by
 obtain⟨B,hi,G,hs,hb⟩:=hE.get
 refine iC (.slice (some ⟨w.heap.size,0,none⟩) 0 0) (w.alloc (.cells #[] E)) (fun a ha=>?_) ?_
 ·have j:(Array.map (fun _:Nat=>(default:Value)) (Array.range 0))=#[]:=Array.eq_empty_of_size_eq_zero (by simp)
  simp[execOp,Instr.buildSlice,run_underlying hT,sizeOf,typeInfo,hi,Instr.fill,newRow,j]
 ·refine hS.push (Fr.alloc _ _ _) (o:=own e _ _) ?_ ?_
  ·exact⟨by simp,.inr ⟨w.heap.size,0,#[],E,rfl,hS.fresh,Row.new w _ _,aw _,by simp[maxLen],by simp,by simp⟩⟩
  ·intro k A
   simp[OE.blk,Value.ownBlock]at A
   omega
def SV.of (v:Value):SV:=match v with
 | .slice a n c=>⟨a,n,c⟩
 | _=>⟨none,0,0⟩
theorem RO.sv {τ:Type} {e:Enc τ} {v:Value} {l:List τ} (h:RO w e v l):(SV.of v).v=v:=by
 obtain⟨a,c,rfl,_⟩:=h; rfl
theorem RO.svrp {τ:Type} {e:Enc τ} {v:Value} {l:List τ} (h:RO w e v l):RP [] w e (SV.of v).v l:=by rw[h.sv]; exact h.rp
theorem RP.sv {τ:Type} {e:Enc τ} {v:Value} {l:List τ} (h:RP S w e v l):RP S w e (SV.of v).v l:=by rw[h.1.sv]; exact h
theorem sE {v:Value} {r:List SV} {vs:List Value} (h:(SV.of v).v=v) (j:eV.fl r=vs):eV.fl (SV.of v :: r)=v :: vs:=by
 rw[<-j]
 show [(SV.of v).v]++eV.fl r=v :: eV.fl r
 rw[h]; rfl
def jE (S:L02) (w:World) {τ:Type} (e:Enc τ):List SV->List (List τ)->Prop
 | [],[]=>True
 | s :: r,l :: m=>RP S w e s.v l/\jE S w e r m
 | _,_=>False
theorem jE.len {τ:Type} {e:Enc τ}:∀{s:List SV} {m:List (List τ)},jE S w e s m->s.length=m.length
 | [],[],_=>rfl
 | _ :: _,_ :: _,h=>by simp[jE.len h.2]
theorem jE.nth {τ:Type} {e:Enc τ}:∀{s:List SV} {m:List (List τ)},jE S w e s m->∀{i:Nat} {l:List τ},m[i]? = some l->∃v,s[i]? = some v/\RP S w e v.v l
 | [],[],_,i,l,hi=>by simp at hi
 | a :: r,b :: m,h,0,l,hi=>by simp at hi; subst hi; exact⟨a,rfl,h.1⟩
 | a :: r,b :: m,h,i+1,l,hi=>by simpa using jE.nth h.2 (by simpa using hi)
theorem jE.get {τ:Type} {e:Enc τ} {s:List SV} {m:List (List τ)} (h:jE S w e s m) {i:Int} {l:List τ} (hi:ax m i=some l):∃v,ax s i=some v/\RP S w e v.v l:=by
 obtain⟨j,_,A⟩:=gj hi
 obtain⟨v,B,G⟩:=h.nth A
 exact⟨v,by simp[ax,j,B],G⟩
theorem LD {x:Operand} {T E:TypeId} {τ:Type} {v:Value} {s:List SV} {m:List (List τ)} (hT:P.underlying T=some (.slice E)) (hx:L.ev x=some v) (h:RO w eV v s) (hl:s.length=m.length) :
  OpV P n L w ⟨d,.call ⟨.builtin .len,#[x],#[T]⟩,ty,pos,after,none⟩ (vI m.length) w:=by
 have:=gt (n:=n) (d:=d) (ty:=ty) (pos:=pos) (after:=after) hT hx h
 rwa [hl]at this
section
variable {T E:TypeId} {τ:Type} {e:Enc τ} {v:Value} {l r:List τ} {z0:Value} {bytes:Nat}
end
theorem Oi (T:TypeId) (x y:Bool) {D:TypeDesc} (hT:P.underlying T=some D) (j:D=.bool):cj P .eql T (vB x) (vB y) (vB (x == y)):=fun _ _ w=>by
 subst j
 have h:∀k,(Op.equalIn (k+1) T (vB x) (vB y)).run P w=.ok (x == y) w:=fun k=>by simp[Op.equalIn,run_underlying hT]
 have A:(Op.equal T (vB x) (vB y)).run P w=.ok (x == y) w:=h 9999
 simp[eqGuard,binOp,A]
theorem Qf (T:TypeId) (x y:Bool) {D:TypeDesc} (hT:P.underlying T=some D) (j:D=.bool):cj P .neq T (vB x) (vB y) (vB (x != y)):=fun _ _ w=>by
 subst j
 have h:∀k,(Op.equalIn (k+1) T (vB x) (vB y)).run P w=.ok (x == y) w:=fun k=>by simp[Op.equalIn,run_underlying hT]
 have A:(Op.equal T (vB x) (vB y)).run P w=.ok (x == y) w:=h 9999
 simp[eqGuard,binOp,A,bne]
theorem RP.isnil {τ:Type} {e:Enc τ} {v:Value} {l:List τ} {T E:TypeId} (h:RP S w e v l) (hT:P.underlying T=some (.slice E)) :
  (l=[]/\cj P .eql T v (.slice none 0 0) (vB true)/\cj P .neq T v (.slice none 0 0) (vB false))\/(cj P .eql T v (.slice none 0 0) (vB false)/\cj P .neq T v (.slice none 0 0) (vB true)):=by
 obtain⟨a,c,rfl,hc,j⟩:=h.1
 cases a with
 | some a=>exact .inr ⟨LH hT,AP hT⟩
 | none=>
  refine .inl ⟨?_,LH hT,AP hT⟩
  cases l with
  | nil=>rfl
  | cons x r=>obtain⟨b,off,A,_⟩:=j (by simp); cases A
end
end Go.Gk
end
section
namespace Go.Gk
section
variable {P:Program} {n:Nat} {L:Env} {w w0:World} {Q:Exit->Act->World->Prop}
variable {d:Option Nat} {ty:TypeId} {pos:String} {after:Array Edge}
theorem F2 {f:FuncId} {xs:List Operand} {vs:List Value} (h:L.evs xs=some vs):OpV P n L w ⟨d,.makeFunc (.func f) #[] xs.toArray,ty,pos,after,none⟩ (.func (.func f) #[] vs.toArray) w:=fun a ha=>by
 have:=ha.evs h
 simp[execOp,Instr.makeFunc,<-this]
theorem x9 {o:Oper} {x:Operand} {f:FuncId} {xs:List Operand} {A:Array TypeId} {vs j:List Value} {a:Act} (B:o.op=.call ⟨.value x,xs.toArray,A⟩)
  (hx:a.eval x=.func (.func f) #[] j.toArray) (hf:ki P f=true) (hargs:xs.map a.eval=vs):(execOp a.eval o).run P w=.ok (.enter f (vs++j).toArray) w:=by
 simp only[execOp,B,resolve,hx,Deferred.ofValue,Sem.run_bind,Sem.run_pure,Result.andThen_ok,invoke]
 have:(#[]++Array.map a.eval xs.toArray++j.toArray:Array Value)=(vs++j).toArray:=by simp[hargs]
 rw[this]
 exact rK hf
theorem II {o:Oper} {x:Operand} {f:FuncId} {xs:List Operand} {A:Array TypeId} {vs j:List Value} {φ:Value->World->Prop} {K:Act->World->Prop} {a:Act} (B:o.op=.call ⟨.value x,xs.toArray,A⟩)
  (hx:a.eval x=.func (.func f) #[] j.toArray) (hf:ki P f=true) (hargs:xs.map a.eval=vs) (hc:Calls P f (vs++j).toArray w (Ret φ)) (k:∀v w',φ v w'->K (a.put o.dst v) w'):o.wp P a w K Q:=by
 unfold Oper.wp
 rw[x9 B hx hf hargs]
 refine Calls.mono hc fun e w' he=>?_
 cases e with
 | returned v=>exact k v w' he
 | panicked c=>exact he.elim
 | outgrown=>exact he.elim
theorem pD {ops:Array Oper} {rest:List Oper} {d:Nat} {x:Operand} {f:FuncId} {xs:List Operand} {A:Array TypeId} {vs j:List Value} {φ:Value->World->Prop}
  (hx:L.ev x=some (.func (.func f) #[] j.toArray)) (hf:ki P f=true) (hargs:L.evs xs=some vs) (hc:Calls P f (vs++j).toArray w (Ret φ)) (hd:Nat.blt d n=true)
  (k:∀v w',φ v w'->wpR P n ops Q rest ((d,v) :: L) w'):wpR P n ops Q (⟨some d,.call ⟨.value x,xs.toArray,A⟩,ty,pos,after,none⟩ :: rest) L w:=fun a ha=>by
 unfold wpList
 rw[ag (by simp[Region.wanted])]
 exact .inl (II rfl (ha.ev hx) hf (ha.evs hargs) hc fun v w' h=>k v w' h _ (ha.put hd))
end
section
variable {P:Program} {n:Nat} {L:Env} {w w0:World} {Q:Exit->Act->World->Prop} {S:L02} {os:List OE}
variable {d:Option Nat} {ty:TypeId} {pos:String} {after:Array Edge}
theorem v7 (a:Addr) (m k:Nat):(w.freeze a m).heap[k]? = (w.heap[k]?).map fun o=>if k=a.block/\m≠0 then (match o with
   | .cells c elem (lo,hi)=>.cells c elem (if lo == hi then (a.off,a.off+m) else (min lo a.off,max hi (a.off+m)))
   | o=>o) else o:=by
 unfold World.freeze
 by_cases hm:m=0
 ·simp[hm]
 ·rw[ae hm]
  simp only[Array.getElem?_modify]
  by_cases hk:a.block=k
  ·subst hk
   simp only[am]
   cases w.heap[a.block]? with
   | none=>rfl
   | some o=>simp[hm]; cases o <;> rfl
  ·rw[ae hk]
   have:¬(k=a.block/\m≠0):=fun h=>hk h.1.symm
   simp[this]
theorem C6 (a b:Addr) (m:Nat):(w.freeze a m).cell? b=w.cell? b:=by
 unfold World.cell?
 rw[v7]
 cases w.heap[b.block]? with
 | none=>rfl
 | some o=>
  simp only[bL]
  by_cases hc:b.block=a.block/\m≠0
  ·rw[ag hc]; cases o <;> rfl
  ·rw[ae hc]
theorem tD (a:Addr) (m:Nat):(w.freeze a m).heap.size=w.heap.size:=by
 unfold World.freeze; split
 ·rfl
 ·simp
theorem HI (a:Addr) (m:Nat):Fr [a.block] w (w.freeze a m):=by
 refine⟨?_,?_,?_,by rw[tD]; exact aw _,fun k j hn=>?_⟩
 ·unfold World.freeze; split <;> rfl
 ·unfold World.freeze; split <;> rfl
 ·unfold World.freeze; split <;> rfl
 ·rw[v7]
  have:¬(k=a.block/\m≠0):=fun h=>hn (by simp[h.1])
  cases w.heap[k]? with
  | none=>rfl
  | some o=>simp[this]
theorem FQ {T E:TypeId} {x:Operand} {v:Value} {l:L01} {i:Nat} (hT:P.underlying T=some (.slice E)) (hE:P.underlying E=some (.int .u8)) (hx:L.ev x=some v)
  (hS:St S w0 w os) (hi:os[i]? = some (own e8 v l)) (hl:l≠[]) :
  OpX P n L w ⟨d,.convert T T x,ty,pos,after,none⟩ (fun Z w'=>Z=v/\St S w0 w' (os.set i (red e8 v l))):=by
 have I:=hS.ok _ (bf hi)
 have J:=I.red
 obtain⟨h1,h2⟩:=I
 rcases h2 with⟨_,hn⟩ | ⟨g,N,A,U,rfl,hf,hg,bx,b2,b3,Y⟩
 ·exact absurd (bn hn) hl
 ·have O:St S w0 (w.freeze ⟨g,A.size,none⟩ 1) (os.set i (red e8 (.slice (some ⟨g,0,none⟩) l.length N) l)):=by
   refine hS.set hi (o':=red e8 _ l) (by simpa [OE.blk,Value.ownBlock] using HI (w:=w) ⟨g,A.size,none⟩ 1) ?_ fun k B=>.inl ?_
   ·obtain⟨r1,a,c,hv,hc,hr⟩:=J
    refine⟨r1,a,c,hv,hc,fun R=>?_⟩
    obtain⟨b,off,ha,hb,V,G⟩:=hr R
    exact⟨b,off,ha,by rw[tD]; exact hb,V,fun j u hj=>by rw[C6]; exact G j u hj⟩
   ·simp only[OE.blk]at B ⊢
    split at B
    ·cases B
    ·exact B
  refine iC _ _ (fun a ha=>?_) ⟨rfl,O⟩
  have X:w.shape? g=some (U,A.size):=by obtain⟨mk,hg,_⟩:=hg; unfold World.shape?; rw[hg]
  simp[execOp,ha.ev hx,convert,run_underlying hT,run_underlying hE,markStringish,shape,freeze,Sem.run,X]
def ri (w0 w:World) (r:Nat) (es:Array MapEntry) (c:Nat):Prop:=Fr [] w0 w/\w0.heap.size<=r/\w.heap[r]? = some (.map es c)
theorem CU {T:TypeId} (hS:St [] w0 w []) :
  OpX P n L w ⟨d,.makeMap T none,ty,pos,after,none⟩ (fun v w'=>∃r,v=.map (some r)/\ri w0 w' r #[] 0):=by
 refine iC (.map (some w.heap.size)) { w with heap:=w.heap.push (.map #[] 0) } (fun a ha=>?_) ⟨_,rfl,?_⟩
 ·simp[execOp,Instr.makeMap,newObj,Sem.run]
 ·refine⟨⟨hS.fr.os,hS.fr.tape,hS.fr.output,by have:=hS.fr.size; simp; omega,fun k j hn=>?_⟩,hS.fr.size,by simp⟩
  have:=hS.fr.size
  rw[<-hS.fr.block k j hn]
  simp[Array.getElem?_push]; omega
theorem oH {K:TypeId} {k:IntKind} (hK:P.underlying K=some (.int k)) (b:Bool) (x:Int) (m:Nat):(Instr.checkKey b (m+1) K (.int k x)).run P w=.ok () w:=by
 simp[Instr.checkKey,run_underlying hK]
theorem ri.put {r:Nat} {es j:Array MapEntry} {c A:Nat} (h:ri w0 w r es c):ri w0 { w with heap:=w.heap.setIfInBounds r (.map j A) } r j A:=by
 obtain⟨hf,G,hg⟩:=h
 have B:r<w.heap.size:=(cg.1 hg).1
 refine⟨⟨hf.os,hf.tape,hf.output,by simpa using hf.size,fun k I hn=>?_⟩,G,by simp[B]⟩
 rw[<-hf.block k I hn]
 simp[Array.getElem?_setIfInBounds]; omega
theorem qU {r:Nat} {es:Array MapEntry} {c:Nat} (h:w.heap[r]? = some (.map es c)):(getObj r).run P w=.ok (.map es c) w:=by
 simp[getObj,Sem.run,h]
theorem EE {r:Nat} {es:Array MapEntry} {c:Nat} {o:Obj} (h:w.heap[r]? = some (.map es c)):(setObj r o).run P w=.ok () { w with heap:=w.heap.setIfInBounds r o }:=by
 simp[setObj,Sem.run,h]
theorem jW {T K E:TypeId} {x:Operand} {r:Nat} {es:Array MapEntry} {c:Nat} {k:Int} {v:Value} {kd:IntKind} (hT:P.underlying T=some (.map K E)) (hK:P.underlying K=some (.int kd)) (hx:L.ev x=some (.map (some r)))
  (j:ri w0 w r es c) (hf:Instr.findNow (.int kd) (.int kd k) es.toList 0=some none) :
  OpY P n L w ⟨none,.insert T x (.const (.int kd k)) (.const v),ty,pos,after,none⟩ (fun w'=>ri w0 w' r (es.push ⟨.int kd k,v,c⟩) (c+1)):=by
 refine⟨_,fun a ha=>?_,j.put⟩
 have A:a.eval (.const (.int kd k))=.int kd k:=rfl
 have B:a.eval (.const v)=v:=rfl
 simp[execOp,Instr.mapUpdate,ha.ev hx,A,B,run_underlying hT,run_underlying hK,oH hK,Instr.findKey,hf,qU j.2.2,EE j.2.2]
theorem F5 {T K E:TypeId} {x y:Operand} {r:Nat} {es:Array MapEntry} {c:Nat} {k:Int} {v:Value} {kd:IntKind} {res:Option (Nat×Value)} (hT:P.underlying T=some (.map K E)) (hK:P.underlying K=some (.int kd)) (hx:L.ev x=some (.map (some r)))
  (hy:L.ev y=some (.int kd k)) (j:ri w0 w r es c) (hf:Instr.findNow (.int kd) (.int kd k) es.toList 0=some res) (hz:(P.info? E).map (·.zero)=some (some v)) :
  OpV P n L w ⟨d,.lookup T x y false,ty,pos,after,none⟩ ((res.map (·.2)).getD v) w:=fun a ha=>by
 cases hi:P.info? E with
 | none=>rw[hi]at hz; cases hz
 | some info=>
  rw[hi]at hz
  simp only[bL,eh]at hz
  cases res with
  | none=>simp[execOp,Instr.lookup,ha.ev hx,ha.ev hy,run_underlying hT,run_underlying hK,oH hK,Instr.findKey,hf,qU j.2.2,zeroValue,typeInfo,hi,hz,program,Sem.run]
  | some q=>simp[execOp,Instr.lookup,ha.ev hx,ha.ev hy,run_underlying hT,run_underlying hK,oH hK,Instr.findKey,hf,qU j.2.2]
end
end Go.Gk
end
section
namespace Go.Gk
open Go Go.RowKit
theorem L1 {a b:OE} (h:OE.dj a b):OE.dj b a:=by
 unfold OE.dj at *
 intro k A j
 exact h k j A
theorem St.perm {S:L02} {w0 w:World} {os os':List OE} (h:St S w0 w os) (hp:os.Perm os'):St S w0 w os':=
 ⟨h.fr,fun o A=>h.ok o (hp.mem_iff.2 A),(hp.pairwise_iff (fun {a b} j=>L1 j)).1 h.dj⟩
theorem St.tail {S:L02} {w0 w:World} {l os:List OE} (h:St S w0 w (l++os)):St S w0 w os:=
 ⟨h.fr,fun o j=>h.ok o (bC _ j),(cc.1 h.dj).2.1⟩
def upd (g:Nat->Value) (i:Nat) (v:Value):Nat->Value:=fun k=>if k=i then v else g k
theorem IH {g:Nat->Value} {i j:Nat} {u v:Value} (h:i≠j):upd (upd g i u) j v=upd (upd g j v) i u:=by
 funext k
 unfold upd
 by_cases h1:k=i <;> by_cases h2:k=j <;> simp_all
section
variable {P:Program} {ops:Array Oper} {Q:Exit->Act->World->Prop} {nw:Nat->Bool} {S:L02} {w0:World} {os:List OE} {ent:Nat->Value->OE} {news:L02}
def vc (P:Program) (ops:Array Oper) (S:L02) (w0:World) (ent:Nat->Value->OE) (o:Oper) (i:Nat) (a:Act):Prop:=
 Region.wanted o (yielded ops a.tmps)=true/\∀w os',St S w0 w os'->∃v w',(execOp a.eval o).run P w=.ok (.value v) w'/\St S w0 w' (ent i v :: os')
theorem vc.of_same {o:Oper} {i:Nat} {a j:Act} (hy:vc P ops S w0 ent o i a) (he:execOp j.eval o=execOp a.eval o)
  (hw:Region.wanted o (yielded ops j.tmps)=Region.wanted o (yielded ops a.tmps)):vc P ops S w0 ent o i j:=by
 unfold vc at *
 rw[he,hw]
 exact hy
def lxN (P:Program) (ops:Array Oper) (Q:Exit->Act->World->Prop) (nw:Nat->Bool) (S:L02) (w0:World) (os:List OE) (ent:Nat->Value->OE) (news:L02):L02->(Nat->Value)->Act->Prop
 | [],g,a=>∀w,St S w0 w (news.map (fun i=>ent i (g i))++os)->Q .normal a w
 | i :: r,g,a=>match ops[i]? with
  | none=>lxN P ops Q nw S w0 os ent news r g a
  | some o=>if nw i then vc P ops S w0 ent o i a/\∀v,lxN P ops Q nw S w0 os ent news r (upd g i v) (a.put o.dst v)
   else ∃v,Ins P ops (fun w=>St S w0 w os) o v a/\lxN P ops Q nw S w0 os ent news r g (a.put o.dst v)
theorem Jf (hs:nP ops) (U:∃w,St S w0 w os) {i j:Nat} {r:L02} {g:Nat->Value} {a:Act}
  (V:∀B A,ops[i]? = some B->ops[j]? = some A->B.apart ops A=true) (X:i≠j)
  (h:lxN P ops Q nw S w0 os ent news (i :: j :: r) g a):lxN P ops Q nw S w0 os ent news (j :: i :: r) g a:=by
 cases hi:ops[i]? with
 | none=>
  simp only[lxN,hi]at h
  cases hj:ops[j]? with
  | none=>simp only[lxN,hi,hj]at h ⊢; exact h
  | some A=>simp only[lxN,hi,hj]at h ⊢; exact h
 | some B=>
  cases hj:ops[j]? with
  | none=>simp only[lxN,hi,hj]at h ⊢; exact h
  | some A=>
   obtain⟨p1,p2,p3⟩:=Oper.apart_spec (V B A hi hj)
   have J:=fun cs b=>hs i B cs b hi
   have N:=fun cs b=>hs j A cs b hj
   simp only[lxN,hi,hj]at h ⊢
   by_cases hni:nw i=true
   ·rw[ag hni]at h
    obtain⟨R,G⟩:=h
    by_cases hnj:nw j=true
    ·simp only[hni,hnj,am]at G ⊢
     refine⟨(G undef).1.of_same (execOp_put A N a B.dst undef p1).symm (wanted_put A a B.dst undef p1).symm,fun v=>⟨R.of_same (execOp_put B J a A.dst v p3) (wanted_put B a A.dst v p3),fun u=>?_⟩⟩
     have:=(G u).2 v
     rw[IH X]at this
     rw[<-Act.put_comm a u v p2]; exact this
    ·simp only[hni,hnj,am,aj]at G ⊢
     have get:∀u,∃v,Ins P ops (fun w=>St S w0 w os) A v a/\lxN P ops Q nw S w0 os ent news r (upd g i u) ((a.put B.dst u).put A.dst v):=fun u=>by
      obtain⟨v,I,O⟩:=G u
      exact⟨v,I.of_same (execOp_put A N a B.dst u p1).symm (wanted_put A a B.dst u p1).symm,O⟩
     obtain⟨v,I,_⟩:=get undef
     refine⟨v,I,?_⟩
     refine⟨R.of_same (execOp_put B J a A.dst v p3) (wanted_put B a A.dst v p3),fun u=>?_⟩
     obtain⟨Y,Z,O⟩:=get u
     obtain⟨w,hw⟩:=U
     have:Y=v:=Ins.unique (w:=w) hw Z I
     subst this
     rw[<-Act.put_comm a u Y p2]; exact O
   ·rw[ae hni]at h
    obtain⟨v,I,h⟩:=h
    by_cases hnj:nw j=true
    ·simp only[hni,hnj,am,aj]at h ⊢
     obtain⟨R,G⟩:=h
     refine⟨R.of_same (execOp_put A N a B.dst v p1).symm (wanted_put A a B.dst v p1).symm,fun u=>⟨v,I.of_same (execOp_put B J a A.dst u p3) (wanted_put B a A.dst u p3),?_⟩⟩
     rw[<-Act.put_comm a v u p2]; exact G u
    ·simp only[hni,hnj,aj]at h ⊢
     obtain⟨u,hu,O⟩:=h
     refine⟨u,hu.of_same (execOp_put A N a B.dst v p1).symm (wanted_put A a B.dst v p1).symm,v,I.of_same (execOp_put B J a A.dst u p3) (wanted_put B a A.dst u p3),?_⟩
     rw[<-Act.put_comm a v u p2]; exact O
theorem yf (hs:nP ops) (B:∃w,St S w0 w os) {j:Nat}:∀(l1 A:L02) (g:Nat->Value) (a:Act),(∀i∈l1,i≠j/\∀G J,ops[i]? = some G->ops[j]? = some J->G.apart ops J=true) ->
   lxN P ops Q nw S w0 os ent news (l1++j :: A) g a->lxN P ops Q nw S w0 os ent news (j :: (l1++A)) g a
 | [],_,_,_,_,h=>h
 | i :: l1,A,g,a,hall,h=>by
  have I:∀g a,lxN P ops Q nw S w0 os ent news (l1++j :: A) g a->lxN P ops Q nw S w0 os ent news (j :: (l1++A)) g a:=fun g a h=>
   yf hs B l1 A g a (fun k N=>hall k (by simp[N])) h
  have O:lxN P ops Q nw S w0 os ent news (i :: j :: (l1++A)) g a:=by
   rw[dA]at h
   cases hi:ops[i]? with
   | none=>
    unfold lxN at h ⊢
    simp only[hi]at h ⊢
    exact I _ _ h
   | some G=>
    unfold lxN at h ⊢
    simp only[hi]at h ⊢
    by_cases hn:nw i=true
    ·rw[ag hn]at h ⊢
     exact⟨h.1,fun v=>I _ _ (h.2 v)⟩
    ·rw[ae hn]at h ⊢
     obtain⟨v,R,h⟩:=h
     exact⟨v,R,I _ _ h⟩
  have hi:=hall i (by simp)
  exact Jf hs B hi.2 hi.1 O
theorem sr (hs:nP ops)
  (U:∀j G,ops[j]? = some G->∀e∈G.after,Region.binds .any e=true->e.on<j)
  (V:∀i j,i<j->j<ops.size->gd ops ops.size j i=false->∀oi G,ops[i]? = some oi->ops[j]? = some G->oi.apart ops G=true) (I:news.Nodup) :
  ∀(m:Nat) (l:L02) (listed:Array Bool) (done:L02) (g:Nat->Value) (a:Act) (w:World),l.length=m->l.Pairwise (·<·)->listed.size=ops.size->closed ops listed ->
   (∀i,i∈l↔i<ops.size/\listed.getD i true=false)->(done++l.filter nw).Perm news->St S w0 w (done.map (fun i=>ent i (g i))++os) ->
   lxN P ops Q nw S w0 os ent news l g a->wpAny P .any ops Q m listed a w
 | 0,l,listed,done,g,a,w,hm,_,_,_,hmem,hperm,hS,h=>by
  have hl:l=[]:=bn hm
  subst hl
  refine⟨?_,h w (hS.perm ?_)⟩
  ·refine List.eq_nil_iff_forall_not_mem.2 fun i hi=>?_
   obtain⟨J,o,cm,_⟩:=mem_ready.1 hi
   have:=(hmem i).2 ⟨(cg.1 cm).1,J⟩
   cases this
  ·simp only[List.filter_nil,bM]at hperm
   exact (hperm.map _).append_right os
 | m+1,l,listed,done,g,a,w,hm,hsort,hsz,hcl,hmem,hperm,hS,h=>by
  refine⟨fun b5=>?_,fun j hj=>?_⟩
  ·exfalso
   cases l with
   | nil=>simp at hm
   | cons i r=>
    obtain⟨b4,J⟩:=(hmem i).1 (by simp)
    have hi:i∈Region.ready .any ops listed:=by
     refine mem_ready.2 ⟨J,ops[i],by simp[b4],fun e he hb=>?_⟩
     have N:=U i ops[i] (by simp[b4]) e he hb
     cases hl:listed.getD e.on false with
     | true=>rfl
     | false=>
      have ct:e.on<listed.size:=by rw[hsz]; omega
      have c0:listed.getD e.on true=false:=by simp[ct]at hl ⊢; exact hl
      have c1:=(hmem e.on).2 ⟨by omega,c0⟩
      rcases aM.1 c1 with O | O
      ·omega
      ·have:=(fY.1 hsort).1 e.on O
       omega
    rw[b5]at hi
    cases hi
  ·obtain⟨J,G,B,Z⟩:=mem_ready.1 hj
   have X:j<ops.size:=(cg.1 B).1
   have c2:j∈l:=(hmem j).2 ⟨X,J⟩
   obtain⟨l1,A,rfl⟩:=List.append_of_mem c2
   have N:∀i∈l1,i<j:=fun i hi=>(cc.1 hsort).2.2 i hi j (by simp)
   have O:=yf hs ⟨w,hS.tail⟩ l1 A g a (fun i hi=>⟨Nat.ne_of_lt (N i hi),fun oi c3 c4 b6=>by
    refine V i j (N i hi) X ?_ oi c3 c4 b6
    cases hr:gd ops ops.size j i with
    | false=>rfl
    | true=>
     have h2:=iH hcl ops.size j i G B Z hr
     have h3:=((hmem i).1 (by simp[hi])).2
     rw[bR]at h2 h3
     have:i<listed.size:=by rw[hsz]; exact fU (N i hi) X
     simp[this]at h2 h3
     rw[h2]at h3; cases h3⟩) h
   have R:(l1++A).Pairwise (·<·):=by
    refine hsort.sublist ?_
    exact List.Sublist.append_left (List.sublist_cons_self j A) l1
   have ac:(l1++A).length=m:=by simp at hm ⊢; omega
   have ad:closed ops (listed.setIfInBounds j true):=by
    intro k ok hk hl e he hb
    by_cases hkj:j=k
    ·subst hkj
     have:ok=G:=dW (hk.symm.trans B)
     subst this
     exact getD_set_true (Z e he hb)
    ·rw[getD_set_ne false hkj]at hl
     exact getD_set_true (hcl k ok hk hl e he hb)
   have c6:j ∉ l1++A:=by
    intro hx
    rcases bE.1 hx with hx | hx
    ·exact absurd (N j hx) (jm _)
    ·have:=(cc.1 hsort).2.1
     have:=(fY.1 this).1 j hx
     exact absurd this (jm _)
   have Y:∀i,i∈l1++A↔i<ops.size/\(listed.setIfInBounds j true).getD i true=false:=by
    intro i
    by_cases hij:j=i
    ·subst hij
     constructor
     ·intro hx; exact absurd hx c6
     ·intro hx
      have:=mF (listed:=listed) (i:=j) (by rw[hsz]; exact X) true
      rw[this]at hx; cases hx.2
    ·rw[getD_set_ne true hij,<-hmem i]
     simp only[bE,aM]
     constructor
     ·rintro (hx | hx)
      ·exact .inl hx
      ·exact .inr (.inr hx)
     ·rintro (hx | hx | hx)
      ·exact .inl hx
      ·exact absurd hx.symm hij
      ·exact .inr hx
   simp only[lxN,B]at O
   by_cases hn:nw j=true
   ·rw[ag hn]at O
    obtain⟨⟨hw,b8⟩,b3⟩:=O
    obtain⟨v,w',hr,dc⟩:=b8 w _ hS
    have al:j ∉ done:=by
     have b9:=hperm.nodup_iff.2 I
     have:=(List.nodup_append.1 b9).2.2
     intro al
     exact this j al j (by simp[hn]) rfl
    have ce:done.map (fun i=>ent i (upd g j v i))=done.map (fun i=>ent i (g i)):=by
     refine List.map_congr_left fun i hi=>?_
     have:i≠j:=fun e=>al (e ▸ hi)
     simp[upd,this]
    unfold wpOp
    simp only[B]
    rw[ag hw]
    left
    unfold Oper.wp
    rw[hr]
    refine sr hs U V I m (l1++A) _ (j :: done) (upd g j v) _ w' ac R (by simp[hsz]) ad Y ?_ ?_ (b3 v)
    ·refine List.Perm.trans ?_ hperm
     simp only[List.filter_append,List.filter_cons,hn,am,dA]
     have:(done++(l1.filter nw++j :: A.filter nw)).Perm (j :: (done++(l1.filter nw++A.filter nw))):=by
      rw[<-aS,<-aS]
      exact gu
     exact this.symm
    ·simp only[cZ,dA,ce]
     have:upd g j v j=v:=by simp[upd]
     rw[this]; exact dc
   ·rw[ae hn]at O
    obtain⟨v,hv,h2⟩:=O
    have ap:(done++(l1++A).filter nw).Perm news:=by
     have dd:nw j=false:=by simpa using hn
     simpa [List.filter_append,List.filter_cons,dd] using hperm
    have ih:wpAny P .any ops Q m (listed.setIfInBounds j true) (a.put G.dst v) w:=
     sr hs U V I m (l1++A) _ done g _ w ac R (by simp[hsz]) ad Y ap hS h2
    unfold wpOp
    simp only[B]
    rcases hv with⟨hw,hv⟩ | ⟨hw,rfl⟩
    ·rw[ag hw]
     left
     unfold Oper.wp
     rw[hv w hS.tail]
     exact ih
    ·rw[ae (by rw[hw]; simp)]
     exact ih
variable {n:Nat} {L:Env}
def ue (P:Program) (n:Nat) (ops:Array Oper) (Q:Exit->Act->World->Prop) (nw:Nat->Bool) (S:L02) (w0:World) (os:List OE) (ent:Nat->Value->OE) (news:L02) (l:L02) (g:Nat->Value) (L:Env):Prop:=
 ∀a,Rep n L a->lxN P ops Q nw S w0 os ent news l g a
theorem JX {g:Nat->Value} (h:∀w,St S w0 w (news.map (fun i=>ent i (g i))++os)->QE n Q .normal L w):ue P n ops Q nw S w0 os ent news [] g L:=
 fun a ha w hw=>h w hw a ha
theorem kf {i:Nat} {r:L02} {g:Nat->Value} {d:Nat} {op:Op} {ty:TypeId} {pos:String} {after:Array Edge} {v:Value} (A:ops[i]? = some ⟨some d,op,ty,pos,after,none⟩) (hf:nw i=false)
  (B:∀w,St S w0 w os->OpV P n L w ⟨some d,op,ty,pos,after,none⟩ v w) (hd:Nat.blt d n=true) (h:ue P n ops Q nw S w0 os ent news r g ((d,v) :: L)):ue P n ops Q nw S w0 os ent news (i :: r) g L:=fun a ha=>by
 simp only[lxN,A,hf,ah,aj]
 exact⟨v,.inl ⟨by simp[Region.wanted],fun w' j=>B w' j a ha⟩,h _ (ha.put hd)⟩
theorem tT (E:Value->OE) {i:Nat} {r:L02} {g:Nat->Value} {d:Nat} {op:Op} {ty:TypeId} {pos:String} {after:Array Edge} (j:ops[i]? = some ⟨some d,op,ty,pos,after,none⟩) (hf:nw i=true) (hE:∀v,ent i v=E v)
  (A:∀w os',St S w0 w os'->OpX P n L w ⟨some d,op,ty,pos,after,none⟩ (fun v w'=>St S w0 w' (E v :: os'))) (hd:Nat.blt d n=true)
  (h:∀v,ue P n ops Q nw S w0 os ent news r (upd g i v) ((d,v) :: L)):ue P n ops Q nw S w0 os ent news (i :: r) g L:=fun a ha=>by
 simp only[lxN,j,hf,am]
 refine⟨⟨by simp[Region.wanted],fun w os' hS=>?_⟩,fun v=>h v _ (ha.put hd)⟩
 obtain⟨v,w',B,G⟩:=A w os' hS
 exact⟨v,w',B a ha,by rw[hE]; exact G⟩
theorem C4 {id:Nat} {l:List Oper} {w:World} (nw:Nat->Bool) (ent:Nat->Value->OE) (hS:St S w0 w os) (hm:P.follows .mixedOrders=true)
  (A:(mn l.toArray&&pZ l.toArray&&pT l.toArray (fun _=>true))=true)
  (h:ue P n l.toArray Q nw S w0 os ent ((List.range l.length).filter nw) (List.range l.length) (fun _=>undef) L):wpC P n (.region id l.toArray true) Q L w:=
 fun a ha=>by
  simp only[aO]at A
  refine wp_region_any hm ?_
  refine sr (pV A.1.1) (so A.1.2) (fun i j B I J N G O R=>(rV A.2 i j B I J N G O R).1) (List.nodup_range.filter _) _ (List.range l.length) _ [] (fun _=>undef) a _ (by simp) List.pairwise_lt_range (by simp) (fun j G U hl=>?_) (fun i=>?_) (by simp) (by simpa using hS.drew) (h a ha)
  ·rw[bR,ez]at hl
   split at hl <;> simp at hl
  ·rw[bR,ez]
   by_cases B:i<l.length
   ·simp[B]
   ·simp[B]
end
section
variable {P:Program} {n:Nat} {L:Env} {w w' w0:World} {Q:Exit->Act->World->Prop} {S:L02} {os os0 os1:List OE}
variable {d:Option Tmp} {ty:TypeId} {pos:String} {after:Array Edge}
def twE {τ:Type} (e:Enc τ) (va:Value) (la:List τ) (q:Nat):OE:=if q=0 then red e (.slice none 0 0) ([]:List τ) else red e va la
def Tw {τ:Type} (va:Value) (la:List τ) (v:Value) (l:List τ) (q:Nat):Prop:=
 q=0->∃a c c' t,va=.slice a la.length c/\la.length<=c/\v=.slice a l.length c'/\l=la++t
theorem Tw.ro {τ:Type} {e:Enc τ} {G v:Value} {I l:List τ} {q:Nat} {B:Nat} (h:Tw G I v l q) (he:(twE e G I q).ok S B w) (N:RO w e v l):RO w e G I:=by
 by_cases hq:q=0
 ·obtain⟨a,c,U,t,rfl,hc,rfl,rfl⟩:=h hq
  obtain⟨a2,V,O,X,R⟩:=N
  injection O with e1 e2 e3
  subst e1
  refine⟨a,c,rfl,hc,fun hl=>?_⟩
  obtain⟨b,off,hb,A⟩:=R (by simp[hl])
  refine⟨b,off,hb,fun j u J=>A j u ?_⟩
  rw[e.fl_append,List.getElem?_append_left (aF.1 J).1]
  exact J
 ·unfold twE at he
  rw[ae hq]at he
  exact he.rro
theorem J6 {α:Type} {l:List α} {j:Nat} {x:α} (h:l[j]? = some x):l.set j x=l:=by
 apply List.ext_getElem?
 intro k
 rw[gg]
 split
 ·rename_i A
  subst A
  have:=(aF.1 h).1
  rw[ag this,h]
 ·rfl
theorem _root_.Eq.to {op:BinOp} {T:TypeId} {x y:Value} {b b':Bool} (h:b=b') (hb:cj P op T x y (vB b)):cj P op T x y (vB b'):=h ▸ hb
theorem qP {D T E:TypeId} {x:Operand} {l:L01} (N:P.underlying D=some .string) (hT:P.underlying T=some (.slice E)) (hE:P.underlying E=some (.int .u8))
  (hx:L.ev x=some (vS l)) (hS:St S w0 w os) (hl:l.length<=225000000000000) :
  OpX P n L w ⟨d,.convert D T x,ty,pos,after,none⟩ (fun v w'=>St S w0 w' (own e8 v l :: os)):=by
 have O:=Lib.run_convert_string_bytes (P:=P) w D T E ⟨⟨l⟩⟩ N hT hE
 have G:Fr [] w (Lib.bytesWorld w E ⟨⟨l⟩⟩):=⟨rfl,rfl,rfl,by rw[Lib.bytesWorld_size]; omega,fun k B _=>Lib.bytesWorld_at_old w E ⟨⟨l⟩⟩ k B⟩
 have A:=grownCap_ge w (⟨⟨l⟩⟩:ByteArray).size 0 E
 have j:(⟨⟨l⟩⟩:ByteArray).size=l.length:=rfl
 have I:(own e8 (.slice (some ⟨w.heap.size,0,none⟩) l.length (grownCap w (⟨⟨l⟩⟩:ByteArray).size 0 E)) l).ok S w0.heap.size (Lib.bytesWorld w E ⟨⟨l⟩⟩):=by
  refine⟨e8.fl_length l,.inr ⟨w.heap.size,_,Lib.bytesCells w E ⟨⟨l⟩⟩,E,rfl,hS.fresh,⟨_,Lib.bytesWorld_at_new w E ⟨⟨l⟩⟩,.inr (aw _)⟩,A,?_,?_,?_⟩⟩
  ·exact grownCap_le_maxLen w _ 0 E (by rw[j]; simp[maxLen]; omega)
  ·simp only[Lib.bytesCells,iP,Array.size_map,Array.size_replicate]
   show _*1<=_
   have:(⟨⟨l⟩⟩:ByteArray).data.size=l.length:=rfl
   rw[this,j]
   rw[j]at A
   omega
  ·rw[show l.length*e8.sz=l.length from cE _,we]
   simp only[Lib.bytesCells,ib,Array.toList_map]
   rw[fE (by simp)]
 have J:=hS.push G I fun k B=>by
  simp[OE.blk,Value.ownBlock]at B; omega
 refine iC _ _ (fun a ha=>?_) J
 simp only[execOp,ha.ev hx,Sem.run_bind,O,Result.andThen_ok]; rfl
end
def isB (want:Bool):Value->Bool
 | .bool b=>b == want
 | _=>false
def Kg (op:BinOp) (x y:Int):Option Value:=match op with
 | .add=>some (vI (wI (x+y)))
 | .sub=>some (vI (wI (x - y)))
 | .eql=>some (vB (x == y))
 | .neq=>some (vB (x != y))
 | .lss=>some (vB (decide (x<y)))
 | .leq=>some (vB (decide (x<=y)))
 | .gtr=>some (vB (decide (y<x)))
 | .geq=>some (vB (decide (y<=x)))
 | _=>none
def rH (L:Env):Op->Option Value
 | .move x=>L.ev x
 | .assign x=>L.ev x
 | .pick c x y=>match L.ev c with
  | some (.bool true)=>L.ev x
  | some (.bool false)=>L.ev y
  | _=>none
 | .extract x i=>match L.ev x with
  | some (.tuple vs)=>vs.toList[i]?
  | _=>none
 | .unOp op _ x=>match op,L.ev x with
  | .not,some (.bool b)=>some (vB (!b))
  | _,_=>none
 | .binOp op _ x y _=>match L.ev x,L.ev y with
  | some (.int .i64 a),some (.int .i64 b)=>Kg op a b
  | _,_=>none
 | _=>none
def ug (ops:Array Oper) (n:Nat):Nat->Env->List Oper->Option (Env×List Oper)
 | 0,L,l=>some (L,l)
 | m+1,L,o :: l=>match o.dst with
  | none=>none
  | some d=>bif Nat.blt d n then
   match o.guard with
   | none=>match rH L o.op with
    | some v=>ug ops n m ((d,v) :: L) l
    | none=>none
   | some (j,want)=>match (ops[j]?).bind (·.dst) with
    | none=>none
    | some t=>match L.get t with
     | none=>none
     | some v=>bif isB want v then (match rH L o.op with
      | some u=>ug ops n m ((d,u) :: L) l
      | none=>none) else ug ops n m ((d,undef) :: L) l
   else none
 | _+1,_,[]=>none
section
variable {P:Program} {n:Nat} {L:Env} {w:World} {Q:Exit->Act->World->Prop}
theorem NP {op:BinOp} {T:TypeId} {x y:Int} {v:Value} (h:Kg op x y=some v):cj P op T (vI x) (vI y) v:=by
 cases op <;> simp only[Kg]at h <;> first | (cases h; fail) | (injection h with h; subst h; first | exact mo _ _ _ | exact my _ _ _ | exact BE _ _ _ | exact H2 _ _ _ | exact lS _ _ _ | exact qr _ _ _ | exact vk _ _ _ | exact HD _ _ _) | cases h
theorem xh {d:Option Tmp} {op:Op} {v:Value} {ty:TypeId} {pos:String} {after:Array Edge} (h:rH L op=some v):OpV P n L w ⟨d,op,ty,pos,after,none⟩ v w:=by
 unfold rH at h
 split at h
 ·exact oN h
 ·exact dp h
 ·split at h
  ·rename_i e; exact ya e h
  ·rename_i e; exact yE e h
  ·cases h
 ·split at h
  ·rename_i e
   refine tH e ?_
   rw[<-gH]; exact h
  ·cases h
 ·split at h
  ·rename_i e; cases h; exact GC e (Ll _)
  ·cases h
 ·split at h
  ·rename_i j A; exact bH j A (NP h)
  ·cases h
 ·cases h
theorem ar {ops:Array Oper}:∀(m:Nat) {L B:Env} {rest A:List Oper},ug ops n m L rest=some (B,A)->wpR P n ops Q A B w->wpR P n ops Q rest L w
 | 0,L,B,rest,A,h,k=>by simp only[ug]at h; cases h; exact k
 | m+1,L,B,[],A,h,k=>by simp[ug]at h
 | m+1,L,B,o :: l,A,h,k=>by
  obtain⟨dst,op,ty,pos,after,I⟩:=o
  simp only[ug]at h
  cases dst with
  | none=>cases h
  | some d=>
   simp only at h
   cases hd:Nat.blt d n with
   | false=>rw[hd]at h; cases h
   | true=>
    rw[hd]at h
    simp only[cond_true]at h
    cases I with
    | none=>
     simp only at h
     cases hv:rH L op with
     | none=>rw[hv]at h; cases h
     | some v=>rw[hv]at h; exact aQ (xh hv) hd (ar m h k)
    | some g=>
     obtain⟨j,G⟩:=g
     simp only at h
     cases hj:(ops[j]?).bind (·.dst) with
     | none=>rw[hj]at h; cases h
     | some t=>
      rw[hj]at h
      simp only at h
      cases hg:L.get t with
      | none=>rw[hg]at h; cases h
      | some v=>
       rw[hg]at h
       simp only at h
       cases hb:isB G v with
       | true=>
        rw[hb]at h
        simp only[cond_true]at h
        have J:v=vB G:=by
         cases v <;> simp[isB]at hb
         subst hb; rfl
        subst J
        cases hv:rH L op with
        | none=>rw[hv]at h; cases h
        | some u=>rw[hv]at h; exact dJ hj hg (xh hv) hd (ar m h k)
       | false=>
        rw[hb]at h
        simp only[cond_false]at h
        intro a ha
        unfold wpList
        rw[ae (by
         have:=ha.get t _ hg
         simp only[Region.wanted,yielded,hj,Option.bind_some,this]
         cases v <;> simp_all [isB])]
        exact ar m h k _ (ha.put hd)
def vE (ops:Array Oper) (fl:Nat->Bool) (n:Nat):Nat->Env->L02->Option (Env×L02)
 | 0,L,l=>some (L,l)
 | m+1,L,i :: l=>match ops[i]? with
  | some ⟨some d,op,_,_,_,none⟩=>bif fl i&&Nat.blt d n then (match rH L op with
   | some v=>vE ops fl n m ((d,v) :: L) l
   | none=>none) else none
  | _=>none
 | _+1,_,[]=>none
theorem cG {P:Program} {n:Nat} {w:World} {Q:Exit->Act->World->Prop} {ops:Array Oper} {C D:World->Prop} {fl:Nat->Bool}:∀(m:Nat) {L j:Env} {l l':L02},vE ops fl n m L l=some (j,l')->C w->lxE P n ops C D Q fl l' j w->lxE P n ops C D Q fl l L w
 | 0,L,j,l,l',h,hC,k=>by simp only[vE]at h; cases h; exact k
 | m+1,L,j,[],l',h,hC,k=>by simp[vE]at h
 | m+1,L,j,i :: l,l',h,hC,k=>by
  simp only[vE]at h
  split at h
  ·rename_i d op ty pos after A
   cases hb:fl i&&Nat.blt d n with
   | false=>rw[hb]at h; cases h
   | true=>
    rw[hb]at h
    simp only[cond_true]at h
    rw[aO]at hb
    cases hv:rH L op with
    | none=>rw[hv]at h; cases h
    | some v=>rw[hv]at h; exact cC hC A hb.1 (fun w _=>xh hv) hb.2 (cG m h hC k)
  ·cases h
end
def Up (cs:List Value) (off:Nat) (xs cs' xs':List Value):Prop:=∃A B,cs=A++(xs++B)/\cs'=A++(xs'++B)/\A.length=off
theorem Up.here {xs xs' B:List Value}:Up (xs++B) 0 xs (xs'++B) xs':=⟨[],B,rfl,rfl,rfl⟩
theorem Up.last {xs xs':List Value}:Up xs 0 xs xs' xs':=⟨[],[],by simp,by simp,rfl⟩
theorem Up.skip {cs j xs xs' A:List Value} {k off o:Nat} (hA:A.length=k) (h:Up cs off xs j xs') (G:k+off=o):Up (A++cs) o xs (A++j) xs':=by
 obtain⟨C,B,I,J,N⟩:=h
 exact⟨A++C,B,by rw[I,aS],by rw[J,aS],by rw[aE,hA,N,G]⟩
theorem Up.get {cs j xs':List Value} {off:Nat} {u:Value} (h:Up cs off [u] j xs'):cs[off]? = some u:=by
 obtain⟨A,B,rfl,_,rfl⟩:=h
 simp
theorem Up.get0 {cs:List Value} {off:Nat} {u:Value} (h:Up cs off [u] cs [u]):cs[off]? = some u:=h.get
theorem Up.gets {cs G xs xs':List Value} {off:Nat} (h:Up cs off xs G xs') {j:Nat} {u:Value} (I:xs[j]? = some u):cs[off+j]? = some u:=by
 obtain⟨A,B,rfl,_,rfl⟩:=h
 rw[eO (by omega),dm,List.getElem?_append_left (aF.1 I).1]
 exact I
theorem Up.spl {cs j xs xs':List Value} {off:Nat} (h:Up cs off xs j xs') (hl:xs'.length=xs.length):spl cs off xs'=j:=by
 obtain⟨A,B,rfl,rfl,rfl⟩:=h
 unfold Go.Gk.spl
 rw[gi,hl,<-aS A xs B,ju (by simp),aS]
theorem Up.le {cs j xs xs':List Value} {off:Nat} (h:Up cs off xs j xs'):off+xs.length<=cs.length:=by
 obtain⟨A,B,rfl,rfl,rfl⟩:=h
 simp only[aE]; omega
section
variable {τ:Type} {e:Enc τ} {l:List τ}
theorem Ms {j:Int} {t B:τ} {u G:Value} (hy:ax l j=some t) (hu:e.cells t=[u]) (I:e.cells B=[G]):Up (e.fl l) (j.toNat*1) [u] (e.fl (l.set j.toNat B)) [G]:=by
 obtain⟨O,A,hg⟩:=gj hy
 have hl:l=l.take j.toNat++(t :: l.drop (j.toNat+1)):=by
  have N:l[j.toNat]=t:=by rw[aA A]at hg; exact dW hg
  rw[<-N,<-bc A,cD]
 have hs:l.set j.toNat B=l.take j.toNat++(B :: l.drop (j.toNat+1)):=by
  rw[fI,ag A]
 refine⟨e.fl (l.take j.toNat),e.fl (l.drop (j.toNat+1)),?_,?_,?_⟩
 ·conv=>lhs; rw[hl]
  rw[e.fl_append]; congr 1
  simp[Enc.fl,hu]
 ·rw[hs,e.fl_append]; congr 1
  simp[Enc.fl,I]
 ·have J:e.sz=1:=by rw[<-e.len t,hu]; rfl
  rw[e.fl_length,J,aN]; omega
theorem Up.sub {cs j I G xs xs':List Value} {off k:Nat} (h:Up cs off I j G) (g:Up I k xs G xs'):Up cs (off+k) xs j xs':=by
 obtain⟨A,B,rfl,rfl,rfl⟩:=h
 obtain⟨C,D,rfl,rfl,rfl⟩:=g
 exact⟨A++C,D++B,by simp,by simp,by simp⟩
theorem Up.elt {cs A:List Value} {off:Nat} {j:Int} {t B:τ} {u G:Value} (h:Up cs off (e.fl l) A (e.fl (l.set j.toNat B))) (hy:ax l j=some t) (hu:e.cells t=[u]) (I:e.cells B=[G]):Up cs (off+j.toNat*1) [u] A [G]:=
 h.sub (Ms hy hu I)
theorem Up.elr {cs:List Value} {off:Nat} {j:Int} {t:τ} {u:Value} (h:Up cs off (e.fl l) cs (e.fl l)) (hy:ax l j=some t) (hu:e.cells t=[u]):cs[off+j.toNat*1]? = some u:=by
 obtain⟨G,B,hg⟩:=gj hy
 have A:e.sz=1:=by rw[<-e.len t,hu]; rfl
 have:=e.fl_get l j.toNat t hg 0 (by omega)
 rw[A,hu]at this
 exact h.gets (by simpa using this)
theorem Ej {j:Int} {t:τ} {m:Nat} (hy:ax l j=some t) (hl:l.length=m):0<=j/\j<(m:Int):=by
 obtain⟨B,A,_⟩:=gj hy
 omega
theorem fu {m:Nat} (hl:l.length=m) (hs:e.sz=1):(e.fl l).length=m:=by rw[e.fl_length,hs,cE,hl]
theorem NL {A B:List Value} {a b c:Nat} (j:A.length=a) (G:B.length=b) (h:a+b=c):(A++B).length=c:=by rw[aE,j,G,h]
theorem vd:∀u∈e.fl l,u.oneCell'=true:=e.fl_one l
theorem Na {A B:List Value} (j:∀u∈A,u.oneCell'=true) (G:∀u∈B,u.oneCell'=true):∀u∈A++B,u.oneCell'=true:=fun u hu=>by
 rcases bE.1 hu with h | h
 ·exact j u h
 ·exact G u h
theorem wE {v:Value} (h:v.oneCell'=true):∀u∈[v],u.oneCell'=true:=fun u hu=>by
 simp at hu; subst hu; exact h
theorem xn {j:Int} {t:τ} {u:Value} (hy:ax l j=some t) (hu:e.cells t=[u]):((e.fl l).toArray)[j.toNat*1]? = some u:=by
 have:=Up.elr (cs:=e.fl l) (off:=0) Up.last hy hu
 simpa using this
end
section
variable {P:Program} {n:Nat} {L:Env} {w w0:World} {Q:Exit->Act->World->Prop} {S:L02} {os:List OE}
variable {d:Option Tmp} {ty:TypeId} {pos:String} {after:Array Edge}
theorem Nx {T E:TypeId} {m:Nat} {x y:Operand} {b off:Nat} {k:IntKind} {i:Int} (hT:P.underlying T=some (.array m E)) (hE:(P.info? E).map (·.size)=some 1)
  (hx:L.ev x=some (pB b off)) (hy:L.ev y=some (.int k i)) (h:0<=i/\i<(m:Int)):OpV P n L w ⟨d,.indexAddr T x y,ty,pos,after,none⟩ (pB b (off+i.toNat*1)) w:=
 kw hT hE hx hy h.1 h.2
theorem mQ {T:TypeId} {D:TypeDesc} {x:Operand} {b off m:Nat} {us:List Value} (hT:P.underlying T=some D) (A:(match D with | .struct _ | .array _ _=>true | _=>false)=true)
  (hi:(P.info? T).map (·.size)=some m) (hl:us.length=m) (hx:L.ev x=some (pB b off)) (hc:∀j u,us[j]? = some u->w.cell? ⟨b,off+j,none⟩=some u) :
  OpV P n L w ⟨d,.load T x,ty,pos,after,none⟩ (.agg us.toArray) w:=BS hT A (by rw[hl]; exact hi) hx hc
theorem St.bxg (h:St S w0 w os) (i:Nat) {b:Nat} {cs:List Value} (hi:os[i]? = some (.bx b cs)) {off:Nat} {u:Value} (hu:cs[off]? = some u):w.cell? ⟨b,off,none⟩=some u:=(h.bxc i hi off).trans hu
theorem St.bxgs (h:St S w0 w os) (i:Nat) {b:Nat} {cs xs A xs':List Value} (hi:os[i]? = some (.bx b cs)) {off:Nat} (hu:Up cs off xs A xs'):∀j u,xs[j]? = some u->w.cell? ⟨b,off+j,none⟩=some u:=
 fun j u B=>(h.bxc i hi _).trans (hu.gets B)
theorem St.bxgs0 (h:St S w0 w os) (i:Nat) {b:Nat} {cs xs:List Value} (hi:os[i]? = some (.bx b cs)) {off:Nat} (hu:Up cs off xs cs xs):∀j u,xs[j]? = some u->w.cell? ⟨b,off+j,none⟩=some u:=h.bxgs i hi hu
theorem St.bxroA {τ:Type} {e:Enc τ} {l:List τ} {b off m:Nat} {cs:List Value} (h:St S w0 w os) (i:Nat) (hi:os[i]? = some (.bx b cs)) (hl:l.length=m) (hu:Up cs off (e.fl l) cs (e.fl l)):RO w e (.slice (some ⟨b,off,none⟩) m m) l:=by
 subst hl
 exact⟨_,_,rfl,aw _,fun _=>⟨b,off,rfl,h.bxgs i hi hu⟩⟩
theorem oD {T:TypeId} {x y:Operand} {b off i m:Nat} {v:Value} {cs xs j xs':List Value} (hi:os[i]? = some (.bx b cs)) (A:(P.info? T).map (·.size)=some m)
  (hx:L.ev x=some (pB b off)) (hy:L.ev y=some v) (J:v.cells.toList=xs') (hu:Up cs off xs j xs') (hm:xs.length=m) (N:xs'.length=m) (V:∀u∈xs',u.oneCell'=true) (hS:St S w0 w os) :
  OpY P n L w ⟨none,.store T x y,ty,pos,after,none⟩ (fun w'=>St S w0 w' (os.set i (.bx b j))):=by
 obtain⟨X,B,hg,O,G⟩:=hS.setB (off:=off) (us:=xs') hi
 rw[hu.spl (by omega)]at G
 refine tg _ (fun a ha=>?_) G
 cases hq:P.info? T with
 | none=>simp[hq]at A
 | some inf=>
  have hs:inf.size=xs'.length:=by rw[N]; simpa [hq] using A
  have R:off+0+xs'.length<=B.size:=by
   have:=hu.le
   rw[<-O]at this
   simp only[fh]at this
   omega
  have I:=run_storeCells_at P b off X xs' 0 B w hg R V
  have U:v.cells.size=xs'.length:=by rw[<-J]; simp
  simp only[br]at I
  simp[execOp,Instr.storeAt,ha.ev hx,ha.ev hy,Instr.sureAddr,storeVar,sizeOf,typeInfo,hq,hs,J,U,I]
theorem JH {T E:TypeId} {m:Nat} {x y:Operand} {cs:Array Value} {k:IntKind} {i:Int} {u:Value} {D:TypeDesc} (hT:P.underlying T=some (.array m E)) (hE:P.underlying E=some D)
  (A:(match D with | .struct _ | .array _ _=>true | _=>false)=false) (j:(P.info? E).map (·.size)=some 1)
  (hx:L.ev x=some (.agg cs)) (hy:L.ev y=some (.int k i)) (h:0<=i/\i<(m:Int)) (hu:cs[i.toNat*1]? = some u):OpV P n L w ⟨d,.index T x y,ty,pos,after,none⟩ u w:=
 MC hT hE A j hx hy h.1 h.2 hu
theorem Lq {b off m lo hi:Nat}:slV (.slice (some ⟨b,off,none⟩) m m) 1 lo hi=.slice (some (if m=lo then ⟨b,off,none⟩ else (⟨b,off,none⟩:Addr).add (lo*1))) (hi - lo) (m - lo):=by
 simp only[slV]
 split <;> rfl
theorem PL {x y z:Operand} {T E:TypeId} {k A:IntKind} {lo hi:Int} {τ:Type} {e:Enc τ} {l r:List τ} {b off m:Nat} (hT:P.underlying T=some (.array m E)) (hE:(P.info? E).map (·.size)=some 1) (hs:e.sz=1)
  (hx:L.ev x=some (pB b off)) (hy:L.ev y=some (.int k lo)) (hz:L.ev z=some (.int A hi)) (hm:l.length=m) (hg:slO l lo hi=some r) :
  OpV P n L w ⟨d,.slice T x (some y) (some z) none,ty,pos,after,none⟩ (slV (.slice (some ⟨b,off,none⟩) m m) e.sz lo.toNat hi.toNat) w:=fun a ha=>by
 obtain⟨⟨B,R,U⟩,_⟩:=fT hg
 cases hi':P.info? E with
 | none=>rw[hi']at hE; cases hE
 | some inf=>
  have j:inf.size=1:=by rw[hi']at hE; simpa using hE
  have G:lo<=hi:=by omega
  have I:hi<=(m:Int):=by omega
  have J:0<=hi:=by omega
  have N:lo<=(m:Int):=by omega
  have O:(hi.toNat:Int)=hi:=by omega
  rw[hs,Lq]
  simp[execOp,ha.ev hx,ha.ev hy,ha.ev hz,Instr.sliceAt,Instr.sureAddr,run_underlying hT,Instr.sliceBounds,run_sliceBound,B,G,I,J,N,O,sizeOf,typeInfo,hi',j]
theorem Qp {x y:Operand} {T E:TypeId} {k:IntKind} {lo:Int} {τ:Type} {e:Enc τ} {l r:List τ} {b off m:Nat} (hT:P.underlying T=some (.array m E)) (hE:(P.info? E).map (·.size)=some 1) (hs:e.sz=1)
  (hx:L.ev x=some (pB b off)) (hy:L.ev y=some (.int k lo)) (hm:l.length=m) (hg:drO l lo=some r) :
  OpV P n L w ⟨d,.slice T x (some y) none none,ty,pos,after,none⟩ (slV (.slice (some ⟨b,off,none⟩) m m) e.sz lo.toNat l.length) w:=fun a ha=>by
 obtain⟨⟨A,G⟩,_⟩:=lD hg
 cases hi':P.info? E with
 | none=>rw[hi']at hE; cases hE
 | some inf=>
  have j:inf.size=1:=by rw[hi']at hE; simpa using hE
  have B:lo<=(m:Int):=by omega
  rw[hs,hm,Lq]
  simp[execOp,ha.ev hx,ha.ev hy,Instr.sliceAt,Instr.sureAddr,run_underlying hT,Instr.sliceBounds,run_sliceBound,A,B,sizeOf,typeInfo,hi',j]
theorem HO {x y:Operand} {T T2 E:TypeId} {τ:Type} {e:Enc τ} {z:Value} {bytes:Nat} {u:Value} {l m:List τ} {i lo hi b off q:Nat} {cs G:List Value} (hT:P.underlying T=some (.slice E)) (hE:TI P E z e.sz bytes) (j:e.sz=1)
  (hx:L.ev x=some (slV (.slice (some ⟨b,off,none⟩) q q) e.sz lo hi)) (hy:L.ev y=some u) (hS:St S w0 w os) (U:os[i]? = some (.bx b cs)) (hq:l.length=q) (al:Up cs off (e.fl l) G (e.fl (cpL l m lo hi))) (hu:RO w e u m) (h1:lo<=hi) (h2:hi<=l.length) :
  OpX P n L w ⟨d,.call ⟨.builtin .copy,#[x,y],#[T,T2]⟩,ty,pos,after,none⟩ (fun r w'=>r=vI (min m.length (hi - lo):Nat)/\St S w0 w' (os.set i (.bx b G))):=by
 obtain⟨ce,V,_,hs,_⟩:=hE.get
 have hk:=oo (P:=P) hu (min m.length (hi - lo)) (Nat.min_le_left _ _)
 obtain⟨ua,uc,rfl,cf,cm⟩:=hu
 obtain⟨A,B,hA,b3,X⟩:=al
 have b4:e.fl (m.take (min m.length (hi - lo)))=(e.fl m).take (min m.length (hi - lo)):=by rw[e.fl_take,j,cE]
 have J:(e.fl (m.take (min m.length (hi - lo)))).length=min m.length (hi - lo):=by rw[e.fl_length,j]; simp
 have b5:cpL l m lo hi=l.take lo++m.take (min m.length (hi - lo))++l.drop (lo+min m.length (hi - lo)):=by
  unfold cpL
  congr 2
  by_cases h:m.length<=hi - lo
  ·rw[bg h,aC h,aC (aw _)]
  ·rw[Nat.min_eq_right (by omega)]
 have N:spl cs (off+lo) (e.fl (m.take (min m.length (hi - lo))))=G:=by
  have b6:l=l.take lo++(l.drop lo).take (min m.length (hi - lo))++l.drop (lo+min m.length (hi - lo)):=by
   rw[aS,<-gk,cD,cD]
  have ac:Up cs (off+lo) (e.fl ((l.drop lo).take (min m.length (hi - lo)))) G (e.fl (m.take (min m.length (hi - lo)))):=by
   refine⟨A++e.fl (l.take lo),e.fl (l.drop (lo+min m.length (hi - lo)))++B,?_,?_,?_⟩
   ·rw[hA]
    conv=>lhs; rw[b6]
    simp[e.fl_append]
   ·rw[b3,b5]; simp[e.fl_append]
   ·rw[aE,X,e.fl_length,j,aN]; omega
  refine ac.spl ?_
  rw[J,e.fl_length,j,aN,bZ]; omega
 obtain⟨T',I,hg,b7,Y⟩:=hS.setB (off:=off+lo) (us:=e.fl (m.take (min m.length (hi - lo)))) U
 rw[N]at Y
 have b9:off+lo+min m.length (hi - lo)<=I.size:=by
  have:I.size=cs.length:=by rw[<-b7]; simp
  rw[this,hA,aE,aE,X,e.fl_length,j]; omega
 by_cases hcl:q=lo
 ·have hz:hi - lo=0:=by omega
  refine iC (vI 0) w (fun a ha=>?_) ⟨by rw[hz]; simp,?_⟩
  ·have O:slV (.slice (some ⟨b,off,none⟩) q q) e.sz lo hi=.slice (some ⟨b,off,none⟩) (hi - lo) (q - lo):=by simp[slV,hcl]
   rw[O]at hx
   simp only[hz,Nat.min_zero]at hk hx
   have hr:(Builtin.copy_ #[T,T2] ty #[.slice (some ⟨b,off,none⟩) 0 (q - lo),.slice ua m.length uc]).run P w=.ok (vI 0) w:=by
    simp[Builtin.copy_,run_underlying hT,Builtin.lenOf,sizeOf,typeInfo,V,hs,hk,goInt,Enc.fl,storeCells]
   simp[execOp,resolve,invoke,builtin,ha.ev hx,ha.ev hy,hr]
  ·have:G=cs:=by
    rw[<-N,hz]; simp[spl,Enc.fl]
   rw[this]
   have R:os.set i (.bx b cs)=os:=J6 U
   rw[R]; exact hS
 ·have O:slV (.slice (some ⟨b,off,none⟩) q q) e.sz lo hi=.slice (some ⟨b,off+lo,none⟩) (hi - lo) (q - lo):=by simp[slV,hcl,iO,j]
  rw[O]at hx
  have Z:=run_storeCells_at P b (off+lo) T' (e.fl (m.take (min m.length (hi - lo)))) 0 I w hg (by rw[J]; omega) (e.fl_one _)
  simp only[br]at Z
  refine iC _ _ (fun a ha=>?_) ⟨rfl,Y⟩
  have hr:(Builtin.copy_ #[T,T2] ty #[.slice (some ⟨b,off+lo,none⟩) (hi - lo) (q - lo),.slice ua m.length uc]).run P w=.ok (vI (min m.length (hi - lo):Nat)) (w.setRow b (I.toList.take (off+lo)++e.fl (m.take (min m.length (hi - lo)))++I.toList.drop (off+lo+(e.fl (m.take (min m.length (hi - lo)))).length)).toArray):=by
   simp[Builtin.copy_,run_underlying hT,Builtin.lenOf,sizeOf,typeInfo,V,hs,hk,Z,goInt]
  simp[execOp,resolve,invoke,builtin,ha.ev hx,ha.ev hy,hr]
def GA {τ:Type} (S:L02) (w0:World) (g:Nat) (e:Enc τ) (l:List τ):Prop:=(∀j u,(e.fl l)[j]? = some u->w0.cell? ⟨g,j,none⟩=some u)/\g ∉ S
theorem GA.cells {τ:Type} {g:Nat} {e:Enc τ} {l:List τ} (h:GA S w0 g e l) (hf:Fr S w0 w):∀j u,(e.fl l)[j]? = some u->w.cell? ⟨g,0+j,none⟩=some u:=fun j u A=>by
 have:=h.1 j u A
 rw[bm,hf.cell (mg this) h.2]
 exact this
theorem GA.cell {τ:Type} {g:Nat} {e:Enc τ} {l:List τ} (h:GA S w0 g e l) (hf:Fr S w0 w) {j:Int} {t:τ} {u:Value} (hy:ax l j=some t) (hu:e.cells t=[u]):w.cell? ⟨g,0+j.toNat*1,none⟩=some u:=
 h.cells hf _ u (by have:=Up.elr (cs:=e.fl l) (off:=0) Up.last hy hu; simpa using this)
theorem GA.now {τ:Type} {g:Nat} {e:Enc τ} {l:List τ} (h:GA S w0 g e l) (hf:Fr S w0 w):GA [] w g e l:=⟨fun j u A=>by have:=h.cells hf j u A; simpa using this,by simp⟩
theorem GA.give {τ:Type} {g:Nat} {e:Enc τ} {l:List τ} {os0:List OE} (h:GA S w0 g e l) (B:0<(e.fl l).length) (hS:St S w0 w (os0++os)):GA (ep os0) w g e l:=by
 refine⟨fun j u I=>by have:=h.cells hS.fr j u I; simpa using this,fun J=>?_⟩
 obtain⟨o,N,G⟩:=dO.1 J
 have A:=((hS.ok o (bW _ N)).lt G).2
 rcases A with A | A
 ·have:=mg (h.1 0 _ (aA B))
  simp only at this
  omega
 ·exact h.2 A
theorem H1 {x z u:Operand} {T E:TypeId} {k A:IntKind} {hi m:Int} {τ:Type} {e:Enc τ} {v z0:Value} {l:List τ} {bytes:Nat} (hT:P.underlying T=some (.slice E)) (hE:TI P E z0 e.sz bytes)
  (hx:L.ev x=some v) (hz:L.ev z=some (.int k hi)) (hu:L.ev u=some (.int A m)) (h:RO w e v l) (hg:0<=hi/\hi.toNat<=l.length/\m=hi) :
  OpV P n L w ⟨d,.slice T x none (some z) (some u),ty,pos,after,none⟩ (slV3 v e.sz 0 hi.toNat hi.toNat) w:=fun a ha=>by
 obtain⟨b,c,rfl,hc,_⟩:=h
 obtain⟨J,j,_,hs,_⟩:=hE.get
 obtain⟨B,N,rfl⟩:=hg
 have G:m<=(c:Int):=by omega
 have I:(m.toNat:Int)=m:=ic (by omega)
 simp[execOp,ha.ev hx,ha.ev hz,ha.ev hu,Instr.sliceAt,Instr.slice,run_underlying hT,Instr.sliceBounds,run_sliceBound,B,G,I,sizeOf,typeInfo,j,hs,slV3]
theorem OE.ok.cut3 {B:Nat} {τ:Type} {e:Enc τ} {v:Value} {l:List τ} {k:Nat} (h:(own e v l).ok S B w) (N:k<=l.length):(own e (slV3 v e.sz 0 k k) (l.take k)).ok S B w:=by
 refine⟨e.fl_length _,?_⟩
 rcases h.2 with⟨rfl,hn⟩ | ⟨g,G,I,T,rfl,hf,hg,R,U,J,A⟩
 ·have:k=0:=by omega
  subst this
  exact .inl ⟨by simp[slV3],by simp⟩
 ·have O:slV3 (.slice (some ⟨g,0,none⟩) l.length G) e.sz 0 k k=.slice (some ⟨g,0,none⟩) k k:=by
   simp[slV3,iO]
  have j:(l.take k).length=k:=by simp; omega
  refine .inr ⟨g,k,I,T,by rw[O,j],hf,hg,by rw[j]; exact aw _,by omega,aZ (aT _ (by omega)) J,?_⟩
  rw[j,e.fl_take,<-A,List.take_take,bg (aT _ N)]
theorem St.trunc3 {τ:Type} {e:Enc τ} {v:Value} {l:List τ} {i k:Nat} (h:St S w0 w os) (hi:os[i]? = some (own e v l)) (B:k<=l.length):St S w0 w (os.set i (own e (slV3 v e.sz 0 k k) (l.take k))):=by
 refine h.set hi (Fr.refl _ _) ((h.ok _ (bf hi)).cut3 B) fun q j=>.inl ?_
 have A:=h.ok _ (bf hi)
 rcases A.2 with⟨rfl,hn⟩ | ⟨g,G,I,T,rfl,_⟩
 ·simp[OE.blk,slV3,Value.ownBlock]at j
 ·simpa [OE.blk,slV3,iO,Value.ownBlock] using j
end
section
variable {S:L02} {w0 w:World} {os os0:List OE} {b:Nat} {cs:List Value}
def RB (S:L02) (w0:World) (b:Nat) (cs:List Value):Prop:=(∀j u,cs[j]? = some u->w0.cell? ⟨b,j,none⟩=some u)/\b ∉ S/\b<w0.heap.size
theorem RB.cells (h:RB S w0 b cs) (hf:Fr S w0 w):∀j u,cs[j]? = some u->w.cell? ⟨b,0+j,none⟩=some u:=fun j u A=>by
 have:=h.1 j u A
 rw[bm,hf.cell (mg this) h.2.1]
 exact this
theorem RB.cell (h:RB S w0 b cs) (hf:Fr S w0 w) (j:Nat) {u:Value} (A:cs[j]? = some u):w.cell? ⟨b,0+j,none⟩=some u:=h.cells hf j u A
theorem RB.now (h:RB S w0 b cs) (hf:Fr S w0 w):RB [] w b cs:=
 ⟨fun j u A=>by have:=h.cells hf j u A; simpa using this,by simp,aU h.2.2 hf.size⟩
theorem RB.give (h:RB S w0 b cs) (hS:St S w0 w (os0++os)):RB (ep os0) w b cs:=by
 refine⟨fun j u G=>by have:=h.cells hS.fr j u G; simpa using this,fun I=>?_,aU h.2.2 hS.fr.size⟩
 obtain⟨o,J,B⟩:=dO.1 I
 have A:=((hS.ok o (bW _ J)).lt B).2
 rcases A with A | A
 ·have:=h.2.2
  omega
 ·exact h.2.1 A
theorem St.rb (hS:St S w0 w os) (i:Nat) (hi:os[i]? = some (.bx b cs)):RB [] w b cs:=by
 obtain⟨hf,T,B,hg,G⟩:=hS.ok _ (bf hi)
 exact⟨fun j u A=>by rw[hS.bxc i hi]; exact A,by simp,(cg.1 hg).1⟩
theorem St.giveB (hS:St S w0 w (os0++os)) (i:Nat) (hi:os[i]? = some (.bx b cs)):RB (ep os0) w b cs:=by
 have hm:=bf hi
 have j:(os0++os)[os0.length+i]? = some (.bx b cs):=by rw[eO (by omega)]; simpa using hi
 obtain⟨B,_,G⟩:=hS.rb _ j
 refine⟨B,fun I=>?_,G⟩
 obtain⟨o,J,A⟩:=dO.1 I
 exact (cc.1 hS.dj).2.2 o J _ hm b A rfl
end
theorem CX {τ:Type} (k:Nat) (l:List τ):(l.take k).length<=l.length:=by rw[aN]; exact Nat.min_le_right _ _
theorem HL (a:Addr) (k:Nat):a.add (0*k)=a:=by
 rw[fv]
 unfold Addr.add
 cases a with
 | mk b off sp=>cases sp <;> simp
theorem oM (a:Option Addr) (k:Nat):a.map (·.add (0*k))=a:=by
 cases a with
 | none=>rfl
 | some a=>simp only[bL,HL]
theorem RO.full {w:World} {τ:Type} {e:Enc τ} {v:Value} {l:List τ} (h:RO w e v l):v=slV v e.sz 0 l.length:=by
 obtain⟨a,c,rfl,hc,_⟩:=h
 simp only[slV,fX,oM,jf]
theorem RO.cut3 {w:World} {τ:Type} {e:Enc τ} {v:Value} {l:List τ} (h:RO w e v l) (k m:Nat):Go.Gk.slV3 (slV v e.sz 0 k) e.sz 0 m m=Go.Gk.slV3 v e.sz 0 m m:=by
 obtain⟨a,c,rfl,hc,_⟩:=h
 simp only[slV,Go.Gk.slV3,fX,oM,jf]
theorem RO.tk3 {w:World} {τ:Type} {e:Enc τ} {v:Value} {l:List τ} (h:RO w e v l) {k:Nat} (j:k<=l.length):RO w e (slV3 v e.sz 0 k k) (l.take k):=by
 have:=h.sub3 (lo:=0) (hi:=k) (m:=k) (eZ _) j (aw _)
 simpa using this
theorem RP.tk3 {S:L02} {w:World} {τ:Type} {e:Enc τ} {v:Value} {l:List τ} (h:RP S w e v l) {k:Nat} (G:k<=l.length):RP S w e (slV3 v e.sz 0 k k) (l.take k):=by
 refine⟨h.1.tk3 G,fun hl j I hb=>?_⟩
 have A:l≠[]:=by rintro rfl; simp at hl
 refine h.2 A j I ?_
 obtain⟨a,c,rfl,hc,_⟩:=h.1
 have B:Aw (.slice a k k)=some j:=by simpa only [Go.Gk.slV3,fX,oM,jf] using hb
 cases a <;> exact B
section
variable {S Sb:L02} {w0 wb w w':World} {es es1 os os0 osF osK:List OE}
def OE.kept (S:L02) (w:World):OE->Prop
 | .bx b cs=>RB S w b cs
 | .rd v sz n cs=>cs.length=n*sz/\∃a c,v=.slice a n c/\n<=c /\
   (n≠0->∃b off,a=some ⟨b,off,none⟩/\b<w.heap.size/\b ∉ S/\∀j u,cs[j]? = some u->w.cell? ⟨b,off+j,none⟩=some u)
 | .sl ..=>True
def OE.kp:OE->OE
 | .sl v sz n cs=>.rd v sz n cs
 | o=>o
theorem OE.kept.to {o:OE} {S':L02} (h:o.kept S w) (hf:Fr S w w') (hS:∀k,k<w.heap.size->k ∉ S->k ∉ S'):o.kept S' w':=by
 cases o with
 | sl v sz n cs=>trivial
 | bx b cs=>
  obtain⟨h1,h2,h3⟩:=h
  refine⟨fun j u hj=>?_,hS _ h3 h2,aU h3 hf.size⟩
  rw[hf.cell h3 h2]
  exact h1 j u hj
 | rd v sz n cs=>
  obtain⟨hl,a,c,rfl,hc,hx⟩:=h
  refine⟨hl,a,c,rfl,hc,fun hn=>?_⟩
  obtain⟨b,off,rfl,hb,hs,hcell⟩:=hx hn
  refine⟨b,off,rfl,aU hb hf.size,hS _ hb hs,fun j u hj=>?_⟩
  rw[hf.cell hb hs]
  exact hcell j u hj
theorem OE.kept.fr {o:OE} (h:o.kept S w) (hf:Fr S w w'):o.kept S w':=h.to hf fun _ _ h=>h
theorem OE.kept.blk {o:OE} (h:o.kept S w) (ho:∀v sz n cs,o≠.sl v sz n cs) {k:Nat} (hk:o.blk=some k):k<w.heap.size/\k ∉ S:=by
 cases o with
 | sl v sz n cs=>exact absurd rfl (ho v sz n cs)
 | bx b cs=>simp[OE.blk]at hk; subst hk; exact⟨h.2.2,h.2.1⟩
 | rd v sz n cs=>
  obtain⟨hl,a,c,rfl,hc,hx⟩:=h
  simp only[OE.blk]at hk
  split at hk
  ·cases hk
  ·rename_i hn
   obtain⟨b,off,rfl,hb,hs,_⟩:=hx hn
   simp[Value.ownBlock]at hk
   subst hk
   exact⟨hb,hs⟩
theorem OE.ok.kept {o:OE} {B:Nat} (h:o.ok S B w) {S':L02} (hd:∀k,o.blk=some k->k ∉ S'):o.kp.kept S' w:=by
 cases o with
 | sl v sz n cs=>
  refine⟨h.1,?_⟩
  rcases h.2 with⟨rfl,rfl⟩ | ⟨g,cap,cur,T,rfl,hf,hg,hnc,hcm,hcs,htake⟩
  ·exact⟨none,0,rfl,aw _,fun h=>absurd rfl h⟩
  ·refine⟨_,cap,rfl,hnc,fun _=>⟨g,0,rfl,hg.lt,hd g rfl,fun j u hj=>?_⟩⟩
   rw[<-htake,bP]at hj
   split at hj
   ·rw[bm,hg.cell j]
    simpa using hj
   ·cases hj
 | rd v sz n cs=>
  obtain⟨hl,a,c,rfl,hc,hx⟩:=h
  refine⟨hl,a,c,rfl,hc,fun hn=>?_⟩
  obtain⟨b,off,rfl,hb,_,hcell⟩:=hx hn
  exact⟨b,off,rfl,hb,hd b (by simp[OE.blk,hn,Value.ownBlock]),hcell⟩
 | bx b cs=>
  obtain⟨hf,T,cur,hg,hcs⟩:=h
  have hlt:=(cg.1 hg).1
  refine⟨fun j u hj=>?_,hd b rfl,hlt⟩
  rw[cell_of_row w b j cur T _ hg,<-gH,hcs]
  exact hj
def Rds (S:L02) (w:World) (es:List OE):Prop:=∀o∈es,o.kept S w
structure Fz (S:L02) (w0:World) (Sb:L02) (wb:World):Prop where
 fr:Fr S w0 wb
 sb:∀b∈Sb,fre S w0.heap.size b
def Sf (S:L02) (w0 w:World) (es os:List OE):Prop:=∃Sb wb,Fz S w0 Sb wb/\Rds Sb wb es/\St Sb wb w os
theorem Rds.nil:Rds S w []:=fun o h=>by cases h
theorem Rds.cons {o:OE} (h:o.kept S w) (hr:Rds S w es):Rds S w (o :: es):=fun p hp=>by
 rcases aM.1 hp with rfl | hp
 ·exact h
 ·exact hr p hp
theorem Rds.app (h:Rds S w es) (h1:Rds S w es1):Rds S w (es++es1):=fun p hp=>(bE.1 hp).elim (h p) (h1 p)
theorem RB.kept {b:Nat} {cs:List Value} (h:RB S w b cs):(OE.bx b cs).kept S w:=h
theorem RP.kept {τ:Type} {e:Enc τ} {v:Value} {l:List τ} (hz:0<e.sz) (h:RP S w e v l):(red e v l).kept S w:=by
 refine⟨e.fl_length l,?_⟩
 obtain⟨a,c,rfl,hc,hr⟩:=h.1
 refine⟨a,c,rfl,hc,fun hn=>?_⟩
 have hl:l≠[]:=by rintro rfl; exact hn rfl
 obtain⟨b,off,rfl,hcell⟩:=hr hl
 have hne:0<(e.fl l).length:=by
  rw[e.fl_length]
  exact Nat.mul_pos (fg.2 hl) hz
 exact⟨b,off,rfl,mg (hcell 0 _ (aA hne)),fun hb=>h.2 hl b hb rfl,hcell⟩
theorem OE.kept.rp {τ:Type} {e:Enc τ} {v:Value} {l:List τ} (h:(red e v l).kept S w):RP S w e v l:=by
 obtain⟨_,a,c,rfl,hc,hcell⟩:=h
 refine⟨⟨a,c,rfl,hc,fun hl=>?_⟩,fun hl k hk hb=>?_⟩
 ·obtain⟨b,off,h1,_,_,h2⟩:=hcell (by simpa using hl)
  exact⟨b,off,h1,h2⟩
 ·obtain⟨b,off,rfl,_,hs,_⟩:=hcell (by simpa using hl)
  have:b=k:=by simpa [Value.ownBlock] using hb
  exact hs (this ▸ hk)
def rk (es:List OE) (k:Nat):Option OE:=es[es.length - 1 - k]?
theorem Rds.rp (h:Rds S w es) (k:Nat) {τ:Type} {e:Enc τ} {v:Value} {l:List τ} (hk:rk es k=some (red e v l)):RP S w e v l:=(h _ (bf hk)).rp
theorem Rds.rb (h:Rds S w es) (k:Nat) {b:Nat} {cs:List Value} (hk:rk es k=some (.bx b cs)):RB S w b cs:=h _ (bf hk)
theorem Rds.pick {es':List OE} (h:Rds S w es) (ix:L02) (he:es'.map some=ix.map (fun i=>rk es i)):Rds S w es':=fun o ho=>by
 have h1:some o∈es'.map some:=List.mem_map_of_mem ho
 rw[he]at h1
 obtain⟨i,_,hi⟩:=jy.1 h1
 exact h o (bf hi)
theorem Sf.of (hA:Rds S w0 es) (hS:St S w0 w os):Sf S w0 w es os:=⟨S,w0,⟨Fr.refl _ _,fun b hb=>.inr hb⟩,hA,hS⟩
theorem Sf.mk' (hF:Fz S w0 Sb wb) (hA:Rds Sb wb es) (hS:St Sb wb w os):Sf S w0 w es os:=⟨Sb,wb,hF,hA,hS⟩
theorem Fz.start:Fz S w0 S w0:=⟨Fr.refl _ _,fun b hb=>.inr hb⟩
theorem Fz.st (hF:Fz S w0 Sb wb) (hS:St Sb wb w os):St S w0 w os:=by
 have hfre:∀k,fre Sb wb.heap.size k->fre S w0.heap.size k:=by
  intro k hk
  rcases hk with hk | hk
  ·exact .inl (aZ hF.fr.size hk)
  ·exact hF.sb k hk
 refine⟨hF.fr.step hS.fr hF.sb,fun o ho=>(hS.ok o ho).re fun k _ hf=>hfre k hf,hS.dj⟩
theorem Fz.frz (hF:Fz S w0 Sb wb) (hA:Rds Sb wb es) (hS:St Sb wb w (osF++osK)):∃Sb' wb',Fz S w0 Sb' wb'/\Rds Sb' wb' (osF.map OE.kp++es)/\St Sb' wb' w osK:=by
 have hst:=hF.st hS
 have hp:=cc.1 hS.dj
 refine⟨ep osK,w,⟨hst.fr,fun b hb=>?_⟩,Rds.app ?_ ?_,?_⟩
 ·obtain⟨o,ho,hob⟩:=dO.1 hb
  exact ((hst.ok o (bC _ ho)).lt hob).2
 ·intro p hp'
  obtain⟨o,ho,rfl⟩:=jy.1 hp'
  refine (hS.ok o (bW _ ho)).kept fun k hk hx=>?_
  obtain⟨q,hq,hqb⟩:=dO.1 hx
  exact hp.2.2 o ho q hq k hk hqb
 ·intro o ho
  refine (hA o ho).to hS.fr fun k hk hs hx=>?_
  obtain⟨q,hq,hqb⟩:=dO.1 hx
  rcases ((hS.ok q (bC _ hq)).lt hqb).2 with h | h
  ·omega
  ·exact hs h
 ·exact⟨Fr.refl _ _,fun o ho=>(hS.ok o (bC _ ho)).re fun k hk _=>.inr (dO.2 ⟨o,ho,hk⟩),hp.2.1⟩
theorem Fz.out (hF:Fz [] w0 Sb wb) (hA:Rds Sb wb es) (hS:St Sb wb w os):St [] w0 w []/\Rds [] w (os.map OE.kp++es):=by
 obtain⟨Sb',wb',h1,h2,h3⟩:=Fz.frz (osK:=[]) hF hA (by rw[bM]; exact hS)
 exact⟨h1.st h3,fun o ho=>(h2 o ho).to h3.fr fun _ _ _ h=>by cases h⟩
end
theorem OE.kept.nil {S:L02} {w:World} {τ:Type} {e:Enc τ}:(red e (.slice none 0 0) ([]:List τ)).kept S w:=⟨by simp,none,0,rfl,aw _,fun h=>absurd rfl h⟩
theorem Rds.nth {S:L02} {w:World} {es:List OE} (h:Rds S w es) (k:Nat) {o:OE} (hk:rk es k=some o):o.kept S w:=h _ (bf hk)
def sM {α:Type} (x:Option α) (p:Prop) (q:α->Prop):Prop:=match x with
 | none=>p
 | some c=>q c
theorem Ju {α:Type} {p:Prop} {q:α->Prop} (h:p):sM none p q:=h
theorem KK {α:Type} {c:α} {p:Prop} {q:α->Prop} (h:q c):sM (some c) p q:=h
def OE.ns:OE->Bool
 | .sl ..=>false
 | _=>true
def Off (T:L02) (es:List OE):Prop:=∀o∈es,∀b,o.blk=some b->b ∉ T
def TOk (S T:L02) (w0:World):Prop:=∀b∈T,b<w0.heap.size/\b ∉ S
def SfT (S T:L02) (w0 w:World) (es os:List OE):Prop:=∃Sb wb,Fz S w0 Sb wb/\Rds Sb wb es/\Off T es/\St Sb wb w os
section
variable {S T Sb:L02} {w0 wb w w':World} {es es1 os os0 osF osK:List OE}
theorem TOk.nil:TOk S [] w0:=fun b h=>by cases h
theorem Off.nil:Off T []:=fun o h=>by cases h
theorem Off.emp:Off [] es:=fun o _ b _ h=>by cases h
theorem Off.cons {o:OE} (h:∀b,o.blk=some b->b ∉ T) (hr:Off T es):Off T (o :: es):=fun p hp=>by
 rcases aM.1 hp with rfl | hp
 ·exact h
 ·exact hr p hp
theorem Off.app (h:Off T es) (h1:Off T es1):Off T (es++es1):=fun p hp=>(bE.1 hp).elim (h p) (h1 p)
theorem OE.kept.off {o:OE} (h:o.kept T w) (hn:o.ns=true):∀b,o.blk=some b->b ∉ T:=fun b hb=>(h.blk (fun v sz n cs e=>by rw[e]at hn; cases hn) hb).2
theorem OE.kept.all {o:OE} (h:o.kept T w):o.kept [] w:=h.to (Fr.refl _ _) fun _ _ _=>by simp
theorem OE.kept.more {o:OE} (h:o.kept Sb w) (hn:∀b,o.blk=some b->b ∉ T):o.kept (T++Sb) w:=by
 cases o with
 | sl v sz n cs=>trivial
 | bx b cs=>
  obtain⟨h1,h2,h3⟩:=h
  exact⟨h1,fun hb=>(bE.1 hb).elim (hn b rfl) h2,h3⟩
 | rd v sz n cs=>
  obtain⟨hl,a,c,rfl,hc,hx⟩:=h
  refine⟨hl,a,c,rfl,hc,fun hne=>?_⟩
  obtain⟨b,off,rfl,hb,hs,hcell⟩:=hx hne
  exact⟨b,off,rfl,hb,fun hbb=>(bE.1 hbb).elim (hn b (by simp[OE.blk,hne,Value.ownBlock])) hs,hcell⟩
theorem Rds.off (h:Rds T w es) (hn:es.all OE.ns=true):Off T es:=fun o ho=>(h o ho).off (ci.1 hn o ho)
theorem Rds.all (h:Rds T w es):Rds [] w es:=fun o ho=>(h o ho).all
theorem Rds.rpT (h:Rds Sb w es) (hP:Off T es) (k:Nat) {τ:Type} {e:Enc τ} {v:Value} {l:List τ} (hk:rk es k=some (red e v l)):RP (T++Sb) w e v l:=
 ((h _ (bf hk)).more (hP _ (bf hk))).rp
theorem OE.blk_kp (o:OE):∀b,o.kp.blk=some b->o.blk=some b:=fun b h=>by
 cases o with
 | sl v sz n cs=>
  simp only[OE.kp,OE.blk]at h ⊢
  split at h
  ·cases h
  ·exact h
 | bx b cs=>exact h
 | rd v sz n cs=>exact h
theorem Fz.offF (hF:Fz S w0 Sb wb) (hT:TOk S T w0) (hP:Off T es) (hS:St Sb wb w (osF++osK)):Off T (osF.map OE.kp++es):=by
 refine Off.app (fun o ho b hb hbT=>?_) hP
 obtain⟨q,hq,rfl⟩:=jy.1 ho
 have h1:=(((hF.st hS).ok q (bW _ hq)).lt (OE.blk_kp q b hb)).2
 obtain⟨h2,h3⟩:=hT b hbT
 rcases h1 with h1 | h1
 ·omega
 ·exact h3 h1
theorem Fz.frzK (hF:Fz S w0 Sb wb) (hT:TOk S T w0) (hA:Rds Sb wb es) (hP:Off T es) (hS:St Sb wb w (osF++osK)) :
  Fz S w0 (ep osK) w/\Rds (ep osK) w (osF.map OE.kp++es)/\Off T (osF.map OE.kp++es)/\St (ep osK) w w osK:=by
 have hst:=hF.st hS
 have hp:=cc.1 hS.dj
 refine⟨⟨hst.fr,fun b hb=>?_⟩,Rds.app ?_ ?_,hF.offF hT hP hS,?_⟩
 ·obtain⟨o,ho,hob⟩:=dO.1 hb
  exact ((hst.ok o (bC _ ho)).lt hob).2
 ·intro p hp'
  obtain⟨o,ho,rfl⟩:=jy.1 hp'
  refine (hS.ok o (bW _ ho)).kept fun k hk hx=>?_
  obtain⟨q,hq,hqb⟩:=dO.1 hx
  exact hp.2.2 o ho q hq k hk hqb
 ·intro o ho
  refine (hA o ho).to hS.fr fun k hk hs hx=>?_
  obtain⟨q,hq,hqb⟩:=dO.1 hx
  rcases ((hS.ok q (bC _ hq)).lt hqb).2 with h | h
  ·omega
  ·exact hs h
 ·exact⟨Fr.refl _ _,fun o ho=>(hS.ok o (bC _ ho)).re fun k hk _=>.inr (dO.2 ⟨o,ho,hk⟩),hp.2.1⟩
theorem Fz.okT (hF:Fz S w0 (ep osK) w) (hT:TOk S T w0) (hS:St (ep osK) w w osK):TOk [] (T++ep osK) w:=fun b hb=>by
 refine⟨?_,by simp⟩
 rcases bE.1 hb with hb | hb
 ·exact aU (hT b hb).1 hF.fr.size
 ·obtain⟨o,ho,hob⟩:=dO.1 hb
  exact ((hS.ok o ho).lt hob).1
theorem Fz.callK (hF:Fz S w0 (ep osK) w) (hA:Rds (ep osK) w es) (hP:Off T es) (hS:St (ep osK) w w osK) (hC:St [] w w' []) (hR:Rds (T++ep osK) w' es1) (hn:es1.all OE.ns=true) :
  ∃Sb' wb',Fz S w0 Sb' wb'/\Rds Sb' wb' (es1++es)/\Off T (es1++es)/\St Sb' wb' w' osK:=by
 have h4:St (ep osK) w w' osK:=by have:=hS.call hC; rwa [bT]at this
 have hb:∀b∈ep osK,b<w.heap.size:=fun b hb=>by
  obtain⟨o,ho,hob⟩:=dO.1 hb
  exact ((hS.ok o ho).lt hob).1
 refine⟨ep osK,w',⟨(hF.st h4).fr,hF.sb⟩,Rds.app (fun o ho=>(hR o ho).to (Fr.refl _ _) fun k _ hk hx=>hk (bC _ hx)) (fun o ho=>(hA o ho).fr h4.fr),?_,?_⟩
 ·refine Off.app (fun o ho b hb hx=>?_) hP
  exact (hR o ho).off (ci.1 hn o ho) b hb (bW _ hx)
 ·exact⟨Fr.refl _ _,fun o ho=>(h4.ok o ho).re fun k hk _=>.inr (dO.2 ⟨o,ho,hk⟩),h4.dj⟩
theorem Fz.outT (hF:Fz [] w0 Sb wb) (hT:TOk [] T w0) (hA:Rds Sb wb es) (hP:Off T es) (hS:St Sb wb w os):St [] w0 w []/\Rds T w (os.map OE.kp++es):=by
 obtain⟨h1,h2,h3,h4⟩:=Fz.frzK (osK:=[]) hF hT hA hP (by rw[bM]; exact hS)
 refine⟨h1.st h4,fun o ho=>?_⟩
 have:=(h2 o ho).more (h3 o ho)
 exact this.to (Fr.refl _ _) fun k _ hk hx=>hk (bW _ hx)
theorem SfT.mk' (hF:Fz S w0 Sb wb) (hA:Rds Sb wb es) (hP:Off T es) (hS:St Sb wb w os):SfT S T w0 w es os:=⟨Sb,wb,hF,hA,hP,hS⟩
theorem Off.pick {es':List OE} (h:Off T es) (ix:L02) (he:es'.map some=ix.map (fun i=>rk es i)):Off T es':=fun o ho=>by
 have h1:some o∈es'.map some:=List.mem_map_of_mem ho
 rw[he]at h1
 obtain⟨i,_,hi⟩:=jy.1 h1
 exact h o (bf hi)
theorem Off.nth (h:Off T es) (k:Nat) {o:OE} (hk:rk es k=some o):∀b,o.blk=some b->b ∉ T:=h _ (bf hk)
end
section
variable {P:Program} {n:Nat} {L:Env} {w:World}
theorem OY {fn:Func} {r1 r2 r3:ResultVar} {v1 v2 v3:Value} {φ:Value->World->Prop} (hres:fn.results=#[r1,r2,r3]) (h1:RV P L w r1 v1) (h2:RV P L w r2 v2) (h3:RV P L w r3 v3) (h:φ (.tuple #[v1,v2,v3]) w):QE n (bodyPost P fn (Ret φ)) .ret L w:=fun a ha=>by
 refine⟨ha.defers,.tuple #[v1,v2,v3],?_,h⟩
 cases r1 <;> cases r2 <;> cases r3
 ·have g1:=ha.get _ _ h1
  have g2:=ha.get _ _ h2
  have g3:=ha.get _ _ h3
  simp[results,hres,g1,g2,g3]
 ·have g1:=ha.get _ _ h1
  have g2:=ha.get _ _ h2
  obtain⟨b3,g3,k3⟩:=h3
  have g3:=ha.get _ _ g3
  simp[results,hres,g1,g2,g3,k3,i8]
 ·have g1:=ha.get _ _ h1
  obtain⟨b2,g2,k2⟩:=h2
  have g2:=ha.get _ _ g2
  have g3:=ha.get _ _ h3
  simp[results,hres,g1,g2,k2,g3,i8]
 ·have g1:=ha.get _ _ h1
  obtain⟨b2,g2,k2⟩:=h2
  have g2:=ha.get _ _ g2
  obtain⟨b3,g3,k3⟩:=h3
  have g3:=ha.get _ _ g3
  simp[results,hres,g1,g2,k2,g3,k3,i8]
 ·obtain⟨b1,g1,k1⟩:=h1
  have g1:=ha.get _ _ g1
  have g2:=ha.get _ _ h2
  have g3:=ha.get _ _ h3
  simp[results,hres,g1,k1,g2,g3,i8]
 ·obtain⟨b1,g1,k1⟩:=h1
  have g1:=ha.get _ _ g1
  have g2:=ha.get _ _ h2
  obtain⟨b3,g3,k3⟩:=h3
  have g3:=ha.get _ _ g3
  simp[results,hres,g1,k1,g2,g3,k3,i8]
 ·obtain⟨b1,g1,k1⟩:=h1
  have g1:=ha.get _ _ g1
  obtain⟨b2,g2,k2⟩:=h2
  have g2:=ha.get _ _ g2
  have g3:=ha.get _ _ h3
  simp[results,hres,g1,k1,g2,k2,g3,i8]
 ·obtain⟨b1,g1,k1⟩:=h1
  have g1:=ha.get _ _ g1
  obtain⟨b2,g2,k2⟩:=h2
  have g2:=ha.get _ _ g2
  obtain⟨b3,g3,k3⟩:=h3
  have g3:=ha.get _ _ g3
  simp[results,hres,g1,k1,g2,k2,g3,k3,i8]
end
section
variable {P:Program} {n:Nat} {L:Env} {w w' w0:World} {S:L02} {os:List OE}
variable {d:Option Tmp} {ty:TypeId} {pos:String} {after:Array Edge}
end
section
variable {P:Program} {ops:Array Oper} {Q:Exit->Act->World->Prop} {nw:Nat->Bool} {cs:Nat->Option Nat} {S:L02} {w0:World} {os:List OE} {ent:Nat->Value->OE}
def EA (P:Program) (ops:Array Oper) (S:L02) (w0:World) (ent:Nat->Value->OE) (co:List OE) (o:Oper) (i:Nat) (a:Act):Prop:=
 Region.wanted o (yielded ops a.tmps)=true/\∀w os',St S w0 w (co++os')->(∃v w',(execOp a.eval o).run P w=.ok (.value v) w'/\St S w0 w' (ent i v :: os')) \/
  ∃f args,(execOp a.eval o).run P w=.ok (.enter f args) w/\Calls P f args w (Ret fun v w'=>St S w0 w' (ent i v :: os'))
theorem EA.of_same {co:List OE} {o:Oper} {i:Nat} {a j:Act} (hy:EA P ops S w0 ent co o i a) (he:execOp j.eval o=execOp a.eval o)
  (hw:Region.wanted o (yielded ops j.tmps)=Region.wanted o (yielded ops a.tmps)):EA P ops S w0 ent co o i j:=by
 unfold EA at *
 rw[he,hw]
 exact hy
def i9 (nw:Nat->Bool) (cs:Nat->Option Nat) (listed:Array Bool) (k:Nat):Bool:=nw k&&listed.getD k false&&(match cs k with | none=>true | some c=>!listed.getD c false)
theorem oq {p q:Nat->Bool} (l:L02):(l.filter p).Perm (l.filter (fun k=>p k&&q k)++l.filter (fun k=>p k&&!q k)):=by
 have:=(List.filter_append_perm q (l.filter p)).symm
 rw[List.filter_filter,List.filter_filter]at this
 refine this.trans ?_
 have j:(fun a=>q a&&p a)=(fun k=>p k&&q k):=by funext k; exact Bool.and_comm _ _
 have A:(fun a=>(!q a)&&p a)=(fun k=>p k&&!q k):=by funext k; exact Bool.and_comm _ _
 rw[j,A]
theorem A7 {n j:Nat} (h:j<n) {p:Nat->Bool} (hp:p j=true):(List.range n).filter (fun k=>p k&&k == j)=[j]:=by
 have A:(List.range n).filter (fun k=>p k&&k == j)=(List.range n).filter (fun k=>k == j):=by
  refine eQ fun k _=>?_
  by_cases hk:k=j
  ·subst hk; simp[hp]
  ·simp[hk]
 rw[A]
 have B:=List.filter_beq (l:=List.range n) j
 rw[B,List.nodup_range.count,ag (dG.2 h)]; rfl
variable {n:Nat} {L:Env}
theorem BT (A:∀j B,ops[j]? = some B->∀e∈B.after,Region.binds .any e=true->e.on<j):∀(f j k:Nat),gd ops f j k=true->k<j
 | 0,_,_,h=>by simp[gd]at h
 | f+1,j,k,h=>by
  simp only[gd]at h
  cases hj:ops[j]? with
  | none=>simp[hj]at h
  | some B=>
   simp only[hj,List.any_eq_true,aO,fD]at h
   obtain⟨e,he,hb,h | h⟩:=h
   ·have:=A j B hj e (by simpa using he) hb
    have:=bJ h; omega
   ·have:=A j B hj e (by simpa using he) hb
    have:=BT A f e.on k h; omega
end
abbrev Th:=Value×List OE×List OE
abbrev Gt:=Nat->Th
def jA (g:Gt) (i:Nat) (v:Th):Gt:=fun k=>if k=i then v else g k
theorem G1 {g:Gt} {i j:Nat} {u v:Th} (h:i≠j):jA (jA g i u) j v=jA (jA g j v) i u:=by
 funext k
 unfold jA
 by_cases h1:k=i <;> by_cases h2:k=j <;> simp_all
theorem ow {α β:Type} {f g:α->List β}:∀{l:List α},(∀k∈l,f k=g k)->l.flatMap f=l.flatMap g
 | [],_=>rfl
 | k :: l,h=>by rw[dS,dS,h k (eH ..),ow fun x hx=>h x (eM _ hx)]
theorem sC (g:Gt) (i:Nat) (v:Th):jA g i v i=v:=ag rfl
theorem oA {g:Gt} {i k:Nat} {v:Th} (h:k≠i):jA g i v k=g k:=ae h
section
variable {S T Sl Tl:L02} {w0 w w':World} {es es1 os os1 rest lent:List OE}
theorem Rds.sub (h:Rds S w es) (hs:∀o∈es1,o∈es):Rds S w es1:=fun o j=>h o (hs o j)
theorem Off.sub (h:Off T es) (hs:∀o∈es1,o∈es):Off T es1:=fun o j=>h o (hs o j)
theorem OE.kept.to' {o:OE} {I:L02} (h:o.kept S w) (hf:Fr S w w') (hS:∀k,k<w.heap.size->o.blk=some k->k ∉ S->k ∉ I):o.kept I w':=by
 cases o with
 | sl v sz n cs=>trivial
 | bx b cs=>
  obtain⟨N,J,B⟩:=h
  refine⟨fun j u G=>?_,hS _ B rfl J,aU B hf.size⟩
  rw[hf.cell B J]
  exact N j u G
 | rd v sz n cs=>
  obtain⟨hl,a,c,rfl,hc,hx⟩:=h
  refine⟨hl,a,c,rfl,hc,fun hn=>?_⟩
  obtain⟨b,off,rfl,hb,hs,A⟩:=hx hn
  refine⟨b,off,rfl,aU hb hf.size,hS _ hb (by simp[OE.blk,hn,Value.ownBlock]) hs,fun j u G=>?_⟩
  rw[hf.cell hb hs]
  exact A j u G
theorem SfT.tail (h:SfT S T w0 w (es1++es) (os1++os)):SfT S T w0 w es os:=by
 obtain⟨Sb,wb,hZ,hA,hP,hS⟩:=h
 exact⟨Sb,wb,hZ,hA.sub (fun o j=>bC _ j),hP.sub (fun o j=>bC _ j),hS.tail⟩
theorem SfT.tail' (h:SfT S T w0 w es (os1++os)):SfT S T w0 w es os:=by
 obtain⟨Sb,wb,hZ,hA,hP,hS⟩:=h
 exact⟨Sb,wb,hZ,hA,hP,hS.tail⟩
theorem SfT.perm (h:SfT S T w0 w es os) (j:∀o∈es1,o∈es) (A:os.Perm os1):SfT S T w0 w es1 os1:=by
 obtain⟨Sb,wb,hZ,hA,hP,hS⟩:=h
 exact⟨Sb,wb,hZ,hA.sub j,hP.sub j,hS.perm A⟩
theorem IJ {Sb:L02} {wb:World} {o:OE} (j:o.kept Sb wb) (hn:o.ns=true) {b:Nat} (hb:o.blk=some b):b<wb.heap.size/\b ∉ Sb:=
 j.blk (fun v A n cs e=>by rw[e]at hn; cases hn) hb
theorem SfT.frS (h:SfT S T w0 w es os):Fr S w0 w:=by
 obtain⟨Sb,wb,hZ,hA,hP,hS⟩:=h
 exact (hZ.st hS).fr
theorem SfT.lend (h:SfT S T w0 w es (lent++rest)) (hT:TOk S T w0) (hn:∀o∈es,o.ns=true) :
  TOk (ep lent) (T++ep rest) w/\Rds (ep lent) w es/\Off (T++ep rest) es/\St (ep lent) w w lent:=by
 obtain⟨Sb,wb,hZ,hA,hP,hS⟩:=h
 have I:=hZ.st hS
 have O:=(cc.1 hS.dj).2.2
 refine⟨fun b hb=>?_,fun o j=>(hA o j).to hS.fr fun k U hs hx=>?_,fun o j b hb hx=>?_,hS.give⟩
 ·rcases bE.1 hb with hb | hb
  ·obtain⟨R,G⟩:=hT b hb
   refine⟨aU R I.fr.size,fun hx=>?_⟩
   obtain⟨o,j,B⟩:=dO.1 hx
   rcases ((I.ok o (bW _ j)).lt B).2 with N | N
   ·omega
   ·exact G N
  ·obtain⟨o,j,B⟩:=dO.1 hb
   refine⟨((I.ok o (bC _ j)).lt B).1,fun hx=>?_⟩
   obtain⟨q,J,A⟩:=dO.1 hx
   exact O q J o j b A B
 ·obtain⟨q,J,A⟩:=dO.1 hx
  rcases ((hS.ok q (bW _ J)).lt A).2 with h | h
  ·omega
  ·exact hs h
 ·rcases bE.1 hx with hx | hx
  ·exact hP o j b hb hx
  ·obtain⟨q,J,A⟩:=dO.1 hx
   have G:=((hS.ok q (bC _ J)).lt A).2
   have N:=IJ (hA o j) (hn o j) hb
   rcases G with G | G
   ·omega
   ·exact N.2 G
theorem SfT.unlend (h:SfT S T w0 w es (lent++rest)) (hn:∀o∈es,o.ns=true) (Z:∀o∈es1,o.ns=true)
  (Y:SfT (ep lent) (T++ep rest) w w' es1 os1):SfT S T w0 w' (es1++es) (os1++rest):=by
 obtain⟨Sb,wb,hZ,hA,hP,hS⟩:=h
 obtain⟨Sc,wc,R,U,N,G⟩:=Y
 have V:=R.st G
 have hb:St Sb wb w' (os1++rest):=hS.back V
 have I:=hZ.st hb
 refine⟨ep (os1++rest),w',⟨I.fr,fun b X=>?_⟩,Rds.app (fun o j=>?_) (fun o j=>?_),Off.app (fun o j b hb hx=>N o j b hb (bW _ hx)) hP,
  Fr.refl _ _,fun o j=>(hb.ok o j).re fun k O _=>.inr (dO.2 ⟨o,j,O⟩),hb.dj⟩
 ·obtain⟨o,j,J⟩:=dO.1 X
  exact ((I.ok o j).lt J).2
 ·refine (U o j).to' G.fr fun k O J hs hx=>?_
  obtain⟨q,A,B⟩:=dO.1 hx
  rcases bE.1 A with A | A
  ·rcases ((G.ok q A).lt B).2 with h | h
   ·omega
   ·exact hs h
  ·exact N o j k J (bC _ (dO.2 ⟨q,A,B⟩))
 ·refine (hA o j).to hb.fr fun k O hs hx=>?_
  obtain⟨q,A,B⟩:=dO.1 hx
  rcases ((hb.ok q A).lt B).2 with h | h
  ·omega
  ·exact hs h
end
section
variable {P:Program} {ops:Array Oper} {Q:Exit->Act->World->Prop} {nw:Nat->Bool} {cs:Nat->Option Nat} {ks:Nat->L02} {xs:Nat->List OE} {bs:Nat->L02} {S T:L02} {w0:World} {es os:List OE} {ent:Nat->List Th->Value->List OE->List OE->Prop} {ds:Nat->L02}
def coM (n:Nat) (cs:Nat->Option Nat) (g:Gt) (j:Nat):List OE:=((List.range n).filter (fun k=>cs k == some j)).flatMap (fun k=>(g k).2.1)
def ckM (ks:Nat->L02) (g:Gt) (j:Nat):List OE:=(ks j).flatMap (fun k=>(g k).2.2)
def brM (n:Nat) (bs:Nat->L02) (xs:Nat->List OE) (j:Nat):List OE:=((List.range n).filter (fun k=>(bs j).contains k)).flatMap xs
def TrM (P:Program) (S:L02) (w0:World) (ops:Array Oper) (es os:List OE) (ent:Nat->List Th->Value->List OE->List OE->Prop) (hs:List Th) (co ck:List OE) (o:Oper) (i:Nat) (a:Act):Prop:=
 Region.wanted o (yielded ops a.tmps)=true/\∀w Sl Tl,Fr S w0 w->TOk Sl Tl w->Rds Sl w (ck++es)->Off Tl (ck++es)->St Sl w w (co++os) ->
  (∃v w' x y,((execOp a.eval o).run P w=.ok (.value v) w'\/v=undef/\(execOp a.eval o).run P w=.ok .skip w')/\ent i hs v x y/\SfT Sl Tl w w' y (x++os)) \/
  ∃f args,(execOp a.eval o).run P w=.ok (.enter f args) w/\Calls P f args w (Ret fun v w'=>∃x y,ent i hs v x y/\SfT Sl Tl w w' y (x++os))
theorem TrM.of_same {hs:List Th} {co ck:List OE} {o:Oper} {i:Nat} {a j:Act} (hy:TrM P S w0 ops es os ent hs co ck o i a) (he:execOp j.eval o=execOp a.eval o)
  (hw:Region.wanted o (yielded ops j.tmps)=Region.wanted o (yielded ops a.tmps)):TrM P S w0 ops es os ent hs co ck o i j:=by
 unfold TrM at *
 rw[he,hw]
 exact hy
def lxM (P:Program) (ops:Array Oper) (Q:Exit->Act->World->Prop) (nw:Nat->Bool) (cs:Nat->Option Nat) (ks:Nat->L02) (xs:Nat->List OE) (bs ds:Nat->L02) (S T:L02) (w0:World) (es os:List OE) (ent:Nat->List Th->Value->List OE->List OE->Prop):L02->Gt->Act->Prop
 | [],g,a=>∀w,SfT S T w0 w (((List.range ops.size).filter nw).flatMap (fun k=>(g k).2.2)++es) (((List.range ops.size).filter (fun k=>nw k&&cs k == none)).flatMap (fun k=>(g k).2.1)++os)->Q .normal a w
 | i :: r,g,a=>match ops[i]? with
  | none=>lxM P ops Q nw cs ks xs bs ds S T w0 es os ent r g a
  | some o=>if nw i then TrM P S w0 ops es (brM ops.size bs xs i++os) ent ((ds i).map g) (coM ops.size cs g i++xs i) (ckM ks g i) o i a/\(∃v x y,ent i ((ds i).map g) v x y)/\∀v x y,ent i ((ds i).map g) v x y->lxM P ops Q nw cs ks xs bs ds S T w0 es os ent r (jA g i (v,x,y)) (a.put o.dst v)
   else ∃v,Ins P ops (fun w=>SfT S T w0 w es os) o v a/\lxM P ops Q nw cs ks xs bs ds S T w0 es os ent r g (a.put o.dst v)
theorem D6 {n i j:Nat} {g:Gt} {v:Th} (h:cs i≠some j):coM n cs (jA g i v) j=coM n cs g j:=by
 unfold coM
 refine ow fun k B=>?_
 have G:cs k=some j:=by simpa using (jr.1 B).2
 have A:k≠i:=fun e=>h (by rw[<-e]; exact G)
 rw[oA A]
theorem D5 {i j:Nat} {g:Gt} {v:Th} (h:i ∉ ks j):ckM ks (jA g i v) j=ckM ks g j:=by
 unfold ckM
 refine ow fun k B=>?_
 have A:k≠i:=fun e=>h (by rw[<-e]; exact B)
 rw[oA A]
theorem qv {i j:Nat} {g:Gt} {v:Th} (h:i ∉ ds j):(ds j).map (jA g i v)=(ds j).map g:=by
 refine List.map_congr_left fun k B=>?_
 have A:k≠i:=fun e=>h (by rw[<-e]; exact B)
 rw[oA A]
theorem IK (hs:nP ops) (ad:∃w,SfT S T w0 w es os) {i j:Nat} {r:L02} {g:Gt} {a:Act}
  (al:∀B A,ops[i]? = some B->ops[j]? = some A->B.apart ops A=true) (Y:cs i≠some j/\cs j≠some i) (Z:i ∉ ks j/\j ∉ ks i) (I:i ∉ ds j/\j ∉ ds i) (ap:i≠j)
  (h:lxM P ops Q nw cs ks xs bs ds S T w0 es os ent (i :: j :: r) g a):lxM P ops Q nw cs ks xs bs ds S T w0 es os ent (j :: i :: r) g a:=by
 cases hi:ops[i]? with
 | none=>
  simp only[lxM,hi]at h
  cases hj:ops[j]? with
  | none=>simp only[lxM,hi,hj]at h ⊢; exact h
  | some A=>simp only[lxM,hi,hj]at h ⊢; exact h
 | some B=>
  cases hj:ops[j]? with
  | none=>simp only[lxM,hi,hj]at h ⊢; exact h
  | some A=>
   obtain⟨p1,p2,p3⟩:=Oper.apart_spec (al B A hi hj)
   have O:=fun cs b=>hs i B cs b hi
   have R:=fun cs b=>hs j A cs b hj
   simp only[lxM,hi,hj]at h ⊢
   by_cases hni:nw i=true
   ·rw[ag hni]at h
    obtain⟨X,U,G⟩:=h
    by_cases hnj:nw j=true
    ·simp only[hni,hnj,am]at G ⊢
     obtain⟨v0,x0,y0,J⟩:=U
     have h0:=(G v0 x0 y0 J).1
     have ab:=(G v0 x0 y0 J).2.1
     rw[D6 Y.1,D5 Z.1,qv I.1]at h0
     rw[qv I.1]at ab
     refine⟨h0.of_same (execOp_put A R a B.dst v0 p1).symm (wanted_put A a B.dst v0 p1).symm,ab,fun v x y he=>⟨?_,?_,fun u x' y' ac=>?_⟩⟩
     ·rw[D6 Y.2,D5 Z.2,qv I.2]; exact X.of_same (execOp_put B O a A.dst v p3) (wanted_put B a A.dst v p3)
     ·rw[qv I.2]; exact⟨v0,x0,y0,J⟩
     rw[qv I.2]at ac
     have:=(G u x' y' ac).2.2 v x y (by rw[qv I.1]; exact he)
     rw[G1 ap]at this
     rw[<-Act.put_comm a u v p2]; exact this
    ·simp only[hni,hnj,am,aj]at G ⊢
     have get:∀u x y,ent i ((ds i).map g) u x y->∃v,Ins P ops (fun w=>SfT S T w0 w es os) A v a/\lxM P ops Q nw cs ks xs bs ds S T w0 es os ent r (jA g i (u,x,y)) ((a.put B.dst u).put A.dst v):=fun u x y he=>by
      obtain⟨v,N,V⟩:=G u x y he
      exact⟨v,N.of_same (execOp_put A R a B.dst u p1).symm (wanted_put A a B.dst u p1).symm,V⟩
     obtain⟨v0,x0,y0,J⟩:=U
     obtain⟨v,N,_⟩:=get v0 x0 y0 J
     refine⟨v,N,?_⟩
     refine⟨X.of_same (execOp_put B O a A.dst v p3) (wanted_put B a A.dst v p3),⟨v0,x0,y0,J⟩,fun u x y he=>?_⟩
     obtain⟨v',b3,V⟩:=get u x y he
     obtain⟨w,hw⟩:=ad
     have:v'=v:=Ins.unique (w:=w) hw b3 N
     subst this
     rw[<-Act.put_comm a u v' p2]; exact V
   ·rw[ae hni]at h
    obtain⟨v,N,h⟩:=h
    by_cases hnj:nw j=true
    ·simp only[hni,hnj,am,aj]at h ⊢
     obtain⟨X,U,G⟩:=h
     refine⟨X.of_same (execOp_put A R a B.dst v p1).symm (wanted_put A a B.dst v p1).symm,U,fun u x y he=>⟨v,N.of_same (execOp_put B O a A.dst u p3) (wanted_put B a A.dst u p3),?_⟩⟩
     rw[<-Act.put_comm a v u p2]; exact G u x y he
    ·simp only[hni,hnj,aj]at h ⊢
     obtain⟨u,hu,V⟩:=h
     refine⟨u,hu.of_same (execOp_put A R a B.dst v p1).symm (wanted_put A a B.dst v p1).symm,v,N.of_same (execOp_put B O a A.dst u p3) (wanted_put B a A.dst u p3),?_⟩
     rw[<-Act.put_comm a v u p2]; exact V
theorem yb (hs:nP ops) (B:∃w,SfT S T w0 w es os) {j:Nat}:∀(l1 A:L02) (g:Gt) (a:Act),(∀i∈l1,i≠j/\(cs i≠some j/\cs j≠some i)/\(i ∉ ks j/\j ∉ ks i)/\(i ∉ ds j/\j ∉ ds i)/\∀G J,ops[i]? = some G->ops[j]? = some J->G.apart ops J=true) ->
   lxM P ops Q nw cs ks xs bs ds S T w0 es os ent (l1++j :: A) g a->lxM P ops Q nw cs ks xs bs ds S T w0 es os ent (j :: (l1++A)) g a
 | [],_,_,_,_,h=>h
 | i :: l1,A,g,a,hall,h=>by
  have I:∀g a,lxM P ops Q nw cs ks xs bs ds S T w0 es os ent (l1++j :: A) g a->lxM P ops Q nw cs ks xs bs ds S T w0 es os ent (j :: (l1++A)) g a:=fun g a h=>
   yb hs B l1 A g a (fun k N=>hall k (by simp[N])) h
  have O:lxM P ops Q nw cs ks xs bs ds S T w0 es os ent (i :: j :: (l1++A)) g a:=by
   rw[dA]at h
   cases hi:ops[i]? with
   | none=>
    unfold lxM at h ⊢
    simp only[hi]at h ⊢
    exact I _ _ h
   | some G=>
    unfold lxM at h ⊢
    simp only[hi]at h ⊢
    by_cases hn:nw i=true
    ·rw[ag hn]at h ⊢
     exact⟨h.1,h.2.1,fun v x y he=>I _ _ (h.2.2 v x y he)⟩
    ·rw[ae hn]at h ⊢
     obtain⟨v,R,h⟩:=h
     exact⟨v,R,I _ _ h⟩
  have hi:=hall i (by simp)
  exact IK hs B hi.2.2.2.2 hi.2.1 hi.2.2.1 hi.2.2.2.1 hi.1 O
theorem AF {n:Nat} {nw:Nat->Bool} {g:Gt} {listed:Array Bool} {k:Nat} (j:k<n) (hn:nw k=true) (hl:listed.getD k false=true) {o:OE} (A:o∈(g k).2.2) :
  o∈((List.range n).filter (fun k=>nw k&&listed.getD k false)).flatMap (fun k=>(g k).2.2):=
 jc.2 ⟨k,jr.2 ⟨dG.2 j,by rw[hn,hl]; rfl⟩,A⟩
theorem KH {α:Type} (A B C D E:List α):((A++B)++((C++D)++E)).Perm (((A++C)++E)++(B++D)):=by
 simp only[aS]
 refine ew A ?_
 refine (List.perm_append_comm_assoc B C (D++E)).trans (ew C ?_)
 rw[<-aS]
 exact List.perm_append_comm
theorem GE {α:Type} (A E B D:List α):((A++E)++(B++D)).Perm ((A++B)++(D++E)):=by
 simp only[aS]
 refine ew A ?_
 refine List.perm_append_comm.trans ?_
 rw[aS]
theorem Iy {α:Type} (A B C j G E:List α):((A++B)++((C++(j++G))++E)).Perm (((A++C)++(j++E))++(B++G)):=by
 have h:=KH A B (C++j) G E
 simp only[aS]at h ⊢
 exact h
theorem Gm {α:Type} (A B j G E:List α):((A++(j++E))++(B++G)).Perm ((A++B)++((j++G)++E)):=by
 refine (GE A (j++E) B G).trans ?_
 rw[aS j]
 exact (List.perm_append_comm_assoc G j E).append_left _
theorem si (dc:∀c k,c<ops.size->k∈bs c->k<ops.size/\gd ops ops.size k c=true) (dd:∀k,nw k=false->xs k=[]) (hT:TOk S T w0) (b7:∀o∈es,o.ns=true) (df:∀i h v x y,ent i h v x y->∀o∈y,o.ns=true) (hs:nP ops)
  (Z:∀k c,k<ops.size->cs k=some c->nw k=true/\c<ops.size/\nw c=true/\gd ops ops.size c k=true) (N:∀c oc,ops[c]? = some oc->∀k,gd ops ops.size c k=true->k<c)
  (al:∀c k,c<ops.size->k∈ks c->k<ops.size/\nw k=true/\gd ops ops.size c k=true) (c2:∀c k,c<ops.size->k∈ds c->gd ops ops.size c k=true)
  (ct:∀j oj,ops[j]? = some oj->∀e∈oj.after,Region.binds .any e=true->e.on<j)
  (c0:∀i j,i<j->j<ops.size->gd ops ops.size j i=false->∀oi oj,ops[i]? = some oi->ops[j]? = some oj->oi.apart ops oj=true) :
  ∀(m:Nat) (l:L02) (listed:Array Bool) (g:Gt) (a:Act) (w:World),l.length=m->l.Pairwise (·<·)->listed.size=ops.size->closed ops listed ->
   (∀i,i∈l↔i<ops.size/\listed.getD i true=false)->(∀k,nw k=true->listed.getD k false=true->∀o∈(g k).2.2,o.ns=true) ->
   SfT S T w0 w (((List.range ops.size).filter (fun k=>nw k&&listed.getD k false)).flatMap (fun k=>(g k).2.2)++es) (((List.range ops.size).filter (i9 nw cs listed)).flatMap (fun i=>(g i).2.1)++(((List.range ops.size).filter (fun k=>!listed.getD k false)).flatMap xs++os)) ->
   lxM P ops Q nw cs ks xs bs ds S T w0 es os ent l g a->wpAny P .any ops Q m listed a w
 | 0,l,listed,g,a,w,hm,_,hsz,_,hmem,hgn,hS,h=>by
  have hl:l=[]:=bn hm
  subst hl
  have G:∀k,k<ops.size->listed.getD k false=true:=fun k A=>by
   cases hl:listed.getD k false with
   | true=>rfl
   | false=>
    have al:k<listed.size:=by omega
    have:k∈([]:L02):=(hmem k).2 ⟨A,by simp[al]at hl ⊢; exact hl⟩
    cases this
  refine⟨?_,?_⟩
  ·refine List.eq_nil_iff_forall_not_mem.2 fun i hi=>?_
   obtain⟨ap,o,e0,_⟩:=mem_ready.1 hi
   have:=(hmem i).2 ⟨(cg.1 e0).1,ap⟩
   cases this
  ·have e:(List.range ops.size).filter (i9 nw cs listed)=(List.range ops.size).filter (fun k=>nw k&&cs k == none):=by
    refine eQ fun k A=>?_
    have A:=dG.1 A
    unfold i9
    rw[G k A,Bool.and_true]
    cases hc:cs k with
    | none=>rfl
    | some c=>
     show (nw k&&!listed.getD c false)=(nw k&&(some c == none))
     rw[G c (Z k c A hc).2.1]; rfl
   have e2:(List.range ops.size).filter (fun k=>nw k&&listed.getD k false)=(List.range ops.size).filter nw:=by
    refine eQ fun k A=>?_
    rw[G k (dG.1 A),Bool.and_true]
   have e3:(List.range ops.size).filter (fun k=>!listed.getD k false)=[]:=by
    refine List.filter_eq_nil_iff.2 fun k A=>?_
    rw[G k (dG.1 A)]; simp
   rw[e,e2,e3]at hS
   exact h w hS
 | m+1,l,listed,g,a,w,hm,hsort,hsz,hcl,hmem,hgn,hS,h=>by
  refine⟨fun ex=>?_,fun j hj=>?_⟩
  ·exfalso
   cases l with
   | nil=>simp at hm
   | cons i r=>
    obtain⟨V,ap⟩:=(hmem i).1 (by simp)
    have hi:i∈Region.ready .any ops listed:=by
     refine mem_ready.2 ⟨ap,ops[i],by simp[V],fun e he hb=>?_⟩
     have ad:=ct i ops[i] (by simp[V]) e he hb
     cases hl:listed.getD e.on false with
     | true=>rfl
     | false=>
      have b7:e.on<listed.size:=by rw[hsz]; omega
      have e1:listed.getD e.on true=false:=by simp[b7]at hl ⊢; exact hl
      have e6:=(hmem e.on).2 ⟨by omega,e1⟩
      rcases aM.1 e6 with h1 | h1
      ·omega
      ·have:=(fY.1 hsort).1 e.on h1
       omega
    rw[ex]at hi
    cases hi
  ·obtain⟨ap,oj,ab,G⟩:=mem_ready.1 hj
   have I:j<ops.size:=(cg.1 ab).1
   have e7:j∈l:=(hmem j).2 ⟨I,ap⟩
   obtain⟨l1,l2,rfl⟩:=List.append_of_mem e7
   have ad:∀i∈l1,i<j:=fun i hi=>(cc.1 hsort).2.2 i hi j (by simp)
   have dk:∀i∈l1++l2,gd ops ops.size j i=false:=fun i hi=>by
    cases hr:gd ops ops.size j i with
    | false=>rfl
    | true=>
     have O:=iH hcl ops.size j i oj ab G hr
     have h3:=(hmem i).1 (by rcases bE.1 hi with h | h <;> simp[h])
     rw[bR]at O
     have h4:=h3.2
     rw[bR]at h4
     have:i<listed.size:=by rw[hsz]; exact h3.1
     simp[this]at O h4
     rw[O]at h4; cases h4
   have e9:∀i∈l1,cs i≠some j/\cs j≠some i:=fun i hi=>by
    have V:=((hmem i).1 (by simp[hi])).1
    refine⟨fun hc=>?_,fun hc=>?_⟩
    ·have:=(Z i j V hc).2.2.2
     rw[dk i (by simp[hi])]at this; cases this
    ·obtain⟨_,Y,_,U⟩:=Z j i I hc
     have:=N i ops[i] (by simp[Y]) j U
     have:=ad i hi; omega
   have fd:∀i∈l1,i ∉ ks j/\j ∉ ks i:=fun i hi=>by
    have V:=((hmem i).1 (by simp[hi])).1
    refine⟨fun hc=>?_,fun hc=>?_⟩
    ·have:=(al j i I hc).2.2
     rw[dk i (by simp[hi])]at this; cases this
    ·have U:=(al i j V hc).2.2
     have:=N i ops[i] (by simp[V]) j U
     have:=ad i hi; omega
   have fm:∀i∈l1,i ∉ ds j/\j ∉ ds i:=fun i hi=>by
    have V:=((hmem i).1 (by simp[hi])).1
    refine⟨fun hc=>?_,fun hc=>?_⟩
    ·have:=c2 j i I hc
     rw[dk i (by simp[hi])]at this; cases this
    ·have U:=c2 i j V hc
     have:=N i ops[i] (by simp[V]) j U
     have:=ad i hi; omega
   have h1:=yb hs ⟨w,hS.tail.tail' ⟩ l1 l2 g a (fun i hi=>⟨Nat.ne_of_lt (ad i hi),e9 i hi,fd i hi,fm i hi,fun oi fs fA ey=>by
    refine c0 i j (ad i hi) I ?_ oi fs fA ey
    cases hr:gd ops ops.size j i with
    | false=>rfl
    | true=>
     have O:=iH hcl ops.size j i oj ab G hr
     have h3:=((hmem i).1 (by simp[hi])).2
     rw[bR]at O h3
     have:i<listed.size:=by rw[hsz]; exact fU (ad i hi) I
     simp[this]at O h3
     rw[O]at h3; cases h3⟩) h
   have b9:(l1++l2).Pairwise (·<·):=by
    refine hsort.sublist ?_
    exact List.Sublist.append_left (List.sublist_cons_self j l2) l1
   have d0:(l1++l2).length=m:=by simp at hm ⊢; omega
   have d1:closed ops (listed.setIfInBounds j true):=by
    intro k ok A hl e he hb
    by_cases hkj:j=k
    ·subst hkj
     have:ok=oj:=dW (A.symm.trans ab)
     subst this
     exact getD_set_true (G e he hb)
    ·rw[getD_set_ne false hkj]at hl
     exact getD_set_true (hcl k ok A hl e he hb)
   have fB:j ∉ l1++l2:=by
    intro hx
    rcases bE.1 hx with hx | hx
    ·exact absurd (ad j hx) (jm _)
    ·have:=(cc.1 hsort).2.1
     have:=(fY.1 this).1 j hx
     exact absurd this (jm _)
   have c3:∀i,i∈l1++l2↔i<ops.size/\(listed.setIfInBounds j true).getD i true=false:=by
    intro i
    by_cases hij:j=i
    ·subst hij
     constructor
     ·intro hx; exact absurd hx fB
     ·intro hx
      have:=mF (listed:=listed) (i:=j) (by rw[hsz]; exact I) true
      rw[this]at hx; cases hx.2
    ·rw[getD_set_ne true hij,<-hmem i]
     simp only[bE,aM]
     constructor
     ·rintro (hx | hx)
      ·exact .inl hx
      ·exact .inr (.inr hx)
     ·rintro (hx | hx | hx)
      ·exact .inl hx
      ·exact absurd hx.symm hij
      ·exact .inr hx
   have ce:listed.getD j false=false:=by
    have:j<listed.size:=by omega
    simp[this]at ap ⊢; exact ap
   have J:∀k,(listed.setIfInBounds j true).getD k false=if k=j then true else listed.getD k false:=fun k=>by
    by_cases hkj:k=j
    ·subst hkj; rw[ag rfl]; exact mF (by omega) false
    ·rw[ae hkj,getD_set_ne false (fun e=>hkj e.symm)]
   have d2:listed.getD j false=false:=ce
   have hX:(((List.range ops.size).filter (fun k=>!listed.getD k false)).flatMap xs).Perm (xs j++((List.range ops.size).filter (fun k=>!(listed.setIfInBounds j true).getD k false)).flatMap xs):=by
    have bx:=oq (p:=fun k=>!listed.getD k false) (q:=fun k=>k == j) (List.range ops.size)
    rw[A7 I (by rw[d2]; rfl)]at bx
    have e4:(List.range ops.size).filter (fun k=>!listed.getD k false&&!(k == j))=(List.range ops.size).filter (fun k=>!(listed.setIfInBounds j true).getD k false):=by
     refine eQ fun k A=>?_
     rw[J]
     by_cases hkj:k=j
     ·subst hkj; simp
     ·rw[ae hkj]; simp[hkj]
    rw[e4]at bx
    have h8:=bx.flatMap_right (f:=xs)
    rw[List.flatMap_append]at h8
    simpa using h8
   obtain⟨X,c4⟩:∃X,((List.range ops.size).filter (fun k=>!(listed.setIfInBounds j true).getD k false)).flatMap xs=X:=⟨_,rfl⟩
   rw[c4]at hX
   have fP:∀k,(bs j).contains k=true->k<ops.size/\listed.getD k false=false/\k≠j:=fun k A=>by
    have f0:k∈bs j:=by simpa using A
    obtain⟨Y,U⟩:=dc j k I f0
    refine⟨Y,?_,fun e=>?_⟩
    ·cases hl:listed.getD k false with
     | false=>rfl
     | true=>
      have h7:=iH hcl ops.size k j ops[k] (by simp[Y]) (fun e he hb=>hcl k ops[k] (by simp[Y]) hl e he hb) U
      rw[d2]at h7; cases h7
    ·have:=N k ops[k] (by simp[Y]) j U
     omega
   obtain⟨X2,el⟩:∃X2,X.Perm (brM ops.size bs xs j++X2):=by
    have bx:=oq (p:=fun k=>!(listed.setIfInBounds j true).getD k false) (q:=fun k=>(bs j).contains k) (List.range ops.size)
    have e5:(List.range ops.size).filter (fun k=>!(listed.setIfInBounds j true).getD k false&&(bs j).contains k)=(List.range ops.size).filter (fun k=>(bs j).contains k):=by
     refine eQ fun k A=>?_
     cases hq:(bs j).contains k with
     | false=>rw[Bool.and_false]
     | true=>
      obtain⟨_,U,h7⟩:=fP k hq
      rw[J,ae h7,U]; rfl
    rw[e5]at bx
    have h8:=bx.flatMap_right (f:=xs)
    rw[List.flatMap_append,c4]at h8
    exact⟨_,h8⟩
   simp only[lxM,ab]at h1
   by_cases hn:nw j=true
   ·rw[ag hn]at h1
    obtain⟨⟨hw,eC⟩,_,ed⟩:=h1
    obtain⟨R,hR⟩:∃R,(List.range ops.size).filter (fun k=>i9 nw cs listed k&&!(cs k == some j))=R:=⟨_,rfl⟩
    have f1:(List.range ops.size).filter (fun k=>i9 nw cs listed k&&cs k == some j)=(List.range ops.size).filter (fun k=>cs k == some j):=by
     refine eQ fun k A=>?_
     have A:=dG.1 A
     by_cases hc:cs k=some j
     ·obtain⟨h3,_,_,h4⟩:=Z k j A hc
      have Y:listed.getD k false=true:=by
       have O:=iH hcl ops.size j k oj ab G h4
       rw[bR]at O ⊢
       have:k<listed.size:=by omega
       simp[this]at O ⊢; exact O
      have:i9 nw cs listed k=true:=by unfold i9; rw[h3,Y,hc]; simp[ce]
      simp[this,hc]
     ·simp[hc]
    have hp:=oq (p:=i9 nw cs listed) (q:=fun k=>cs k == some j) (List.range ops.size)
    rw[f1,hR]at hp
    obtain⟨K,hK⟩:∃K,((List.range ops.size).filter (fun k=>nw k&&listed.getD k false)).flatMap (fun k=>(g k).2.2)=K:=⟨_,rfl⟩
    have en:∀o∈K++es,o.ns=true:=fun o B=>by
     rcases bE.1 B with B | B
     ·rw[<-hK]at B
      obtain⟨k,A,B⟩:=jc.1 B
      have:=(jr.1 A).2
      simp only[aO]at this
      exact hgn k this.1 this.2 o B
     ·exact b7 o B
    rw[hK]at hS
    have d3:SfT S T w0 w (K++es) ((coM ops.size cs g j++xs j++(brM ops.size bs xs j++os))++(R.flatMap (fun i=>(g i).2.1)++X2)):=by
     refine hS.perm (fun o B=>B) ?_
     have O:((List.range ops.size).filter (i9 nw cs listed)).flatMap (fun i=>(g i).2.1) |>.Perm (coM ops.size cs g j++R.flatMap (fun i=>(g i).2.1)):=by
      have:=hp.flatMap_right (f:=fun i=>(g i).2.1)
      rw[List.flatMap_append]at this
      exact this
     exact (O.append ((hX.trans (el.append_left _)).append_right os)).trans (Iy _ _ _ _ _ _)
    obtain⟨f2,f3,f4,f5⟩:=d3.lend hT en
    have d4:∀o∈ckM ks g j++es,o∈K++es:=fun o B=>by
     rcases bE.1 B with B | B
     ·refine bW _ ?_
      obtain⟨k,A,B⟩:=jc.1 B
      obtain⟨Y,U,h7⟩:=al j k I A
      have O:=iH hcl ops.size j k oj ab G h7
      rw[<-hK]
      exact AF Y U O B
     ·exact bC _ B
    have f6:∀c,cs j=some c->listed.getD c false=false:=fun c hc=>by
     obtain⟨_,Y,_,U⟩:=Z j c I hc
     cases hl:listed.getD c false with
     | false=>rfl
     | true=>
      have h7:=iH hcl ops.size c j ops[c] (by simp[Y]) (fun e he hb=>hcl c ops[c] (by simp[Y]) hl e he hb) U
      rw[ce]at h7; cases h7
    have ga:∀k∈R,k≠j:=fun k A e=>by
     rw[<-hR]at A
     have:=(jr.1 A).2
     rw[e]at this
     unfold i9 at this
     rw[ce]at this
     simp at this
    have gb:∀v,((List.range ops.size).filter (i9 nw cs (listed.setIfInBounds j true))).flatMap (fun i=>(jA g j v i).2.1) |>.Perm (v.2.1++R.flatMap (fun i=>(g i).2.1)):=fun v=>by
     have d5:=oq (p:=i9 nw cs (listed.setIfInBounds j true)) (q:=fun k=>k == j) (List.range ops.size)
     have gs:i9 nw cs (listed.setIfInBounds j true) j=true:=by
      unfold i9
      rw[hn,J,ag rfl]
      cases hc:cs j with
      | none=>rfl
      | some c=>
       have c1:c≠j:=fun e=>by
        obtain⟨_,Y,_,U⟩:=Z j c I hc
        have:=N c ops[c] (by simp[Y]) j U
        omega
       simp only[J,ae c1,f6 c hc]; rfl
     rw[A7 I gs]at d5
     have ek:(List.range ops.size).filter (fun k=>i9 nw cs (listed.setIfInBounds j true) k&&!(k == j))=R:=by
      rw[<-hR]
      refine eQ fun k A=>?_
      by_cases hkj:k=j
      ·subst hkj
       have:i9 nw cs listed k=false:=by unfold i9; rw[ce]; simp
       simp[this]
      ·unfold i9
       rw[J,ae hkj]
       cases hc:cs k with
       | none=>simp[hkj]
       | some c=>
        by_cases hcj2:c=j
        ·subst hcj2; simp only[J,am]; simp
        ·simp only[J,ae hcj2]
         have:(some c == some j)=false:=by simp[hcj2]
         simp[this,hkj]
     rw[ek]at d5
     have h8:=d5.flatMap_right (f:=fun i=>(jA g j v i).2.1)
     rw[List.flatMap_append]at h8
     refine h8.trans (List.Perm.of_eq ?_)
     simp only[dS,List.flatMap_nil,bM]
     rw[sC]
     congr 1
     refine ow fun k A=>?_
     rw[oA (ga k A)]
    have gN:∀v:Th,∀o∈((List.range ops.size).filter (fun k=>nw k&&(listed.setIfInBounds j true).getD k false)).flatMap (fun k=>(jA g j v k).2.2)++es,o∈v.2.2++(K++es):=fun v o B=>by
     rcases bE.1 B with B | B
     ·obtain⟨k,A,B⟩:=jc.1 B
      obtain⟨g0,c5⟩:=jr.1 A
      simp only[aO]at c5
      by_cases hkj:k=j
      ·subst hkj; rw[sC]at B; exact bW _ B
      ·rw[oA hkj]at B
       rw[J,ae hkj]at c5
       refine bC _ (bW _ ?_)
       rw[<-hK]
       exact AF (dG.1 g0) c5.1 c5.2 B
     ·exact bC _ (bC _ B)
    have eT:∀v:Th,(∀o∈v.2.2,o.ns=true)->∀k,nw k=true->(listed.setIfInBounds j true).getD k false=true->∀o∈(jA g j v k).2.2,o.ns=true:=fun v hv k A hl o B=>by
     by_cases hkj:k=j
     ·subst hkj; rw[sC]at B; exact hv o B
     ·rw[oA hkj]at B
      rw[J,ae hkj]at hl
      exact hgn k A hl o B
    unfold wpOp
    simp only[ab]
    rw[ag hw]
    left
    have go:∀v x y w',ent j ((ds j).map g) v x y->SfT (ep (coM ops.size cs g j++xs j++(brM ops.size bs xs j++os))) (T++ep (R.flatMap (fun i=>(g i).2.1)++X2)) w w' y (x++(brM ops.size bs xs j++os))->wpAny P .any ops Q m (listed.setIfInBounds j true) (a.put oj.dst v) w':=fun v x y w' he b2=>by
     have er:=df j _ v x y he
     have h9:=d3.unlend en er b2
     refine si dc dd hT b7 df hs Z N al c2 ct c0 m (l1++l2) _ (jA g j (v,x,y)) _ w' d0 b9 (by simp[hsz]) d1 c3 (eT (v,x,y) er) ?_ (ed v x y he)
     refine h9.perm (gN (v,x,y)) ?_
     rw[c4]
     refine List.Perm.trans ?_ ((gb (v,x,y)).append_right (X++os)).symm
     exact (Gm _ _ _ _ _).trans ((el.symm.append_right os).append_left _)
    rcases eC w _ _ d3.frS f2 (f3.sub d4) (f4.sub d4) f5 with⟨v,w',x,y,hr | ⟨rfl,hr⟩,he,b2⟩ | ⟨f,args,hr,hC⟩
    ·unfold Oper.wp
     rw[hr]
     exact go v x y w' he b2
    ·unfold Oper.wp
     rw[hr]
     exact go undef x y w' he b2
    ·unfold Oper.wp
     rw[hr]
     refine Calls.mono hC fun e w' he=>?_
     cases e with
     | returned v=>obtain⟨x,y,he,b2⟩:=he; exact go v x y w' he b2
     | panicked c=>exact he.elim
     | outgrown=>exact he.elim
   ·rw[ae hn]at h1
    obtain⟨v,hv,O⟩:=h1
    have cm:nw j=false:=by simpa using hn
    have g1:(List.range ops.size).filter (i9 nw cs (listed.setIfInBounds j true))=(List.range ops.size).filter (i9 nw cs listed):=by
     refine eQ fun k A=>?_
     have A:=dG.1 A
     unfold i9
     rw[J]
     by_cases hkj:k=j
     ·subst hkj; rw[cm]; rfl
     ·rw[ae hkj]
      cases hc:cs k with
      | none=>rfl
      | some c=>
       have c1:c≠j:=fun e=>by
        have:=(Z k c A hc).2.2.1
        rw[e,cm]at this; cases this
       simp only[J,ae c1]
    have g2:(List.range ops.size).filter (fun k=>nw k&&(listed.setIfInBounds j true).getD k false)=(List.range ops.size).filter (fun k=>nw k&&listed.getD k false):=by
     refine eQ fun k A=>?_
     rw[J]
     by_cases hkj:k=j
     ·subst hkj; rw[cm]; rfl
     ·rw[ae hkj]
    have ih:wpAny P .any ops Q m (listed.setIfInBounds j true) (a.put oj.dst v) w:=
     si dc dd hT b7 df hs Z N al c2 ct c0 m (l1++l2) _ g _ w d0 b9 (by simp[hsz]) d1 c3 (fun k A hl=>by
      rw[J]at hl
      by_cases hkj:k=j
      ·subst hkj; rw[cm]at A; cases A
      ·rw[ae hkj]at hl; exact hgn k A hl) (by rw[g1,g2,c4]; rw[dd j cm,bT]at hX; exact hS.perm (fun o B=>B) ((hX.append_right os).append_left _)) O
    unfold wpOp
    simp only[ab]
    rcases hv with⟨hw,hv⟩ | ⟨hw,rfl⟩
    ·rw[ag hw]
     left
     unfold Oper.wp
     rw[hv w hS.tail.tail']
     exact ih
    ·rw[ae (by rw[hw]; simp)]
     exact ih
variable {n:Nat} {L:Env}
def kR (P:Program) (n:Nat) (ops:Array Oper) (Q:Exit->Act->World->Prop) (nw:Nat->Bool) (cs:Nat->Option Nat) (ks:Nat->L02) (xs:Nat->List OE) (bs ds:Nat->L02) (S T:L02) (w0:World) (es os:List OE) (ent:Nat->List Th->Value->List OE->List OE->Prop) (l:L02) (g:Gt) (L:Env):Prop:=
 ∀a,Rep n L a->lxM P ops Q nw cs ks xs bs ds S T w0 es os ent l g a
theorem Jl {g:Gt} (h:∀w,SfT S T w0 w (((List.range ops.size).filter nw).flatMap (fun k=>(g k).2.2)++es) (((List.range ops.size).filter (fun k=>nw k&&cs k == none)).flatMap (fun k=>(g k).2.1)++os)->QE n Q .normal L w):kR P n ops Q nw cs ks xs bs ds S T w0 es os ent [] g L:=
 fun a ha w hw=>h w hw a ha
theorem P2 {i:Nat} {r:L02} {g:Gt} {d:Nat} {op:Op} {ty:TypeId} {pos:String} {after:Array Edge} {v:Value} (A:ops[i]? = some ⟨some d,op,ty,pos,after,none⟩) (hf:nw i=false)
  (B:∀w Sb wb,Fz S w0 Sb wb->Rds Sb wb es->Off T es->St Sb wb w os->OpV P n L w ⟨some d,op,ty,pos,after,none⟩ v w) (hd:Nat.blt d n=true) (h:kR P n ops Q nw cs ks xs bs ds S T w0 es os ent r g ((d,v) :: L)):kR P n ops Q nw cs ks xs bs ds S T w0 es os ent (i :: r) g L:=fun a ha=>by
 simp only[lxM,A,hf,ah,aj]
 refine⟨v,.inl ⟨by simp[Region.wanted],fun w' j=>?_⟩,h _ (ha.put hd)⟩
 obtain⟨Sb,wb,hZ,hA,hP,hS⟩:=j
 exact B w' Sb wb hZ hA hP hS a ha
theorem Ky (E:List Th->Value->List OE->List OE->Prop) (hh:List Th) (co ck bw:List OE) {i:Nat} {r:L02} {g:Gt} {d:Nat} {op:Op} {ty:TypeId} {pos:String} {after:Array Edge} (J:ops[i]? = some ⟨some d,op,ty,pos,after,none⟩) (hf:nw i=true) (hE:∀h v x y,ent i h v x y=E h v x y)
  (B:coM ops.size cs g i++xs i=co) (G:ckM ks g i=ck) (A:brM ops.size bs xs i++os=bw) (j:(ds i).map g=hh) (I:∃v x y,E hh v x y)
  (N:∀w Sl Tl,Fr S w0 w->Fz Sl w Sl w->TOk Sl Tl w->Rds Sl w (ck++es)->Off Tl (ck++es)->St Sl w w (co++bw)->OpX P n L w ⟨some d,op,ty,pos,after,none⟩ (fun v w'=>∃x y,E hh v x y/\SfT Sl Tl w w' y (x++bw))) (hd:Nat.blt d n=true)
  (h:∀v x y,E hh v x y->kR P n ops Q nw cs ks xs bs ds S T w0 es os ent r (jA g i (v,x,y)) ((d,v) :: L)):kR P n ops Q nw cs ks xs bs ds S T w0 es os ent (i :: r) g L:=fun a ha=>by
 simp only[lxM,J,hf,am]
 refine⟨⟨by simp[Region.wanted],fun w Sl Tl O hT hA hP hS=>?_⟩,by simp only[hE,j]; exact I,fun v x y he=>h v x y (by rwa [hE,j]at he) _ (ha.put hd)⟩
 rw[B,A]at hS
 rw[A]
 rw[G]at hA hP
 obtain⟨v,w',R,x,y,he,U⟩:=N w Sl Tl O Fz.start hT hA hP hS
 exact .inl ⟨v,w',x,y,.inl (R a ha),by rw[hE,j]; exact he,U⟩
theorem If (E:List Th->Value->List OE->List OE->Prop) (hh:List Th) (co ck bw:List OE) {i:Nat} {r:L02} {g:Gt} {d:Nat} {f:FuncId} {B:List Operand} {N:Array TypeId} {vs:List Value} {ty:TypeId} {pos:String} {after:Array Edge}
  (O:ops[i]? = some ⟨some d,.call ⟨.value (.func f),B.toArray,N⟩,ty,pos,after,none⟩) (hf:nw i=true) (hE:∀h v x y,ent i h v x y=E h v x y)
  (G:coM ops.size cs g i++xs i=co) (I:ckM ks g i=ck) (A:brM ops.size bs xs i++os=bw) (j:(ds i).map g=hh) (J:∃v x y,E hh v x y) (hg:ki P f=true) (hargs:L.evs B=some vs)
  (R:∀w Sl Tl,Fr S w0 w->Fz Sl w Sl w->TOk Sl Tl w->Rds Sl w (ck++es)->Off Tl (ck++es)->St Sl w w (co++bw)->Calls P f vs.toArray w (Ret fun v w'=>∃x y,E hh v x y/\SfT Sl Tl w w' y (x++bw))) (hd:Nat.blt d n=true)
  (h:∀v x y,E hh v x y->kR P n ops Q nw cs ks xs bs ds S T w0 es os ent r (jA g i (v,x,y)) ((d,v) :: L)):kR P n ops Q nw cs ks xs bs ds S T w0 es os ent (i :: r) g L:=fun a ha=>by
 simp only[lxM,O,hf,am]
 refine⟨⟨by simp[Region.wanted],fun w Sl Tl U hT hA hP hS=>?_⟩,by simp only[hE,j]; exact J,fun v x y he=>h v x y (by rwa [hE,j]at he) _ (ha.put hd)⟩
 rw[G,A]at hS
 rw[A]
 rw[I]at hA hP
 refine .inr ⟨f,vs.toArray,Bi rfl hg (ha.evs hargs),?_⟩
 have:=R w Sl Tl U Fz.start hT hA hP hS
 simp only[hE,j]
 exact this
theorem E2 (E:List Th->Value->List OE->List OE->Prop) (hh:List Th) (co ck bw:List OE) {i:Nat} {r:L02} {g:Gt} {d:Nat} {G:Operand} {f:FuncId} {j:List Value} {I:List Operand} {R:Array TypeId} {vs:List Value} {ty:TypeId} {pos:String} {after:Array Edge}
  (U:ops[i]? = some ⟨some d,.call ⟨.value G,I.toArray,R⟩,ty,pos,after,none⟩) (hf:nw i=true) (hE:∀h v x y,ent i h v x y=E h v x y)
  (J:coM ops.size cs g i++xs i=co) (N:ckM ks g i=ck) (B:brM ops.size bs xs i++os=bw) (A:(ds i).map g=hh) (O:∃v x y,E hh v x y) (hx:L.ev G=some (.func (.func f) #[] j.toArray)) (hg:ki P f=true) (hargs:L.evs I=some vs)
  (V:∀w Sl Tl,Fr S w0 w->Fz Sl w Sl w->TOk Sl Tl w->Rds Sl w (ck++es)->Off Tl (ck++es)->St Sl w w (co++bw)->Calls P f (vs++j).toArray w (Ret fun v w'=>∃x y,E hh v x y/\SfT Sl Tl w w' y (x++bw))) (hd:Nat.blt d n=true)
  (h:∀v x y,E hh v x y->kR P n ops Q nw cs ks xs bs ds S T w0 es os ent r (jA g i (v,x,y)) ((d,v) :: L)):kR P n ops Q nw cs ks xs bs ds S T w0 es os ent (i :: r) g L:=fun a ha=>by
 simp only[lxM,U,hf,am]
 refine⟨⟨by simp[Region.wanted],fun w Sl Tl X hT hA hP hS=>?_⟩,by simp only[hE,A]; exact O,fun v x y he=>h v x y (by rwa [hE,A]at he) _ (ha.put hd)⟩
 rw[J,B]at hS
 rw[B]
 rw[N]at hA hP
 refine .inr ⟨f,(vs++j).toArray,x9 rfl (ha.ev hx) hg (ha.evs hargs),?_⟩
 have:=V w Sl Tl X Fz.start hT hA hP hS
 simp only[hE,A]
 exact this
theorem O5 (E:List Th->Value->List OE->List OE->Prop) (hh:List Th) (co ck bw:List OE) {i:Nat} {r:L02} {g:Gt} {op:Op} {ty:TypeId} {pos:String} {after:Array Edge} (J:ops[i]? = some ⟨none,op,ty,pos,after,none⟩) (hf:nw i=true) (hE:∀h v x y,ent i h v x y=E h v x y)
  (B:coM ops.size cs g i++xs i=co) (G:ckM ks g i=ck) (A:brM ops.size bs xs i++os=bw) (j:(ds i).map g=hh) (I:∃v x y,E hh v x y)
  (N:∀w Sl Tl,Fr S w0 w->Fz Sl w Sl w->TOk Sl Tl w->Rds Sl w (ck++es)->Off Tl (ck++es)->St Sl w w (co++bw)->OpY P n L w ⟨none,op,ty,pos,after,none⟩ (fun w'=>∃x y,E hh undef x y/\SfT Sl Tl w w' y (x++bw)))
  (h:∀v x y,E hh v x y->kR P n ops Q nw cs ks xs bs ds S T w0 es os ent r (jA g i (v,x,y)) L):kR P n ops Q nw cs ks xs bs ds S T w0 es os ent (i :: r) g L:=fun a ha=>by
 simp only[lxM,J,hf,am]
 refine⟨⟨by simp[Region.wanted],fun w Sl Tl O hT hA hP hS=>?_⟩,by simp only[hE,j]; exact I,fun v x y he=>h v x y (by rwa [hE,j]at he) _ ha⟩
 rw[B,A]at hS
 rw[A]
 rw[G]at hA hP
 obtain⟨w',R,x,y,he,U⟩:=N w Sl Tl O Fz.start hT hA hP hS
 exact .inl ⟨undef,w',x,y,.inr ⟨rfl,R a ha⟩,by rw[hE,j]; exact he,U⟩
theorem NU {o:Oper} {w:World} {φ ψ:World->Prop} (h:OpY P n L w o φ) (hi:∀w',φ w'->ψ w'):OpY P n L w o ψ:=by
 obtain⟨w',j,A⟩:=h
 exact⟨w',j,hi w' A⟩
theorem sL {P:Program} {f:FuncId} {args:Array Value} {w:World} {φ ψ:Value->World->Prop} (h:Calls P f args w (Ret φ)) (hi:∀v w',φ v w'->ψ v w'):Calls P f args w (Ret ψ):=
 h.mono fun e w' he=>by
  cases e with
  | returned v=>exact hi v w' he
  | panicked c=>exact he.elim
  | outgrown=>exact he.elim
theorem MG {o:Oper} {w:World} {φ ψ:Value->World->Prop} (h:OpX P n L w o φ) (hi:∀v w',φ v w'->ψ v w'):OpX P n L w o ψ:=by
 obtain⟨v,w',j,A⟩:=h
 exact⟨v,w',j,hi v w' A⟩
theorem QC {o:Oper} {w:World} {v:Value} {ψ:Value->World->Prop} (h:OpV P n L w o v w) (hi:ψ v w):OpX P n L w o ψ:=⟨v,w,h,hi⟩
def LQ (ops:Array Oper) (nw:Nat->Bool) (cs:Nat->Option Nat) (ks bs ds:Nat->L02):Bool:=
 (List.range ops.size).all fun k=>((match cs k with | none=>true | some c=>nw k&&Nat.blt c ops.size&&nw c&&gd ops ops.size c k)&&(ks k).all fun c=>Nat.blt c ops.size&&nw c&&gd ops ops.size k c)&&((ds k).all fun c=>gd ops ops.size k c)&&(bs k).all fun c=>Nat.blt c ops.size&&gd ops ops.size c k
theorem GS {y:List OE} (h:y.all OE.ns=true):∀o∈y,o.ns=true:=ci.1 h
theorem CG {id:Nat} {l:List Oper} {w:World} (nw:Nat->Bool) (cs:Nat->Option Nat) (ks:Nat->L02) (xs:Nat->List OE) (bs ds:Nat->L02) (ent:Nat->List Th->Value->List OE->List OE->Prop) (X:SfT S T w0 w es ((List.range l.length).flatMap xs++os)) (O:∀k,nw k=false->xs k=[]) (hT:TOk S T w0) (R:es.all OE.ns=true)
  (U:∀i h v x y,ent i h v x y->∀o∈y,o.ns=true) (hm:P.follows .mixedOrders=true)
  (I:(mn l.toArray&&pZ l.toArray&&pT l.toArray (fun _=>true))=true) (hK:LQ l.toArray nw cs ks bs ds=true)
  (h:kR P n l.toArray Q nw cs ks xs bs ds S T w0 es os ent (List.range l.length) (fun _=>(undef,[],[])) L):wpC P n (.region id l.toArray true) Q L w:=
 fun a ha=>by
  simp only[aO]at I
  have G:=so I.1.2
  refine wp_region_any hm ?_
  have B:∀k,k<l.toArray.size->_:=fun k A=>ci.1 hK k (dG.2 A)
  refine si (fun c k hc A=>?_) O hT (GS R) U (pV I.1.1) (fun k c A hc=>?_) (fun c oc _ k Y=>BT G _ _ _ Y) (fun c k hc A=>?_) (fun c k hc A=>?_) G (fun i j J Z h3 oi V h4 h5=>(rV I.2 i j J Z h3 oi V h4 h5).1) _ (List.range l.length) _ (fun _=>(undef,[],[])) a _ (by simp) List.pairwise_lt_range (by simp) (fun j V hj hl=>?_) (fun i=>?_) (fun k _ _ o ho=>by cases ho) ?_ (h a ha)
  ·have:=B c hc
   simp only[aO]at this
   have:=ci.1 this.2 k A
   simp only[aO]at this
   exact⟨by have:=this.1; rwa [fM]at this,this.2⟩
  ·have:=B k A
   simp only[hc,aO]at this
   have:=this.1.1.1
   exact⟨this.1.1.1,by have:=this.1.1.2; rwa [fM]at this,this.1.2,this.2⟩
  ·have:=B c hc
   simp only[aO]at this
   have:=ci.1 this.1.1.2 k A
   simp only[aO]at this
   exact⟨by have:=this.1.1; rwa [fM]at this,this.1.2,this.2⟩
  ·have:=B c hc
   simp only[aO]at this
   exact ci.1 this.1.2 k A
  ·rw[bR,ez]at hl
   split at hl <;> simp at hl
  ·rw[bR,ez]
   by_cases J:i<l.length
   ·simp[J]
   ·simp[J]
  ·have N:∀k,(Array.replicate l.toArray.size false).getD k false=false:=fun k=>by
    rw[bR,ez]; split <;> rfl
   have e:(List.range l.toArray.size).filter (i9 nw cs (Array.replicate l.toArray.size false))=[]:=by
    refine List.filter_eq_nil_iff.2 fun k A=>?_
    unfold i9
    rw[N]; simp
   have e2:(List.range l.toArray.size).filter (fun k=>nw k&&(Array.replicate l.toArray.size false).getD k false)=[]:=by
    refine List.filter_eq_nil_iff.2 fun k A=>?_
    rw[N]; simp
   have e3:(List.range l.toArray.size).filter (fun k=>!(Array.replicate l.toArray.size false).getD k false)=List.range l.toArray.size:=by
    refine List.filter_eq_self.2 fun k A=>?_
    rw[N]; rfl
   rw[e,e2,e3]
   obtain⟨Sb,wb,hZ,hA,hP,hS⟩:=X
   exact⟨Sb,wb,hZ,hA,hP,by simpa using hS.drew⟩
end
def lenV (v:Value):Nat:=match v with
 | .slice _ n _=>n
 | _=>0
def mh (v:Value) (sz lo hi:Nat) (vp:Value):Prop:=(∃a n c a' c',v=.slice a n c/\vp=.slice a' (hi - lo) c'/\hi - lo<=c'/\(lo<hi->a'=a.map (·.add (lo*sz))))/\lo<=hi/\hi<=lenV v
section
variable {w w0:World} {S:L02} {τ:Type} {e:Enc τ} {v vp:Value} {l:List τ} {lo hi:Nat}
theorem RF (a:Option Addr) (j:Nat):a=a.map (·.add (0*j)):=by cases a <;> simp[Addr.add]
theorem RO.lenV (h:RO w e v l):lenV v=l.length:=by obtain⟨a,c,rfl,_⟩:=h; rfl
theorem RO.whole (h:RO w e v l):mh v e.sz 0 l.length v:=by
 have hl:=h.lenV
 obtain⟨a,c,rfl,hc,_⟩:=h
 exact⟨⟨a,_,c,a,c,rfl,by simp,by omega,fun _=>RF a _⟩,eZ _,by rw[hl]; exact aw _⟩
theorem RO.part (h:RO w e v l) (j:lo<=hi) (A:hi<=l.length):mh v e.sz lo hi (slV v e.sz lo hi):=by
 have hl:=h.lenV
 obtain⟨a,c,rfl,hc,_⟩:=h
 exact⟨⟨a,_,c,_,_,rfl,rfl,by omega,fun B=>ae (by omega)⟩,j,by rw[hl]; exact A⟩
theorem mh.cut {j k:Nat} (hp:mh v j lo hi vp) (N:k<=hi - lo):mh v j (lo+k) hi (slV vp j k (hi - lo)):=by
 obtain⟨⟨a,n,c,B,A,rfl,rfl,hc,ha⟩,O,I⟩:=hp
 refine⟨⟨a,n,c,if A=k then B else B.map (·.add (k*j)),A - k,rfl,?_,?_,fun J=>?_⟩,by omega,I⟩
 ·simp only[slV]; rw[show hi - lo - k=hi - (lo+k) by omega]
 ·omega
 ·have G:¬A=k:=by omega
  rw[ae G,ha (by omega),Option.map_map]
  cases a with
  | none=>rfl
  | some x=>
   simp only[bL,Function.comp,aW]
   congr 1
   unfold Addr.add
   by_cases e1:lo*j=0 <;> by_cases e2:k*j=0 <;> simp[e1,e2,d9]
theorem RO.po (h:RO w e v l) (hp:mh v e.sz lo hi vp):RO w e vp ((l.drop lo).take (hi - lo)):=by
 have hl:=h.lenV
 obtain⟨⟨a,n,c,R,U,rfl,rfl,hc,ha⟩,Z,V⟩:=hp
 obtain⟨a2,c2,J,Y,X⟩:=h
 injection J with J e2 e3
 subst J e3
 simp only[Gk.lenV]at V hl
 have A:((l.drop lo).take (hi - lo)).length=hi - lo:=by simp; omega
 refine⟨R,U,by rw[A],by rw[A]; exact hc,fun B=>?_⟩
 have N:lo<hi:=by
  rcases bY lo hi with O | O
  ·exact O
  ·rw[show hi - lo=0 by omega]at B; simp at B
 have hn:l≠[]:=by rintro rfl; simp at B
 obtain⟨b,off,rfl,I⟩:=X hn
 refine⟨b,off+lo*e.sz,by rw[ha N]; simp[iO],fun j u G=>?_⟩
 rw[e.fl_take,e.fl_drop,bP]at G
 split at G
 ·rw[dX]at G
  have:=I _ _ G
  rw[d9]
  exact this
 ·cases G
theorem RP.po (h:RP S w e v l) (hp:mh v e.sz lo hi vp):RP S w e vp ((l.drop lo).take (hi - lo)):=by
 refine⟨h.1.po hp,fun j k G hb=>?_⟩
 have hl:=h.1.lenV
 have hn:l≠[]:=by rintro rfl; simp at j
 refine h.2 hn k G ?_
 obtain⟨⟨a,n,c,I,J,rfl,rfl,hc,ha⟩,N,O⟩:=hp
 have A:lo<hi:=by
  rcases bY lo hi with B | B
  ·exact B
  ·rw[show hi - lo=0 by omega]at j; simp at j
 rw[ha A]at hb
 cases a with
 | none=>simp[Value.ownBlock]at hb
 | some x=>simp[Value.ownBlock]at hb ⊢; rw[<-hb]; unfold Addr.add; split <;> rfl
theorem Kb (h:RO w e v l) (hp:mh v e.sz lo hi vp) {j:Nat} (N:j<hi - lo):ixA vp e.sz j=ixA v e.sz (lo+j):=by
 obtain⟨⟨a,n,c,O,R,rfl,rfl,hc,ha⟩,U,B⟩:=hp
 obtain⟨a2,V,A,J,I⟩:=h
 injection A with A e2 e3
 subst A e2 e3
 simp only[Gk.lenV]at B
 have G:l≠[]:=by rintro rfl; simp at B; omega
 obtain⟨b,off,rfl,_⟩:=I G
 rw[ha (by omega)]
 simp[ixA,iO,aW,d9]
end
section
variable {P:Program} {n:Nat} {L:Env} {w w0:World} {S:L02} {os:List OE} {d:Option Tmp} {ty:TypeId} {pos:String} {after:Array Edge}
theorem B1 {x y:Operand} {T:TypeId} {τ:Type} {e:Enc τ} {z:Value} {bytes:Nat} {v vp u:Value} {l:List τ} {lo hi:Nat} {i:Nat} {j:Int} {t G:τ} (hT:TI P T z 1 bytes)
  (hx:L.ev x=some (pP (ixA vp e.sz j.toNat))) (hy:L.ev y=some u) (hS:St S w0 w os) (A:os[i]? = some (own e v l)) (hp:mh v e.sz lo hi vp) (hg:ax ((l.drop lo).take (hi - lo)) j=some G) (hu:e.cells t=[u]) :
  OpY P n L w ⟨none,.store T x y,ty,pos,after,none⟩ (fun w'=>St S w0 w' (os.set i (own e v (l.set (lo+j.toNat) t)))):=by
 have B:RO w e v l:=(hS.ok _ (bf A)).ro
 have I:=(gj hg).2.1
 have hl:=B.lenV
 have:=hp.2.2
 rw[aN,bZ]at I
 rw[Kb B hp (by omega)]at hx
 exact u9 hT hx hy hu hS A (by omega)
end
section
variable {P:Program} {n:Nat} {L:Env} {w w0:World} {S:L02} {os:List OE} {d:Option Tmp} {ty:TypeId} {pos:String} {after:Array Edge}
theorem AO {x y:Operand} {T T2 E:TypeId} {τ:Type} {e:Enc τ} {z:Value} {bytes:Nat} {u:Value} {m:List τ} (hT:P.underlying T=some (.slice E)) (B:P.underlying T2=some (.slice E)) (hE:TI P E z e.sz bytes) (hz:z.cells.size=e.sz) (G:bytes<=65536) (j:0<bytes)
  (hx:L.ev x=some (.slice none 0 0)) (hy:L.ev y=some u) (hS:St S w0 w os) (hu:RO w e u m) (hb:m.length*bytes<=225000000000000) :
  OpX P n L w ⟨d,.call ⟨.builtin .append,#[x,y],#[T,T2]⟩,ty,pos,after,none⟩ (fun A w'=>St S w0 w' (own e A m :: os)):=by
 have hn:(own e (.slice none 0 0) ([]:List τ)).ok S w0.heap.size w:=⟨by simp,.inl ⟨rfl,rfl⟩⟩
 obtain⟨A,w',I,J,N,O⟩:=ob (ty:=ty) hT hE hz G j hn hu hS.fr.size (by simpa using hb)
 refine iC A w' (fun a ha=>?_) (hS.push (by simpa [OE.blk,Value.ownBlock] using N) J fun k R=>?_)
 ·have U:(Builtin.append_ #[T,T2] ty #[.slice none 0 0,u]).run P w=(Builtin.append_ #[T,T] ty #[.slice none 0 0,u]).run P w:=by
   simp[Builtin.append_,run_underlying hT,run_underlying B]
  simp[execOp,resolve,invoke,builtin,ha.ev hx,ha.ev hy,U,I]
 ·rcases O k R with h | h
  ·simp[OE.blk,Value.ownBlock]at h
  ·exact h
theorem FF {x y:Operand} {T T2 E:TypeId} {τ:Type} {e:Enc τ} {z:Value} {bytes:Nat} {u:Value} {m r:List τ} (hT:P.underlying T=some (.slice E)) (j:P.underlying T2=some (.slice E)) (hE:TI P E z e.sz bytes) (hz:(Nat.beq z.cells.size e.sz&&Nat.ble bytes 65536&&Nat.blt 0 bytes)=true)
  (hx:L.ev x=some (.slice none 0 0)) (hy:L.ev y=some u) (hS:St S w0 w os) (hu:RO w e u m) (hg:apO bytes [] m=some r) :
  OpX P n L w ⟨d,.call ⟨.builtin .append,#[x,y],#[T,T2]⟩,ty,pos,after,none⟩ (fun A w'=>St S w0 w' (own e A r :: os)):=by
 obtain⟨rfl,hb⟩:=qV hg
 simp only[aO,fM]at hz
 exact AO hT j hE (bJ hz.1.1) (ao hz.1.2) hz.2 hx hy hS hu (by simpa using hb)
end
section
variable {P:Program} {n:Nat} {L:Env} {w:World} {Q:Exit->Act->World->Prop}
theorem Ha {c:Code} (h:wpC P n c (Exit.noGoto Q) L w):wpC P n (.scope c) Q L w:=fun a ha=>wp_scope_straight (h a ha)
theorem Gz {l:Nat} (h:QE n Q .normal L w):wpC P n (.label l) Q L w:=fun a ha=>wp_label (h a ha)
theorem Jz (h:QE n Q .normal L w):QE n (Exit.noGoto Q) .normal L w:=h
theorem B7 (h:QE n Q .ret L w):QE n (Exit.noGoto Q) .ret L w:=h
end
section
variable {P:Program} {n:Nat} {L:Env} {w:World} {Q:Exit->Act->World->Prop}
theorem E4 {c rest:Code} (l:Nat) (hf:findLabel c l=some rest) (h:wpC P n c (Exit.jump l (fun a w=>rest.wp P (Exit.noGoto Q) a w) Q) L w):wpC P n (.scope c) Q L w:=fun a ha=>
 wp_scope_jumps l _ (fun _ _=>0) hf (h a ha) fun a w j=>wp_mono j fun e a w q=>by cases e <;> first | exact q | exact q.elim
theorem J1 {l:Nat} (h:QE n Q (.goto l) L w):wpC P n (.goto l) Q L w:=fun a ha=>wp_goto (h a ha)
theorem I6 {l:Nat} {J:Act->World->Prop} (h:QE n Q .ret L w):QE n (Exit.jump l J Q) .ret L w:=h
theorem JB {l:Nat} {rest:Code} (h:wpC P n rest (Exit.noGoto Q) L w):QE n (Exit.jump l (fun a w=>rest.wp P (Exit.noGoto Q) a w) Q) (.goto l) L w:=fun a ha=>⟨rfl,h a ha⟩
theorem Gh {K:Act->World->Prop} {l:Nat} (h:QE n Q (.goto l) L w):QE n (Exit.then K Q) (.goto l) L w:=h
end
section
variable {P:Program} {n:Nat} {L:Env} {w:World} {S:L02} {d:Option Tmp} {ty:TypeId} {pos:String} {after:Array Edge}
theorem Qo {x y z u:Operand} {T E:TypeId} {k B j:IntKind} {lo hi:Int} {τ:Type} {e:Enc τ} {v z0:Value} {l r:List τ} {bytes:Nat} (hT:P.underlying T=some (.slice E)) (hE:TI P E z0 e.sz bytes)
  (hx:L.ev x=some v) (hy:L.ev y=some (.int j lo)) (hz:L.ev z=some (.int k hi)) (hu:L.ev u=some (.int B hi)) (h:RO w e v l) (hg:slO l lo hi=some r) :
  OpV P n L w ⟨d,.slice T x (some y) (some z) (some u),ty,pos,after,none⟩ (slV3 v e.sz lo.toNat hi.toNat hi.toNat) w:=fun a ha=>by
 obtain⟨b,c,rfl,hc,_⟩:=h
 obtain⟨R,A,_,hs,_⟩:=hE.get
 obtain⟨⟨G,I,U⟩,rfl⟩:=fT hg
 have J:hi<=(c:Int):=by omega
 have N:(hi.toNat:Int)=hi:=ic (by omega)
 have O:0<=hi:=by omega
 have V:(lo.toNat:Int)=lo:=ic (by omega)
 have X:lo.toNat<=hi.toNat:=by omega
 simp[execOp,ha.ev hx,ha.ev hy,ha.ev hz,ha.ev hu,Instr.sliceAt,Instr.slice,run_underlying hT,Instr.sliceBounds,run_sliceBound,G,I,J,N,O,sizeOf,typeInfo,A,hs,slV3]
theorem RO.g_sl3 {τ:Type} {e:Enc τ} {v:Value} {l r:List τ} {lo hi:Int} (h:RO w e v l) (hg:slO l lo hi=some r):RO w e (slV3 v e.sz lo.toNat hi.toNat hi.toNat) r:=by
 obtain⟨⟨A,B,j⟩,rfl⟩:=fT hg
 exact h.sub3 (by omega) j (aw _)
theorem RP.g_sl3 {τ:Type} {e:Enc τ} {v:Value} {l r:List τ} {lo hi:Int} (h:RP S w e v l) (hg:slO l lo hi=some r):RP S w e (slV3 v e.sz lo.toNat hi.toNat hi.toNat) r:=by
 refine⟨h.1.g_sl3 hg,fun j k A hb=>?_⟩
 obtain⟨_,rfl⟩:=fT hg
 refine h.2 (fun e=>j (by rw[e]; simp)) k A ?_
 obtain⟨a,c,rfl,_⟩:=h.1
 cases a with
 | none=>simp[slV3,Value.ownBlock]at hb
 | some x=>
  by_cases hc:hi.toNat=lo.toNat
  ·simpa [slV3,hc,Value.ownBlock] using hb
  ·simp[slV3,hc,Value.ownBlock]at hb ⊢
   rw[<-hb]; unfold Addr.add; split <;> rfl
end
section
variable {P:Program} {n:Nat} {L:Env} {w w0:World} {S:L02} {os:List OE} {d:Option Tmp} {ty:TypeId} {pos:String} {after:Array Edge}
theorem Rf {x:Operand} {T E:TypeId} {b m:Nat} (hT:P.underlying T=some (.array m E)) (hE:(P.info? E).map (·.size)=some 1) (hx:L.ev x=some (pB b 0)) :
  OpV P n L w ⟨d,.slice T x none none none,ty,pos,after,none⟩ (.slice (some ⟨b,0,none⟩) m m) w:=fun a ha=>by
 cases hi':P.info? E with
 | none=>rw[hi']at hE; cases hE
 | some inf=>
  have j:inf.size=1:=by rw[hi']at hE; simpa using hE
  simp[execOp,ha.ev hx,Instr.sliceAt,Instr.sureAddr,run_underlying hT,Instr.sliceBounds,run_sliceBound,sizeOf,typeInfo,hi',j,Addr.add]
theorem St.bxOwn {τ:Type} {e:Enc τ} {l:List τ} {b i m:Nat} (h:St S w0 w os) (hi:os[i]? = some (.bx b (e.fl l))) (hm:l.length=m) (hs:e.sz=1) (I:Nat.ble m 1000=true) :
  St S w0 w (os.set i (own e (.slice (some ⟨b,0,none⟩) m m) l)):=by
 have B:=h.ok _ (bf hi)
 obtain⟨hf,T,j,hg,A⟩:=B
 subst hm
 have hl:(e.fl l).length=l.length:=by rw[e.fl_length,hs,cE]
 have G:j.size=l.length:=by rw[<-hl,<-A]; simp
 have N:=ao I
 refine h.set hi (Fr.refl _ _) ⟨e.fl_length l,.inr ⟨b,l.length,j,T,rfl,hf,.of hg,aw _,by unfold maxLen; omega,by rw[hs,G]; omega,?_⟩⟩ fun k J=>.inl J
 rw[hs,cE,A,<-hl,cO]
theorem jG (T:TypeId) (x:Int) (y:UInt64) (k:Nat) (h:y.toNat=k):cj P .shr T (vI x) (v64 y) (vI (jx x k)):=by subst h; exact JO T x y
theorem GA.part {τ:Type} {g:Nat} {e:Enc τ} {l l1:List τ} {off:Nat} (h:GA S w0 g e l) (hf:Fr S w0 w) (hp:((e.fl l).drop off).take (e.fl l1).length=e.fl l1):∀j u,(e.fl l1)[j]? = some u->w.cell? ⟨g,off+j,none⟩=some u:=fun j u A=>by
 have B:j<(e.fl l1).length:=(aF.1 A).1
 rw[<-hp,bP,ag B,dX]at A
 have:=h.cells hf (off+j) u A
 rwa [bm]at this
theorem RO.pcut {τ:Type} {e:Enc τ} {v vp:Value} {l y:List τ} {lo hi:Nat} {k:Int} (h:RO w e v l) (hp:mh v e.sz lo hi vp) (hg:drO ((l.drop lo).take (hi - lo)) k=some y) :
  mh v e.sz (lo+k.toNat) hi (slV vp e.sz k.toNat ((l.drop lo).take (hi - lo)).length):=by
 obtain⟨⟨B,A⟩,_⟩:=lD hg
 have hl:=h.lenV
 have j:((l.drop lo).take (hi - lo)).length=hi - lo:=by have:=hp.2.1; have:=hp.2.2; simp; omega
 rw[j]at A ⊢
 exact hp.cut A
end
end Go.Gk
end
