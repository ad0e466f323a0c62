import Derived.Test.YtpndnjnogehdfaaGreatDoorGkS
import Derived.Laws.CopyRow
import Derived.Laws.StructEq
import Derived.Lib.AppendStr
import Derived.Scope
import Derived.ScopeJumps
set_option linter.unusedVariables false
set_option linter.unusedSimpArgs false
set_option linter.unusedSectionVars false
section
namespace Go.Gk
open Go Go.RowKit
section
variable {P:Program} {n:Nat} {L:Env} {w w0:World} {Q:Exit->Act->World->Prop} {S:Y4} {os:List OE}
variable {d:Option Tmp} {ty:TypeId} {pos:String} {after:Array Edge}
abbrev pB (b off:Nat):Value:=.pointer (some ⟨b,off,none⟩)
theorem qP (b off k:Nat):(⟨b,off,none⟩:Addr).add k=⟨b,off+k,none⟩:=by unfold Addr.add; split <;> simp_all
theorem At (h:St S w0 w os) (cs:Array Value) (E:TypeId):St S w0 (w.alloc (.cells cs E)) (.bx w.heap.size cs.toList :: os):=by
 refine h.push (Fr.alloc _ _ _) ⟨h.fresh,E,cs,heap_alloc_new w _,rfl⟩ fun k j=>?_
 simp[OE.blk]at j; omega
theorem kX {E:TypeId} {z:Value} {cs:List Value} (hE:(P.info? E).map (·.zero)=some (some z)) (hz:z.cells.toList=cs) (hS:St S w0 w os) :
  OpX P n L w ⟨d,.alloc E,ty,pos,after,none⟩ (fun v w'=>∃b,v=pB b 0/\St S w0 w' (.bx b cs :: os)):=by
 refine gD (pB w.heap.size 0) (w.alloc (.cells z.cells E)) (fun a j=>?_) ⟨_,rfl,hz ▸ At hS _ _⟩
 cases hi:P.info? E with
 | none=>rw[hi]at hE; cases hE
 | some i=>
  rw[hi]at hE
  simp only[bQ,dZ]at hE
  simp[execOp,Instr.alloc,zeroValue,typeInfo,hi,hE,newVar,newRow]
theorem sh {E:TypeId} {x:Operand} {v:Value} {cs:List Value} (hx:L.ev x=some v) (hz:v.cells.toList=cs) (hS:St S w0 w os) :
  OpX P n L w ⟨d,.box E x,ty,pos,after,none⟩ (fun v w'=>∃b,v=pB b 0/\St S w0 w' (.bx b cs :: os)):=by
 refine gD (pB w.heap.size 0) (w.alloc (.cells v.cells E)) (fun a j=>?_) ⟨_,rfl,hz ▸ At hS _ _⟩
 simp[execOp,Instr.box,j.ev hx,newVar,newRow]
theorem bc {s:TypeId} {x:Operand} {b off f k:Nat} {y:Array Field} {q:Field} (hs:P.underlying s=some (.struct y)) (hf:y[f]? = some q) (A:q.offset=k) (j:(P.info? q.type).map (·.size == 0)=some false)
  (hx:L.ev x=some (pB b off)):OpV P n L w ⟨d,.fieldAddr s x f,ty,pos,after,none⟩ (pB b (off+k)) w:=fun a B=>by
 cases hi:P.info? q.type with
 | none=>rw[hi]at j; cases j
 | some i=>
  have G:¬i.size=0:=by rw[hi]at j; simpa using j
  simp[execOp,Instr.fieldAt,B.ev hx,run_underlying hs,hf,Instr.sureAddr,fieldPlace,sizeOf,typeInfo,hi,G,qP,A]
theorem kK {T E:TypeId} {m:Nat} {x y:Operand} {b off:Nat} {k:IntKind} {i:Int} {j:Nat} (hT:P.underlying T=some (.array m E)) (hE:(P.info? E).map (·.size)=some j)
  (hx:L.ev x=some (pB b off)) (A:L.ev y=some (.int k i)) (B:0<=i) (G:i<(m:Int)):OpV P n L w ⟨d,.indexAddr T x y,ty,pos,after,none⟩ (pB b (off+i.toNat*j)) w:=fun a q=>by
 cases hi:P.info? E with
 | none=>rw[hi]at hE; cases hE
 | some inf=>
  have hs:inf.size=j:=by rw[hi]at hE; simpa using hE
  simp[execOp,Instr.indexAt,q.ev hx,q.ev A,asIntOf,run_underlying hT,Instr.sureAddr,B,G,sizeOf,typeInfo,hi,hs,qP]
theorem gf {x:Operand} {b off:Nat} (hx:L.ev x=some (pB b off)):OpV P n L w ⟨d,.nilCheck x,ty,pos,after,none⟩ (pB b off) w:=fun a j=>by
 simp[execOp,j.ev hx]
theorem St.bxc (h:St S w0 w os) (i:Nat) {b:Nat} {cs:List Value} (hi:os[i]? = some (.bx b cs)) (k:Nat):w.cell? ⟨b,k,none⟩=cs[k]?:=by
 obtain⟨_,T,j,y,q⟩:=h.ok _ (ba hi)
 rw[cell_of_row w b k j T (0,0) y,<-q]; simp
theorem bY {T:TypeId} {D:TypeDesc} {x:Operand} {b off:Nat} {u:Value} (hT:P.underlying T=some D) (y:(match D with | .struct _ | .array _ _=>true | _=>false)=false)
  (hx:L.ev x=some (pB b off)) (hc:w.cell? ⟨b,off,none⟩=some u):OpV P n L w ⟨d,.load T x,ty,pos,after,none⟩ u w:=fun a q=>by
 have j:(isAgg T).run P w=.ok false w:=by
  unfold isAgg
  rw[Sem.run_bind,run_underlying hT w]
  cases D <;> simp_all
 simp[execOp,Instr.loadAt,q.ev hx,Instr.sureAddr,loadVar,j,hc]
theorem tV {T:TypeId} {D:TypeDesc} {x:Operand} {b off:Nat} {us:List Value} (hT:P.underlying T=some D) (B:(match D with | .struct _ | .array _ _=>true | _=>false)=true)
  (hi:(P.info? T).map (·.size)=some us.length) (hx:L.ev x=some (pB b off)) (hc:∀j u,us[j]? = some u->w.cell? ⟨b,off+j,none⟩=some u) :
  OpV P n L w ⟨d,.load T x,ty,pos,after,none⟩ (.agg us.toArray) w:=fun a y=>by
 have q:(isAgg T).run P w=.ok true w:=by
  unfold isAgg
  rw[Sem.run_bind,run_underlying hT w]
  cases D <;> simp_all
 cases hq:P.info? T with
 | none=>simp[hq]at hi
 | some i=>
  have hs:i.size=us.length:=by simpa [hq] using hi
  have hl:(loadCells ⟨b,off,none⟩ us.length).run P w=.ok us.toArray w:=
   run_loadCells_list (P:=P) w ⟨b,off,none⟩ us (fun j v A=>by rw[qP]; exact hc j v A)
  simp[execOp,Instr.loadAt,y.ev hx,Instr.sureAddr,loadVar,q,sizeOf,typeInfo,hq,hs,hl]
theorem St.bxs (h:St S w0 w os) (i:Nat) {b:Nat} {cs us:List Value} {off:Nat} (hi:os[i]? = some (.bx b cs)) (hu:(cs.drop off).take us.length=us):∀j u,us[j]? = some u->w.cell? ⟨b,off+j,none⟩=some u:=by
 intro j u q
 rw[h.bxc i hi]
 rw[<-hu,bK]at q
 split at q
 ·simpa using q
 ·cases q
def te:List Value->Prop
 | []=>True
 | v :: r=>v.oneCell'=true/\te r
theorem ze:∀{l:List Value},te l->∀v∈l,v.oneCell'=true
 | [],_,v,j=>by cases j
 | u :: r,h,v,j=>by
  rcases aJ.1 j with rfl | j
  ·exact h.1
  ·exact ze h.2 v j
def spl (cs:List Value) (off:Nat) (us:List Value):List Value:=cs.take off++us++cs.drop (off+us.length)
theorem St.setB (h:St S w0 w os) {i b off:Nat} {cs us:List Value} (hi:os[i]? = some (.bx b cs)) :
  ∃T j,w.heap[b]? = some (.cells j T (0,0))/\j.toList=cs/\St S w0 (w.setRow b (j.toList.take off++us++j.toList.drop (off+us.length)).toArray) (os.set i (.bx b (spl cs off us))):=by
 have y:=h.ok _ (ba hi)
 obtain⟨hf,T,j,A,q⟩:=y
 refine⟨T,j,A,q,?_⟩
 refine h.set hi (o':=.bx b (spl cs off us)) (Fr.setRow w b _) ⟨hf,T,_,setRow_heap w b j _ T (0,0) A,?_⟩ fun k B=>.inl B
 subst q
 simp[spl]
theorem jf {T:TypeId} {x y:Operand} {b off i:Nat} {v:Value} {cs us:List Value} (hi:os[i]? = some (.bx b cs)) (j:(P.info? T).map (·.size)=some us.length)
  (hx:L.ev x=some (pB b off)) (R:L.ev y=some v) (B:v.cells.toList=us) (U:te us) (hl:Nat.ble (off+us.length) cs.length=true) (hS:St S w0 w os) :
  OpY P n L w ⟨none,.store T x y,ty,pos,after,none⟩ (fun w'=>St S w0 w' (os.set i (.bx b (spl cs off us)))):=by
 obtain⟨V,q,X,G,I⟩:=hS.setB (off:=off) (us:=us) hi
 refine ss _ (fun a J=>?_) I
 cases hq:P.info? T with
 | none=>simp[hq]at j
 | some inf=>
  have hs:inf.size=us.length:=by simpa [hq] using j
  have N:off+0+us.length<=q.size:=by
   have:=an hl
   rw[<-G]at this; simpa using this
  have A:=run_storeCells_at P b off V us 0 q w X N (ze U)
  have O:v.cells.size=us.length:=by rw[<-B]; simp
  simp only[bA]at A
  simp[execOp,Instr.storeAt,J.ev hx,J.ev R,Instr.sureAddr,storeVar,sizeOf,typeInfo,hq,hs,B,O,A]
theorem _root_.Go.Gk.RO.one {τ:Type} {e:Enc τ} {v:Value} {l:List τ} (h:RO w e v l):v.oneCell'=true:=by
 obtain⟨a,c,rfl,_⟩:=h; rfl
theorem kc {v:Value} (h:v.oneCell'=true):v.cells.toList=[v]:=by cases v <;> simp_all [Value.cells,Value.oneCell']
def jS (P:Program) (T:TypeId):Option (List (Nat×Nat)×List Value):=
 match P.info? T,P.underlying T with
 | some it,some (.array m e)=>
  match it.zero,P.info? e with
  | some z,some ie=>some ((List.range m).map fun i=>(i*ie.size,ie.size),z.cells.toList)
  | _,_=>none
 | some it,some (.struct fields)=>
  match it.zero,fields.toList.mapM (fun f=>(P.info? f.type).map fun i=>(f.offset,i.size)) with
  | some z,some places=>some (places,z.cells.toList)
  | _,_=>none
 | _,_=>none
def mU (pl:List (Nat×Nat)):List Value->List (Nat×Value×List Value)->Option (List Value)
 | cs,[]=>some cs
 | cs,(i,_,us) :: r=>match pl[i]? with
  | some (off,sz)=>if Nat.beq us.length sz&&Nat.ble (off+us.length) cs.length then mU pl (spl cs off us) r else none
  | none=>none
theorem xG:∀(us:List Value) (off k:Nat) (cs:Array Value),off+k+us.length<=cs.size ->
  (us.zipIdx k).foldl (fun cs (x:Value×Nat)=>cs.setIfInBounds (off+x.2) x.1) cs=(spl cs.toList (off+k) us).toArray
 | [],off,k,cs,_=>by simp[spl]
 | u :: r,off,k,cs,h=>by
  have j:=xG r off (k+1) (cs.setIfInBounds (off+k) u) (by simp at h ⊢; omega)
  rw[List.zipIdx_cons,d9,j]
  congr 1
  unfold spl
  have e:=list_seg_step cs.toList (off+k) u r (by simp at h ⊢; omega)
  simpa [Array.toList_setIfInBounds,eo] using e
theorem uV {place:Nat->Option (Nat×Nat)} {pl:List (Nat×Nat)} (hpl:∀i x,pl[i]? = some x->place i=some x):∀(q:List (Nat×Value×List Value)) (cs j:List Value),
  (∀p∈q,p.2.1.cells.toList=p.2.2)->mU pl cs q=some j->Instr.fill place cs.toArray (q.map fun p=>(p.1,p.2.1))=some j.toArray
 | [],cs,j,_,h=>by simp[mU]at h; simp[Instr.fill,h]
 | (i,v,us) :: r,cs,j,hc,h=>by
  simp only[mU]at h
  cases hi:pl[i]? with
  | none=>rw[hi]at h; cases h
  | some x=>
   obtain⟨off,J⟩:=x
   rw[hi]at h
   simp only at h
   split at h
   ·rename_i y
    simp only[aK]at y
    have N:=bf y.1
    have B:=an y.2
    have A:v.cells.toList=us:=hc (i,v,us) (by simp)
    have I:v.cells.size=us.length:=by rw[<-A]; simp
    have G:=uV hpl r (spl cs off us) j (fun p hp=>hc p (by simp[hp])) h
    simp only[dc,Instr.fill,hpl i _ hi]
    rw[ae (by simp; omega)]
    have hf:v.cells.zipIdx.foldl (fun cs (x:Value×Nat)=>cs.setIfInBounds (off+x.2) x.1) cs.toArray=(spl cs off us).toArray:=by
     have:=xG us off 0 cs.toArray (by simpa using B)
     simp only[bA]at this
     rw[<-this,<-Array.foldl_toList]
     simp[Array.toList_zipIdx,A]
    rw[hf]
    exact G
   ·cases h
theorem JY {T:TypeId} {pl:List (Nat×Nat)} {z q:List Value} {y:List (Nat×Value×List Value)} (j:jS P T=some (pl,z)) (hc:∀p∈y,p.2.1.cells.toList=p.2.2) (hf:mU pl z y=some q) :
  P.built T (y.map fun p=>(p.1,p.2.1))=some q.toArray:=by
 unfold jS at j
 unfold Program.built
 cases hi:P.info? T with
 | none=>rw[hi]at j; cases j
 | some it=>
  cases hu:P.underlying T with
  | none=>rw[hi,hu]at j; cases j
  | some D=>
   rw[hi,hu]at j
   cases D with
   | array m e=>
    simp only at j ⊢
    cases hz:it.zero with
    | none=>rw[hz]at j; cases j
    | some z0=>
     cases he:P.info? e with
     | none=>rw[hz,he]at j; cases j
     | some ie=>
      rw[hz,he]at j
      simp only[dZ,Prod.mk.injEq]at j
      obtain⟨rfl,rfl⟩:=j
      simp only
      have:=uV (place:=fun i=>some (i*ie.size,ie.size)) (fun i x hx=>by
       rw[d6]at hx
       by_cases hm:i<m
       ·rw[List.getElem?_range hm]at hx; simpa using hx
       ·rw[dA (by simp; omega)]at hx; cases hx) y _ q hc hf
      simpa using this
   | struct fields=>
    simp only at j ⊢
    cases hz:it.zero with
    | none=>rw[hz]at j; cases j
    | some z0=>
     cases hp:fields.toList.mapM (fun f=>(P.info? f.type).map fun i=>(f.offset,i.size)) with
     | none=>rw[hz,hp]at j; cases j
     | some places=>
      rw[hz,hp]at j
      simp only[dZ,Prod.mk.injEq]at j
      obtain⟨rfl,rfl⟩:=j
      simp only
      have:=uV (place:=fun i=>places.toArray[i]?) (fun i x hx=>by simpa using hx) y _ q hc hf
      simpa using this
   | _=>cases j
def nX:List (Nat×Value×List Value)->Prop
 | []=>True
 | p :: r=>p.2.1.cells.toList=p.2.2/\nX r
theorem pJ:∀{l:List (Nat×Value×List Value)},nX l->∀p∈l,p.2.1.cells.toList=p.2.2
 | [],_,v,j=>by cases j
 | u :: r,h,v,j=>by
  rcases aJ.1 j with rfl | j
  ·exact h.1
  ·exact pJ h.2 v j
theorem xA {T:TypeId} {j:List (Nat×Operand)} {vs:List (Nat×Value×List Value)} {pl:List (Nat×Nat)} {z cells:List Value} (q:(j.map fun p=>(L.ev p.2).map fun v=>(p.1,v))=vs.map (fun p=>some (p.1,p.2.1)))
  (A:jS P T=some (pl,z)) (hc:nX vs) (hf:mU pl z vs=some cells) :
  OpV P n L w ⟨d,.build T j.toArray,ty,pos,after,none⟩ (.agg cells.toArray) w:=fun a B=>by
 have G:j.map (fun p=>(p.1,a.eval p.2))=vs.map (fun p=>(p.1,p.2.1)):=by
  clear hc hf
  induction j generalizing vs with
  | nil=>cases vs <;> simp_all
  | cons p r ih=>
   cases vs with
   | nil=>simp at q
   | cons v s=>
    simp only[dc,gq]at q
    obtain⟨y,I⟩:=q
    cases hp:L.ev p.2 with
    | none=>rw[hp]at y; cases y
    | some u=>
     rw[hp]at y
     simp only[bQ,dZ]at y
     simp[B.ev hp,y,ih I]
 have J:=run_build (P:=P) w T (j.toArray.map fun x=>(x.1,a.eval x.2)) cells.toArray (by
  have:=JY A (pJ hc) hf
  simpa [G] using this)
 simp only[execOp,Sem.run_bind,J,Result.andThen_ok]; rfl
theorem Kq {T E:TypeId} {m:Nat} {x y:Operand} {cs:Array Value} {k:IntKind} {i:Int} {q:Nat} {u:Value} {D:TypeDesc} (hT:P.underlying T=some (.array m E)) (hE:P.underlying E=some D)
  (N:(match D with | .struct _ | .array _ _=>true | _=>false)=false) (j:(P.info? E).map (·.size)=some q)
  (hx:L.ev x=some (.agg cs)) (G:L.ev y=some (.int k i)) (I:0<=i) (J:i<(m:Int)) (hu:cs[i.toNat*q]? = some u):OpV P n L w ⟨d,.index T x y,ty,pos,after,none⟩ u w:=fun a B=>by
 have A:(isAgg E).run P w=.ok false w:=by
  unfold isAgg
  rw[Sem.run_bind,run_underlying hE w]
  cases D <;> simp_all
 cases hi:P.info? E with
 | none=>rw[hi]at j; cases j
 | some inf=>
  have hs:inf.size=q:=by rw[hi]at j; simpa using j
  simp[execOp,Instr.index,B.ev hx,B.ev G,asIntOf,run_underlying hT,I,J,sizeOf,typeInfo,hi,hs,part,A,hu]
end
def eB:Enc Bool:=⟨1,fun x=>[vB x],fun _=>rfl,fun _ u h=>by simp at h; subst h; rfl⟩
def eP {α β:Type} (e:Enc α) (f:Enc β):Enc (α×β):=⟨e.sz+f.sz,fun t=>e.cells t.1++f.cells t.2,fun t=>by rw[ay,e.len,f.len],fun t u h=>by
 rcases bG.1 h with h | h
 ·exact e.one _ _ h
 ·exact f.one _ _ h⟩
section
variable {P:Program} {n:Nat} {L:Env} {w w0:World} {Q:Exit->Act->World->Prop} {S:Y4} {os:List OE}
variable {d:Option Tmp} {ty:TypeId} {pos:String} {after:Array Edge}
theorem iw {s:TypeId} {x:Operand} {a0:Addr} {f k:Nat} {y:Array Field} {q:Field} (hs:P.underlying s=some (.struct y)) (hf:y[f]? = some q) (A:q.offset=k) (j:(P.info? q.type).map (·.size == 0)=some false)
  (hx:L.ev x=some (pP a0)):OpV P n L w ⟨d,.fieldAddr s x f,ty,pos,after,none⟩ (pP (a0.add k)) w:=fun a B=>by
 cases hi:P.info? q.type with
 | none=>rw[hi]at j; cases j
 | some i=>
  have G:¬i.size=0:=by rw[hi]at j; simpa using j
  simp[execOp,Instr.fieldAt,B.ev hx,run_underlying hs,hf,Instr.sureAddr,fieldPlace,sizeOf,typeInfo,hi,G,A]
theorem Ku {x:Operand} {T:TypeId} {D:TypeDesc} {τ:Type} {e:Enc τ} {v:Value} {l:List τ} {i:Int} {t:τ} {k:Nat} {u:Value} (hT:P.underlying T=some D) (j:(match D with | .struct _ | .array _ _=>true | _=>false)=false)
  (hx:L.ev x=some (pP ((ixA v e.sz i.toNat).add k))) (h:RO w e v l) (q:au l i=some t) (y:Nat.blt k e.sz=true) (hu:(e.cells t)[k]? = some u) :
  OpV P n L w ⟨d,.load T x,ty,pos,after,none⟩ u w:=Ar hT j hx (h.cellAt (gp q).2.2 (an y) hu)
theorem vK {x:Operand} {T:TypeId} {D:TypeDesc} {τ:Type} {e:Enc τ} {v:Value} {l:List τ} {i:Int} {t:τ} (hT:P.underlying T=some D) (B:(match D with | .struct _ | .array _ _=>true | _=>false)=true)
  (hi:(P.info? T).map (·.size)=some e.sz) (hx:L.ev x=some (pP (ixA v e.sz i.toNat))) (h:RO w e v l) (y:au l i=some t) :
  OpV P n L w ⟨d,.load T x,ty,pos,after,none⟩ (.agg (e.cells t).toArray) w:=fun a A=>by
 have q:(isAgg T).run P w=.ok true w:=by
  unfold isAgg
  rw[Sem.run_bind,run_underlying hT w]
  cases D <;> simp_all
 cases hq:P.info? T with
 | none=>simp[hq]at hi
 | some inf=>
  have hs:inf.size=(e.cells t).length:=by rw[e.len]; simpa [hq] using hi
  have hl:(loadCells (ixA v e.sz i.toNat) (e.cells t).length).run P w=.ok (e.cells t).toArray w:=
   run_loadCells_list (P:=P) w _ (e.cells t) (fun j u hu=>h.cellAt (gp y).2.2 (by have:=(aD.1 hu).1; rwa [e.len]at this) hu)
  simp[execOp,Instr.loadAt,A.ev hx,Instr.sureAddr,loadVar,q,sizeOf,typeInfo,hq,hs,hl]
theorem M5 {τ:Type} (e:Enc τ) (l:List τ) (j:Nat) (t:τ) (q:j<l.length):e.fl (l.set j t)=(e.fl l).take (j*e.sz)++e.cells t++(e.fl l).drop ((j+1)*e.sz):=by
 rw[<-e.fl_take,<-e.fl_drop,fx,ah q,e.fl_append]
 simp[Enc.fl]
theorem oI {α:Type} (c:List α) (a:Nat) (h:a<=c.length):∃A B,c=A++B/\A.length=a:=⟨c.take a,c.drop a,(cD a c).symm,by simp; omega⟩
theorem JO {α:Type} (c us:List α) (a k j m:Nat) (hm:m<=c.length) (Z:a+j<=m) (hk:k+us.length<=j) :
  (c.take (a+k)++us++c.drop (a+k+us.length)).take m=(c.take m).take a++(((c.drop a).take j).take k++us++((c.drop a).take j).drop (k+us.length))++(c.take m).drop (a+j):=by
 obtain⟨A,q,rfl,rfl⟩:=oI c a (by omega)
 simp only[ay]at hm
 obtain⟨B,y,rfl,rfl⟩:=oI q k (by omega)
 simp only[ay]at hm
 obtain⟨C,G,rfl,hC⟩:=oI y us.length (by omega)
 simp only[ay]at hm
 obtain⟨D,I,rfl,hD⟩:=oI G (j - B.length - us.length) (by omega)
 simp only[ay]at hm
 obtain⟨E,F,rfl,hE⟩:=oI I (m - A.length - j) (by omega)
 have J:(A++(B++(C++(D++(E++F))))).take (A.length+B.length)=A++B:=by
  rw[<-aP,show A.length+B.length=(A++B).length by simp,fu rfl]
 have N:(A++(B++(C++(D++(E++F))))).drop (A.length+B.length+us.length)=D++(E++F):=by
  rw[<-aP,<-aP,show A.length+B.length+us.length=(A++B++C).length by simp; omega,ik rfl]
 have O:(A++(B++(C++(D++(E++F))))).drop A.length=B++(C++(D++(E++F))):=ik rfl
 have R:(B++(C++(D++(E++F)))).take j=B++(C++D):=by
  rw[show B++(C++(D++(E++F)))=(B++(C++D))++(E++F) by simp,fu (by simp; omega)]
 have U:(B++(C++D)).take B.length=B:=fu rfl
 have V:(B++(C++D)).drop (B.length+us.length)=D:=by
  rw[<-aP,ik (by simp; omega)]
 have X:(A++(B++(C++(D++(E++F))))).take m=A++(B++(C++(D++E))):=by
  rw[show A++(B++(C++(D++(E++F))))=(A++(B++(C++(D++E))))++F by simp,fu (by simp; omega)]
 have e8:(A++(B++(C++(D++E)))).take A.length=A:=fu rfl
 have Y:(A++(B++(C++(D++E)))).drop (A.length+j)=E:=by
  rw[show A++(B++(C++(D++E)))=(A++(B++(C++D)))++E by simp,ik (by simp; omega)]
 rw[J,N,O,R,U,V,X,e8,Y,show A++B++us++(D++(E++F))=(A++(B++us++D)++E)++F by simp,fu (by simp; omega)]
theorem Ex {x y:Operand} {T:TypeId} {τ:Type} {e:Enc τ} {v u:Value} {l:List τ} {i k:Nat} {j:Int} {t B:τ} {us:List Value} (hT:(P.info? T).map (·.size)=some us.length)
  (hx:L.ev x=some (pP ((ixA v e.sz j.toNat).add k))) (hy:L.ev y=some u) (hu:u.cells.toList=us) (hS:St S w0 w os) (hi:os[i]? = some (own e v l)) (hg:au l j=some B)
  (X:e.cells t=(e.cells B).take k++us++(e.cells B).drop (k+us.length)) (U:Nat.ble (k+us.length) e.sz=true) :
  OpY P n L w ⟨none,.store T x y,ty,pos,after,none⟩ (fun w'=>St S w0 w' (os.set i (own e v (l.set j.toNat t)))):=by
 have Y:=hS.ok _ (ba hi)
 obtain⟨_,Z,ab⟩:=gp hg
 have b7:=an U
 have ac:∀q∈us,q.oneCell'=true:=fun q I=>e.one t q (by rw[X]; simp[I])
 rcases Y.2 with⟨rfl,hn⟩ | ⟨g,J,A,T',rfl,ag,N,O,ap,b8,G⟩
 ·omega
 ·have hm:(j.toNat+1)*e.sz<=l.length*e.sz:=aR _ Z
  have aS:(j.toNat+1)*e.sz=j.toNat*e.sz+e.sz:=by rw[aW,cL]
  have b9:l.length*e.sz<=J*e.sz:=aR _ O
  have bx:(ixA (.slice (some ⟨g,0,none⟩) l.length J) e.sz j.toNat).add k=⟨g,j.toNat*e.sz+k,none⟩:=by simp[ixA,gK]
  rw[bx]at hx
  cases I:P.info? T with
  | none=>simp[I]at hT
  | some inf=>
   have hs:inf.size=us.length:=by simpa [I] using hT
   have R:=gO P g (j.toNat*e.sz+k) T' us 0 A w N (by omega) ac
   simp only[bA]at R
   have bT:u.cells.size=us.length:=by rw[<-hu]; simp
   refine ss _ (fun a ha=>?_) (hS.set hi (Fr.setRow w g (A.toList.take (j.toNat*e.sz+k)++us++A.toList.drop (j.toNat*e.sz+k+us.length)).toArray) (o':=own e _ _) ⟨e.fl_length _,.inr ⟨g,J,_,T',by simp,ag,N.set _ (by simp; omega),by simpa using O,ap,?_,?_⟩⟩ fun k U=>.inl U)
   ·simp[execOp,ha.ev hx,ha.ev hy,Instr.storeAt,Instr.sureAddr,storeVar,sizeOf,typeInfo,I,hs,hu,bT,R]
   ·simp; omega
   ·rw[ig,M5 e l _ t Z,X,<-G]
    have cf:(e.cells B).length=e.sz:=e.len B
    have V:e.cells B=(A.toList.drop (j.toNat*e.sz)).take e.sz:=by
     apply iH
     intro q
     rw[bK]
     split
     ·rename_i b3
      have h1:=e.fl_get l j.toNat B ab q b3
      rw[<-h1,<-G,bK,ah (by omega),ep]
     ·rw[dA (by omega)]
    rw[V]
    simp only[aS]
    exact JO A.toList us (j.toNat*e.sz) k e.sz (l.length*e.sz) (by simp; omega) (by omega) (by omega)
theorem zu {T E:TypeId} {m:Nat} {q:List (Nat×Operand)} {vs:List (Nat×Value×List Value)} {τ:Type} {e:Enc τ} {l:List τ} {z:Value} {bytes:Nat} (hT:P.underlying T=some (.slice E)) (hE:TI P E z e.sz bytes)
  (y:(q.map fun p=>(L.ev p.2).map fun v=>(p.1,v))=vs.map (fun p=>some (p.1,p.2.1))) (hc:nX vs) (hl:l.length=m)
  (hf:mU ((List.range m).map fun i=>(i*e.sz,e.sz)) ((List.range (m*e.sz)).map (fun i=>z.cells[i%z.cells.size]!)) vs=some (e.fl l)) (I:0<m*e.sz) (Y:m*e.sz<=16777216) (hS:St S w0 w os) :
  OpX P n L w ⟨d,.buildSlice T m q.toArray,ty,pos,after,none⟩ (fun v w'=>St S w0 w' (own e v l :: os)):=by
 obtain⟨A,hi,J,hs,hb⟩:=hE.get
 have B:=e.fl_length l
 have Z:m<=m*e.sz:=dP _ (fk fun h=>by rw[h]at I; simp at I)
 refine gD (.slice (some ⟨w.heap.size,0,none⟩) m m) (w.alloc (.cells (e.fl l).toArray E)) (fun a O=>?_) ?_
 ·have R:q.map (fun p=>(p.1,a.eval p.2))=vs.map (fun p=>(p.1,p.2.1)):=by
   clear hc hf
   induction q generalizing vs with
   | nil=>cases vs <;> simp_all
   | cons p r ih=>
    cases vs with
    | nil=>simp at y
    | cons v s=>
     simp only[dc,gq]at y
     obtain⟨G,U⟩:=y
     cases hp:L.ev p.2 with
     | none=>rw[hp]at G; cases G
     | some u=>
      rw[hp]at G
      simp only[bQ,dZ]at G
      simp[O.ev hp,G,ih U]
  have j:=uV (place:=fun i=>some (i*A.size,A.size)) (pl:=(List.range m).map fun i=>(i*e.sz,e.sz)) (fun i x hx=>by
   rw[d6]at hx
   by_cases hm:i<m
   ·rw[List.getElem?_range hm]at hx; rw[hs]; simpa using hx
   ·rw[dA (by simp; omega)]at hx; cases hx) vs _ _ (pJ hc) hf
  have V:=run_buildSlice (P:=P) w T E m (q.toArray.map fun x=>(x.1,a.eval x.2)) (e.fl l).toArray A z hT hi J (by rw[hs]; omega) (by rw[hs]; omega) (by
   have:(q.toArray.map fun x=>(x.1,a.eval x.2)).toList=vs.map (fun p=>(p.1,p.2.1)):=by simp[R]
   rw[this]
   have N:((List.range (m*e.sz)).map (fun i=>z.cells[i%z.cells.size]!)).toArray=(Array.range (m*e.sz)).map (z.cells[·%z.cells.size]!):=by
    apply Array.ext'; simp
   rw[N]at j
   rw[hs]at j ⊢
   exact j)
  simp only[execOp,Sem.run_bind,V,Result.andThen_ok]; rfl
 ·refine hS.push (Fr.alloc _ _ _) (o:=own e _ _) ?_ ?_
  ·refine⟨e.fl_length _,.inr ⟨w.heap.size,m,(e.fl l).toArray,E,?_,hS.fresh,Row.new w _ _,?_,?_,?_,?_⟩⟩
   ·rw[hl]
   ·omega
   ·simp[maxLen]; omega
   ·simp[B,hl]
   ·simp only[]
    rw[aA (by rw[B]; exact av _)]
  ·intro k X
   simp[OE.blk,Value.ownBlock]at X
   omega
theorem St.trunc {τ:Type} {e:Enc τ} {v:Value} {l:List τ} {i k:Nat} (h:St S w0 w os) (hi:os[i]? = some (own e v l)) (R:k<=l.length):St S w0 w (os.set i (own e (slV v e.sz 0 k) (l.take k))):=by
 have G:=h.ok _ (ba hi)
 have y:(l.take k).length=k:=by simp; omega
 refine h.set hi (o':=own e _ _) (Fr.refl _ _) ⟨e.fl_length _,?_⟩ ?_
 ·rcases G.2 with⟨rfl,hn⟩ | ⟨g,j,I,T,rfl,J,U,V,N,O,A⟩
  ·left
   have:k=0:=by omega
   subst this
   simp[slV]
  ·right
   refine⟨g,j,I,T,?_,J,U,by omega,N,O,?_⟩
   ·rw[y]
    by_cases hc:j=0
    ·simp[slV,hc]
    ·simp[slV,hc,Addr.add]
   ·rw[y,e.fl_take,<-A,List.take_take]
    congr 1
    have:=aR e.sz R
    omega
 ·intro q B
  left
  rcases G.2 with⟨rfl,hn⟩ | ⟨g,j,I,T,rfl,_⟩
  ·simp[OE.blk,slV,Value.ownBlock]at B
  ·simp only[OE.blk]at B ⊢
   by_cases hc:j=0
   ·simpa [slV,hc,Value.ownBlock] using B
   ·simpa [slV,hc,Value.ownBlock,Addr.add] using B
def EqF (P:Program) (xs ys:Array Value) (fs:List Field) (b:Bool):Prop:=∀(k:Nat) (w:World),(Op.eqFields (k+1) xs ys fs).run P w=.ok b w
theorem Lj {xs j:Array Value}:EqF P xs j [] true:=fun k w=>by simp[Op.eqFields]
theorem qy {T:TypeId} {D:TypeDesc} {xs:Array Value} {off:Nat} {u:Value} (hT:P.underlying T=some D) (q:(match D with | .struct _ | .array _ _=>true | _=>false)=false) (hu:xs[off]? = some u) (w:World):(part T xs off).run P w=.ok u w:=by
 have j:(isAgg T).run P w=.ok false w:=by
  unfold isAgg
  rw[Sem.run_bind,run_underlying hT w]
  cases D <;> simp_all
 simp[part,j,hu]
theorem DJ {xs j : Array Value} {f : Field} {q : List Field} {k : IntKind} {a b : Int} {r : Bool} (hn : (f.name != "_") = true) (hT : P.underlying f.type = some (.int k)) (hx : xs[f.offset]? = some (.int k a)) (A : j[f.offset]? = some (.int k b)) (h : EqF P xs j q r) :
  EqF P xs j (f :: q) ((a == b)&&r):=fun d w=>by
 have y : f.name ≠ "_" := by simpa using hn
 simp only[Op.eqFields,y,ne_eq,iD,am,Sem.run_bind,qy hT rfl hx,qy hT rfl A,Result.andThen_ok,run_equalIn_int w d _ k k a b hT]
 cases hab:(a == b) <;> simp[h d w]
theorem M9 {xs j : Array Value} {f : Field} {q : List Field} {a b : UInt64} {r : Bool} (hn : (f.name != "_") = true) (hT : P.underlying f.type = some (.int .u64)) (hx : xs[f.offset]? = some (v64 a)) (y : j[f.offset]? = some (v64 b)) (h : EqF P xs j q r) :
  EqF P xs j (f :: q) ((a == b)&&r):=by
 have A:=DJ hn hT hx y h
 have B:((a.toNat:Int) == (b.toNat:Int))=(a == b):=by
  by_cases hab:a=b
  ·subst hab; simp
  ·have:¬(a.toNat:Int)=(b.toNat:Int):=fun e=>hab (cA.1 (by omega))
   rw[fF.2 this,fF.2 hab]
 rwa [B]at A
theorem Oz {xs j : Array Value} {f : Field} {q : List Field} {a b : Y3} {r : Bool} (hn : (f.name != "_") = true) (hT : P.underlying f.type = some .string) (hx : xs[f.offset]? = some (vS a)) (A : j[f.offset]? = some (vS b)) (h : EqF P xs j q r) :
  EqF P xs j (f :: q) ((a == b)&&r):=fun d w=>by
 have y : f.name ≠ "_" := by simpa using hn
 simp only[Op.eqFields,y,ne_eq,iD,am,Sem.run_bind,qy hT rfl hx,qy hT rfl A,Result.andThen_ok,run_equalIn_string w d _ ⟨⟨a⟩⟩ ⟨⟨b⟩⟩ hT,rC]
 cases hab:(a == b) <;> simp[h d w]
theorem agx {op:BinOp} {T:TypeId} {x y:Value} {b b':Bool} (h:cr P op T x y (vB b)) (j:b=b'):cr P op T x y (vB b'):=j ▸ h
theorem MF {T:TypeId} {q:Array Field} {xs j:Array Value} {b:Bool} (hT:P.underlying T=some (.struct q)) (hp:P.stoodInHeld T=false) (A:P.eqGuardType P.depth T=false) (h:EqF P xs j q.toList b):cr P .neq T (.agg xs) (.agg j) (vB (!b)):=fun x y w=>by
 have hf:P.fieldsOf T=q:=by simp[Program.fieldsOf,hT]
 have B:P.underlying T=some (.struct (P.fieldsOf T)):=by rw[hf]; exact hT
 simp only[Sem.run_bind,run_eqGuard_agg w .neq T x y xs j A,Result.andThen_ok,run_neq_struct w T xs j,run_equalIn_agg w 9999 T xs j B hp,hf,h 9998 w]
end
end Go.Gk
end
section
namespace Go.Gk
open Go Go.RowKit Go.Lib
section
variable {P:Program} {n:Nat} {L:Env} {w w' w0:World} {Q:Exit->Act->World->Prop} {S:Y4} {os os0 os1:List OE}
variable {d:Option Tmp} {ty:TypeId} {pos:String} {after:Array Edge}
def ea (os:List OE):Y4:=os.filterMap OE.blk
theorem dK {k:Nat}:k∈ea os↔∃o∈os,o.blk=some k:=by simp[ea,List.mem_filterMap]
theorem OE.ok.re {S y:Y4} {B A:Nat} {o:OE} (h:o.ok S B w) (q:∀k,o.blk=some k->fre S B k->fre y A k):o.ok y A w:=by
 cases o with
 | sl v sz n cs=>
  refine⟨h.1,?_⟩
  rcases h.2 with hn | ⟨g,G,I,T,rfl,hf,rest⟩
  ·exact .inl hn
  ·exact .inr ⟨g,G,I,T,rfl,q g rfl hf,rest⟩
 | rd v sz n cs=>
  obtain⟨hl,a,c,rfl,hc,hx⟩:=h
  refine⟨hl,a,c,rfl,hc,fun hn=>?_⟩
  obtain⟨b,off,rfl,J,hf,j⟩:=hx hn
  exact⟨b,off,rfl,J,q b (by simp[OE.blk,hn,Value.ownBlock]) hf,j⟩
 | bx b cs=>exact⟨q b rfl h.1,h.2⟩
theorem St.give (h:St S w0 w (os0++os)):St (ea os0) w w os0:=
 ⟨Fr.refl _ _,fun o j=>(h.ok o (bX _ j)).re fun k q _=>.inr (dK.2 ⟨o,j,q⟩),(ci.1 h.dj).1⟩
theorem St.back (h:St S w0 w (os0++os)) (A:St (ea os0) w w' os1):St S w0 w' (os1++os):=by
 have B:∀k,fre (ea os0) w.heap.size k->fre S w0.heap.size k:=by
  intro k j
  rcases j with j | j
  ·exact .inl (bz h.fr.size j)
  ·obtain⟨o,y,I⟩:=dK.1 j
   exact ((h.ok o (bX _ y)).lt I).2
 have hx:=(ci.1 h.dj).2
 refine⟨h.fr.step A.fr fun k j=>B k (.inr j),?_,?_⟩
 ·intro o y
  rcases bG.1 y with y | y
  ·exact (A.ok o y).re fun k _ hf=>B k hf
  ·refine (h.ok o (bD _ y)).fr A.fr fun k j I=>?_
   obtain⟨p,hp,J⟩:=dK.1 j
   exact hx.2 p hp o y k J I
 ·refine ci.2 ⟨A.dj,hx.1,fun o y p hp k j G=>?_⟩
  have U:=((h.ok p (bD _ hp)).lt G).1
  rcases ((A.ok o y).lt j).2 with N | N
  ·omega
  ·obtain⟨q,R,O⟩:=dK.1 N
   exact hx.2 q R p hp k O G
theorem RP.give {τ:Type} {e:Enc τ} {v:Value} {l:List τ} (h:RP S w0 e v l) (hz:0<e.sz) (hS:St S w0 w (os0++os)):RP (ea os0) w e v l:=by
 refine⟨h.now hS.fr,fun hl k G I=>?_⟩
 obtain⟨o,J,y⟩:=dK.1 G
 have j:=((hS.ok o (bX _ J)).lt y).2
 obtain⟨a,c,rfl,hc,N⟩:=h.1
 obtain⟨b,off,rfl,q⟩:=N hl
 have A:b=k:=by simpa [Value.ownBlock] using I
 subst A
 rcases j with j | j
 ·have B:0<(e.fl l).length:=by
   rw[e.fl_length]
   exact Nat.mul_pos (d8.2 hl) hz
  have:=lC (q 0 _ (aE B))
  simp only at this
  omega
 ·exact h.2 hl b j rfl
theorem St.giveO {τ:Type} {e:Enc τ} {v:Value} {l:List τ} (hS:St S w0 w (os0++os)) (i:Nat) (hi:os[i]? = some (own e v l)):RP (ea os0) w e v l:=by
 have hm:=ba hi
 refine⟨(hS.ok _ (bD _ hm)).ro,fun hl k q y=>?_⟩
 obtain⟨o,A,j⟩:=dK.1 q
 exact (ci.1 hS.dj).2.2 o A _ hm k j y
theorem RP.tk {τ:Type} {e:Enc τ} {v:Value} {l:List τ} (h:RP S w e v l) {k:Nat} (j:k<=l.length):RP S w e (slV v e.sz 0 k) (l.take k):=h.subh j
theorem OE.ok.red {S:Y4} {B:Nat} {τ:Type} {e:Enc τ} {v:Value} {l:List τ} (h:(own e v l).ok S B w):(red e v l).ok S B w:=by
 refine⟨h.1,?_⟩
 rcases h.2 with⟨rfl,hn⟩ | ⟨g,A,J,T,rfl,hf,G,I,N,O,q⟩
 ·exact⟨none,0,by rw[hn],by rw[hn]; exact av _,fun h=>absurd hn h⟩
 ·refine⟨_,A,rfl,I,fun _=>⟨g,0,rfl,G.lt,hf,fun j u y=>?_⟩⟩
  rw[<-q,bK]at y
  split at y
  ·rw[bh,G.cell j]
   simpa using y
  ·cases y
theorem St.freeze {τ:Type} {e:Enc τ} {v:Value} {l:List τ} {i:Nat} (h:St S w0 w os) (hi:os[i]? = some (own e v l)):St S w0 w (os.set i (red e v l)):=by
 refine h.set hi (o':=red e v l) (Fr.refl _ _) (h.ok _ (ba hi)).red fun k j=>.inl ?_
 simp only[OE.blk]at j ⊢
 split at j
 ·cases j
 ·exact j
theorem St.rnil {τ:Type} (e:Enc τ) (h:St S w0 w os):St S w0 w (red e (.slice none 0 0) ([]:List τ) :: os):=
 h.push (Fr.refl _ _) ⟨by simp,none,0,rfl,av _,fun h=>absurd rfl h⟩ (by simp[OE.blk])
def rO (u:Value) (o:Option (List Value)):Prop:=match o with
 | none=>u=.pointer none
 | some _=>∃b,u=pB b 0
def oH (u:Value) (o:Option (List Value)):List OE:=match o,u with
 | some cs,.pointer (some a)=>[.bx a.block cs]
 | _,_=>[]
theorem Ep {T E:TypeId} (hT:P.underlying T=some (.pointer E)) (b off k:Nat) (w:World):(Op.equalIn (k+1) T (pB b off) (.pointer none)).run P w=.ok false w:=by
 simp[Op.equalIn,run_underlying hT]
theorem IP {T E:TypeId} (hT:P.underlying T=some (.pointer E)) (k:Nat) (w:World):(Op.equalIn (k+1) T (.pointer none) (.pointer none)).run P w=.ok true w:=by
 simp[Op.equalIn,run_underlying hT]
theorem Ak {T E:TypeId} (hT:P.underlying T=some (.pointer E)) (b off:Nat) (w:World):(Op.equal T (pB b off) (.pointer none)).run P w=.ok false w:=Ep hT b off 9999 w
theorem Gq {T E:TypeId} (hT:P.underlying T=some (.pointer E)) (w:World):(Op.equal T (.pointer none) (.pointer none)).run P w=.ok true w:=IP hT 9999 w
theorem Mv {T E:TypeId} (hT:P.underlying T=some (.pointer E)) (b off:Nat):cr P .neq T (pB b off) (.pointer none) (vB true):=fun _ _ w=>by
 simp[eqGuard,binOp,Ak hT]
theorem MR {T E:TypeId} (hT:P.underlying T=some (.pointer E)):cr P .neq T (.pointer none) (.pointer none) (vB false):=fun _ _ w=>by
 simp[eqGuard,binOp,Gq hT]
theorem FE {T E:TypeId} (hT:P.underlying T=some (.pointer E)) (b off:Nat):cr P .eql T (pB b off) (.pointer none) (vB false):=fun _ _ w=>by
 simp[eqGuard,binOp,Ak hT]
theorem GK {T E:TypeId} (hT:P.underlying T=some (.pointer E)):cr P .eql T (.pointer none) (.pointer none) (vB true):=fun _ _ w=>by
 simp[eqGuard,binOp,Gq hT]
theorem Fb {T E:TypeId} (hT:P.underlying T=some (.slice E)) (a:Option Addr) (n c k:Nat) (w:World):(Op.equalIn (k+1) T (.slice a n c) (.slice none 0 0)).run P w=.ok a.isNone w:=by
 cases a <;> simp[Op.equalIn,run_underlying hT]
theorem Dd {T E:TypeId} (hT:P.underlying T=some (.slice E)) (a:Option Addr) (n c:Nat) (w:World):(Op.equal T (.slice a n c) (.slice none 0 0)).run P w=.ok a.isNone w:=Fb hT a n c 9999 w
theorem zU {T E:TypeId} {a:Option Addr} {n c:Nat} (hT:P.underlying T=some (.slice E)):cr P .neq T (.slice a n c) (.slice none 0 0) (vB (!a.isNone)):=fun _ _ w=>by
 simp[eqGuard,binOp,Dd hT]
theorem JD {T E:TypeId} {a:Option Addr} {n c:Nat} (hT:P.underlying T=some (.slice E)):cr P .eql T (.slice a n c) (.slice none 0 0) (vB a.isNone):=fun _ _ w=>by
 simp[eqGuard,binOp,Dd hT]
theorem sR (m:Y3):strCells ⟨⟨m⟩⟩=e8.fl m:=by rw[vg]; rfl
theorem mB (t u ty e:TypeId) (i:TypeInfo) (J:P.underlying t=some (.slice e)) (hu:P.underlying u=some .string) (hi:P.info? e=some i) (I:i.size=1)
  (g j y:Nat) (q:Array Value) (T:TypeId) (N:Row w g q T) (s:ByteArray)
  (A:j+s.size<=y) (G:j+s.size<=q.size) :
  (Builtin.append_ #[t,u] ty #[.slice (some ⟨g,0,none⟩) j y,.string s]).run P w =
   .ok (.slice (some ⟨g,0,none⟩) (j+s.size) y) (w.setRow g (q.toList.take j++strCells s++q.toList.drop (j+s.size)).toArray):=by
 have hf:=run_firstCells_string (P:=P) w 1 s
 have B:=gO P g j T (strCells s) 0 q w N (by simpa [strCells_length] using G) (strCells_oneCell s)
 simp only[bA,strCells_length]at B
 simp[Builtin.append_,run_underlying J,run_underlying hu,sizeOf,typeInfo,hi,I,Builtin.lenOf,A,hf,Addr.add_lit,B]
theorem AO {j:Array Value} {a k:Nat} {us:List Value} (h:a+us.length<=j.size) (q:k=a+us.length):(j.toList.take a++us++j.toList.drop k).toArray.size=j.size:=by
 subst q
 simp only[cJ,ay,aQ,bU,dn]
 omega
theorem sE {T U E ty:TypeId} {v:Value} {l m:Y3} {B:Nat} (hT:P.underlying T=some (.slice E)) (hU:P.underlying U=some .string) (hE:TI P E (.int .u8 0) 1 1)
  (ho:(own e8 v l).ok S B w) (hB:B<=w.heap.size) (hb:l.length+m.length<=225000000000000 / 1) :
  ∃v' w',(Builtin.append_ #[T,U] ty #[v,vS m]).run P w=.ok v' w'/\(own e8 v' (l++m)).ok S B w'/\Fr (own e8 v l).blk.toList w w'/\(∀k,(own e8 v' (l++m)).blk=some k->(own e8 v l).blk=some k\/w.heap.size<=k):=by
 obtain⟨O,hi,aS,hs,bx⟩:=hE.get
 have q:(⟨⟨m⟩⟩:ByteArray).size=m.length:=rfl
 have I:∀x:Y3,(e8.fl x).length=x.length:=fun x=>by rw[e8.fl_length]; exact cH _
 by_cases hm:m=[]
 ·subst hm
  have bT:(strCells ⟨⟨[]⟩⟩)=[]:=rfl
  rcases ho.2 with⟨rfl,hn⟩ | ⟨g,y,J,X,rfl,Y,V,Z,ab,R,A⟩
  ·have hl:l=[]:=aZ hn
   subst hl
   refine⟨.slice none 0 0,w,?_,by simpa using ho,Fr.refl _ _,fun k N=>.inl (by simpa using N)⟩
   have hf:=run_firstCells_string (P:=P) w 1 ⟨⟨[]⟩⟩
   rw[q]at hf
   simp only[dw]at hf
   simp[Builtin.append_,run_underlying hT,run_underlying hU,sizeOf,typeInfo,hi,hs,Builtin.lenOf,q,hf]
  ·have ac:y<=J.size:=by simpa [e8] using R
   have G:=mB (P:=P) (w:=w) T U ty E O hT hU hi hs g l.length y J X V ⟨⟨[]⟩⟩ (by rw[q]; simpa using Z) (by rw[q]; simp; omega)
   refine⟨_,_,G,⟨e8.fl_length _,.inr ⟨g,y,_,X,by simp[q],Y,V.set _ (AO (by simp[q,strCells_length,e8]at R ⊢; omega) (by simp[q,strCells_length,e8])),by simpa using Z,ab,?_,?_⟩⟩,Fr.setRow w g _,fun k N=>.inl (by simpa [OE.blk,Value.ownBlock] using N)⟩
   ·simp only[bT,q,bR,dw,bA,cD]
    simpa [e8] using ac
   ·simp only[bT,q,bR,dw,bA,cD]
    exact A
 ·have b8:0<m.length:=d8.2 hm
  rcases ho.2 with⟨rfl,hn⟩ | ⟨g,y,J,X,rfl,Y,V,Z,ab,R,A⟩
  ·have hl:l=[]:=aZ hn
   subst hl
   simp only[dw,bh]at hb
   have G:=Go.run_append_nil_string (P:=P) w T U ty E O (.int .u8 0) hT hU hi aS ⟨⟨m⟩⟩ (by rw[q]; omega) (by rw[q]; omega) (by rw[q,bx]; omega)
   have e1:((⟨⟨m⟩⟩:ByteArray).data.map fun b=>Value.int .u8 b.toNat)=(e8.fl m).toArray:=by
    rw[vg]; simp
   rw[e1,q]at G
   refine⟨_,_,G,⟨e8.fl_length _,.inr ⟨w.heap.size,grownCap w m.length 0 E,_,E,?_,.inl hB,Row.new w.drew _ _,?_,?_,?_,?_⟩⟩,(Fr.drew _ w).trans (Fr.alloc _ _ _),?_⟩
   ·simp
   ·simp; exact grownCap_ge w m.length 0 E
   ·exact grownCap_le_maxLen w m.length 0 E (by simp[maxLen]; omega)
   ·have:=grownCap_ge w m.length 0 E
    have ad:(Value.int IntKind.u8 0).cells.size=1:=rfl
    simp only[fZ,cJ,size_zeroCells,ad,I]
    simp only[e8]
    omega
   ·simp only[bJ,fy,gX]
    rw[<-e8.fl_length]
    exact eD
   ·intro k N
    simp[OE.blk,Value.ownBlock]at N
    right; omega
  ·by_cases hroom:l.length+m.length<=y
   ·have ac:y<=J.size:=by simpa [e8] using R
    have G:=mB (P:=P) (w:=w) T U ty E O hT hU hi hs g l.length y J X V ⟨⟨m⟩⟩ (by rw[q]; exact hroom) (by rw[q]; omega)
    rw[sR,q]at G
    refine⟨_,_,G,⟨e8.fl_length _,.inr ⟨g,y,_,X,by simp,Y,V.set _ (AO (by rw[I]; omega) (by rw[I])),by simpa using hroom,ab,?_,?_⟩⟩,Fr.setRow w g _,fun k N=>.inl (by simpa [OE.blk,Value.ownBlock] using N)⟩
    ·simp only[cJ,ay,aQ,bU,dn,I]
     simp only[e8]
     omega
    ·have ht:J.toList.take l.length=e8.fl l:=by simpa [e8] using A
     rw[ht,<-e8.fl_append,<-e8.fl_length]
     exact eD
   ·have ag:∀j x,(e8.fl l)[j]? = some x->w.cell? ((⟨g,0,none⟩:Addr).add j)=some x:=fun j x hj=>by
     rw[gK,bh,V.cell j]
     rw[<-A,bK]at hj
     split at hj
     ·simpa using hj
     ·cases hj
    have G:=run_append_grow_string (P:=P) w T U ty E O (.int .u8 0) hT hU hi aS ⟨g,0,none⟩ l.length y (e8.fl l) (by rw[hs,I]; omega) ag ⟨⟨m⟩⟩ (by rw[q]; omega) (by rw[q]; omega)
     (by rw[q,bx]; exact rt (by omega) (by omega) (by omega))
    rw[sR,q]at G
    refine⟨_,_,G,⟨e8.fl_length _,.inr ⟨w.heap.size,grownCap w (l.length+m.length) y E,_,E,?_,.inl hB,Row.new w.drew _ _,?_,?_,?_,?_⟩⟩,(Fr.drew _ w).trans (Fr.alloc _ _ _),?_⟩
    ·simp
    ·simp; exact grownCap_ge w (l.length+m.length) y E
    ·exact grownCap_le_maxLen w (l.length+m.length) y E (by simp[maxLen]; omega)
    ·have:=grownCap_ge w (l.length+m.length) y E
     have ad:(Value.int IntKind.u8 0).cells.size=1:=rfl
     simp only[fZ,cJ,size_zeroCells,ad,I]
     simp only[e8]
     omega
    ·simp only[fy,aP]
     rw[<-aP,<-e8.fl_append,<-e8.fl_length]
     exact eD
    ·intro k N
     simp[OE.blk,Value.ownBlock]at N
     right; omega
theorem xE {x y:Operand} {T U E:TypeId} {v:Value} {l m r:Y3} {i:Nat} (hT:P.underlying T=some (.slice E)) (hU:P.underlying U=some .string) (hE:TI P E (.int .u8 0) 1 1)
  (hx:L.ev x=some v) (A:L.ev y=some (vS m)) (hS:St S w0 w os) (hi:os[i]? = some (own e8 v l)) (B:apO 1 l m=some r) :
  OpX P n L w ⟨d,.call ⟨.builtin .append,#[x,y],#[T,U]⟩,ty,pos,after,none⟩ (fun j w'=>St S w0 w' (os.set i (own e8 j r))):=by
 obtain⟨rfl,O⟩:=oC B
 obtain⟨j,w',G,I,J,N⟩:=sE (ty:=ty) (m:=m) hT hU hE (hS.ok _ (ba hi)) hS.fr.size (by omega)
 refine gD j w' (fun a q=>?_) (hS.set hi J I N)
 simp[execOp,resolve,invoke,builtin,q.ev hx,q.ev A,G]
theorem Gy {ops:Array Oper} {C D:World->Prop} {fl:Nat->Bool} {i:Nat} {r:Y4} {d:Nat} {op:Op} {v:Value} (j:C w) (q:ops[i]? = some ⟨some d,op,ty,pos,after,none⟩) (hf:fl i=false)
  (y:OpV P n L w ⟨some d,op,ty,pos,after,none⟩ v w) (hd:Nat.blt d n=true) (h:lxE P n ops C D Q fl r ((d,v) :: L) w):lxE P n ops C D Q fl (i :: r) L w:=
 uS j q hf (Φ:=fun A w'=>A=v/\w'=w) (gD v w y ⟨rfl,rfl⟩) hd (by rintro _ _ ⟨rfl,rfl⟩; exact h)
theorem E0 {T:TypeId} {D:TypeDesc} {b:Nat} {us:List Value} (hT:P.underlying T=some D) (A:(match D with | .struct _ | .array _ _=>true | _=>false)=true)
  (hi:(P.info? T).map (·.size)=some us.length) (hc:∀j u,us[j]? = some u->w.cell? ⟨b,0+j,none⟩=some u):(loadVar T ⟨b,0,none⟩).run P w=.ok (.agg us.toArray) w:=by
 have q:(isAgg T).run P w=.ok true w:=by
  unfold isAgg
  rw[Sem.run_bind,run_underlying hT w]
  cases D <;> simp_all
 cases hq:P.info? T with
 | none=>simp[hq]at hi
 | some i=>
  have hs:i.size=us.length:=by simpa [hq] using hi
  have hl:(loadCells ⟨b,0,none⟩ us.length).run P w=.ok us.toArray w:=
   run_loadCells_list (P:=P) w ⟨b,0,none⟩ us (fun j v y=>by rw[qP]; exact hc j v y)
  simp[loadVar,q,sizeOf,typeInfo,hq,hs,hl]
def RV (P:Program) (L:Env) (w:World):ResultVar->Value->Prop
 | .tmp t,v=>L.get t=some v
 | .cell t T,v=>∃b,L.get t=some (pB b 0)/\(loadVar T ⟨b,0,none⟩).run P w=.ok v w
theorem iS (b off:Nat) (w:World):(asAddr (pB b off)).run P w=.ok ⟨b,off,none⟩ w:=rfl
theorem NE {fn:Func} {y:ResultVar} {A:Value} {φ:Value->World->Prop} (j:fn.results=#[y]) (G:RV P L w y A) (h:φ A w):QE n (bodyPost P fn (Ret φ)) .ret L w:=fun a B=>by
 refine⟨B.defers,A,?_,h⟩
 cases y
 ·have q:=B.get _ _ G
  simp[results,j,q]
 ·obtain⟨b1,q,I⟩:=G
  have q:=B.get _ _ q
  simp[results,j,q,I,iS]
theorem NU {fn:Func} {I J:ResultVar} {N O:Value} {φ:Value->World->Prop} (y:fn.results=#[I,J]) (B:RV P L w I N) (G:RV P L w J O) (h:φ (.tuple #[N,O]) w):QE n (bodyPost P fn (Ret φ)) .ret L w:=fun a A=>by
 refine⟨A.defers,.tuple #[N,O],?_,h⟩
 cases I <;> cases J
 ·have j:=A.get _ _ B
  have q:=A.get _ _ G
  simp[results,y,j,q]
 ·have j:=A.get _ _ B
  obtain⟨V,q,R⟩:=G
  have q:=A.get _ _ q
  simp[results,y,j,q,R,iS]
 ·obtain⟨b1,j,U⟩:=B
  have j:=A.get _ _ j
  have q:=A.get _ _ G
  simp[results,y,j,q,U,iS]
 ·obtain⟨b1,j,U⟩:=B
  have j:=A.get _ _ j
  obtain⟨V,q,R⟩:=G
  have q:=A.get _ _ q
  simp[results,y,j,q,U,R,iS]
def SHP (v:Value) (m:Nat):Prop:=∃a c,v=.slice a m c/\m<=c/\(m≠0->∃b off,a=some ⟨b,off,none⟩)
theorem RO.shp {τ:Type} {e:Enc τ} {v:Value} {l:List τ} (h:RO w e v l):SHP v l.length:=by
 obtain⟨a,c,rfl,hc,j⟩:=h
 refine⟨a,c,rfl,hc,fun hn=>?_⟩
 obtain⟨b,off,q,_⟩:=j (by rintro rfl; simp at hn)
 exact⟨b,off,q⟩
theorem yN {τ:Type} {l y:List τ} {i:Int} {x t:τ} (j:l.set i.toNat t=y) (hx:au l i=some x):au y i=some t:=by
 obtain⟨q,A,_⟩:=gp hx
 subst j
 simp[au,q,A]
def eWv (vb:Value) (o:Option (Nat×Nat)):Value:=match o with
 | none=>.slice none 0 0
 | some p=>match vb with
  | .slice a _ c=>.slice (if c=p.1 then a else a.map (·.add (p.1*1))) (p.2 - p.1) (c - p.1)
  | _=>.slice none 0 0
def eW (vb:Value):Enc (Option (Nat×Nat)):=⟨1,fun o=>[eWv vb o],fun _=>rfl,fun o u h=>by
 simp at h; subst h
 cases o with
 | none=>rfl
 | some p=>cases vb <;> rfl⟩
theorem vJ {v:Value} {l:Y3} (h:RO w e8 v l) (lo hi:Nat):slV v e8.sz lo hi=eWv v (some (lo,hi)):=by
 obtain⟨a,c,rfl,_⟩:=h
 rfl
theorem RP.eW {v:Value} {l:Y3} {o:Option (Nat×Nat)} {c:Nat×Nat} (h:RP S w e8 v l) (j:o=some c) (q:c.1<=c.2) (y:c.2<=l.length):RP S w e8 (eWv v o) (vwL l c):=by
 subst j
 rw[<-vJ h.1]
 exact h.sub q y
theorem RP.eWn {v:Value} {l:Y3} (h:RP S w e8 v l) (hl:l≠[]) (o:Option (Nat×Nat)):∃a m c,eWv v o=.slice a m c/\a.isNone=o.isNone:=by
 obtain⟨a,c,rfl,hc,j⟩:=h.1
 obtain⟨b,off,rfl,_⟩:=j hl
 cases o with
 | none=>exact⟨none,0,0,rfl,rfl⟩
 | some p=>
  refine⟨_,_,_,rfl,?_⟩
  split <;> simp
theorem RP.eWne {v:Value} {l:Y3} {T E:TypeId} (h:RP S w e8 v l) (hT:P.underlying T=some (.slice E)) (o:Option (Nat×Nat)) (hl:l≠[]):cr P .neq T (eWv v o) (.slice none 0 0) (vB o.isSome):=by
 obtain⟨a,m,c,j,q⟩:=h.eWn hl o
 rw[j]
 have:=zU (P:=P) (T:=T) (E:=E) (a:=a) (n:=m) (c:=c) hT
 rw[q]at this
 cases o <;> exact this
theorem W_sl {x y z:Operand} {T E:TypeId} {k j:IntKind} {lo hi:Int} {v:Value} {l r:Y3} {z0:Value} {bytes:Nat} (hT:P.underlying T=some (.slice E)) (hE:TI P E z0 e8.sz bytes)
  (hx:L.ev x=some v) (q:L.ev y=some (.int k lo)) (hz:L.ev z=some (.int j hi)) (h:RO w e8 v l) (A:slO l lo hi=some r) :
  OpV P n L w ⟨d,.slice T x (some y) (some z) none,ty,pos,after,none⟩ (eWv v (some (lo.toNat,hi.toNat))) w:=by
 have:=Nw (n:=n) (d:=d) (ty:=ty) (pos:=pos) (after:=after) hT hE hx q hz h A
 rwa [vJ h]at this
theorem RP.W_sl {v:Value} {l r:Y3} {lo hi:Int} (h:RP S w e8 v l) (j:slO l lo hi=some r):RP S w e8 (eWv v (some (lo.toNat,hi.toNat))) r:=by
 rw[<-vJ h.1]; exact h.g_sl j
theorem CP {x y:Operand} {T:TypeId} {p q:Int} (hx:L.ev x=some (vI p)) (A:L.ev y=some (vI q)):OpV P n L w ⟨d,.call ⟨.builtin .min,#[x,y],#[T,T]⟩,ty,pos,after,none⟩ (vI (min p q)) w:=fun a j=>by
 have B:(if q<p then q else p)=min p q:=by split <;> omega
 have G:(Builtin.min2 (vI p) (vI q)).run P w=.ok (vI (min p q)) w:=by rw[<-B]; rfl
 simp[execOp,resolve,invoke,builtin,Builtin.min_,j.ev hx,j.ev A,G]
theorem KA {x y:Operand} {T:TypeId} {p q:Int} (hx:L.ev x=some (vI p)) (A:L.ev y=some (vI q)):OpV P n L w ⟨d,.call ⟨.builtin .max,#[x,y],#[T,T]⟩,ty,pos,after,none⟩ (vI (max p q)) w:=fun a j=>by
 have B:(if p<q then q else p)=max p q:=by split <;> omega
 have G:(Builtin.max2 (vI p) (vI q)).run P w=.ok (vI (max p q)) w:=by rw[<-B]; rfl
 simp[execOp,resolve,invoke,builtin,Builtin.max_,j.ev hx,j.ev A,G]
theorem St.bxro {τ:Type} {e:Enc τ} {l:List τ} {b:Nat} {cs:List Value} (h:St S w0 w os) (i:Nat) (hi:os[i]? = some (.bx b cs)) (hl:cs=e.fl l):RO w e (.slice (some ⟨b,0,none⟩) l.length l.length) l:=by
 refine⟨_,_,rfl,av _,fun _=>⟨b,0,rfl,fun j u q=>?_⟩⟩
 rw[bh,h.bxc i hi,hl]
 exact q
theorem OH {x y:Operand} {T E:TypeId} {k:IntKind} {lo:Int} {τ:Type} {e:Enc τ} {l r:List τ} {b:Nat} {z0:Value} {bytes m:Nat} (hT:P.underlying T=some (.array m E)) (hE:TI P E z0 e.sz bytes)
  (hx:L.ev x=some (pB b 0)) (A:L.ev y=some (.int k lo)) (hm:l.length=m) (B:drO l lo=some r) :
  OpV P n L w ⟨d,.slice T x (some y) none none,ty,pos,after,none⟩ (slV (.slice (some ⟨b,0,none⟩) l.length l.length) e.sz lo.toNat l.length) w:=fun a j=>by
 obtain⟨⟨G,O⟩,_⟩:=kD B
 obtain⟨N,q,_,hs,_⟩:=hE.get
 have I:lo<=(m:Int):=by omega
 subst hm
 have J:slV (.slice (some ⟨b,0,none⟩) l.length l.length) e.sz lo.toNat l.length=.slice (some (if l.length=lo.toNat then ⟨b,0,none⟩ else (⟨b,0,none⟩:Addr).add (lo.toNat*e.sz))) (l.length - lo.toNat) (l.length - lo.toNat):=by
  simp only[slV]
  split <;> rfl
 rw[J]
 simp[execOp,j.ev hx,j.ev A,Instr.sliceAt,Instr.sureAddr,run_underlying hT,Instr.sliceBounds,run_sliceBound,G,I,sizeOf,typeInfo,q,hs]
end
end Go.Gk
end
section
namespace Go.Gk
open Go Go.RowKit
section
variable {P:Program} {n:Nat} {L:Env} {w w' w0:World} {Q:Exit->Act->World->Prop} {S:Y4} {os os0 os1:List OE}
variable {d:Option Tmp} {ty:TypeId} {pos:String} {after:Array Edge}
theorem In {x:Operand} {p:Addr} (hx:L.ev x=some (pP p)):OpV P n L w ⟨d,.nilCheck x,ty,pos,after,none⟩ (pP p) w:=fun a j=>by
 simp[execOp,j.ev hx]
theorem zR {T E:TypeId} {τ:Type} {e:Enc τ} {z:Value} {bytes:Nat} (hT:P.underlying T=some (.slice E)) (hE:TI P E z e.sz bytes) (hS:St S w0 w os) :
  OpX P n L w ⟨d,.buildSlice T 0 #[],ty,pos,after,none⟩ (fun v w'=>St S w0 w' (own e v ([]:List τ) :: os)):=by
 obtain⟨y,hi,A,hs,B⟩:=hE.get
 refine gD (.slice (some ⟨w.heap.size,0,none⟩) 0 0) (w.alloc (.cells #[] E)) (fun a G=>?_) ?_
 ·have j:(Array.map (fun _:Nat=>(default:Value)) (Array.range 0))=#[]:=Array.eq_empty_of_size_eq_zero (by simp)
  simp[execOp,Instr.buildSlice,run_underlying hT,sizeOf,typeInfo,hi,Instr.fill,newRow,j]
 ·refine hS.push (Fr.alloc _ _ _) (o:=own e _ _) ?_ ?_
  ·exact⟨by simp,.inr ⟨w.heap.size,0,#[],E,rfl,hS.fresh,Row.new w _ _,av _,by simp[maxLen],by simp,by simp⟩⟩
  ·intro k q
   simp[OE.blk,Value.ownBlock]at q
   omega
def SV.of (v:Value):SV:=match v with
 | .slice a n c=>⟨a,n,c⟩
 | _=>⟨none,0,0⟩
theorem RO.sv {τ:Type} {e:Enc τ} {v:Value} {l:List τ} (h:RO w e v l):(SV.of v).v=v:=by
 obtain⟨a,c,rfl,_⟩:=h; rfl
theorem RO.svrp {τ:Type} {e:Enc τ} {v:Value} {l:List τ} (h:RO w e v l):RP [] w e (SV.of v).v l:=by rw[h.sv]; exact h.rp
theorem RP.sv {τ:Type} {e:Enc τ} {v:Value} {l:List τ} (h:RP S w e v l):RP S w e (SV.of v).v l:=by rw[h.1.sv]; exact h
theorem AZ {v:Value} {r:List SV} {vs:List Value} (h:(SV.of v).v=v) (j:eV.fl r=vs):eV.fl (SV.of v :: r)=v :: vs:=by
 rw[<-j]
 show [(SV.of v).v]++eV.fl r=v :: eV.fl r
 rw[h]; rfl
def jo (S:Y4) (w:World) {τ:Type} (e:Enc τ):List SV->List (List τ)->Prop
 | [],[]=>True
 | s :: r,l :: m=>RP S w e s.v l/\jo S w e r m
 | _,_=>False
theorem jo.len {τ:Type} {e:Enc τ}:∀{s:List SV} {m:List (List τ)},jo S w e s m->s.length=m.length
 | [],[],_=>rfl
 | _ :: _,_ :: _,h=>by simp[jo.len h.2]
theorem jo.nth {τ:Type} {e:Enc τ}:∀{s:List SV} {m:List (List τ)},jo S w e s m->∀{i:Nat} {l:List τ},m[i]? = some l->∃v,s[i]? = some v/\RP S w e v.v l
 | [],[],_,i,l,hi=>by simp at hi
 | a :: r,b :: m,h,0,l,hi=>by simp at hi; subst hi; exact⟨a,rfl,h.1⟩
 | a :: r,b :: m,h,i+1,l,hi=>by simpa using jo.nth h.2 (by simpa using hi)
theorem jo.get {τ:Type} {e:Enc τ} {s:List SV} {m:List (List τ)} (h:jo S w e s m) {i:Int} {l:List τ} (hi:au m i=some l):∃v,au s i=some v/\RP S w e v.v l:=by
 obtain⟨j,_,q⟩:=gp hi
 obtain⟨v,y,A⟩:=h.nth q
 exact⟨v,by simp[au,j,y],A⟩
theorem JC {x:Operand} {T E:TypeId} {τ:Type} {v:Value} {s:List SV} {m:List (List τ)} (hT:P.underlying T=some (.slice E)) (hx:L.ev x=some v) (h:RO w eV v s) (hl:s.length=m.length) :
  OpV P n L w ⟨d,.call ⟨.builtin .len,#[x],#[T]⟩,ty,pos,after,none⟩ (vI m.length) w:=by
 have:=fc (n:=n) (d:=d) (ty:=ty) (pos:=pos) (after:=after) hT hx h
 rwa [hl]at this
section
variable {T E:TypeId} {τ:Type} {e:Enc τ} {v:Value} {l r:List τ} {z0:Value} {bytes:Nat}
end
theorem L0 (T:TypeId) (x y:Bool) {D:TypeDesc} (hT:P.underlying T=some D) (j:D=.bool):cr P .eql T (vB x) (vB y) (vB (x == y)):=fun _ _ w=>by
 subst j
 have h:∀k,(Op.equalIn (k+1) T (vB x) (vB y)).run P w=.ok (x == y) w:=fun k=>by simp[Op.equalIn,run_underlying hT]
 have q:(Op.equal T (vB x) (vB y)).run P w=.ok (x == y) w:=h 9999
 simp[eqGuard,binOp,q]
theorem NS (T:TypeId) (x y:Bool) {D:TypeDesc} (hT:P.underlying T=some D) (j:D=.bool):cr P .neq T (vB x) (vB y) (vB (x != y)):=fun _ _ w=>by
 subst j
 have h:∀k,(Op.equalIn (k+1) T (vB x) (vB y)).run P w=.ok (x == y) w:=fun k=>by simp[Op.equalIn,run_underlying hT]
 have q:(Op.equal T (vB x) (vB y)).run P w=.ok (x == y) w:=h 9999
 simp[eqGuard,binOp,q,bne]
theorem RP.isnil {τ:Type} {e:Enc τ} {v:Value} {l:List τ} {T E:TypeId} (h:RP S w e v l) (hT:P.underlying T=some (.slice E)) :
  (l=[]/\cr P .eql T v (.slice none 0 0) (vB true)/\cr P .neq T v (.slice none 0 0) (vB false))\/(cr P .eql T v (.slice none 0 0) (vB false)/\cr P .neq T v (.slice none 0 0) (vB true)):=by
 obtain⟨a,c,rfl,hc,j⟩:=h.1
 cases a with
 | some a=>exact .inr ⟨JD hT,zU hT⟩
 | none=>
  refine .inl ⟨?_,JD hT,zU hT⟩
  cases l with
  | nil=>rfl
  | cons x r=>obtain⟨b,off,q,_⟩:=j (by simp); cases q
end
end Go.Gk
end
section
namespace Go.Gk
section
variable {P:Program} {n:Nat} {L:Env} {w w0:World} {Q:Exit->Act->World->Prop}
variable {d:Option Nat} {ty:TypeId} {pos:String} {after:Array Edge}
theorem EK {f:FuncId} {xs:List Operand} {vs:List Value} (h:L.evs xs=some vs):OpV P n L w ⟨d,.makeFunc (.func f) #[] xs.toArray,ty,pos,after,none⟩ (.func (.func f) #[] vs.toArray) w:=fun a j=>by
 have:=j.evs h
 simp[execOp,Instr.makeFunc,<-this]
theorem xb {o:Oper} {x:Operand} {f:FuncId} {xs:List Operand} {q:Array TypeId} {vs j:List Value} {a:Act} (y:o.op=.call ⟨.value x,xs.toArray,q⟩)
  (hx:a.eval x=.func (.func f) #[] j.toArray) (hf:jD P f=true) (hargs:xs.map a.eval=vs):(execOp a.eval o).run P w=.ok (.enter f (vs++j).toArray) w:=by
 simp only[execOp,y,resolve,hx,Deferred.ofValue,Sem.run_bind,Sem.run_pure,Result.andThen_ok,invoke]
 have:(#[]++Array.map a.eval xs.toArray++j.toArray:Array Value)=(vs++j).toArray:=by simp[hargs]
 rw[this]
 exact ra hf
theorem Hg {o:Oper} {x:Operand} {f:FuncId} {xs:List Operand} {y:Array TypeId} {vs j:List Value} {φ:Value->World->Prop} {K:Act->World->Prop} {a:Act} (A:o.op=.call ⟨.value x,xs.toArray,y⟩)
  (hx:a.eval x=.func (.func f) #[] j.toArray) (hf:jD P f=true) (hargs:xs.map a.eval=vs) (hc:Calls P f (vs++j).toArray w (Ret φ)) (k:∀v w',φ v w'->K (a.put o.dst v) w'):o.wp P a w K Q:=by
 unfold Oper.wp
 rw[xb A hx hf hargs]
 refine Calls.mono hc fun e w' q=>?_
 cases e with
 | returned v=>exact k v w' q
 | panicked c=>exact q.elim
 | outgrown=>exact q.elim
theorem o7 {ops:Array Oper} {rest:List Oper} {d:Nat} {x:Operand} {f:FuncId} {xs:List Operand} {y:Array TypeId} {vs j:List Value} {φ:Value->World->Prop}
  (hx:L.ev x=some (.func (.func f) #[] j.toArray)) (hf:jD P f=true) (hargs:L.evs xs=some vs) (hc:Calls P f (vs++j).toArray w (Ret φ)) (hd:Nat.blt d n=true)
  (k:∀v w',φ v w'->wpR P n ops Q rest ((d,v) :: L) w'):wpR P n ops Q (⟨some d,.call ⟨.value x,xs.toArray,y⟩,ty,pos,after,none⟩ :: rest) L w:=fun a q=>by
 unfold wpList
 rw[ah (by simp[Region.wanted])]
 exact .inl (Hg rfl (q.ev hx) hf (q.evs hargs) hc fun v w' h=>k v w' h _ (q.put hd))
end
section
variable {P:Program} {n:Nat} {L:Env} {w w0:World} {Q:Exit->Act->World->Prop} {S:Y4} {os:List OE}
variable {d:Option Nat} {ty:TypeId} {pos:String} {after:Array Edge}
theorem ve (a:Addr) (m k:Nat):(w.freeze a m).heap[k]? = (w.heap[k]?).map fun o=>if k=a.block/\m≠0 then (match o with
   | .cells c elem (lo,hi)=>.cells c elem (if lo == hi then (a.off,a.off+m) else (min lo a.off,max hi (a.off+m)))
   | o=>o) else o:=by
 unfold World.freeze
 by_cases hm:m=0
 ·simp[hm]
 ·rw[ae hm]
  simp only[Array.getElem?_modify]
  by_cases hk:a.block=k
  ·subst hk
   simp only[am]
   cases w.heap[a.block]? with
   | none=>rfl
   | some o=>simp[hm]; cases o <;> rfl
  ·rw[ae hk]
   have:¬(k=a.block/\m≠0):=fun h=>hk h.1.symm
   simp[this]
theorem BV (a b:Addr) (m:Nat):(w.freeze a m).cell? b=w.cell? b:=by
 unfold World.cell?
 rw[ve]
 cases w.heap[b.block]? with
 | none=>rfl
 | some o=>
  simp only[bQ]
  by_cases hc:b.block=a.block/\m≠0
  ·rw[ah hc]; cases o <;> rfl
  ·rw[ae hc]
theorem sQ (a:Addr) (m:Nat):(w.freeze a m).heap.size=w.heap.size:=by
 unfold World.freeze; split
 ·rfl
 ·simp
theorem Gg (a:Addr) (m:Nat):Fr [a.block] w (w.freeze a m):=by
 refine⟨?_,?_,?_,by rw[sQ]; exact av _,fun k j hn=>?_⟩
 ·unfold World.freeze; split <;> rfl
 ·unfold World.freeze; split <;> rfl
 ·unfold World.freeze; split <;> rfl
 ·rw[ve]
  have:¬(k=a.block/\m≠0):=fun h=>hn (by simp[h.1])
  cases w.heap[k]? with
  | none=>rfl
  | some o=>simp[this]
theorem Ez {T E:TypeId} {x:Operand} {v:Value} {l:Y3} {i:Nat} (hT:P.underlying T=some (.slice E)) (hE:P.underlying E=some (.int .u8)) (hx:L.ev x=some v)
  (hS:St S w0 w os) (hi:os[i]? = some (own e8 v l)) (hl:l≠[]) :
  OpX P n L w ⟨d,.convert T T x,ty,pos,after,none⟩ (fun Z w'=>Z=v/\St S w0 w' (os.set i (red e8 v l))):=by
 have B:=hS.ok _ (ba hi)
 have G:=B.red
 obtain⟨h1,h2⟩:=B
 rcases h2 with⟨_,hn⟩ | ⟨g,N,q,U,rfl,hf,I,bx,bT,b2,Y⟩
 ·exact absurd (aZ hn) hl
 ·have O:St S w0 (w.freeze ⟨g,q.size,none⟩ 1) (os.set i (red e8 (.slice (some ⟨g,0,none⟩) l.length N) l)):=by
   refine hS.set hi (o':=red e8 _ l) (by simpa [OE.blk,Value.ownBlock] using Gg (w:=w) ⟨g,q.size,none⟩ 1) ?_ fun k y=>.inl ?_
   ·obtain⟨r1,a,c,hv,hc,hr⟩:=G
    refine⟨r1,a,c,hv,hc,fun R=>?_⟩
    obtain⟨b,off,J,hb,V,A⟩:=hr R
    exact⟨b,off,J,by rw[sQ]; exact hb,V,fun j u hj=>by rw[BV]; exact A j u hj⟩
   ·simp only[OE.blk]at y ⊢
    split at y
    ·cases y
    ·exact y
  refine gD _ _ (fun a J=>?_) ⟨rfl,O⟩
  have X:w.shape? g=some (U,q.size):=by obtain⟨mk,I,_⟩:=I; unfold World.shape?; rw[I]
  simp[execOp,J.ev hx,convert,run_underlying hT,run_underlying hE,markStringish,shape,freeze,Sem.run,X]
def qK (w0 w:World) (r:Nat) (es:Array MapEntry) (c:Nat):Prop:=Fr [] w0 w/\w0.heap.size<=r/\w.heap[r]? = some (.map es c)
theorem BK {T:TypeId} (hS:St [] w0 w []) :
  OpX P n L w ⟨d,.makeMap T none,ty,pos,after,none⟩ (fun v w'=>∃r,v=.map (some r)/\qK w0 w' r #[] 0):=by
 refine gD (.map (some w.heap.size)) { w with heap:=w.heap.push (.map #[] 0) } (fun a q=>?_) ⟨_,rfl,?_⟩
 ·simp[execOp,Instr.makeMap,newObj,Sem.run]
 ·refine⟨⟨hS.fr.os,hS.fr.tape,hS.fr.output,by have:=hS.fr.size; simp; omega,fun k j hn=>?_⟩,hS.fr.size,by simp⟩
  have:=hS.fr.size
  rw[<-hS.fr.block k j hn]
  simp[Array.getElem?_push]; omega
theorem ol {K:TypeId} {k:IntKind} (hK:P.underlying K=some (.int k)) (b:Bool) (x:Int) (m:Nat):(Instr.checkKey b (m+1) K (.int k x)).run P w=.ok () w:=by
 simp[Instr.checkKey,run_underlying hK]
theorem qK.put {r:Nat} {es j:Array MapEntry} {c q:Nat} (h:qK w0 w r es c):qK w0 { w with heap:=w.heap.setIfInBounds r (.map j q) } r j q:=by
 obtain⟨hf,A,B⟩:=h
 have y:r<w.heap.size:=(cn.1 B).1
 refine⟨⟨hf.os,hf.tape,hf.output,by simpa using hf.size,fun k G hn=>?_⟩,A,by simp[y]⟩
 rw[<-hf.block k G hn]
 simp[Array.getElem?_setIfInBounds]; omega
theorem qz {r:Nat} {es:Array MapEntry} {c:Nat} (h:w.heap[r]? = some (.map es c)):(getObj r).run P w=.ok (.map es c) w:=by
 simp[getObj,Sem.run,h]
theorem Ds {r:Nat} {es:Array MapEntry} {c:Nat} {o:Obj} (h:w.heap[r]? = some (.map es c)):(setObj r o).run P w=.ok () { w with heap:=w.heap.setIfInBounds r o }:=by
 simp[setObj,Sem.run,h]
theorem jG {T K E:TypeId} {x:Operand} {r:Nat} {es:Array MapEntry} {c:Nat} {k:Int} {v:Value} {kd:IntKind} (hT:P.underlying T=some (.map K E)) (hK:P.underlying K=some (.int kd)) (hx:L.ev x=some (.map (some r)))
  (j:qK w0 w r es c) (hf:Instr.findNow (.int kd) (.int kd k) es.toList 0=some none) :
  OpY P n L w ⟨none,.insert T x (.const (.int kd k)) (.const v),ty,pos,after,none⟩ (fun w'=>qK w0 w' r (es.push ⟨.int kd k,v,c⟩) (c+1)):=by
 refine⟨_,fun a q=>?_,j.put⟩
 have y:a.eval (.const (.int kd k))=.int kd k:=rfl
 have A:a.eval (.const v)=v:=rfl
 simp[execOp,Instr.mapUpdate,q.ev hx,y,A,run_underlying hT,run_underlying hK,ol hK,Instr.findKey,hf,qz j.2.2,Ds j.2.2]
theorem EO {T K E:TypeId} {x y:Operand} {r:Nat} {es:Array MapEntry} {c:Nat} {k:Int} {v:Value} {kd:IntKind} {res:Option (Nat×Value)} (hT:P.underlying T=some (.map K E)) (hK:P.underlying K=some (.int kd)) (hx:L.ev x=some (.map (some r)))
  (A:L.ev y=some (.int kd k)) (B:qK w0 w r es c) (hf:Instr.findNow (.int kd) (.int kd k) es.toList 0=some res) (hz:(P.info? E).map (·.zero)=some (some v)) :
  OpV P n L w ⟨d,.lookup T x y false,ty,pos,after,none⟩ ((res.map (·.2)).getD v) w:=fun a j=>by
 cases hi:P.info? E with
 | none=>rw[hi]at hz; cases hz
 | some info=>
  rw[hi]at hz
  simp only[bQ,dZ]at hz
  cases res with
  | none=>simp[execOp,Instr.lookup,j.ev hx,j.ev A,run_underlying hT,run_underlying hK,ol hK,Instr.findKey,hf,qz B.2.2,zeroValue,typeInfo,hi,hz,program,Sem.run]
  | some q=>simp[execOp,Instr.lookup,j.ev hx,j.ev A,run_underlying hT,run_underlying hK,ol hK,Instr.findKey,hf,qz B.2.2]
end
end Go.Gk
end
section
namespace Go.Gk
open Go Go.RowKit
theorem JR {a b:OE} (h:OE.dj a b):OE.dj b a:=by
 unfold OE.dj at *
 intro k q j
 exact h k j q
theorem St.perm {S:Y4} {w0 w:World} {os os':List OE} (h:St S w0 w os) (hp:os.Perm os'):St S w0 w os':=
 ⟨h.fr,fun o q=>h.ok o (hp.mem_iff.2 q),(hp.pairwise_iff (fun {a b} j=>JR j)).1 h.dj⟩
theorem St.tail {S:Y4} {w0 w:World} {l os:List OE} (h:St S w0 w (l++os)):St S w0 w os:=
 ⟨h.fr,fun o j=>h.ok o (bD _ j),(ci.1 h.dj).2.1⟩
def upd (g:Nat->Value) (i:Nat) (v:Value):Nat->Value:=fun k=>if k=i then v else g k
theorem Hf {g:Nat->Value} {i j:Nat} {u v:Value} (h:i≠j):upd (upd g i u) j v=upd (upd g j v) i u:=by
 funext k
 unfold upd
 by_cases h1:k=i <;> by_cases h2:k=j <;> simp_all
section
variable {P:Program} {ops:Array Oper} {Q:Exit->Act->World->Prop} {nw:Nat->Bool} {S:Y4} {w0:World} {os:List OE} {ent:Nat->Value->OE} {news:Y4}
def uo (P:Program) (ops:Array Oper) (S:Y4) (w0:World) (ent:Nat->Value->OE) (o:Oper) (i:Nat) (a:Act):Prop:=
 Region.wanted o (yielded ops a.tmps)=true/\∀w os',St S w0 w os'->∃v w',(execOp a.eval o).run P w=.ok (.value v) w'/\St S w0 w' (ent i v :: os')
theorem uo.of_same {o:Oper} {i:Nat} {a j:Act} (q:uo P ops S w0 ent o i a) (y:execOp j.eval o=execOp a.eval o)
  (hw:Region.wanted o (yielded ops j.tmps)=Region.wanted o (yielded ops a.tmps)):uo P ops S w0 ent o i j:=by
 unfold uo at *
 rw[y,hw]
 exact q
def lxN (P:Program) (ops:Array Oper) (Q:Exit->Act->World->Prop) (nw:Nat->Bool) (S:Y4) (w0:World) (os:List OE) (ent:Nat->Value->OE) (news:Y4):Y4->(Nat->Value)->Act->Prop
 | [],g,a=>∀w,St S w0 w (news.map (fun i=>ent i (g i))++os)->Q .normal a w
 | i :: r,g,a=>match ops[i]? with
  | none=>lxN P ops Q nw S w0 os ent news r g a
  | some o=>if nw i then uo P ops S w0 ent o i a/\∀v,lxN P ops Q nw S w0 os ent news r (upd g i v) (a.put o.dst v)
   else ∃v,Ins P ops (fun w=>St S w0 w os) o v a/\lxN P ops Q nw S w0 os ent news r g (a.put o.dst v)
theorem HI (hs:mZ ops) (O:∃w,St S w0 w os) {i j:Nat} {r:Y4} {g:Nat->Value} {a:Act}
  (R:∀y q,ops[i]? = some y->ops[j]? = some q->y.apart ops q=true) (U:i≠j)
  (h:lxN P ops Q nw S w0 os ent news (i :: j :: r) g a):lxN P ops Q nw S w0 os ent news (j :: i :: r) g a:=by
 cases hi:ops[i]? with
 | none=>
  simp only[lxN,hi]at h
  cases hj:ops[j]? with
  | none=>simp only[lxN,hi,hj]at h ⊢; exact h
  | some q=>simp only[lxN,hi,hj]at h ⊢; exact h
 | some y=>
  cases hj:ops[j]? with
  | none=>simp only[lxN,hi,hj]at h ⊢; exact h
  | some q=>
   obtain⟨p1,p2,p3⟩:=Oper.apart_spec (R y q hi hj)
   have G:=fun cs b=>hs i y cs b hi
   have I:=fun cs b=>hs j q cs b hj
   simp only[lxN,hi,hj]at h ⊢
   by_cases hni:nw i=true
   ·rw[ah hni]at h
    obtain⟨N,A⟩:=h
    by_cases hnj:nw j=true
    ·simp only[hni,hnj,am]at A ⊢
     refine⟨(A undef).1.of_same (execOp_put q I a y.dst undef p1).symm (wanted_put q a y.dst undef p1).symm,fun v=>⟨N.of_same (execOp_put y G a q.dst v p3) (wanted_put y a q.dst v p3),fun u=>?_⟩⟩
     have:=(A u).2 v
     rw[Hf U]at this
     rw[<-Act.put_comm a u v p2]; exact this
    ·simp only[hni,hnj,am,ak]at A ⊢
     have get:∀u,∃v,Ins P ops (fun w=>St S w0 w os) q v a/\lxN P ops Q nw S w0 os ent news r (upd g i u) ((a.put y.dst u).put q.dst v):=fun u=>by
      obtain⟨v,B,J⟩:=A u
      exact⟨v,B.of_same (execOp_put q I a y.dst u p1).symm (wanted_put q a y.dst u p1).symm,J⟩
     obtain⟨v,B,_⟩:=get undef
     refine⟨v,B,?_⟩
     refine⟨N.of_same (execOp_put y G a q.dst v p3) (wanted_put y a q.dst v p3),fun u=>?_⟩
     obtain⟨V,X,J⟩:=get u
     obtain⟨w,hw⟩:=O
     have:V=v:=Ins.unique (w:=w) hw X B
     subst this
     rw[<-Act.put_comm a u V p2]; exact J
   ·rw[ae hni]at h
    obtain⟨v,B,h⟩:=h
    by_cases hnj:nw j=true
    ·simp only[hni,hnj,am,ak]at h ⊢
     obtain⟨N,A⟩:=h
     refine⟨N.of_same (execOp_put q I a y.dst v p1).symm (wanted_put q a y.dst v p1).symm,fun u=>⟨v,B.of_same (execOp_put y G a q.dst u p3) (wanted_put y a q.dst u p3),?_⟩⟩
     rw[<-Act.put_comm a v u p2]; exact A u
    ·simp only[hni,hnj,ak]at h ⊢
     obtain⟨u,hu,J⟩:=h
     refine⟨u,hu.of_same (execOp_put q I a y.dst v p1).symm (wanted_put q a y.dst v p1).symm,v,B.of_same (execOp_put y G a q.dst u p3) (wanted_put y a q.dst u p3),?_⟩
     rw[<-Act.put_comm a v u p2]; exact J
theorem xn (hs:mZ ops) (A:∃w,St S w0 w os) {j:Nat}:∀(q y:Y4) (g:Nat->Value) (a:Act),(∀i∈q,i≠j/\∀B I,ops[i]? = some B->ops[j]? = some I->B.apart ops I=true) ->
   lxN P ops Q nw S w0 os ent news (q++j :: y) g a->lxN P ops Q nw S w0 os ent news (j :: (q++y)) g a
 | [],_,_,_,_,h=>h
 | i :: q,y,g,a,hall,h=>by
  have G:∀g a,lxN P ops Q nw S w0 os ent news (q++j :: y) g a->lxN P ops Q nw S w0 os ent news (j :: (q++y)) g a:=fun g a h=>
   xn hs A q y g a (fun k J=>hall k (by simp[J])) h
  have N:lxN P ops Q nw S w0 os ent news (i :: j :: (q++y)) g a:=by
   rw[di]at h
   cases hi:ops[i]? with
   | none=>
    unfold lxN at h ⊢
    simp only[hi]at h ⊢
    exact G _ _ h
   | some B=>
    unfold lxN at h ⊢
    simp only[hi]at h ⊢
    by_cases hn:nw i=true
    ·rw[ah hn]at h ⊢
     exact⟨h.1,fun v=>G _ _ (h.2 v)⟩
    ·rw[ae hn]at h ⊢
     obtain⟨v,O,h⟩:=h
     exact⟨v,O,G _ _ h⟩
  have hi:=hall i (by simp)
  exact HI hs A hi.2 hi.1 N
theorem rK (hs:mZ ops)
  (R:∀j B,ops[j]? = some B->∀e∈B.after,Region.binds .any e=true->e.on<j)
  (U:∀i j,i<j->j<ops.size->fY ops ops.size j i=false->∀oi B,ops[i]? = some oi->ops[j]? = some B->oi.apart ops B=true) (G:news.Nodup) :
  ∀(m:Nat) (l:Y4) (listed:Array Bool) (done:Y4) (g:Nat->Value) (a:Act) (w:World),l.length=m->l.Pairwise (·<·)->listed.size=ops.size->closed ops listed ->
   (∀i,i∈l↔i<ops.size/\listed.getD i true=false)->(done++l.filter nw).Perm news->St S w0 w (done.map (fun i=>ent i (g i))++os) ->
   lxN P ops Q nw S w0 os ent news l g a->wpAny P .any ops Q m listed a w
 | 0,l,listed,done,g,a,w,hm,_,_,_,hmem,hperm,hS,h=>by
  have hl:l=[]:=aZ hm
  subst hl
  refine⟨?_,h w (hS.perm ?_)⟩
  ·refine List.eq_nil_iff_forall_not_mem.2 fun i hi=>?_
   obtain⟨I,o,cm,_⟩:=mem_ready.1 hi
   have:=(hmem i).2 ⟨(cn.1 cm).1,I⟩
   cases this
  ·simp only[List.filter_nil,bR]at hperm
   exact (hperm.map _).append_right os
 | m+1,l,listed,done,g,a,w,hm,hsort,hsz,hcl,hmem,hperm,hS,h=>by
  refine⟨fun b4=>?_,fun j hj=>?_⟩
  ·exfalso
   cases l with
   | nil=>simp at hm
   | cons i r=>
    obtain⟨b3,I⟩:=(hmem i).1 (by simp)
    have hi:i∈Region.ready .any ops listed:=by
     refine mem_ready.2 ⟨I,ops[i],by simp[b3],fun e he hb=>?_⟩
     have J:=R i ops[i] (by simp[b3]) e he hb
     cases hl:listed.getD e.on false with
     | true=>rfl
     | false=>
      have ct:e.on<listed.size:=by rw[hsz]; omega
      have c0:listed.getD e.on true=false:=by simp[ct]at hl ⊢; exact hl
      have c1:=(hmem e.on).2 ⟨by omega,c0⟩
      rcases aJ.1 c1 with N | N
      ·omega
      ·have:=(fS.1 hsort).1 e.on N
       omega
    rw[b4]at hi
    cases hi
  ·obtain⟨I,B,A,Y⟩:=mem_ready.1 hj
   have V:j<ops.size:=(cn.1 A).1
   have c2:j∈l:=(hmem j).2 ⟨V,I⟩
   obtain⟨q,y,rfl⟩:=List.append_of_mem c2
   have J:∀i∈q,i<j:=fun i hi=>(ci.1 hsort).2.2 i hi j (by simp)
   have N:=xn hs ⟨w,hS.tail⟩ q y g a (fun i hi=>⟨Nat.ne_of_lt (J i hi),fun oi c3 c4 b5=>by
    refine U i j (J i hi) V ?_ oi c3 c4 b5
    cases hr:fY ops ops.size j i with
    | false=>rfl
    | true=>
     have Z:=ip hcl ops.size j i B A Y hr
     have h3:=((hmem i).1 (by simp[hi])).2
     rw[bO]at Z h3
     have:i<listed.size:=by rw[hsz]; exact gH (J i hi) V
     simp[this]at Z h3
     rw[Z]at h3; cases h3⟩) h
   have O:(q++y).Pairwise (·<·):=by
    refine hsort.sublist ?_
    exact List.Sublist.append_left (List.sublist_cons_self j y) q
   have ab:(q++y).length=m:=by simp at hm ⊢; omega
   have ac:closed ops (listed.setIfInBounds j true):=by
    intro k ok hk hl e he hb
    by_cases hkj:j=k
    ·subst hkj
     have:ok=B:=eQ (hk.symm.trans A)
     subst this
     exact getD_set_true (Y e he hb)
    ·rw[getD_set_ne false hkj]at hl
     exact getD_set_true (hcl k ok hk hl e he hb)
   have dd:j ∉ q++y:=by
    intro hx
    rcases bG.1 hx with hx | hx
    ·exact absurd (J j hx) (i7 _)
    ·have:=(ci.1 hsort).2.1
     have:=(fS.1 this).1 j hx
     exact absurd this (i7 _)
   have X:∀i,i∈q++y↔i<ops.size/\(listed.setIfInBounds j true).getD i true=false:=by
    intro i
    by_cases hij:j=i
    ·subst hij
     constructor
     ·intro hx; exact absurd hx dd
     ·intro hx
      have:=lU (listed:=listed) (i:=j) (by rw[hsz]; exact V) true
      rw[this]at hx; cases hx.2
    ·rw[getD_set_ne true hij,<-hmem i]
     simp only[bG,aJ]
     constructor
     ·rintro (hx | hx)
      ·exact .inl hx
      ·exact .inr (.inr hx)
     ·rintro (hx | hx | hx)
      ·exact .inl hx
      ·exact absurd hx.symm hij
      ·exact .inr hx
   simp only[lxN,A]at N
   by_cases hn:nw j=true
   ·rw[ah hn]at N
    obtain⟨⟨hw,b7⟩,b2⟩:=N
    obtain⟨v,w',hr,df⟩:=b7 w _ hS
    have ad:j ∉ done:=by
     have b8:=hperm.nodup_iff.2 G
     have:=(List.nodup_append.1 b8).2.2
     intro ad
     exact this j ad j (by simp[hn]) rfl
    have b9:done.map (fun i=>ent i (upd g j v i))=done.map (fun i=>ent i (g i)):=by
     refine List.map_congr_left fun i hi=>?_
     have:i≠j:=fun e=>ad (e ▸ hi)
     simp[upd,this]
    unfold wpOp
    simp only[A]
    rw[ah hw]
    left
    unfold Oper.wp
    rw[hr]
    refine rK hs R U G m (q++y) _ (j :: done) (upd g j v) _ w' ab O (by simp[hsz]) ac X ?_ ?_ (b2 v)
    ·refine List.Perm.trans ?_ hperm
     simp only[List.filter_append,List.filter_cons,hn,am,di]
     have:(done++(q.filter nw++j :: y.filter nw)).Perm (j :: (done++(q.filter nw++y.filter nw))):=by
      rw[<-aP,<-aP]
      exact gV
     exact this.symm
    ·simp only[dc,di,b9]
     have:upd g j v j=v:=by simp[upd]
     rw[this]; exact df
   ·rw[ae hn]at N
    obtain⟨v,hv,Z⟩:=N
    have ag:(done++(q++y).filter nw).Perm news:=by
     have dx:nw j=false:=by simpa using hn
     simpa [List.filter_append,List.filter_cons,dx] using hperm
    have ih:wpAny P .any ops Q m (listed.setIfInBounds j true) (a.put B.dst v) w:=
     rK hs R U G m (q++y) _ done g _ w ab O (by simp[hsz]) ac X ag hS Z
    unfold wpOp
    simp only[A]
    rcases hv with⟨hw,hv⟩ | ⟨hw,rfl⟩
    ·rw[ah hw]
     left
     unfold Oper.wp
     rw[hv w hS.tail]
     exact ih
    ·rw[ae (by rw[hw]; simp)]
     exact ih
variable {n:Nat} {L:Env}
def tm (P:Program) (n:Nat) (ops:Array Oper) (Q:Exit->Act->World->Prop) (nw:Nat->Bool) (S:Y4) (w0:World) (os:List OE) (ent:Nat->Value->OE) (news:Y4) (l:Y4) (g:Nat->Value) (L:Env):Prop:=
 ∀a,Rep n L a->lxN P ops Q nw S w0 os ent news l g a
theorem Io {g:Nat->Value} (h:∀w,St S w0 w (news.map (fun i=>ent i (g i))++os)->QE n Q .normal L w):tm P n ops Q nw S w0 os ent news [] g L:=
 fun a j w hw=>h w hw a j
theorem jN {i:Nat} {r:Y4} {g:Nat->Value} {d:Nat} {op:Op} {ty:TypeId} {pos:String} {after:Array Edge} {v:Value} (y:ops[i]? = some ⟨some d,op,ty,pos,after,none⟩) (hf:nw i=false)
  (A:∀w,St S w0 w os->OpV P n L w ⟨some d,op,ty,pos,after,none⟩ v w) (hd:Nat.blt d n=true) (h:tm P n ops Q nw S w0 os ent news r g ((d,v) :: L)):tm P n ops Q nw S w0 os ent news (i :: r) g L:=fun a j=>by
 simp only[lxN,y,hf,ai,ak]
 exact⟨v,.inl ⟨by simp[Region.wanted],fun w' q=>A w' q a j⟩,h _ (j.put hd)⟩
theorem tc (E:Value->OE) {i:Nat} {r:Y4} {g:Nat->Value} {d:Nat} {op:Op} {ty:TypeId} {pos:String} {after:Array Edge} (q:ops[i]? = some ⟨some d,op,ty,pos,after,none⟩) (hf:nw i=true) (hE:∀v,ent i v=E v)
  (y:∀w os',St S w0 w os'->OpX P n L w ⟨some d,op,ty,pos,after,none⟩ (fun v w'=>St S w0 w' (E v :: os'))) (hd:Nat.blt d n=true)
  (h:∀v,tm P n ops Q nw S w0 os ent news r (upd g i v) ((d,v) :: L)):tm P n ops Q nw S w0 os ent news (i :: r) g L:=fun a j=>by
 simp only[lxN,q,hf,am]
 refine⟨⟨by simp[Region.wanted],fun w os' hS=>?_⟩,fun v=>h v _ (j.put hd)⟩
 obtain⟨v,w',A,B⟩:=y w os' hS
 exact⟨v,w',A a j,by rw[hE]; exact B⟩
theorem BU {id:Nat} {l:List Oper} {w:World} (nw:Nat->Bool) (ent:Nat->Value->OE) (hS:St S w0 w os) (hm:P.follows .mixedOrders=true)
  (q:(lG l.toArray&&pG l.toArray&&pz l.toArray (fun _=>true))=true)
  (h:tm P n l.toArray Q nw S w0 os ent ((List.range l.length).filter nw) (List.range l.length) (fun _=>undef) L):wpC P n (.region id l.toArray true) Q L w:=
 fun a B=>by
  simp only[aK]at q
  refine wp_region_any hm ?_
  refine rK (pD q.1.1) (rJ q.1.2) (fun i j y G I J A N O=>(rq q.2 i j y G I J A N O).1) (List.nodup_range.filter _) _ (List.range l.length) _ [] (fun _=>undef) a _ (by simp) iz (by simp) (fun j A R hl=>?_) (fun i=>?_) (by simp) (by simpa using hS.drew) (h a B)
  ·rw[bO,eg]at hl
   split at hl <;> simp at hl
  ·rw[bO,eg]
   by_cases y:i<l.length
   ·simp[y]
   ·simp[y]
end
section
variable {P:Program} {n:Nat} {L:Env} {w w' w0:World} {Q:Exit->Act->World->Prop} {S:Y4} {os os0 os1:List OE}
variable {d:Option Tmp} {ty:TypeId} {pos:String} {after:Array Edge}
def twE {τ:Type} (e:Enc τ) (va:Value) (la:List τ) (q:Nat):OE:=if q=0 then red e (.slice none 0 0) ([]:List τ) else red e va la
def Tw {τ:Type} (va:Value) (la:List τ) (v:Value) (l:List τ) (q:Nat):Prop:=
 q=0->∃a c c' t,va=.slice a la.length c/\la.length<=c/\v=.slice a l.length c'/\l=la++t
theorem Tw.ro {τ:Type} {e:Enc τ} {A v:Value} {G l:List τ} {q:Nat} {B:Nat} (h:Tw A G v l q) (I:(twE e A G q).ok S B w) (N:RO w e v l):RO w e A G:=by
 by_cases hq:q=0
 ·obtain⟨a,c,V,t,rfl,hc,rfl,rfl⟩:=h hq
  obtain⟨a2,X,O,Y,R⟩:=N
  injection O with e1 e2 e3
  subst e1
  refine⟨a,c,rfl,hc,fun hl=>?_⟩
  obtain⟨b,off,U,y⟩:=R (by simp[hl])
  refine⟨b,off,U,fun j u J=>y j u ?_⟩
  rw[e.fl_append,List.getElem?_append_left (aD.1 J).1]
  exact J
 ·unfold twE at I
  rw[ae hq]at I
  exact I.rro
theorem St.twro {τ:Type} {e:Enc τ} {y v:Value} {A l:List τ} {q:Nat} (h:St S w0 w os) (hA:Tw y A v l q) (i j:Nat) (hi:os[i]? = some (own e v l)) (B:os[j]? = some (twE e y A q)):RO w e y A:=
 hA.ro (h.ok _ (ba B)) (h.ro i hi)
theorem St.twin {τ:Type} {e:Enc τ} {v:Value} {l:List τ} (h:St S w0 w os) (i:Nat) (hi:os[i]? = some (own e v l)):St S w0 w (twE e v l 0 :: os):=by
 have:=h.rnil e
 simpa [twE] using this
theorem RO.tw {τ:Type} {e:Enc τ} {v:Value} {l:List τ} (h:RO w e v l):Tw v l v l 0:=fun _=>by
 obtain⟨a,c,rfl,hc,_⟩:=h
 exact⟨a,c,c,[],rfl,hc,rfl,by simp⟩
theorem Az {α:Type} {l:List α} {j:Nat} {x:α} (h:l[j]? = some x):l.set j x=l:=by
 apply iH
 intro k
 rw[da]
 split
 ·rename_i q
  subst q
  have:=(aD.1 h).1
  rw[ah this,h]
 ·rfl
theorem St.swap2 {A B:OE} {i j:Nat} (h:St S w0 w (A :: os.set i B)) (y:i≠j) (hi:i<os.length) (q:j<os.length):St S w0 w ((os.set i A).set j B):=by
 let f:Nat->Nat:=fun k=>if k=i then 0 else if k=j then i+1 else k+1
 refine h.pick ((List.range os.length).map f) ?_ ?_
 ·refine List.pairwise_map.2 (iz.imp fun {a b} G=>?_)
  show f a≠f b
  simp only[f]
  split <;> split <;> (try split) <;> (try split) <;> omega
 ·apply iH
  intro k
  simp only[d6,List.map_map]
  by_cases hk:k<os.length
  ·rw[List.getElem?_range hk]
   simp only[bQ,Function.comp,f]
   by_cases h1:k=i
   ·subst h1
    rw[da]
    rw[ae (by omega),da,ah rfl,ah hi]
    simp
   ·by_cases h2:k=j
    ·subst h2
     rw[da,ah rfl,ah (by simpa using q)]
     simp[h1,hi]
    ·rw[da,ae (by omega),da,ae (by omega)]
     simp only[h1,h2,ak,List.getElem?_cons_succ]
     rw[da,ae (by omega)]
     simp[hk]
  ·rw[dA (by simp; omega),dA (by simp; omega)]
   simp
theorem x6 {T E ty:TypeId} {τ:Type} {e:Enc τ} {z:Value} {bytes:Nat} {v u:Value} {l m:List τ} {B:Nat} (hT:P.underlying T=some (.slice E)) (hE:TI P E z e.sz bytes) (hz:z.cells.size=e.sz) (b4:bytes<=65536) (bT:0<bytes)
  (X:(own e v l).ok S B w) (hu:RO w e u m) (hB:B<=w.heap.size) (hb:(l.length+m.length)*bytes<=225000000000000) :
  ∃U w',(Builtin.append_ #[T,T] ty #[v,u]).run P w=.ok U w'/\(own e U (l++m)).ok S B w'/\((∃a c c',v=.slice a l.length c/\U=.slice a (l++m).length c'/\Fr (own e v l).blk.toList w w'/\∀k,(own e U (l++m)).blk=some k->(own e v l).blk=some k)\/(Fr [] w w'/\∀k,(own e U (l++m)).blk=some k->w.heap.size<=k)):=by
 obtain⟨y,hi,ac,hs,ad⟩:=hE.get
 obtain⟨ua,c,rfl,hc,hr⟩:=hu
 by_cases hm:m=[]
 ·subst hm
  rcases X.2 with⟨rfl,hn⟩ | ⟨g,q,V,T',rfl,ag,Y,ap,aS,bx,I⟩
  ·have hl:l=[]:=aZ hn
   subst hl
   refine⟨_,w,kQ T ty E y hT hi _ none 0 0 c rfl (av _) ua,?_,.inl ⟨none,0,0,rfl,by simp,Fr.refl _ _,fun k J=>by simpa using J⟩⟩
   simpa using X
  ·refine⟨_,w,kQ T ty E y hT hi _ (some ⟨g,0,none⟩) l.length q c rfl ap ua,?_,.inl ⟨_,q,q,rfl,by simp,Fr.refl _ _,fun k J=>by simpa using J⟩⟩
   simpa using X
 ·obtain⟨b,off,rfl,Z⟩:=hr hm
  have A:∀j x,(e.fl m)[j]? = some x->w.cell? ((⟨b,off,none⟩:Addr).add j)=some x:=fun j x R=>by rw[gK]; exact Z j x R
  have O:(e.fl m).length=m.length*y.size:=by rw[hs]; exact e.fl_length m
  have b7:0<m.length:=d8.2 hm
  have b8:l.length+m.length<=225000000000000:=bz (dP _ bT) hb
  rcases X.2 with⟨rfl,hn⟩ | ⟨g,q,V,T',rfl,ag,Y,ap,aS,bx,I⟩
  ·have hl:l=[]:=aZ hn
   subst hl
   simp only[dw,bh]at hb b8
   have G:=run_append_nil (P:=P) w T ty E y z hT hi ac ⟨b,off,none⟩ m.length c (e.fl m) O A b7 (by omega) (by rw[ad]; omega)
   refine⟨_,_,G,⟨e.fl_length _,.inr ⟨w.heap.size,grownCap w m.length 0 E,_,E,?_,?_,Row.new w.drew _ _,?_,?_,?_,?_⟩⟩,.inr ⟨?_,?_⟩⟩
   ·simp
   ·exact .inl hB
   ·simp; exact grownCap_ge w m.length 0 E
   ·exact grownCap_le_maxLen w m.length 0 E (by simp[maxLen]; omega)
   ·have:=grownCap_ge w m.length 0 E
    simp only[fZ,cJ,size_zeroCells,hz,e.fl_length,<-aW]
    exact aR _ (by omega)
   ·simp only[bJ,fy,gX]
    rw[<-e.fl_length]
    exact eD
   ·exact (Fr.drew _ w).trans (Fr.alloc _ _ _)
   ·intro k J
    simp[OE.blk,Value.ownBlock]at J
    omega
  ·by_cases hroom:l.length+m.length<=q
   ·have N:l.length*y.size+(e.fl m).length<=V.size:=by
     rw[O,<-aW]
     exact bz (aR _ hroom) (by rw[hs]; exact bx)
    have G:=oK (w:=w) T ty E y hT hi g l.length q V T' Y ⟨b,off,none⟩ m.length c (e.fl m) O A (e.fl_one m) hroom N
    refine⟨_,_,G,⟨e.fl_length _,.inr ⟨g,q,_,T',?_,ag,Y.set _ ?_,?_,aS,?_,?_⟩⟩,.inl ⟨_,q,q,rfl,by simp,?_,?_⟩⟩
    ·simp
    ·simp only[cJ,ay,aQ,bU,dn]at N ⊢
     omega
    ·simpa using hroom
    ·simp only[cJ,ay,aQ,bU,dn]at N ⊢
     omega
    ·rw[hs,I,ay,aW]
     simp only[aP]
     rw[<-aP,<-e.fl_append]
     have:l.length*e.sz+m.length*e.sz=(e.fl (l++m)).length:=by rw[e.fl_length,ay,aW]
     rw[this]
     exact eD
    ·exact Fr.setRow w g _
    ·intro k J
     simpa [OE.blk,Value.ownBlock] using J
   ·have ab:∀j x,(e.fl l)[j]? = some x->w.cell? ((⟨g,0,none⟩:Addr).add j)=some x:=fun j x R=>by
     rw[gK,bh,Y.cell j]
     rw[<-I,bK]at R
     split at R
     ·simpa using R
     ·cases R
    have b9:(e.fl l).length=l.length*y.size:=by rw[hs]; exact e.fl_length l
    have G:=run_append_grow (P:=P) w T ty E y z hT hi ac ⟨g,0,none⟩ l.length q (e.fl l) b9 ab ⟨b,off,none⟩ m.length c (e.fl m) O A (by omega) (by omega)
     (by rw[ad]; exact rt (by omega) hb b4)
    refine⟨_,_,G,⟨e.fl_length _,.inr ⟨w.heap.size,grownCap w (l.length+m.length) q E,_,E,?_,?_,Row.new w.drew _ _,?_,?_,?_,?_⟩⟩,.inr ⟨?_,?_⟩⟩
    ·simp
    ·exact .inl hB
    ·simp; exact grownCap_ge w (l.length+m.length) q E
    ·exact grownCap_le_maxLen w (l.length+m.length) q E (by simp[maxLen]; omega)
    ·have:=grownCap_ge w (l.length+m.length) q E
     simp only[fZ,cJ,size_zeroCells,hz,e.fl_length,<-aW]
     exact aR _ (by omega)
    ·simp only[fy,aP]
     rw[<-aP,<-e.fl_append,<-e.fl_length]
     exact eD
    ·exact (Fr.drew _ w).trans (Fr.alloc _ _ _)
    ·intro k J
     simp[OE.blk,Value.ownBlock]at J
     omega
theorem xZ {x y:Operand} {T E:TypeId} {τ:Type} {e:Enc τ} {z:Value} {bytes:Nat} {v u I:Value} {l m G:List τ} {i j q:Nat} (hT:P.underlying T=some (.slice E)) (hE:TI P E z e.sz bytes) (hz:z.cells.size=e.sz) (aS:bytes<=65536) (ad:0<bytes)
  (hx:L.ev x=some v) (hy:L.ev y=some u) (hS:St S w0 w os) (hi:os[i]? = some (own e v l)) (N:os[j]? = some (twE e I G q)) (hA:Tw I G v l q) (hu:RO w e u m) (hb:(l.length+m.length)*bytes<=225000000000000) :
  OpX P n L w ⟨d,.call ⟨.builtin .append,#[x,y],#[T,T]⟩,ty,pos,after,none⟩ (fun O w'=>∃q',Tw I G O (l++m) q'/\St S w0 w' ((os.set i (own e O (l++m))).set j (twE e I G q'))):=by
 have Z:i≠j:=by
  rintro rfl
  rw[hi]at N
  unfold twE at N
  split at N <;> cases N
 obtain⟨O,w',hr,V,h2⟩:=x6 (ty:=ty) hT hE hz aS ad (hS.ok _ (ba hi)) hu hS.fr.size hb
 refine gD O w' (fun a ha=>?_) ?_
 ·simp[execOp,resolve,invoke,builtin,ha.ev hx,ha.ev hy,hr]
 ·have R:St S w0 w' (os.set i (own e O (l++m)))->St S w0 w' ((os.set i (own e O (l++m))).set j (twE e I G q)):=fun h=>by
   rwa [Az]
   rw[da,ae Z]
   exact N
  by_cases hq:q=0
  ·rcases h2 with⟨a,c,c',e1,e2,hf,A⟩ | ⟨hf,A⟩
   ·refine⟨q,fun _=>?_,R (hS.set hi hf V fun k J=>.inl (A k J))⟩
    obtain⟨a',c1,c2,t,f1,f2,X,f4⟩:=hA hq
    rw[e1]at X
    injection X with Y g2 g3
    subst Y
    exact⟨a,c1,c',t++m,f1,f2,e2,by rw[f4,aP]⟩
   ·refine⟨1,fun h=>by omega,?_⟩
    have hP:=hS.push hf V A
    obtain⟨a',c1,c2,t,f1,f2,X,f4⟩:=hA hq
    have ab:=hP.ok (own e v l) (dS _ (ba hi))
    have cm:RO w' e I G:=Tw.ro (S:=S) (B:=0) hA (by unfold twE; rw[ah hq]; exact⟨by simp,none,0,rfl,av _,fun h=>absurd rfl h⟩) ab.ro
    have U:∀k,(red e I G).blk=some k->(own e v l).blk=some k:=by
     intro k A
     simp only[OE.blk]at A ⊢
     split at A
     ·cases A
     ·rw[f1]at A; rw[X]; cases a' <;> exact A
    have ap:(red e I G).ok S w0.heap.size w':=by
     obtain⟨a2,c3,Y,g2,g3⟩:=cm
     refine⟨e.fl_length G,a2,c3,Y,g2,fun hn=>?_⟩
     obtain⟨b,off,g4,g5⟩:=g3 (by intro h; rw[h]at hn; exact hn rfl)
     have:=ab.lt (U b (by simp only[OE.blk]; rw[ae hn,Y,g4]; rfl))
     exact⟨b,off,g4,this.1,this.2,g5⟩
    have ac:=hP.set (i:=i+1) (by simpa using hi) (Fr.refl _ _) ap (fun k A=>.inl (U k A))
    rw[List.set_cons_succ]at ac
    have:=ac.swap2 Z (aD.1 hi).1 (aD.1 N).1
    unfold twE
    rw[ae (by omega)]
    exact this
  ·refine⟨q,fun h=>absurd h hq,R ?_⟩
   rcases h2 with⟨a,c,c',e1,e2,hf,A⟩ | ⟨hf,A⟩
   ·exact hS.set hi hf V fun k J=>.inl (A k J)
   ·exact hS.set hi (hf.mono (by simp)) V fun k J=>.inr (A k J)
theorem sP {x y:Operand} {T E:TypeId} {τ:Type} {e:Enc τ} {z:Value} {bytes:Nat} {v u A:Value} {l m B r:List τ} {i j q:Nat} (hT:P.underlying T=some (.slice E)) (hE:TI P E z e.sz bytes) (hz:(Nat.beq z.cells.size e.sz&&Nat.ble bytes 65536&&Nat.blt 0 bytes)=true)
  (hx:L.ev x=some v) (J:L.ev y=some u) (hS:St S w0 w os) (hi:os[i]? = some (own e v l)) (N:os[j]? = some (twE e A B q)) (hA:Tw A B v l q) (hu:RO w e u m) (O:apO bytes l m=some r) :
  OpX P n L w ⟨d,.call ⟨.builtin .append,#[x,y],#[T,T]⟩,ty,pos,after,none⟩ (fun G w'=>∃I,Tw A B G r I/\St S w0 w' ((os.set i (own e G r)).set j (twE e A B I))):=by
 obtain⟨rfl,R⟩:=oC O
 simp only[aK,fp]at hz
 exact xZ hT hE (bf hz.1.1) (an hz.1.2) hz.2 hx J hS hi N hA hu R
theorem _root_.Eq.to {op:BinOp} {T:TypeId} {x y:Value} {b b':Bool} (h:b=b') (j:cr P op T x y (vB b)):cr P op T x y (vB b'):=h ▸ j
theorem qv {D T E:TypeId} {x:Operand} {l:Y3} (I:P.underlying D=some .string) (hT:P.underlying T=some (.slice E)) (hE:P.underlying E=some (.int .u8))
  (hx:L.ev x=some (vS l)) (hS:St S w0 w os) (hl:l.length<=225000000000000) :
  OpX P n L w ⟨d,.convert D T x,ty,pos,after,none⟩ (fun v w'=>St S w0 w' (own e8 v l :: os)):=by
 have J:=Lib.run_convert_string_bytes (P:=P) w D T E ⟨⟨l⟩⟩ I hT hE
 have A:Fr [] w (Lib.bytesWorld w E ⟨⟨l⟩⟩):=⟨rfl,rfl,rfl,by rw[Lib.bytesWorld_size]; omega,fun k y _=>Lib.bytesWorld_at_old w E ⟨⟨l⟩⟩ k y⟩
 have q:=grownCap_ge w (⟨⟨l⟩⟩:ByteArray).size 0 E
 have j:(⟨⟨l⟩⟩:ByteArray).size=l.length:=rfl
 have B:(own e8 (.slice (some ⟨w.heap.size,0,none⟩) l.length (grownCap w (⟨⟨l⟩⟩:ByteArray).size 0 E)) l).ok S w0.heap.size (Lib.bytesWorld w E ⟨⟨l⟩⟩):=by
  refine⟨e8.fl_length l,.inr ⟨w.heap.size,_,Lib.bytesCells w E ⟨⟨l⟩⟩,E,rfl,hS.fresh,⟨_,Lib.bytesWorld_at_new w E ⟨⟨l⟩⟩,.inr (av _)⟩,q,?_,?_,?_⟩⟩
  ·exact grownCap_le_maxLen w _ 0 E (by rw[j]; simp[maxLen]; omega)
  ·simp only[Lib.bytesCells,fZ,Array.size_map,Array.size_replicate]
   show _*1<=_
   have:(⟨⟨l⟩⟩:ByteArray).data.size=l.length:=rfl
   rw[this,j]
   rw[j]at q
   omega
  ·rw[show l.length*e8.sz=l.length from cH _,vg]
   simp only[Lib.bytesCells,fy,Array.toList_map]
   rw[fu (by simp)]
 have G:=hS.push A B fun k y=>by
  simp[OE.blk,Value.ownBlock]at y; omega
 refine gD _ _ (fun a N=>?_) G
 simp only[execOp,N.ev hx,Sem.run_bind,J,Result.andThen_ok]; rfl
end
def isB (want:Bool):Value->Bool
 | .bool b=>b == want
 | _=>false
def IE (op:BinOp) (x y:Int):Option Value:=match op with
 | .add=>some (vI (wI (x+y)))
 | .sub=>some (vI (wI (x - y)))
 | .eql=>some (vB (x == y))
 | .neq=>some (vB (x != y))
 | .lss=>some (vB (decide (x<y)))
 | .leq=>some (vB (decide (x<=y)))
 | .gtr=>some (vB (decide (y<x)))
 | .geq=>some (vB (decide (y<=x)))
 | _=>none
def pf (L:Env):Op->Option Value
 | .move x=>L.ev x
 | .assign x=>L.ev x
 | .pick c x y=>match L.ev c with
  | some (.bool true)=>L.ev x
  | some (.bool false)=>L.ev y
  | _=>none
 | .extract x i=>match L.ev x with
  | some (.tuple vs)=>vs.toList[i]?
  | _=>none
 | .unOp op _ x=>match op,L.ev x with
  | .not,some (.bool b)=>some (vB (!b))
  | _,_=>none
 | .binOp op _ x y _=>match L.ev x,L.ev y with
  | some (.int .i64 a),some (.int .i64 b)=>IE op a b
  | _,_=>none
 | _=>none
def tq (ops:Array Oper) (n:Nat):Nat->Env->List Oper->Option (Env×List Oper)
 | 0,L,l=>some (L,l)
 | m+1,L,o :: l=>match o.dst with
  | none=>none
  | some d=>bif Nat.blt d n then
   match o.guard with
   | none=>match pf L o.op with
    | some v=>tq ops n m ((d,v) :: L) l
    | none=>none
   | some (j,want)=>match (ops[j]?).bind (·.dst) with
    | none=>none
    | some t=>match L.get t with
     | none=>none
     | some v=>bif isB want v then (match pf L o.op with
      | some u=>tq ops n m ((d,u) :: L) l
      | none=>none) else tq ops n m ((d,undef) :: L) l
   else none
 | _+1,_,[]=>none
section
variable {P:Program} {n:Nat} {L:Env} {w:World} {Q:Exit->Act->World->Prop}
theorem Lu {op:BinOp} {T:TypeId} {x y:Int} {v:Value} (h:IE op x y=some v):cr P op T (vI x) (vI y) v:=by
 cases op <;> simp only[IE]at h <;> first | (cases h; fail) | (injection h with h; subst h; first | exact lH _ _ _ | exact lO _ _ _ | exact AM _ _ _ | exact GD _ _ _ | exact kV _ _ _ | exact qa _ _ _ | exact uy _ _ _ | exact Ga _ _ _) | cases h
theorem sr {d:Option Tmp} {op:Op} {v:Value} {ty:TypeId} {pos:String} {after:Array Edge} (h:pf L op=some v):OpV P n L w ⟨d,op,ty,pos,after,none⟩ v w:=by
 unfold pf at h
 split at h
 ·exact ow h
 ·exact dz h
 ·split at h
  ·rename_i e; exact xe e h
  ·rename_i e; exact xH e h
  ·cases h
 ·split at h
  ·rename_i e
   refine sU e ?_
   rw[<-gv]; exact h
  ·cases h
 ·split at h
  ·rename_i e; cases h; exact Fc e (Jt _)
  ·cases h
 ·split at h
  ·rename_i j q; exact bE j q (Lu h)
  ·cases h
 ·cases h
theorem al {ops:Array Oper}:∀(m:Nat) {L y:Env} {rest q:List Oper},tq ops n m L rest=some (y,q)->wpR P n ops Q q y w->wpR P n ops Q rest L w
 | 0,L,y,rest,q,h,k=>by simp only[tq]at h; cases h; exact k
 | m+1,L,y,[],q,h,k=>by simp[tq]at h
 | m+1,L,y,o :: l,q,h,k=>by
  obtain⟨dst,op,ty,pos,after,B⟩:=o
  simp only[tq]at h
  cases dst with
  | none=>cases h
  | some d=>
   simp only at h
   cases hd:Nat.blt d n with
   | false=>rw[hd]at h; cases h
   | true=>
    rw[hd]at h
    simp only[cond_true]at h
    cases B with
    | none=>
     simp only at h
     cases hv:pf L op with
     | none=>rw[hv]at h; cases h
     | some v=>rw[hv]at h; exact aT (sr hv) hd (al m h k)
    | some g=>
     obtain⟨j,A⟩:=g
     simp only at h
     cases hj:(ops[j]?).bind (·.dst) with
     | none=>rw[hj]at h; cases h
     | some t=>
      rw[hj]at h
      simp only at h
      cases hg:L.get t with
      | none=>rw[hg]at h; cases h
      | some v=>
       rw[hg]at h
       simp only at h
       cases hb:isB A v with
       | true=>
        rw[hb]at h
        simp only[cond_true]at h
        have G:v=vB A:=by
         cases v <;> simp[isB]at hb
         subst hb; rfl
        subst G
        cases hv:pf L op with
        | none=>rw[hv]at h; cases h
        | some u=>rw[hv]at h; exact cc hj hg (sr hv) hd (al m h k)
       | false=>
        rw[hb]at h
        simp only[cond_false]at h
        intro a I
        unfold wpList
        rw[ae (by
         have:=I.get t _ hg
         simp only[Region.wanted,yielded,hj,Option.bind_some,this]
         cases v <;> simp_all [isB])]
        exact al m h k _ (I.put hd)
def uP (ops:Array Oper) (fl:Nat->Bool) (n:Nat):Nat->Env->Y4->Option (Env×Y4)
 | 0,L,l=>some (L,l)
 | m+1,L,i :: l=>match ops[i]? with
  | some ⟨some d,op,_,_,_,none⟩=>bif fl i&&Nat.blt d n then (match pf L op with
   | some v=>uP ops fl n m ((d,v) :: L) l
   | none=>none) else none
  | _=>none
 | _+1,_,[]=>none
theorem cM {P:Program} {n:Nat} {w:World} {Q:Exit->Act->World->Prop} {ops:Array Oper} {C D:World->Prop} {fl:Nat->Bool}:∀(m:Nat) {L j:Env} {l l':Y4},uP ops fl n m L l=some (j,l')->C w->lxE P n ops C D Q fl l' j w->lxE P n ops C D Q fl l L w
 | 0,L,j,l,l',h,hC,k=>by simp only[uP]at h; cases h; exact k
 | m+1,L,j,[],l',h,hC,k=>by simp[uP]at h
 | m+1,L,j,i :: l,l',h,hC,k=>by
  simp only[uP]at h
  split at h
  ·rename_i d op ty pos after q
   cases hb:fl i&&Nat.blt d n with
   | false=>rw[hb]at h; cases h
   | true=>
    rw[hb]at h
    simp only[cond_true]at h
    rw[aK]at hb
    cases hv:pf L op with
    | none=>rw[hv]at h; cases h
    | some v=>rw[hv]at h; exact dg hC q hb.1 (fun w _=>sr hv) hb.2 (cM m h hC k)
  ·cases h
end
def Up (cs:List Value) (off:Nat) (xs cs' xs':List Value):Prop:=∃A B,cs=A++(xs++B)/\cs'=A++(xs'++B)/\A.length=off
theorem Up.here {xs xs' B:List Value}:Up (xs++B) 0 xs (xs'++B) xs':=⟨[],B,rfl,rfl,rfl⟩
theorem Up.last {xs xs':List Value}:Up xs 0 xs xs' xs':=⟨[],[],by simp,by simp,rfl⟩
theorem Up.skip {cs j xs xs' A:List Value} {k off o:Nat} (hA:A.length=k) (h:Up cs off xs j xs') (q:k+off=o):Up (A++cs) o xs (A++j) xs':=by
 obtain⟨C,B,y,G,I⟩:=h
 exact⟨A++C,B,by rw[y,aP],by rw[G,aP],by rw[ay,hA,I,q]⟩
theorem Up.get {cs j xs':List Value} {off:Nat} {u:Value} (h:Up cs off [u] j xs'):cs[off]? = some u:=by
 obtain⟨A,B,rfl,_,rfl⟩:=h
 simp
theorem Up.get0 {cs:List Value} {off:Nat} {u:Value} (h:Up cs off [u] cs [u]):cs[off]? = some u:=h.get
theorem Up.gets {cs q xs xs':List Value} {off:Nat} (h:Up cs off xs q xs') {j:Nat} {u:Value} (y:xs[j]? = some u):cs[off+j]? = some u:=by
 obtain⟨A,B,rfl,_,rfl⟩:=h
 rw[eJ (by omega),dE,List.getElem?_append_left (aD.1 y).1]
 exact y
theorem Up.spl {cs j xs xs':List Value} {off:Nat} (h:Up cs off xs j xs') (hl:xs'.length=xs.length):spl cs off xs'=j:=by
 obtain⟨A,B,rfl,rfl,rfl⟩:=h
 unfold Go.Gk.spl
 rw[eD,hl,<-aP A xs B,ik (by simp),aP]
theorem Up.le {cs j xs xs':List Value} {off:Nat} (h:Up cs off xs j xs'):off+xs.length<=cs.length:=by
 obtain⟨A,B,rfl,rfl,rfl⟩:=h
 simp only[ay]; omega
section
variable {τ:Type} {e:Enc τ} {l:List τ}
theorem Kg {j:Int} {t y:τ} {u A:Value} (J:au l j=some t) (hu:e.cells t=[u]) (B:e.cells y=[A]):Up (e.fl l) (j.toNat*1) [u] (e.fl (l.set j.toNat y)) [A]:=by
 obtain⟨O,q,G⟩:=gp J
 have hl:l=l.take j.toNat++(t :: l.drop (j.toNat+1)):=by
  have N:l[j.toNat]=t:=by rw[aE q]at G; exact eQ G
  rw[<-N,<-bk q,cD]
 have hs:l.set j.toNat y=l.take j.toNat++(y :: l.drop (j.toNat+1)):=by
  rw[fx,ah q]
 refine⟨e.fl (l.take j.toNat),e.fl (l.drop (j.toNat+1)),?_,?_,?_⟩
 ·conv=>lhs; rw[hl]
  rw[e.fl_append]; congr 1
  simp[Enc.fl,hu]
 ·rw[hs,e.fl_append]; congr 1
  simp[Enc.fl,B]
 ·have I:e.sz=1:=by rw[<-e.len t,hu]; rfl
  rw[e.fl_length,I,aQ]; omega
theorem Up.sub {cs j y q xs xs':List Value} {off k:Nat} (h:Up cs off y j q) (g:Up y k xs q xs'):Up cs (off+k) xs j xs':=by
 obtain⟨A,B,rfl,rfl,rfl⟩:=h
 obtain⟨C,D,rfl,rfl,rfl⟩:=g
 exact⟨A++C,D++B,by simp,by simp,by simp⟩
theorem Up.elt {cs q:List Value} {off:Nat} {j:Int} {t y:τ} {u A:Value} (h:Up cs off (e.fl l) q (e.fl (l.set j.toNat y))) (G:au l j=some t) (hu:e.cells t=[u]) (B:e.cells y=[A]):Up cs (off+j.toNat*1) [u] q [A]:=
 h.sub (Kg G hu B)
theorem Up.elr {cs:List Value} {off:Nat} {j:Int} {t:τ} {u:Value} (h:Up cs off (e.fl l) cs (e.fl l)) (y:au l j=some t) (hu:e.cells t=[u]):cs[off+j.toNat*1]? = some u:=by
 obtain⟨G,B,A⟩:=gp y
 have q:e.sz=1:=by rw[<-e.len t,hu]; rfl
 have:=e.fl_get l j.toNat t A 0 (by omega)
 rw[q,hu]at this
 exact h.gets (by simpa using this)
theorem Db {j:Int} {t:τ} {m:Nat} (q:au l j=some t) (hl:l.length=m):0<=j/\j<(m:Int):=by
 obtain⟨A,y,_⟩:=gp q
 omega
theorem fG {m:Nat} (hl:l.length=m) (hs:e.sz=1):(e.fl l).length=m:=by rw[e.fl_length,hs,cH,hl]
theorem Lr {A B:List Value} {a b c:Nat} (j:A.length=a) (q:B.length=b) (h:a+b=c):(A++B).length=c:=by rw[ay,j,q,h]
theorem up:∀u∈e.fl l,u.oneCell'=true:=e.fl_one l
theorem KP {A B:List Value} (j:∀u∈A,u.oneCell'=true) (q:∀u∈B,u.oneCell'=true):∀u∈A++B,u.oneCell'=true:=fun u hu=>by
 rcases bG.1 hu with h | h
 ·exact j u h
 ·exact q u h
theorem vF {v:Value} (h:v.oneCell'=true):∀u∈[v],u.oneCell'=true:=fun u hu=>by
 simp at hu; subst hu; exact h
theorem wv {j:Int} {t:τ} {u:Value} (q:au l j=some t) (hu:e.cells t=[u]):((e.fl l).toArray)[j.toNat*1]? = some u:=by
 have:=Up.elr (cs:=e.fl l) (off:=0) Up.last q hu
 simpa using this
end
section
variable {P:Program} {n:Nat} {L:Env} {w w0:World} {Q:Exit->Act->World->Prop} {S:Y4} {os:List OE}
variable {d:Option Tmp} {ty:TypeId} {pos:String} {after:Array Edge}
theorem La {T E:TypeId} {m:Nat} {x y:Operand} {b off:Nat} {k:IntKind} {i:Int} (hT:P.underlying T=some (.array m E)) (hE:(P.info? E).map (·.size)=some 1)
  (hx:L.ev x=some (pB b off)) (j:L.ev y=some (.int k i)) (h:0<=i/\i<(m:Int)):OpV P n L w ⟨d,.indexAddr T x y,ty,pos,after,none⟩ (pB b (off+i.toNat*1)) w:=
 kK hT hE hx j h.1 h.2
theorem n8 {T:TypeId} {D:TypeDesc} {x:Operand} {b off m:Nat} {us:List Value} (hT:P.underlying T=some D) (q:(match D with | .struct _ | .array _ _=>true | _=>false)=true)
  (hi:(P.info? T).map (·.size)=some m) (hl:us.length=m) (hx:L.ev x=some (pB b off)) (hc:∀j u,us[j]? = some u->w.cell? ⟨b,off+j,none⟩=some u) :
  OpV P n L w ⟨d,.load T x,ty,pos,after,none⟩ (.agg us.toArray) w:=tV hT q (by rw[hl]; exact hi) hx hc
theorem St.bxg (h:St S w0 w os) (i:Nat) {b:Nat} {cs:List Value} (hi:os[i]? = some (.bx b cs)) {off:Nat} {u:Value} (hu:cs[off]? = some u):w.cell? ⟨b,off,none⟩=some u:=(h.bxc i hi off).trans hu
theorem St.bxgs (h:St S w0 w os) (i:Nat) {b:Nat} {cs xs q xs':List Value} (hi:os[i]? = some (.bx b cs)) {off:Nat} (hu:Up cs off xs q xs'):∀j u,xs[j]? = some u->w.cell? ⟨b,off+j,none⟩=some u:=
 fun j u y=>(h.bxc i hi _).trans (hu.gets y)
theorem St.bxgs0 (h:St S w0 w os) (i:Nat) {b:Nat} {cs xs:List Value} (hi:os[i]? = some (.bx b cs)) {off:Nat} (hu:Up cs off xs cs xs):∀j u,xs[j]? = some u->w.cell? ⟨b,off+j,none⟩=some u:=h.bxgs i hi hu
theorem St.bxroA {τ:Type} {e:Enc τ} {l:List τ} {b off m:Nat} {cs:List Value} (h:St S w0 w os) (i:Nat) (hi:os[i]? = some (.bx b cs)) (hl:l.length=m) (hu:Up cs off (e.fl l) cs (e.fl l)):RO w e (.slice (some ⟨b,off,none⟩) m m) l:=by
 subst hl
 exact⟨_,_,rfl,av _,fun _=>⟨b,off,rfl,h.bxgs i hi hu⟩⟩
theorem ob {T:TypeId} {x y:Operand} {b off i m:Nat} {v:Value} {cs xs j xs':List Value} (hi:os[i]? = some (.bx b cs)) (q:(P.info? T).map (·.size)=some m)
  (hx:L.ev x=some (pB b off)) (V:L.ev y=some v) (I:v.cells.toList=xs') (hu:Up cs off xs j xs') (hm:xs.length=m) (J:xs'.length=m) (X:∀u∈xs',u.oneCell'=true) (hS:St S w0 w os) :
  OpY P n L w ⟨none,.store T x y,ty,pos,after,none⟩ (fun w'=>St S w0 w' (os.set i (.bx b j))):=by
 obtain⟨Y,A,Z,N,B⟩:=hS.setB (off:=off) (us:=xs') hi
 rw[hu.spl (by omega)]at B
 refine ss _ (fun a O=>?_) B
 cases hq:P.info? T with
 | none=>simp[hq]at q
 | some inf=>
  have hs:inf.size=xs'.length:=by rw[J]; simpa [hq] using q
  have R:off+0+xs'.length<=A.size:=by
   have:=hu.le
   rw[<-N]at this
   simp only[dn]at this
   omega
  have G:=run_storeCells_at P b off Y xs' 0 A w Z R X
  have U:v.cells.size=xs'.length:=by rw[<-I]; simp
  simp only[bA]at G
  simp[execOp,Instr.storeAt,O.ev hx,O.ev V,Instr.sureAddr,storeVar,sizeOf,typeInfo,hq,hs,I,U,G]
theorem H9 {T E:TypeId} {m:Nat} {x y:Operand} {cs:Array Value} {k:IntKind} {i:Int} {u:Value} {D:TypeDesc} (hT:P.underlying T=some (.array m E)) (hE:P.underlying E=some D)
  (q:(match D with | .struct _ | .array _ _=>true | _=>false)=false) (j:(P.info? E).map (·.size)=some 1)
  (hx:L.ev x=some (.agg cs)) (A:L.ev y=some (.int k i)) (h:0<=i/\i<(m:Int)) (hu:cs[i.toNat*1]? = some u):OpV P n L w ⟨d,.index T x y,ty,pos,after,none⟩ u w:=
 Kq hT hE q j hx A h.1 h.2 hu
theorem Jw {b off m lo hi:Nat}:slV (.slice (some ⟨b,off,none⟩) m m) 1 lo hi=.slice (some (if m=lo then ⟨b,off,none⟩ else (⟨b,off,none⟩:Addr).add (lo*1))) (hi - lo) (m - lo):=by
 simp only[slV]
 split <;> rfl
theorem Ni {x y z:Operand} {T E:TypeId} {k A:IntKind} {lo hi:Int} {τ:Type} {e:Enc τ} {l r:List τ} {b off m:Nat} (hT:P.underlying T=some (.array m E)) (hE:(P.info? E).map (·.size)=some 1) (hs:e.sz=1)
  (hx:L.ev x=some (pB b off)) (B:L.ev y=some (.int k lo)) (hz:L.ev z=some (.int A hi)) (hm:l.length=m) (G:slO l lo hi=some r) :
  OpV P n L w ⟨d,.slice T x (some y) (some z) none,ty,pos,after,none⟩ (slV (.slice (some ⟨b,off,none⟩) m m) e.sz lo.toNat hi.toNat) w:=fun a j=>by
 obtain⟨⟨I,V,X⟩,_⟩:=fM G
 cases hi':P.info? E with
 | none=>rw[hi']at hE; cases hE
 | some inf=>
  have q:inf.size=1:=by rw[hi']at hE; simpa using hE
  have J:lo<=hi:=by omega
  have N:hi<=(m:Int):=by omega
  have O:0<=hi:=by omega
  have R:lo<=(m:Int):=by omega
  have U:(hi.toNat:Int)=hi:=by omega
  rw[hs,Jw]
  simp[execOp,j.ev hx,j.ev B,j.ev hz,Instr.sliceAt,Instr.sureAddr,run_underlying hT,Instr.sliceBounds,run_sliceBound,I,J,N,O,R,U,sizeOf,typeInfo,hi',q]
theorem N6 {x y:Operand} {T E:TypeId} {k:IntKind} {lo:Int} {τ:Type} {e:Enc τ} {l r:List τ} {b off m:Nat} (hT:P.underlying T=some (.array m E)) (hE:(P.info? E).map (·.size)=some 1) (hs:e.sz=1)
  (hx:L.ev x=some (pB b off)) (A:L.ev y=some (.int k lo)) (hm:l.length=m) (B:drO l lo=some r) :
  OpV P n L w ⟨d,.slice T x (some y) none none,ty,pos,after,none⟩ (slV (.slice (some ⟨b,off,none⟩) m m) e.sz lo.toNat l.length) w:=fun a j=>by
 obtain⟨⟨G,J⟩,_⟩:=kD B
 cases hi':P.info? E with
 | none=>rw[hi']at hE; cases hE
 | some inf=>
  have q:inf.size=1:=by rw[hi']at hE; simpa using hE
  have I:lo<=(m:Int):=by omega
  rw[hs,hm,Jw]
  simp[execOp,j.ev hx,j.ev A,Instr.sliceAt,Instr.sureAddr,run_underlying hT,Instr.sliceBounds,run_sliceBound,G,I,sizeOf,typeInfo,hi',q]
theorem Gn {x y:Operand} {T T2 E:TypeId} {τ:Type} {e:Enc τ} {z:Value} {bytes:Nat} {u:Value} {l m:List τ} {i lo hi b off q:Nat} {cs G:List Value} (hT:P.underlying T=some (.slice E)) (hE:TI P E z e.sz bytes) (j:e.sz=1)
  (hx:L.ev x=some (slV (.slice (some ⟨b,off,none⟩) q q) e.sz lo hi)) (hy:L.ev y=some u) (hS:St S w0 w os) (V:os[i]? = some (.bx b cs)) (hq:l.length=q) (aS:Up cs off (e.fl l) G (e.fl (cpL l m lo hi))) (hu:RO w e u m) (h1:lo<=hi) (h2:hi<=l.length) :
  OpX P n L w ⟨d,.call ⟨.builtin .copy,#[x,y],#[T,T2]⟩,ty,pos,after,none⟩ (fun r w'=>r=vI (min m.length (hi - lo):Nat)/\St S w0 w' (os.set i (.bx b G))):=by
 obtain⟨cm,X,_,hs,_⟩:=hE.get
 have hk:=nM (P:=P) hu (min m.length (hi - lo)) (Nat.min_le_left _ _)
 obtain⟨ua,uc,rfl,ct,c0⟩:=hu
 obtain⟨A,B,hA,b3,Y⟩:=aS
 have b4:e.fl (m.take (min m.length (hi - lo)))=(e.fl m).take (min m.length (hi - lo)):=by rw[e.fl_take,j,cH]
 have J:(e.fl (m.take (min m.length (hi - lo)))).length=min m.length (hi - lo):=by rw[e.fl_length,j]; simp
 have b5:cpL l m lo hi=l.take lo++m.take (min m.length (hi - lo))++l.drop (lo+min m.length (hi - lo)):=by
  unfold cpL
  congr 2
  by_cases h:m.length<=hi - lo
  ·rw[bm h,aA h,aA (av _)]
  ·rw[Nat.min_eq_right (by omega)]
 have N:spl cs (off+lo) (e.fl (m.take (min m.length (hi - lo))))=G:=by
  have b6:l=l.take lo++(l.drop lo).take (min m.length (hi - lo))++l.drop (lo+min m.length (hi - lo)):=by
   rw[aP,<-f6,cD,cD]
  have ad:Up cs (off+lo) (e.fl ((l.drop lo).take (min m.length (hi - lo)))) G (e.fl (m.take (min m.length (hi - lo)))):=by
   refine⟨A++e.fl (l.take lo),e.fl (l.drop (lo+min m.length (hi - lo)))++B,?_,?_,?_⟩
   ·rw[hA]
    conv=>lhs; rw[b6]
    simp[e.fl_append]
   ·rw[b3,b5]; simp[e.fl_append]
   ·rw[ay,Y,e.fl_length,j,aQ]; omega
  refine ad.spl ?_
  rw[J,e.fl_length,j,aQ,bU]; omega
 obtain⟨T',I,hg,b7,Z⟩:=hS.setB (off:=off+lo) (us:=e.fl (m.take (min m.length (hi - lo)))) V
 rw[N]at Z
 have cf:off+lo+min m.length (hi - lo)<=I.size:=by
  have:I.size=cs.length:=by rw[<-b7]; simp
  rw[this,hA,ay,ay,Y,e.fl_length,j]; omega
 by_cases hcl:q=lo
 ·have hz:hi - lo=0:=by omega
  refine gD (vI 0) w (fun a O=>?_) ⟨by rw[hz]; simp,?_⟩
  ·have R:slV (.slice (some ⟨b,off,none⟩) q q) e.sz lo hi=.slice (some ⟨b,off,none⟩) (hi - lo) (q - lo):=by simp[slV,hcl]
   rw[R]at hx
   simp only[hz,Nat.min_zero]at hk hx
   have hr:(Builtin.copy_ #[T,T2] ty #[.slice (some ⟨b,off,none⟩) 0 (q - lo),.slice ua m.length uc]).run P w=.ok (vI 0) w:=by
    simp[Builtin.copy_,run_underlying hT,Builtin.lenOf,sizeOf,typeInfo,X,hs,hk,goInt,Enc.fl,storeCells]
   simp[execOp,resolve,invoke,builtin,O.ev hx,O.ev hy,hr]
  ·have:G=cs:=by
    rw[<-N,hz]; simp[spl,Enc.fl]
   rw[this]
   have U:os.set i (.bx b cs)=os:=Az V
   rw[U]; exact hS
 ·have R:slV (.slice (some ⟨b,off,none⟩) q q) e.sz lo hi=.slice (some ⟨b,off+lo,none⟩) (hi - lo) (q - lo):=by simp[slV,hcl,gK,j]
  rw[R]at hx
  have ab:=run_storeCells_at P b (off+lo) T' (e.fl (m.take (min m.length (hi - lo)))) 0 I w hg (by rw[J]; omega) (e.fl_one _)
  simp only[bA]at ab
  refine gD _ _ (fun a O=>?_) ⟨rfl,Z⟩
  have hr:(Builtin.copy_ #[T,T2] ty #[.slice (some ⟨b,off+lo,none⟩) (hi - lo) (q - lo),.slice ua m.length uc]).run P w=.ok (vI (min m.length (hi - lo):Nat)) (w.setRow b (I.toList.take (off+lo)++e.fl (m.take (min m.length (hi - lo)))++I.toList.drop (off+lo+(e.fl (m.take (min m.length (hi - lo)))).length)).toArray):=by
   simp[Builtin.copy_,run_underlying hT,Builtin.lenOf,sizeOf,typeInfo,X,hs,hk,ab,goInt]
  simp[execOp,resolve,invoke,builtin,O.ev hx,O.ev hy,hr]
def GA {τ:Type} (S:Y4) (w0:World) (g:Nat) (e:Enc τ) (l:List τ):Prop:=(∀j u,(e.fl l)[j]? = some u->w0.cell? ⟨g,j,none⟩=some u)/\g ∉ S
theorem GA.cells {τ:Type} {g:Nat} {e:Enc τ} {l:List τ} (h:GA S w0 g e l) (hf:Fr S w0 w):∀j u,(e.fl l)[j]? = some u->w.cell? ⟨g,0+j,none⟩=some u:=fun j u q=>by
 have:=h.1 j u q
 rw[bh,hf.cell (lC this) h.2]
 exact this
theorem GA.cell {τ:Type} {g:Nat} {e:Enc τ} {l:List τ} (h:GA S w0 g e l) (hf:Fr S w0 w) {j:Int} {t:τ} {u:Value} (q:au l j=some t) (hu:e.cells t=[u]):w.cell? ⟨g,0+j.toNat*1,none⟩=some u:=
 h.cells hf _ u (by have:=Up.elr (cs:=e.fl l) (off:=0) Up.last q hu; simpa using this)
theorem GA.now {τ:Type} {g:Nat} {e:Enc τ} {l:List τ} (h:GA S w0 g e l) (hf:Fr S w0 w):GA [] w g e l:=⟨fun j u q=>by have:=h.cells hf j u q; simpa using this,by simp⟩
theorem GA.give {τ:Type} {g:Nat} {e:Enc τ} {l:List τ} {os0:List OE} (h:GA S w0 g e l) (y:0<(e.fl l).length) (hS:St S w0 w (os0++os)):GA (ea os0) w g e l:=by
 refine⟨fun j u B=>by have:=h.cells hS.fr j u B; simpa using this,fun G=>?_⟩
 obtain⟨o,I,A⟩:=dK.1 G
 have q:=((hS.ok o (bX _ I)).lt A).2
 rcases q with q | q
 ·have:=lC (h.1 0 _ (aE y))
  simp only at this
  omega
 ·exact h.2 q
theorem GC {x z u:Operand} {T E:TypeId} {k y:IntKind} {hi m:Int} {τ:Type} {e:Enc τ} {v z0:Value} {l:List τ} {bytes:Nat} (hT:P.underlying T=some (.slice E)) (hE:TI P E z0 e.sz bytes)
  (hx:L.ev x=some v) (hz:L.ev z=some (.int k hi)) (hu:L.ev u=some (.int y m)) (h:RO w e v l) (A:0<=hi/\hi.toNat<=l.length/\m=hi) :
  OpV P n L w ⟨d,.slice T x none (some z) (some u),ty,pos,after,none⟩ (slV3 v e.sz 0 hi.toNat hi.toNat) w:=fun a j=>by
 obtain⟨b,c,rfl,hc,_⟩:=h
 obtain⟨J,q,_,hs,_⟩:=hE.get
 obtain⟨B,N,rfl⟩:=A
 have G:m<=(c:Int):=by omega
 have I:(m.toNat:Int)=m:=gY (by omega)
 simp[execOp,j.ev hx,j.ev hz,j.ev hu,Instr.sliceAt,Instr.slice,run_underlying hT,Instr.sliceBounds,run_sliceBound,B,G,I,sizeOf,typeInfo,q,hs,slV3]
theorem OE.ok.cut3 {B:Nat} {τ:Type} {e:Enc τ} {v:Value} {l:List τ} {k:Nat} (h:(own e v l).ok S B w) (I:k<=l.length):(own e (slV3 v e.sz 0 k k) (l.take k)).ok S B w:=by
 refine⟨e.fl_length _,?_⟩
 rcases h.2 with⟨rfl,hn⟩ | ⟨g,y,A,T,rfl,hf,J,O,R,G,q⟩
 ·have:k=0:=by omega
  subst this
  exact .inl ⟨by simp[slV3],by simp⟩
 ·have N:slV3 (.slice (some ⟨g,0,none⟩) l.length y) e.sz 0 k k=.slice (some ⟨g,0,none⟩) k k:=by
   simp[slV3,gK]
  have j:(l.take k).length=k:=by simp; omega
  refine .inr ⟨g,k,A,T,by rw[N,j],hf,J,by rw[j]; exact av _,by omega,bz (aR _ (by omega)) G,?_⟩
  rw[j,e.fl_take,<-q,List.take_take,bm (aR _ I)]
theorem St.trunc3 {τ:Type} {e:Enc τ} {v:Value} {l:List τ} {i k:Nat} (h:St S w0 w os) (hi:os[i]? = some (own e v l)) (A:k<=l.length):St S w0 w (os.set i (own e (slV3 v e.sz 0 k k) (l.take k))):=by
 refine h.set hi (Fr.refl _ _) ((h.ok _ (ba hi)).cut3 A) fun q j=>.inl ?_
 have y:=h.ok _ (ba hi)
 rcases y.2 with⟨rfl,hn⟩ | ⟨g,B,G,T,rfl,_⟩
 ·simp[OE.blk,slV3,Value.ownBlock]at j
 ·simpa [OE.blk,slV3,gK,Value.ownBlock] using j
end
section
variable {S:Y4} {w0 w:World} {os os0:List OE} {b:Nat} {cs:List Value}
def RB (S:Y4) (w0:World) (b:Nat) (cs:List Value):Prop:=(∀j u,cs[j]? = some u->w0.cell? ⟨b,j,none⟩=some u)/\b ∉ S/\b<w0.heap.size
theorem RB.cells (h:RB S w0 b cs) (hf:Fr S w0 w):∀j u,cs[j]? = some u->w.cell? ⟨b,0+j,none⟩=some u:=fun j u q=>by
 have:=h.1 j u q
 rw[bh,hf.cell (lC this) h.2.1]
 exact this
theorem RB.cell (h:RB S w0 b cs) (hf:Fr S w0 w) (j:Nat) {u:Value} (q:cs[j]? = some u):w.cell? ⟨b,0+j,none⟩=some u:=h.cells hf j u q
theorem RB.now (h:RB S w0 b cs) (hf:Fr S w0 w):RB [] w b cs:=
 ⟨fun j u q=>by have:=h.cells hf j u q; simpa using this,by simp,bg h.2.2 hf.size⟩
theorem RB.give (h:RB S w0 b cs) (hS:St S w0 w (os0++os)):RB (ea os0) w b cs:=by
 refine⟨fun j u A=>by have:=h.cells hS.fr j u A; simpa using this,fun B=>?_,bg h.2.2 hS.fr.size⟩
 obtain⟨o,G,y⟩:=dK.1 B
 have q:=((hS.ok o (bX _ G)).lt y).2
 rcases q with q | q
 ·have:=h.2.2
  omega
 ·exact h.2.1 q
theorem St.rb (hS:St S w0 w os) (i:Nat) (hi:os[i]? = some (.bx b cs)):RB [] w b cs:=by
 obtain⟨hf,T,A,q,B⟩:=hS.ok _ (ba hi)
 exact⟨fun j u y=>by rw[hS.bxc i hi]; exact y,by simp,(cn.1 q).1⟩
theorem St.giveB (hS:St S w0 w (os0++os)) (i:Nat) (hi:os[i]? = some (.bx b cs)):RB (ea os0) w b cs:=by
 have hm:=ba hi
 have j:(os0++os)[os0.length+i]? = some (.bx b cs):=by rw[eJ (by omega)]; simpa using hi
 obtain⟨y,_,A⟩:=hS.rb _ j
 refine⟨y,fun B=>?_,A⟩
 obtain⟨o,G,q⟩:=dK.1 B
 exact (ci.1 hS.dj).2.2 o G _ hm b q rfl
end
theorem BO {τ:Type} (k:Nat) (l:List τ):(l.take k).length<=l.length:=by rw[aQ]; exact Nat.min_le_right _ _
theorem Gj (a:Addr) (k:Nat):a.add (0*k)=a:=by
 rw[fN]
 unfold Addr.add
 cases a with
 | mk b off sp=>cases sp <;> simp
theorem ov (a:Option Addr) (k:Nat):a.map (·.add (0*k))=a:=by
 cases a with
 | none=>rfl
 | some a=>simp only[bQ,Gj]
theorem RO.full {w:World} {τ:Type} {e:Enc τ} {v:Value} {l:List τ} (h:RO w e v l):v=slV v e.sz 0 l.length:=by
 obtain⟨a,c,rfl,hc,_⟩:=h
 simp only[slV,gM,ov,ite_self]
theorem RO.cut3 {w:World} {τ:Type} {e:Enc τ} {v:Value} {l:List τ} (h:RO w e v l) (k m:Nat):Go.Gk.slV3 (slV v e.sz 0 k) e.sz 0 m m=Go.Gk.slV3 v e.sz 0 m m:=by
 obtain⟨a,c,rfl,hc,_⟩:=h
 simp only[slV,Go.Gk.slV3,gM,ov,ite_self]
theorem RO.tk3 {w:World} {τ:Type} {e:Enc τ} {v:Value} {l:List τ} (h:RO w e v l) {k:Nat} (j:k<=l.length):RO w e (slV3 v e.sz 0 k k) (l.take k):=by
 have:=h.sub3 (lo:=0) (hi:=k) (m:=k) (eM _) j (av _)
 simpa using this
theorem RP.tk3 {S:Y4} {w:World} {τ:Type} {e:Enc τ} {v:Value} {l:List τ} (h:RP S w e v l) {k:Nat} (A:k<=l.length):RP S w e (slV3 v e.sz 0 k k) (l.take k):=by
 refine⟨h.1.tk3 A,fun hl j B G=>?_⟩
 have q:l≠[]:=by rintro rfl; simp at hl
 refine h.2 q j B ?_
 obtain⟨a,c,rfl,hc,_⟩:=h.1
 have y:zA (.slice a k k)=some j:=by simpa only [Go.Gk.slV3,gM,ov,ite_self] using G
 cases a <;> exact y
section
variable {S Sb:Y4} {w0 wb w w':World} {es es1 os os0 osF osK:List OE}
def OE.kept (S:Y4) (w:World):OE->Prop
 | .bx b cs=>RB S w b cs
 | .rd v sz n cs=>cs.length=n*sz/\∃a c,v=.slice a n c/\n<=c /\
   (n≠0->∃b off,a=some ⟨b,off,none⟩/\b<w.heap.size/\b ∉ S/\∀j u,cs[j]? = some u->w.cell? ⟨b,off+j,none⟩=some u)
 | .sl ..=>True
def OE.kp:OE->OE
 | .sl v sz n cs=>.rd v sz n cs
 | o=>o
theorem OE.kept.to {o:OE} {S':Y4} (h:o.kept S w) (hf:Fr S w w') (hS:∀k,k<w.heap.size->k ∉ S->k ∉ S'):o.kept S' w':=by
 cases o with
 | sl v sz n cs=>trivial
 | bx b cs=>
  obtain⟨h1,h2,h3⟩:=h
  refine⟨fun j u hj=>?_,hS _ h3 h2,bg h3 hf.size⟩
  rw[hf.cell h3 h2]
  exact h1 j u hj
 | rd v sz n cs=>
  obtain⟨hl,a,c,rfl,hc,hx⟩:=h
  refine⟨hl,a,c,rfl,hc,fun hn=>?_⟩
  obtain⟨b,off,rfl,hb,hs,hcell⟩:=hx hn
  refine⟨b,off,rfl,bg hb hf.size,hS _ hb hs,fun j u hj=>?_⟩
  rw[hf.cell hb hs]
  exact hcell j u hj
theorem OE.kept.fr {o:OE} (h:o.kept S w) (hf:Fr S w w'):o.kept S w':=h.to hf fun _ _ h=>h
theorem OE.kept.blk {o:OE} (h:o.kept S w) (ho:∀v sz n cs,o≠.sl v sz n cs) {k:Nat} (hk:o.blk=some k):k<w.heap.size/\k ∉ S:=by
 cases o with
 | sl v sz n cs=>exact absurd rfl (ho v sz n cs)
 | bx b cs=>simp[OE.blk]at hk; subst hk; exact⟨h.2.2,h.2.1⟩
 | rd v sz n cs=>
  obtain⟨hl,a,c,rfl,hc,hx⟩:=h
  simp only[OE.blk]at hk
  split at hk
  ·cases hk
  ·rename_i hn
   obtain⟨b,off,rfl,hb,hs,_⟩:=hx hn
   simp[Value.ownBlock]at hk
   subst hk
   exact⟨hb,hs⟩
theorem OE.ok.kept {o:OE} {B:Nat} (h:o.ok S B w) {S':Y4} (hd:∀k,o.blk=some k->k ∉ S'):o.kp.kept S' w:=by
 cases o with
 | sl v sz n cs=>
  refine⟨h.1,?_⟩
  rcases h.2 with⟨rfl,rfl⟩ | ⟨g,cap,cur,T,rfl,hf,hg,hnc,hcm,hcs,htake⟩
  ·exact⟨none,0,rfl,av _,fun h=>absurd rfl h⟩
  ·refine⟨_,cap,rfl,hnc,fun _=>⟨g,0,rfl,hg.lt,hd g rfl,fun j u hj=>?_⟩⟩
   rw[<-htake,bK]at hj
   split at hj
   ·rw[bh,hg.cell j]
    simpa using hj
   ·cases hj
 | rd v sz n cs=>
  obtain⟨hl,a,c,rfl,hc,hx⟩:=h
  refine⟨hl,a,c,rfl,hc,fun hn=>?_⟩
  obtain⟨b,off,rfl,hb,_,hcell⟩:=hx hn
  exact⟨b,off,rfl,hb,hd b (by simp[OE.blk,hn,Value.ownBlock]),hcell⟩
 | bx b cs=>
  obtain⟨hf,T,cur,hg,hcs⟩:=h
  have hlt:=(cn.1 hg).1
  refine⟨fun j u hj=>?_,hd b rfl,hlt⟩
  rw[cell_of_row w b j cur T _ hg,<-gv,hcs]
  exact hj
def Rds (S:Y4) (w:World) (es:List OE):Prop:=∀o∈es,o.kept S w
structure Fz (S:Y4) (w0:World) (Sb:Y4) (wb:World):Prop where
 fr:Fr S w0 wb
 sb:∀b∈Sb,fre S w0.heap.size b
def Sf (S:Y4) (w0 w:World) (es os:List OE):Prop:=∃Sb wb,Fz S w0 Sb wb/\Rds Sb wb es/\St Sb wb w os
theorem Rds.nil:Rds S w []:=fun o h=>by cases h
theorem Rds.cons {o:OE} (h:o.kept S w) (hr:Rds S w es):Rds S w (o :: es):=fun p hp=>by
 rcases aJ.1 hp with rfl | hp
 ·exact h
 ·exact hr p hp
theorem Rds.app (h:Rds S w es) (h1:Rds S w es1):Rds S w (es++es1):=fun p hp=>(bG.1 hp).elim (h p) (h1 p)
theorem RB.kept {b:Nat} {cs:List Value} (h:RB S w b cs):(OE.bx b cs).kept S w:=h
theorem RP.kept {τ:Type} {e:Enc τ} {v:Value} {l:List τ} (hz:0<e.sz) (h:RP S w e v l):(red e v l).kept S w:=by
 refine⟨e.fl_length l,?_⟩
 obtain⟨a,c,rfl,hc,hr⟩:=h.1
 refine⟨a,c,rfl,hc,fun hn=>?_⟩
 have hl:l≠[]:=by rintro rfl; exact hn rfl
 obtain⟨b,off,rfl,hcell⟩:=hr hl
 have hne:0<(e.fl l).length:=by
  rw[e.fl_length]
  exact Nat.mul_pos (d8.2 hl) hz
 exact⟨b,off,rfl,lC (hcell 0 _ (aE hne)),fun hb=>h.2 hl b hb rfl,hcell⟩
theorem OE.kept.rp {τ:Type} {e:Enc τ} {v:Value} {l:List τ} (h:(red e v l).kept S w):RP S w e v l:=by
 obtain⟨_,a,c,rfl,hc,hcell⟩:=h
 refine⟨⟨a,c,rfl,hc,fun hl=>?_⟩,fun hl k hk hb=>?_⟩
 ·obtain⟨b,off,h1,_,_,h2⟩:=hcell (by simpa using hl)
  exact⟨b,off,h1,h2⟩
 ·obtain⟨b,off,rfl,_,hs,_⟩:=hcell (by simpa using hl)
  have:b=k:=by simpa [Value.ownBlock] using hb
  exact hs (this ▸ hk)
def qM (es:List OE) (k:Nat):Option OE:=es[es.length - 1 - k]?
theorem Rds.rp (h:Rds S w es) (k:Nat) {τ:Type} {e:Enc τ} {v:Value} {l:List τ} (hk:qM es k=some (red e v l)):RP S w e v l:=(h _ (ba hk)).rp
theorem Rds.rb (h:Rds S w es) (k:Nat) {b:Nat} {cs:List Value} (hk:qM es k=some (.bx b cs)):RB S w b cs:=h _ (ba hk)
theorem Rds.pick {es':List OE} (h:Rds S w es) (ix:Y4) (he:es'.map some=ix.map (fun i=>qM es i)):Rds S w es':=fun o ho=>by
 have h1:some o∈es'.map some:=List.mem_map_of_mem ho
 rw[he]at h1
 obtain⟨i,_,hi⟩:=iC.1 h1
 exact h o (ba hi)
theorem Sf.of (hA:Rds S w0 es) (hS:St S w0 w os):Sf S w0 w es os:=⟨S,w0,⟨Fr.refl _ _,fun b hb=>.inr hb⟩,hA,hS⟩
theorem Sf.mk' (hF:Fz S w0 Sb wb) (hA:Rds Sb wb es) (hS:St Sb wb w os):Sf S w0 w es os:=⟨Sb,wb,hF,hA,hS⟩
theorem Fz.start:Fz S w0 S w0:=⟨Fr.refl _ _,fun b hb=>.inr hb⟩
theorem Fz.st (hF:Fz S w0 Sb wb) (hS:St Sb wb w os):St S w0 w os:=by
 have hfre:∀k,fre Sb wb.heap.size k->fre S w0.heap.size k:=by
  intro k hk
  rcases hk with hk | hk
  ·exact .inl (bz hF.fr.size hk)
  ·exact hF.sb k hk
 refine⟨hF.fr.step hS.fr hF.sb,fun o ho=>(hS.ok o ho).re fun k _ hf=>hfre k hf,hS.dj⟩
theorem Fz.frz (hF:Fz S w0 Sb wb) (hA:Rds Sb wb es) (hS:St Sb wb w (osF++osK)):∃Sb' wb',Fz S w0 Sb' wb'/\Rds Sb' wb' (osF.map OE.kp++es)/\St Sb' wb' w osK:=by
 have hst:=hF.st hS
 have hp:=ci.1 hS.dj
 refine⟨ea osK,w,⟨hst.fr,fun b hb=>?_⟩,Rds.app ?_ ?_,?_⟩
 ·obtain⟨o,ho,hob⟩:=dK.1 hb
  exact ((hst.ok o (bD _ ho)).lt hob).2
 ·intro p hp'
  obtain⟨o,ho,rfl⟩:=iC.1 hp'
  refine (hS.ok o (bX _ ho)).kept fun k hk hx=>?_
  obtain⟨q,hq,hqb⟩:=dK.1 hx
  exact hp.2.2 o ho q hq k hk hqb
 ·intro o ho
  refine (hA o ho).to hS.fr fun k hk hs hx=>?_
  obtain⟨q,hq,hqb⟩:=dK.1 hx
  rcases ((hS.ok q (bD _ hq)).lt hqb).2 with h | h
  ·omega
  ·exact hs h
 ·exact⟨Fr.refl _ _,fun o ho=>(hS.ok o (bD _ ho)).re fun k hk _=>.inr (dK.2 ⟨o,ho,hk⟩),hp.2.1⟩
theorem Fz.out (hF:Fz [] w0 Sb wb) (hA:Rds Sb wb es) (hS:St Sb wb w os):St [] w0 w []/\Rds [] w (os.map OE.kp++es):=by
 obtain⟨Sb',wb',h1,h2,h3⟩:=Fz.frz (osK:=[]) hF hA (by rw[bR]; exact hS)
 exact⟨h1.st h3,fun o ho=>(h2 o ho).to h3.fr fun _ _ _ h=>by cases h⟩
end
theorem OE.kept.nil {S:Y4} {w:World} {τ:Type} {e:Enc τ}:(red e (.slice none 0 0) ([]:List τ)).kept S w:=⟨by simp,none,0,rfl,av _,fun h=>absurd rfl h⟩
theorem Rds.nth {S:Y4} {w:World} {es:List OE} (h:Rds S w es) (k:Nat) {o:OE} (hk:qM es k=some o):o.kept S w:=h _ (ba hk)
def oO {α:Type} (x:Option α) (p:Prop) (q:α->Prop):Prop:=match x with
 | none=>p
 | some c=>q c
theorem HY {α:Type} {p:Prop} {q:α->Prop} (h:p):oO none p q:=h
theorem I8 {α:Type} {c:α} {p:Prop} {q:α->Prop} (h:q c):oO (some c) p q:=h
theorem GY {α:Type} {p:Prop} {q:α->Prop} (h:oO none p q):p:=h
theorem F3 {α:Type} {c:α} {p:Prop} {q:α->Prop} (h:oO (some c) p q):q c:=h
def OE.ns:OE->Bool
 | .sl ..=>false
 | _=>true
def Off (T:Y4) (es:List OE):Prop:=∀o∈es,∀b,o.blk=some b->b ∉ T
def TOk (S T:Y4) (w0:World):Prop:=∀b∈T,b<w0.heap.size/\b ∉ S
def SfT (S T:Y4) (w0 w:World) (es os:List OE):Prop:=∃Sb wb,Fz S w0 Sb wb/\Rds Sb wb es/\Off T es/\St Sb wb w os
section
variable {S T Sb:Y4} {w0 wb w w':World} {es es1 os os0 osF osK:List OE}
theorem TOk.nil:TOk S [] w0:=fun b h=>by cases h
theorem Off.nil:Off T []:=fun o h=>by cases h
theorem Off.emp:Off [] es:=fun o _ b _ h=>by cases h
theorem Off.cons {o:OE} (h:∀b,o.blk=some b->b ∉ T) (hr:Off T es):Off T (o :: es):=fun p hp=>by
 rcases aJ.1 hp with rfl | hp
 ·exact h
 ·exact hr p hp
theorem Off.app (h:Off T es) (h1:Off T es1):Off T (es++es1):=fun p hp=>(bG.1 hp).elim (h p) (h1 p)
theorem OE.kept.off {o:OE} (h:o.kept T w) (hn:o.ns=true):∀b,o.blk=some b->b ∉ T:=fun b hb=>(h.blk (fun v sz n cs e=>by rw[e]at hn; cases hn) hb).2
theorem OE.kept.all {o:OE} (h:o.kept T w):o.kept [] w:=h.to (Fr.refl _ _) fun _ _ _=>by simp
theorem OE.kept.more {o:OE} (h:o.kept Sb w) (hn:∀b,o.blk=some b->b ∉ T):o.kept (T++Sb) w:=by
 cases o with
 | sl v sz n cs=>trivial
 | bx b cs=>
  obtain⟨h1,h2,h3⟩:=h
  exact⟨h1,fun hb=>(bG.1 hb).elim (hn b rfl) h2,h3⟩
 | rd v sz n cs=>
  obtain⟨hl,a,c,rfl,hc,hx⟩:=h
  refine⟨hl,a,c,rfl,hc,fun hne=>?_⟩
  obtain⟨b,off,rfl,hb,hs,hcell⟩:=hx hne
  exact⟨b,off,rfl,hb,fun hbb=>(bG.1 hbb).elim (hn b (by simp[OE.blk,hne,Value.ownBlock])) hs,hcell⟩
theorem Rds.off (h:Rds T w es) (hn:es.all OE.ns=true):Off T es:=fun o ho=>(h o ho).off (cq.1 hn o ho)
theorem Rds.all (h:Rds T w es):Rds [] w es:=fun o ho=>(h o ho).all
theorem Rds.rpT (h:Rds Sb w es) (hP:Off T es) (k:Nat) {τ:Type} {e:Enc τ} {v:Value} {l:List τ} (hk:qM es k=some (red e v l)):RP (T++Sb) w e v l:=
 ((h _ (ba hk)).more (hP _ (ba hk))).rp
theorem OE.blk_kp (o:OE):∀b,o.kp.blk=some b->o.blk=some b:=fun b h=>by
 cases o with
 | sl v sz n cs=>
  simp only[OE.kp,OE.blk]at h ⊢
  split at h
  ·cases h
  ·exact h
 | bx b cs=>exact h
 | rd v sz n cs=>exact h
theorem Fz.offF (hF:Fz S w0 Sb wb) (hT:TOk S T w0) (hP:Off T es) (hS:St Sb wb w (osF++osK)):Off T (osF.map OE.kp++es):=by
 refine Off.app (fun o ho b hb hbT=>?_) hP
 obtain⟨q,hq,rfl⟩:=iC.1 ho
 have h1:=(((hF.st hS).ok q (bX _ hq)).lt (OE.blk_kp q b hb)).2
 obtain⟨h2,h3⟩:=hT b hbT
 rcases h1 with h1 | h1
 ·omega
 ·exact h3 h1
theorem Fz.frzK (hF:Fz S w0 Sb wb) (hT:TOk S T w0) (hA:Rds Sb wb es) (hP:Off T es) (hS:St Sb wb w (osF++osK)) :
  Fz S w0 (ea osK) w/\Rds (ea osK) w (osF.map OE.kp++es)/\Off T (osF.map OE.kp++es)/\St (ea osK) w w osK:=by
 have hst:=hF.st hS
 have hp:=ci.1 hS.dj
 refine⟨⟨hst.fr,fun b hb=>?_⟩,Rds.app ?_ ?_,hF.offF hT hP hS,?_⟩
 ·obtain⟨o,ho,hob⟩:=dK.1 hb
  exact ((hst.ok o (bD _ ho)).lt hob).2
 ·intro p hp'
  obtain⟨o,ho,rfl⟩:=iC.1 hp'
  refine (hS.ok o (bX _ ho)).kept fun k hk hx=>?_
  obtain⟨q,hq,hqb⟩:=dK.1 hx
  exact hp.2.2 o ho q hq k hk hqb
 ·intro o ho
  refine (hA o ho).to hS.fr fun k hk hs hx=>?_
  obtain⟨q,hq,hqb⟩:=dK.1 hx
  rcases ((hS.ok q (bD _ hq)).lt hqb).2 with h | h
  ·omega
  ·exact hs h
 ·exact⟨Fr.refl _ _,fun o ho=>(hS.ok o (bD _ ho)).re fun k hk _=>.inr (dK.2 ⟨o,ho,hk⟩),hp.2.1⟩
theorem Fz.okT (hF:Fz S w0 (ea osK) w) (hT:TOk S T w0) (hS:St (ea osK) w w osK):TOk [] (T++ea osK) w:=fun b hb=>by
 refine⟨?_,by simp⟩
 rcases bG.1 hb with hb | hb
 ·exact bg (hT b hb).1 hF.fr.size
 ·obtain⟨o,ho,hob⟩:=dK.1 hb
  exact ((hS.ok o ho).lt hob).1
theorem Fz.callK (hF:Fz S w0 (ea osK) w) (hA:Rds (ea osK) w es) (hP:Off T es) (hS:St (ea osK) w w osK) (hC:St [] w w' []) (hR:Rds (T++ea osK) w' es1) (hn:es1.all OE.ns=true) :
  ∃Sb' wb',Fz S w0 Sb' wb'/\Rds Sb' wb' (es1++es)/\Off T (es1++es)/\St Sb' wb' w' osK:=by
 have h4:St (ea osK) w w' osK:=by have:=hS.call hC; rwa [bJ]at this
 have hb:∀b∈ea osK,b<w.heap.size:=fun b hb=>by
  obtain⟨o,ho,hob⟩:=dK.1 hb
  exact ((hS.ok o ho).lt hob).1
 refine⟨ea osK,w',⟨(hF.st h4).fr,hF.sb⟩,Rds.app (fun o ho=>(hR o ho).to (Fr.refl _ _) fun k _ hk hx=>hk (bD _ hx)) (fun o ho=>(hA o ho).fr h4.fr),?_,?_⟩
 ·refine Off.app (fun o ho b hb hx=>?_) hP
  exact (hR o ho).off (cq.1 hn o ho) b hb (bX _ hx)
 ·exact⟨Fr.refl _ _,fun o ho=>(h4.ok o ho).re fun k hk _=>.inr (dK.2 ⟨o,ho,hk⟩),h4.dj⟩
theorem Fz.outT (hF:Fz [] w0 Sb wb) (hT:TOk [] T w0) (hA:Rds Sb wb es) (hP:Off T es) (hS:St Sb wb w os):St [] w0 w []/\Rds T w (os.map OE.kp++es):=by
 obtain⟨h1,h2,h3,h4⟩:=Fz.frzK (osK:=[]) hF hT hA hP (by rw[bR]; exact hS)
 refine⟨h1.st h4,fun o ho=>?_⟩
 have:=(h2 o ho).more (h3 o ho)
 exact this.to (Fr.refl _ _) fun k _ hk hx=>hk (bX _ hx)
theorem SfT.mk' (hF:Fz S w0 Sb wb) (hA:Rds Sb wb es) (hP:Off T es) (hS:St Sb wb w os):SfT S T w0 w es os:=⟨Sb,wb,hF,hA,hP,hS⟩
theorem Off.pick {es':List OE} (h:Off T es) (ix:Y4) (he:es'.map some=ix.map (fun i=>qM es i)):Off T es':=fun o ho=>by
 have h1:some o∈es'.map some:=List.mem_map_of_mem ho
 rw[he]at h1
 obtain⟨i,_,hi⟩:=iC.1 h1
 exact h o (ba hi)
theorem Off.nth (h:Off T es) (k:Nat) {o:OE} (hk:qM es k=some o):∀b,o.blk=some b->b ∉ T:=h _ (ba hk)
end
section
variable {P:Program} {n:Nat} {L:Env} {w:World}
theorem MC {fn:Func} {r1 r2 r3:ResultVar} {v1 v2 v3:Value} {φ:Value->World->Prop} (hres:fn.results=#[r1,r2,r3]) (h1:RV P L w r1 v1) (h2:RV P L w r2 v2) (h3:RV P L w r3 v3) (h:φ (.tuple #[v1,v2,v3]) w):QE n (bodyPost P fn (Ret φ)) .ret L w:=fun a ha=>by
 refine⟨ha.defers,.tuple #[v1,v2,v3],?_,h⟩
 cases r1 <;> cases r2 <;> cases r3
 ·have g1:=ha.get _ _ h1
  have g2:=ha.get _ _ h2
  have g3:=ha.get _ _ h3
  simp[results,hres,g1,g2,g3]
 ·have g1:=ha.get _ _ h1
  have g2:=ha.get _ _ h2
  obtain⟨b3,g3,k3⟩:=h3
  have g3:=ha.get _ _ g3
  simp[results,hres,g1,g2,g3,k3,iS]
 ·have g1:=ha.get _ _ h1
  obtain⟨b2,g2,k2⟩:=h2
  have g2:=ha.get _ _ g2
  have g3:=ha.get _ _ h3
  simp[results,hres,g1,g2,k2,g3,iS]
 ·have g1:=ha.get _ _ h1
  obtain⟨b2,g2,k2⟩:=h2
  have g2:=ha.get _ _ g2
  obtain⟨b3,g3,k3⟩:=h3
  have g3:=ha.get _ _ g3
  simp[results,hres,g1,g2,k2,g3,k3,iS]
 ·obtain⟨b1,g1,k1⟩:=h1
  have g1:=ha.get _ _ g1
  have g2:=ha.get _ _ h2
  have g3:=ha.get _ _ h3
  simp[results,hres,g1,k1,g2,g3,iS]
 ·obtain⟨b1,g1,k1⟩:=h1
  have g1:=ha.get _ _ g1
  have g2:=ha.get _ _ h2
  obtain⟨b3,g3,k3⟩:=h3
  have g3:=ha.get _ _ g3
  simp[results,hres,g1,k1,g2,g3,k3,iS]
 ·obtain⟨b1,g1,k1⟩:=h1
  have g1:=ha.get _ _ g1
  obtain⟨b2,g2,k2⟩:=h2
  have g2:=ha.get _ _ g2
  have g3:=ha.get _ _ h3
  simp[results,hres,g1,k1,g2,k2,g3,iS]
 ·obtain⟨b1,g1,k1⟩:=h1
  have g1:=ha.get _ _ g1
  obtain⟨b2,g2,k2⟩:=h2
  have g2:=ha.get _ _ g2
  obtain⟨b3,g3,k3⟩:=h3
  have g3:=ha.get _ _ g3
  simp[results,hres,g1,k1,g2,k2,g3,k3,iS]
end
section
variable {P:Program} {n:Nat} {L:Env} {w w' w0:World} {S:Y4} {os:List OE}
variable {d:Option Tmp} {ty:TypeId} {pos:String} {after:Array Edge}
theorem zj {T E ty:TypeId} {τ:Type} {e:Enc τ} {z:Value} {bytes:Nat} {v:Value} {l:List τ} {t0:τ} {B:Nat} (hT:P.underlying T=some (.slice E)) (hE:TI P E z e.sz bytes) (I:e.sz=1) (h0:e.cells t0=[z]) (hz:z.cells=#[z])
  (R:(own e v l).ok S B w):∃w',(Builtin.clear_ #[T] ty #[v]).run P w=.ok (.tuple #[]) w'/\(own e v (List.replicate l.length t0)).ok S B w'/\Fr (own e v l).blk.toList w w':=by
 obtain⟨bx,V,X,hs,_⟩:=hE.get
 by_cases hl0:l.length=0
 ·have hl:l=[]:=aZ hl0
  subst hl
  refine⟨w,?_,R,Fr.refl _ _⟩
  rcases R.2 with⟨rfl,hn⟩ | ⟨g,J,y,U,rfl,_⟩
  ·simp[Builtin.clear_,run_underlying hT]
  ·simp[Builtin.clear_,run_underlying hT]
 rcases R.2 with⟨rfl,hn⟩ | ⟨g,J,y,U,rfl,Y,Z,ab,ac,ad,ag⟩
 ·exact absurd hn hl0
 ·have N:e.fl (List.replicate l.length t0)=List.replicate l.length z:=by
   rw[Enc.fl,List.flatMap_replicate,h0]
   generalize l.length=m
   induction m with
   | zero=>rfl
   | succ m ih=>simp_all [List.replicate_succ]
  have O:(Builtin.zeroCells z.cells l.length).toList=List.replicate l.length z:=by
   rw[hz]
   simp[Builtin.zeroCells]
   apply List.ext_getElem
   ·simp
   ·intro i h1 h2
    simp[Nat.mod_one]
  have q:(e.fl (List.replicate l.length t0)).length=l.length:=by rw[N]; simp
  have aS:l.length<=y.size:=by rw[I]at ad; omega
  have j:=gO P g 0 U (e.fl (List.replicate l.length t0)) 0 y w Z (by rw[q]; omega) (e.fl_one _)
  simp only[bA,gS,bJ,bh]at j
  obtain⟨G,A⟩:∃G,G=(e.fl (List.replicate l.length t0)++y.toList.drop (e.fl (List.replicate l.length t0)).length).toArray:=⟨_,rfl⟩
  rw[<-A]at j
  rw[N]at j
  refine⟨w.setRow g G,?_,⟨e.fl_length _,.inr ⟨g,J,G,U,by rw[bd],Y,Z.set _ ?_,?_,ac,?_,?_⟩⟩,Fr.setRow w g _⟩
  ·obtain⟨m,hm⟩:∃m,l.length=m+1:=⟨l.length - 1,by omega⟩
   rw[hm]at j O ⊢
   simp[Builtin.clear_,run_underlying hT,zeroValue,typeInfo,V,X,O,j]
  ·rw[A]
   simp only[cJ,ay,bU,dn]
   omega
  ·rw[bd]; exact ab
  ·rw[A]
   simp only[cJ,ay,bU,dn]
   omega
  ·rw[A,bd,gX,I,cH,List.take_append_of_le_length (by rw[q]; exact av _),aA (by rw[q]; exact av _)]
theorem JT {x:Operand} {T E:TypeId} {τ:Type} {e:Enc τ} {z:Value} {bytes:Nat} {v:Value} {l:List τ} {i:Nat} (t0:τ) (hT:P.underlying T=some (.slice E)) (hE:TI P E z e.sz bytes) (q:e.sz=1) (y:e.cells t0=[z]) (hz:z.cells=#[z])
  (hx:L.ev x=some v) (hS:St S w0 w os) (j:os[i]? = some (own e v l)) :
  OpX P n L w ⟨d,.call ⟨.builtin .clear,#[x],#[T]⟩,ty,pos,after,none⟩ (fun r w'=>r=.tuple #[]/\St S w0 w' (os.set i (own e v (List.replicate l.length t0)))):=by
 obtain⟨w',A,B,G⟩:=zj (ty:=ty) hT hE q y hz (hS.ok _ (ba j))
 refine gD _ w' (fun a I=>?_) ⟨rfl,hS.set j G B fun k J=>.inl J⟩
 simp[execOp,resolve,invoke,builtin,I.ev hx,A]
theorem Np {Q:Exit->Act->World->Prop} {ops:Array Oper} {rest:List Oper} {op:Op} {Φ:Value->World->Prop} (q:OpX P n L w ⟨none,op,ty,pos,after,none⟩ Φ)
  (h:∀v w',Φ v w'->wpR P n ops Q rest L w'):wpR P n ops Q (⟨none,op,ty,pos,after,none⟩ :: rest) L w:=fun a j=>by
 obtain⟨v,w',y,A⟩:=q
 unfold wpList
 rw[ah (by simp[Region.wanted])]
 refine .inl ?_
 unfold Oper.wp
 rw[y a j]
 exact h v w' A _ j
end
section
variable {P:Program} {ops:Array Oper} {Q:Exit->Act->World->Prop} {nw:Nat->Bool} {cs:Nat->Option Nat} {S:Y4} {w0:World} {os:List OE} {ent:Nat->Value->OE}
def Do (P:Program) (ops:Array Oper) (S:Y4) (w0:World) (ent:Nat->Value->OE) (co:List OE) (o:Oper) (i:Nat) (a:Act):Prop:=
 Region.wanted o (yielded ops a.tmps)=true/\∀w os',St S w0 w (co++os')->(∃v w',(execOp a.eval o).run P w=.ok (.value v) w'/\St S w0 w' (ent i v :: os')) \/
  ∃f args,(execOp a.eval o).run P w=.ok (.enter f args) w/\Calls P f args w (Ret fun v w'=>St S w0 w' (ent i v :: os'))
theorem Do.of_same {co:List OE} {o:Oper} {i:Nat} {a j:Act} (q:Do P ops S w0 ent co o i a) (y:execOp j.eval o=execOp a.eval o)
  (hw:Region.wanted o (yielded ops j.tmps)=Region.wanted o (yielded ops a.tmps)):Do P ops S w0 ent co o i j:=by
 unfold Do at *
 rw[y,hw]
 exact q
def iT (nw:Nat->Bool) (cs:Nat->Option Nat) (listed:Array Bool) (k:Nat):Bool:=nw k&&listed.getD k false&&(match cs k with | none=>true | some c=>!listed.getD c false)
theorem nO {p q:Nat->Bool} (l:Y4):(l.filter p).Perm (l.filter (fun k=>p k&&q k)++l.filter (fun k=>p k&&!q k)):=by
 have:=(List.filter_append_perm q (l.filter p)).symm
 rw[List.filter_filter,List.filter_filter]at this
 refine this.trans ?_
 have j:(fun a=>q a&&p a)=(fun k=>p k&&q k):=by funext k; exact Bool.and_comm _ _
 have y:(fun a=>(!q a)&&p a)=(fun k=>p k&&!q k):=by funext k; exact Bool.and_comm _ _
 rw[j,y]
theorem Ag {n j:Nat} (h:j<n) {p:Nat->Bool} (hp:p j=true):(List.range n).filter (fun k=>p k&&k == j)=[j]:=by
 have q:(List.range n).filter (fun k=>p k&&k == j)=(List.range n).filter (fun k=>k == j):=by
  refine eK fun k _=>?_
  by_cases hk:k=j
  ·subst hk; simp[hp]
  ·simp[hk]
 rw[q]
 have y:=List.filter_beq (l:=List.range n) j
 rw[y,List.nodup_range.count,ah (cW.2 h)]; rfl
variable {n:Nat} {L:Env}
theorem A0 (q:∀j y,ops[j]? = some y->∀e∈y.after,Region.binds .any e=true->e.on<j):∀(f j k:Nat),fY ops f j k=true->k<j
 | 0,_,_,h=>by simp[fY]at h
 | f+1,j,k,h=>by
  simp only[fY]at h
  cases hj:ops[j]? with
  | none=>simp[hj]at h
  | some y=>
   simp only[hj,List.any_eq_true,aK,fW]at h
   obtain⟨e,A,B,h | h⟩:=h
   ·have:=q j y hj e (by simpa using A) B
    have:=bf h; omega
   ·have:=q j y hj e (by simpa using A) B
    have:=A0 q f e.on k h; omega
end
abbrev Th:=Value×List OE×List OE
abbrev Gt:=Nat->Th
def iY (g:Gt) (i:Nat) (v:Th):Gt:=fun k=>if k=i then v else g k
theorem FA {g:Gt} {i j:Nat} {u v:Th} (h:i≠j):iY (iY g i u) j v=iY (iY g j v) i u:=by
 funext k
 unfold iY
 by_cases h1:k=i <;> by_cases h2:k=j <;> simp_all
theorem nR {α β:Type} {f g:α->List β}:∀{l:List α},(∀k∈l,f k=g k)->l.flatMap f=l.flatMap g
 | [],_=>rfl
 | k :: l,h=>by rw[dM,dM,h k (eu ..),nR fun x hx=>h x (dS _ hx)]
theorem rQ (g:Gt) (i:Nat) (v:Th):iY g i v i=v:=ah rfl
theorem nY {g:Gt} {i k:Nat} {v:Th} (h:k≠i):iY g i v k=g k:=ae h
section
variable {S T Sl Tl:Y4} {w0 w w':World} {es es1 os os1 rest lent:List OE}
theorem Rds.sub (h:Rds S w es) (hs:∀o∈es1,o∈es):Rds S w es1:=fun o j=>h o (hs o j)
theorem Off.sub (h:Off T es) (hs:∀o∈es1,o∈es):Off T es1:=fun o j=>h o (hs o j)
theorem OE.kept.to' {o:OE} {G:Y4} (h:o.kept S w) (hf:Fr S w w') (hS:∀k,k<w.heap.size->o.blk=some k->k ∉ S->k ∉ G):o.kept G w':=by
 cases o with
 | sl v sz n cs=>trivial
 | bx b cs=>
  obtain⟨J,I,y⟩:=h
  refine⟨fun j u A=>?_,hS _ y rfl I,bg y hf.size⟩
  rw[hf.cell y I]
  exact J j u A
 | rd v sz n cs=>
  obtain⟨hl,a,c,rfl,hc,hx⟩:=h
  refine⟨hl,a,c,rfl,hc,fun hn=>?_⟩
  obtain⟨b,off,rfl,B,hs,q⟩:=hx hn
  refine⟨b,off,rfl,bg B hf.size,hS _ B (by simp[OE.blk,hn,Value.ownBlock]) hs,fun j u A=>?_⟩
  rw[hf.cell B hs]
  exact q j u A
theorem SfT.tail (h:SfT S T w0 w (es1++es) (os1++os)):SfT S T w0 w es os:=by
 obtain⟨Sb,wb,hZ,hA,hP,hS⟩:=h
 exact⟨Sb,wb,hZ,hA.sub (fun o j=>bD _ j),hP.sub (fun o j=>bD _ j),hS.tail⟩
theorem SfT.tail' (h:SfT S T w0 w es (os1++os)):SfT S T w0 w es os:=by
 obtain⟨Sb,wb,hZ,hA,hP,hS⟩:=h
 exact⟨Sb,wb,hZ,hA,hP,hS.tail⟩
theorem SfT.perm (h:SfT S T w0 w es os) (j:∀o∈es1,o∈es) (q:os.Perm os1):SfT S T w0 w es1 os1:=by
 obtain⟨Sb,wb,hZ,hA,hP,hS⟩:=h
 exact⟨Sb,wb,hZ,hA.sub j,hP.sub j,hS.perm q⟩
theorem Hi {Sb:Y4} {wb:World} {o:OE} (j:o.kept Sb wb) (hn:o.ns=true) {b:Nat} (q:o.blk=some b):b<wb.heap.size/\b ∉ Sb:=
 j.blk (fun v y n cs e=>by rw[e]at hn; cases hn) q
theorem SfT.frS (h:SfT S T w0 w es os):Fr S w0 w:=by
 obtain⟨Sb,wb,hZ,hA,hP,hS⟩:=h
 exact (hZ.st hS).fr
theorem SfT.lend (h:SfT S T w0 w es (lent++rest)) (hT:TOk S T w0) (hn:∀o∈es,o.ns=true) :
  TOk (ea lent) (T++ea rest) w/\Rds (ea lent) w es/\Off (T++ea rest) es/\St (ea lent) w w lent:=by
 obtain⟨Sb,wb,hZ,hA,hP,hS⟩:=h
 have I:=hZ.st hS
 have O:=(ci.1 hS.dj).2.2
 refine⟨fun b y=>?_,fun o j=>(hA o j).to hS.fr fun k U hs hx=>?_,fun o j b y hx=>?_,hS.give⟩
 ·rcases bG.1 y with y | y
  ·obtain⟨R,G⟩:=hT b y
   refine⟨bg R I.fr.size,fun hx=>?_⟩
   obtain⟨o,j,B⟩:=dK.1 hx
   rcases ((I.ok o (bX _ j)).lt B).2 with N | N
   ·omega
   ·exact G N
  ·obtain⟨o,j,B⟩:=dK.1 y
   refine⟨((I.ok o (bD _ j)).lt B).1,fun hx=>?_⟩
   obtain⟨q,J,A⟩:=dK.1 hx
   exact O q J o j b A B
 ·obtain⟨q,J,A⟩:=dK.1 hx
  rcases ((hS.ok q (bX _ J)).lt A).2 with h | h
  ·omega
  ·exact hs h
 ·rcases bG.1 hx with hx | hx
  ·exact hP o j b y hx
  ·obtain⟨q,J,A⟩:=dK.1 hx
   have G:=((hS.ok q (bD _ J)).lt A).2
   have N:=Hi (hA o j) (hn o j) y
   rcases G with G | G
   ·omega
   ·exact N.2 G
theorem SfT.unlend (h:SfT S T w0 w es (lent++rest)) (hn:∀o∈es,o.ns=true) (Z:∀o∈es1,o.ns=true)
  (Y:SfT (ea lent) (T++ea rest) w w' es1 os1):SfT S T w0 w' (es1++es) (os1++rest):=by
 obtain⟨Sb,wb,hZ,hA,hP,hS⟩:=h
 obtain⟨Sc,wc,R,U,N,G⟩:=Y
 have V:=R.st G
 have y:St Sb wb w' (os1++rest):=hS.back V
 have I:=hZ.st y
 refine⟨ea (os1++rest),w',⟨I.fr,fun b X=>?_⟩,Rds.app (fun o j=>?_) (fun o j=>?_),Off.app (fun o j b y hx=>N o j b y (bX _ hx)) hP,
  Fr.refl _ _,fun o j=>(y.ok o j).re fun k O _=>.inr (dK.2 ⟨o,j,O⟩),y.dj⟩
 ·obtain⟨o,j,J⟩:=dK.1 X
  exact ((I.ok o j).lt J).2
 ·refine (U o j).to' G.fr fun k O J hs hx=>?_
  obtain⟨q,A,B⟩:=dK.1 hx
  rcases bG.1 A with A | A
  ·rcases ((G.ok q A).lt B).2 with h | h
   ·omega
   ·exact hs h
  ·exact N o j k J (bD _ (dK.2 ⟨q,A,B⟩))
 ·refine (hA o j).to y.fr fun k O hs hx=>?_
  obtain⟨q,A,B⟩:=dK.1 hx
  rcases ((y.ok q A).lt B).2 with h | h
  ·omega
  ·exact hs h
end
section
variable {P:Program} {ops:Array Oper} {Q:Exit->Act->World->Prop} {nw:Nat->Bool} {cs:Nat->Option Nat} {ks:Nat->Y4} {xs:Nat->List OE} {bs:Nat->Y4} {S T:Y4} {w0:World} {es os:List OE} {ent:Nat->List Th->Value->List OE->List OE->Prop} {ds:Nat->Y4}
def coM (n:Nat) (cs:Nat->Option Nat) (g:Gt) (j:Nat):List OE:=((List.range n).filter (fun k=>cs k == some j)).flatMap (fun k=>(g k).2.1)
def ckM (ks:Nat->Y4) (g:Gt) (j:Nat):List OE:=(ks j).flatMap (fun k=>(g k).2.2)
def brM (n:Nat) (bs:Nat->Y4) (xs:Nat->List OE) (j:Nat):List OE:=((List.range n).filter (fun k=>(bs j).contains k)).flatMap xs
def TrM (P:Program) (S:Y4) (w0:World) (ops:Array Oper) (es os:List OE) (ent:Nat->List Th->Value->List OE->List OE->Prop) (hs:List Th) (co ck:List OE) (o:Oper) (i:Nat) (a:Act):Prop:=
 Region.wanted o (yielded ops a.tmps)=true/\∀w Sl Tl,Fr S w0 w->TOk Sl Tl w->Rds Sl w (ck++es)->Off Tl (ck++es)->St Sl w w (co++os) ->
  (∃v w' x y,((execOp a.eval o).run P w=.ok (.value v) w'\/v=undef/\(execOp a.eval o).run P w=.ok .skip w')/\ent i hs v x y/\SfT Sl Tl w w' y (x++os)) \/
  ∃f args,(execOp a.eval o).run P w=.ok (.enter f args) w/\Calls P f args w (Ret fun v w'=>∃x y,ent i hs v x y/\SfT Sl Tl w w' y (x++os))
theorem TrM.of_same {hs:List Th} {co ck:List OE} {o:Oper} {i:Nat} {a j:Act} (q:TrM P S w0 ops es os ent hs co ck o i a) (y:execOp j.eval o=execOp a.eval o)
  (hw:Region.wanted o (yielded ops j.tmps)=Region.wanted o (yielded ops a.tmps)):TrM P S w0 ops es os ent hs co ck o i j:=by
 unfold TrM at *
 rw[y,hw]
 exact q
def lxM (P:Program) (ops:Array Oper) (Q:Exit->Act->World->Prop) (nw:Nat->Bool) (cs:Nat->Option Nat) (ks:Nat->Y4) (xs:Nat->List OE) (bs ds:Nat->Y4) (S T:Y4) (w0:World) (es os:List OE) (ent:Nat->List Th->Value->List OE->List OE->Prop):Y4->Gt->Act->Prop
 | [],g,a=>∀w,SfT S T w0 w (((List.range ops.size).filter nw).flatMap (fun k=>(g k).2.2)++es) (((List.range ops.size).filter (fun k=>nw k&&cs k == none)).flatMap (fun k=>(g k).2.1)++os)->Q .normal a w
 | i :: r,g,a=>match ops[i]? with
  | none=>lxM P ops Q nw cs ks xs bs ds S T w0 es os ent r g a
  | some o=>if nw i then TrM P S w0 ops es (brM ops.size bs xs i++os) ent ((ds i).map g) (coM ops.size cs g i++xs i) (ckM ks g i) o i a/\(∃v x y,ent i ((ds i).map g) v x y)/\∀v x y,ent i ((ds i).map g) v x y->lxM P ops Q nw cs ks xs bs ds S T w0 es os ent r (iY g i (v,x,y)) (a.put o.dst v)
   else ∃v,Ins P ops (fun w=>SfT S T w0 w es os) o v a/\lxM P ops Q nw cs ks xs bs ds S T w0 es os ent r g (a.put o.dst v)
theorem CX {n i j:Nat} {g:Gt} {v:Th} (h:cs i≠some j):coM n cs (iY g i v) j=coM n cs g j:=by
 unfold coM
 refine nR fun k y=>?_
 have A:cs k=some j:=by simpa using (jb.1 y).2
 have q:k≠i:=fun e=>h (by rw[<-e]; exact A)
 rw[nY q]
theorem CW {i j:Nat} {g:Gt} {v:Th} (h:i ∉ ks j):ckM ks (iY g i v) j=ckM ks g j:=by
 unfold ckM
 refine nR fun k y=>?_
 have q:k≠i:=fun e=>h (by rw[<-e]; exact y)
 rw[nY q]
theorem qe {i j:Nat} {g:Gt} {v:Th} (h:i ∉ ds j):(ds j).map (iY g i v)=(ds j).map g:=by
 refine List.map_congr_left fun k y=>?_
 have q:k≠i:=fun e=>h (by rw[<-e]; exact y)
 rw[nY q]
theorem Hj (hs:mZ ops) (ad:∃w,SfT S T w0 w es os) {i j:Nat} {r:Y4} {g:Gt} {a:Act}
  (ag:∀A q,ops[i]? = some A->ops[j]? = some q->A.apart ops q=true) (Y:cs i≠some j/\cs j≠some i) (Z:i ∉ ks j/\j ∉ ks i) (G:i ∉ ds j/\j ∉ ds i) (ap:i≠j)
  (h:lxM P ops Q nw cs ks xs bs ds S T w0 es os ent (i :: j :: r) g a):lxM P ops Q nw cs ks xs bs ds S T w0 es os ent (j :: i :: r) g a:=by
 cases hi:ops[i]? with
 | none=>
  simp only[lxM,hi]at h
  cases hj:ops[j]? with
  | none=>simp only[lxM,hi,hj]at h ⊢; exact h
  | some q=>simp only[lxM,hi,hj]at h ⊢; exact h
 | some A=>
  cases hj:ops[j]? with
  | none=>simp only[lxM,hi,hj]at h ⊢; exact h
  | some q=>
   obtain⟨p1,p2,p3⟩:=Oper.apart_spec (ag A q hi hj)
   have O:=fun cs b=>hs i A cs b hi
   have R:=fun cs b=>hs j q cs b hj
   simp only[lxM,hi,hj]at h ⊢
   by_cases hni:nw i=true
   ·rw[ah hni]at h
    obtain⟨X,U,B⟩:=h
    by_cases hnj:nw j=true
    ·simp only[hni,hnj,am]at B ⊢
     obtain⟨v0,x0,y0,I⟩:=U
     have h0:=(B v0 x0 y0 I).1
     have ab:=(B v0 x0 y0 I).2.1
     rw[CX Y.1,CW Z.1,qe G.1]at h0
     rw[qe G.1]at ab
     refine⟨h0.of_same (execOp_put q R a A.dst v0 p1).symm (wanted_put q a A.dst v0 p1).symm,ab,fun v x y J=>⟨?_,?_,fun u x' y' ac=>?_⟩⟩
     ·rw[CX Y.2,CW Z.2,qe G.2]; exact X.of_same (execOp_put A O a q.dst v p3) (wanted_put A a q.dst v p3)
     ·rw[qe G.2]; exact⟨v0,x0,y0,I⟩
     rw[qe G.2]at ac
     have:=(B u x' y' ac).2.2 v x y (by rw[qe G.1]; exact J)
     rw[FA ap]at this
     rw[<-Act.put_comm a u v p2]; exact this
    ·simp only[hni,hnj,am,ak]at B ⊢
     have get:∀u x y,ent i ((ds i).map g) u x y->∃v,Ins P ops (fun w=>SfT S T w0 w es os) q v a/\lxM P ops Q nw cs ks xs bs ds S T w0 es os ent r (iY g i (u,x,y)) ((a.put A.dst u).put q.dst v):=fun u x y J=>by
      obtain⟨v,N,V⟩:=B u x y J
      exact⟨v,N.of_same (execOp_put q R a A.dst u p1).symm (wanted_put q a A.dst u p1).symm,V⟩
     obtain⟨v0,x0,y0,I⟩:=U
     obtain⟨v,N,_⟩:=get v0 x0 y0 I
     refine⟨v,N,?_⟩
     refine⟨X.of_same (execOp_put A O a q.dst v p3) (wanted_put A a q.dst v p3),⟨v0,x0,y0,I⟩,fun u x y J=>?_⟩
     obtain⟨v',bT,V⟩:=get u x y J
     obtain⟨w,hw⟩:=ad
     have:v'=v:=Ins.unique (w:=w) hw bT N
     subst this
     rw[<-Act.put_comm a u v' p2]; exact V
   ·rw[ae hni]at h
    obtain⟨v,N,h⟩:=h
    by_cases hnj:nw j=true
    ·simp only[hni,hnj,am,ak]at h ⊢
     obtain⟨X,U,B⟩:=h
     refine⟨X.of_same (execOp_put q R a A.dst v p1).symm (wanted_put q a A.dst v p1).symm,U,fun u x y J=>⟨v,N.of_same (execOp_put A O a q.dst u p3) (wanted_put A a q.dst u p3),?_⟩⟩
     rw[<-Act.put_comm a v u p2]; exact B u x y J
    ·simp only[hni,hnj,ak]at h ⊢
     obtain⟨u,hu,V⟩:=h
     refine⟨u,hu.of_same (execOp_put q R a A.dst v p1).symm (wanted_put q a A.dst v p1).symm,v,N.of_same (execOp_put A O a q.dst u p3) (wanted_put A a q.dst u p3),?_⟩
     rw[<-Act.put_comm a v u p2]; exact V
theorem xh (hs:mZ ops) (B:∃w,SfT S T w0 w es os) {j:Nat}:∀(q A:Y4) (g:Gt) (a:Act),(∀i∈q,i≠j/\(cs i≠some j/\cs j≠some i)/\(i ∉ ks j/\j ∉ ks i)/\(i ∉ ds j/\j ∉ ds i)/\∀G J,ops[i]? = some G->ops[j]? = some J->G.apart ops J=true) ->
   lxM P ops Q nw cs ks xs bs ds S T w0 es os ent (q++j :: A) g a->lxM P ops Q nw cs ks xs bs ds S T w0 es os ent (j :: (q++A)) g a
 | [],_,_,_,_,h=>h
 | i :: q,A,g,a,hall,h=>by
  have I:∀g a,lxM P ops Q nw cs ks xs bs ds S T w0 es os ent (q++j :: A) g a->lxM P ops Q nw cs ks xs bs ds S T w0 es os ent (j :: (q++A)) g a:=fun g a h=>
   xh hs B q A g a (fun k N=>hall k (by simp[N])) h
  have O:lxM P ops Q nw cs ks xs bs ds S T w0 es os ent (i :: j :: (q++A)) g a:=by
   rw[di]at h
   cases hi:ops[i]? with
   | none=>
    unfold lxM at h ⊢
    simp only[hi]at h ⊢
    exact I _ _ h
   | some G=>
    unfold lxM at h ⊢
    simp only[hi]at h ⊢
    by_cases hn:nw i=true
    ·rw[ah hn]at h ⊢
     exact⟨h.1,h.2.1,fun v x y R=>I _ _ (h.2.2 v x y R)⟩
    ·rw[ae hn]at h ⊢
     obtain⟨v,U,h⟩:=h
     exact⟨v,U,I _ _ h⟩
  have hi:=hall i (by simp)
  exact Hj hs B hi.2.2.2.2 hi.2.1 hi.2.2.1 hi.2.2.2.1 hi.1 O
theorem zI {n:Nat} {nw:Nat->Bool} {g:Gt} {listed:Array Bool} {k:Nat} (j:k<n) (hn:nw k=true) (hl:listed.getD k false=true) {o:OE} (q:o∈(g k).2.2) :
  o∈((List.range n).filter (fun k=>nw k&&listed.getD k false)).flatMap (fun k=>(g k).2.2):=
 iV.2 ⟨k,jb.2 ⟨cW.2 j,by rw[hn,hl]; rfl⟩,q⟩
theorem I4 {α:Type} (A B C D E:List α):((A++B)++((C++D)++E)).Perm (((A++C)++E)++(B++D)):=by
 simp only[aP]
 refine ee A ?_
 refine (List.perm_append_comm_assoc B C (D++E)).trans (ee C ?_)
 rw[<-aP]
 exact List.perm_append_comm
theorem Fe {α:Type} (A E B D:List α):((A++E)++(B++D)).Perm ((A++B)++(D++E)):=by
 simp only[aP]
 refine ee A ?_
 refine List.perm_append_comm.trans ?_
 rw[aP]
theorem G9 {α:Type} (A B C j q E:List α):((A++B)++((C++(j++q))++E)).Perm (((A++C)++(j++E))++(B++q)):=by
 have h:=I4 A B (C++j) q E
 simp only[aP]at h ⊢
 exact h
theorem E3 {α:Type} (A B j q E:List α):((A++(j++E))++(B++q)).Perm ((A++B)++((j++q)++E)):=by
 refine (Fe A (j++E) B q).trans ?_
 rw[aP j]
 exact (List.perm_append_comm_assoc q j E).append_left _
theorem rF (dy:∀c k,c<ops.size->k∈bs c->k<ops.size/\fY ops ops.size k c=true) (dX:∀k,nw k=false->xs k=[]) (hT:TOk S T w0) (b7:∀o∈es,o.ns=true) (dY:∀i h v x y,ent i h v x y->∀o∈y,o.ns=true) (hs:mZ ops)
  (ab:∀k c,k<ops.size->cs k=some c->nw k=true/\c<ops.size/\nw c=true/\fY ops ops.size c k=true) (O:∀c oc,ops[c]? = some oc->∀k,fY ops ops.size c k=true->k<c)
  (aS:∀c k,c<ops.size->k∈ks c->k<ops.size/\nw k=true/\fY ops ops.size c k=true) (c4:∀c k,c<ops.size->k∈ds c->fY ops ops.size c k=true)
  (c1:∀j oj,ops[j]? = some oj->∀e∈oj.after,Region.binds .any e=true->e.on<j)
  (c2:∀i j,i<j->j<ops.size->fY ops ops.size j i=false->∀oi oj,ops[i]? = some oi->ops[j]? = some oj->oi.apart ops oj=true) :
  ∀(m:Nat) (l:Y4) (listed:Array Bool) (g:Gt) (a:Act) (w:World),l.length=m->l.Pairwise (·<·)->listed.size=ops.size->closed ops listed ->
   (∀i,i∈l↔i<ops.size/\listed.getD i true=false)->(∀k,nw k=true->listed.getD k false=true->∀o∈(g k).2.2,o.ns=true) ->
   SfT S T w0 w (((List.range ops.size).filter (fun k=>nw k&&listed.getD k false)).flatMap (fun k=>(g k).2.2)++es) (((List.range ops.size).filter (iT nw cs listed)).flatMap (fun i=>(g i).2.1)++(((List.range ops.size).filter (fun k=>!listed.getD k false)).flatMap xs++os)) ->
   lxM P ops Q nw cs ks xs bs ds S T w0 es os ent l g a->wpAny P .any ops Q m listed a w
 | 0,l,listed,g,a,w,hm,_,hsz,_,hmem,hgn,hS,h=>by
  have hl:l=[]:=aZ hm
  subst hl
  have G:∀k,k<ops.size->listed.getD k false=true:=fun k A=>by
   cases hl:listed.getD k false with
   | true=>rfl
   | false=>
    have aS:k<listed.size:=by omega
    have:k∈([]:Y4):=(hmem k).2 ⟨A,by simp[aS]at hl ⊢; exact hl⟩
    cases this
  refine⟨?_,?_⟩
  ·refine List.eq_nil_iff_forall_not_mem.2 fun i hi=>?_
   obtain⟨bx,o,e9,_⟩:=mem_ready.1 hi
   have:=(hmem i).2 ⟨(cn.1 e9).1,bx⟩
   cases this
  ·have e:(List.range ops.size).filter (iT nw cs listed)=(List.range ops.size).filter (fun k=>nw k&&cs k == none):=by
    refine eK fun k A=>?_
    have A:=cW.1 A
    unfold iT
    rw[G k A,Bool.and_true]
    cases hc:cs k with
    | none=>rfl
    | some c=>
     show (nw k&&!listed.getD c false)=(nw k&&(some c == none))
     rw[G c (ab k c A hc).2.1]; rfl
   have e2:(List.range ops.size).filter (fun k=>nw k&&listed.getD k false)=(List.range ops.size).filter nw:=by
    refine eK fun k A=>?_
    rw[G k (cW.1 A),Bool.and_true]
   have e3:(List.range ops.size).filter (fun k=>!listed.getD k false)=[]:=by
    refine List.filter_eq_nil_iff.2 fun k A=>?_
    rw[G k (cW.1 A)]; simp
   rw[e,e2,e3]at hS
   exact h w hS
 | m+1,l,listed,g,a,w,hm,hsort,hsz,hcl,hmem,hgn,hS,h=>by
  refine⟨fun eT=>?_,fun j hj=>?_⟩
  ·exfalso
   cases l with
   | nil=>simp at hm
   | cons i r=>
    obtain⟨Y,bx⟩:=(hmem i).1 (by simp)
    have hi:i∈Region.ready .any ops listed:=by
     refine mem_ready.2 ⟨bx,ops[i],by simp[Y],fun e I hb=>?_⟩
     have ap:=c1 i ops[i] (by simp[Y]) e I hb
     cases hl:listed.getD e.on false with
     | true=>rfl
     | false=>
      have b7:e.on<listed.size:=by rw[hsz]; omega
      have fd:listed.getD e.on true=false:=by simp[b7]at hl ⊢; exact hl
      have fm:=(hmem e.on).2 ⟨by omega,fd⟩
      rcases aJ.1 fm with h1 | h1
      ·omega
      ·have:=(fS.1 hsort).1 e.on h1
       omega
    rw[eT]at hi
    cases hi
  ·obtain⟨bx,oj,ac,G⟩:=mem_ready.1 hj
   have J:j<ops.size:=(cn.1 ac).1
   have fs:j∈l:=(hmem j).2 ⟨J,bx⟩
   obtain⟨l1,l2,rfl⟩:=List.append_of_mem fs
   have ap:∀i∈l1,i<j:=fun i hi=>(ci.1 hsort).2.2 i hi j (by simp)
   have d0:∀i∈l1++l2,fY ops ops.size j i=false:=fun i hi=>by
    cases hr:fY ops ops.size j i with
    | false=>rfl
    | true=>
     have U:=ip hcl ops.size j i oj ac G hr
     have h3:=(hmem i).1 (by rcases bG.1 hi with h | h <;> simp[h])
     rw[bO]at U
     have h4:=h3.2
     rw[bO]at h4
     have:i<listed.size:=by rw[hsz]; exact h3.1
     simp[this]at U h4
     rw[U]at h4; cases h4
   have fA:∀i∈l1,cs i≠some j/\cs j≠some i:=fun i hi=>by
    have Y:=((hmem i).1 (by simp[hi])).1
    refine⟨fun hc=>?_,fun hc=>?_⟩
    ·have:=(ab i j Y hc).2.2.2
     rw[d0 i (by simp[hi])]at this; cases this
    ·obtain⟨_,Z,_,V⟩:=ab j i J hc
     have:=O i ops[i] (by simp[Z]) j V
     have:=ap i hi; omega
   have fB:∀i∈l1,i ∉ ks j/\j ∉ ks i:=fun i hi=>by
    have Y:=((hmem i).1 (by simp[hi])).1
    refine⟨fun hc=>?_,fun hc=>?_⟩
    ·have:=(aS j i J hc).2.2
     rw[d0 i (by simp[hi])]at this; cases this
    ·have V:=(aS i j Y hc).2.2
     have:=O i ops[i] (by simp[Y]) j V
     have:=ap i hi; omega
   have fP:∀i∈l1,i ∉ ds j/\j ∉ ds i:=fun i hi=>by
    have Y:=((hmem i).1 (by simp[hi])).1
    refine⟨fun hc=>?_,fun hc=>?_⟩
    ·have:=c4 j i J hc
     rw[d0 i (by simp[hi])]at this; cases this
    ·have V:=c4 i j Y hc
     have:=O i ops[i] (by simp[Y]) j V
     have:=ap i hi; omega
   have h1:=xh hs ⟨w,hS.tail.tail' ⟩ l1 l2 g a (fun i hi=>⟨Nat.ne_of_lt (ap i hi),fA i hi,fB i hi,fP i hi,fun oi f0 f1 eU=>by
    refine c2 i j (ap i hi) J ?_ oi f0 f1 eU
    cases hr:fY ops ops.size j i with
    | false=>rfl
    | true=>
     have U:=ip hcl ops.size j i oj ac G hr
     have h3:=((hmem i).1 (by simp[hi])).2
     rw[bO]at U h3
     have:i<listed.size:=by rw[hsz]; exact gH (ap i hi) J
     simp[this]at U h3
     rw[U]at h3; cases h3⟩) h
   have cf:(l1++l2).Pairwise (·<·):=by
    refine hsort.sublist ?_
    exact List.Sublist.append_left (List.sublist_cons_self j l2) l1
   have d1:(l1++l2).length=m:=by simp at hm ⊢; omega
   have d2:closed ops (listed.setIfInBounds j true):=by
    intro k ok A hl e I hb
    by_cases hkj:j=k
    ·subst hkj
     have:ok=oj:=eQ (A.symm.trans ac)
     subst this
     exact getD_set_true (G e I hb)
    ·rw[getD_set_ne false hkj]at hl
     exact getD_set_true (hcl k ok A hl e I hb)
   have f2:j ∉ l1++l2:=by
    intro hx
    rcases bG.1 hx with hx | hx
    ·exact absurd (ap j hx) (i7 _)
    ·have:=(ci.1 hsort).2.1
     have:=(fS.1 this).1 j hx
     exact absurd this (i7 _)
   have c5:∀i,i∈l1++l2↔i<ops.size/\(listed.setIfInBounds j true).getD i true=false:=by
    intro i
    by_cases hij:j=i
    ·subst hij
     constructor
     ·intro hx; exact absurd hx f2
     ·intro hx
      have:=lU (listed:=listed) (i:=j) (by rw[hsz]; exact J) true
      rw[this]at hx; cases hx.2
    ·rw[getD_set_ne true hij,<-hmem i]
     simp only[bG,aJ]
     constructor
     ·rintro (hx | hx)
      ·exact .inl hx
      ·exact .inr (.inr hx)
     ·rintro (hx | hx | hx)
      ·exact .inl hx
      ·exact absurd hx.symm hij
      ·exact .inr hx
   have cm:listed.getD j false=false:=by
    have:j<listed.size:=by omega
    simp[this]at bx ⊢; exact bx
   have N:∀k,(listed.setIfInBounds j true).getD k false=if k=j then true else listed.getD k false:=fun k=>by
    by_cases hkj:k=j
    ·subst hkj; rw[ah rfl]; exact lU (by omega) false
    ·rw[ae hkj,getD_set_ne false (fun e=>hkj e.symm)]
   have d3:listed.getD j false=false:=cm
   have hX:(((List.range ops.size).filter (fun k=>!listed.getD k false)).flatMap xs).Perm (xs j++((List.range ops.size).filter (fun k=>!(listed.setIfInBounds j true).getD k false)).flatMap xs):=by
    have bT:=nO (p:=fun k=>!listed.getD k false) (q:=fun k=>k == j) (List.range ops.size)
    rw[Ag J (by rw[d3]; rfl)]at bT
    have e4:(List.range ops.size).filter (fun k=>!listed.getD k false&&!(k == j))=(List.range ops.size).filter (fun k=>!(listed.setIfInBounds j true).getD k false):=by
     refine eK fun k A=>?_
     rw[N]
     by_cases hkj:k=j
     ·subst hkj; simp
     ·rw[ae hkj]; simp[hkj]
    rw[e4]at bT
    have h8:=bT.flatMap_right (f:=xs)
    rw[List.flatMap_append]at h8
    simpa using h8
   obtain⟨X,dd⟩:∃X,((List.range ops.size).filter (fun k=>!(listed.setIfInBounds j true).getD k false)).flatMap xs=X:=⟨_,rfl⟩
   rw[dd]at hX
   have f3:∀k,(bs j).contains k=true->k<ops.size/\listed.getD k false=false/\k≠j:=fun k A=>by
    have f4:k∈bs j:=by simpa using A
    obtain⟨Z,V⟩:=dy j k J f4
    refine⟨Z,?_,fun e=>?_⟩
    ·cases hl:listed.getD k false with
     | false=>rfl
     | true=>
      have h7:=ip hcl ops.size k j ops[k] (by simp[Z]) (fun e I hb=>hcl k ops[k] (by simp[Z]) hl e I hb) V
      rw[d3]at h7; cases h7
    ·have:=O k ops[k] (by simp[Z]) j V
     omega
   obtain⟨X2,ex⟩:∃X2,X.Perm (brM ops.size bs xs j++X2):=by
    have bT:=nO (p:=fun k=>!(listed.setIfInBounds j true).getD k false) (q:=fun k=>(bs j).contains k) (List.range ops.size)
    have e5:(List.range ops.size).filter (fun k=>!(listed.setIfInBounds j true).getD k false&&(bs j).contains k)=(List.range ops.size).filter (fun k=>(bs j).contains k):=by
     refine eK fun k A=>?_
     cases hq:(bs j).contains k with
     | false=>rw[Bool.and_false]
     | true=>
      obtain⟨_,V,h7⟩:=f3 k hq
      rw[N,ae h7,V]; rfl
    rw[e5]at bT
    have h8:=bT.flatMap_right (f:=xs)
    rw[List.flatMap_append,dd]at h8
    exact⟨_,h8⟩
   simp only[lxM,ac]at h1
   by_cases hn:nw j=true
   ·rw[ah hn]at h1
    obtain⟨⟨hw,e0⟩,_,en⟩:=h1
    obtain⟨R,hR⟩:∃R,(List.range ops.size).filter (fun k=>iT nw cs listed k&&!(cs k == some j))=R:=⟨_,rfl⟩
    have ga:(List.range ops.size).filter (fun k=>iT nw cs listed k&&cs k == some j)=(List.range ops.size).filter (fun k=>cs k == some j):=by
     refine eK fun k A=>?_
     have A:=cW.1 A
     by_cases hc:cs k=some j
     ·obtain⟨h3,_,_,h4⟩:=ab k j A hc
      have Z:listed.getD k false=true:=by
       have U:=ip hcl ops.size j k oj ac G h4
       rw[bO]at U ⊢
       have:k<listed.size:=by omega
       simp[this]at U ⊢; exact U
      have:iT nw cs listed k=true:=by unfold iT; rw[h3,Z,hc]; simp[cm]
      simp[this,hc]
     ·simp[hc]
    have hp:=nO (p:=iT nw cs listed) (q:=fun k=>cs k == some j) (List.range ops.size)
    rw[ga,hR]at hp
    obtain⟨K,hK⟩:∃K,((List.range ops.size).filter (fun k=>nw k&&listed.getD k false)).flatMap (fun k=>(g k).2.2)=K:=⟨_,rfl⟩
    have ey:∀o∈K++es,o.ns=true:=fun o B=>by
     rcases bG.1 B with B | B
     ·rw[<-hK]at B
      obtain⟨k,A,B⟩:=iV.1 B
      have:=(jb.1 A).2
      simp only[aK]at this
      exact hgn k this.1 this.2 o B
     ·exact b7 o B
    rw[hK]at hS
    have d4:SfT S T w0 w (K++es) ((coM ops.size cs g j++xs j++(brM ops.size bs xs j++os))++(R.flatMap (fun i=>(g i).2.1)++X2)):=by
     refine hS.perm (fun o B=>B) ?_
     have U:((List.range ops.size).filter (iT nw cs listed)).flatMap (fun i=>(g i).2.1) |>.Perm (coM ops.size cs g j++R.flatMap (fun i=>(g i).2.1)):=by
      have:=hp.flatMap_right (f:=fun i=>(g i).2.1)
      rw[List.flatMap_append]at this
      exact this
     exact (U.append ((hX.trans (ex.append_left _)).append_right os)).trans (G9 _ _ _ _ _ _)
    obtain⟨gb,gs,gN,g0⟩:=d4.lend hT ey
    have d7:∀o∈ckM ks g j++es,o∈K++es:=fun o B=>by
     rcases bG.1 B with B | B
     ·refine bX _ ?_
      obtain⟨k,A,B⟩:=iV.1 B
      obtain⟨Z,V,h7⟩:=aS j k J A
      have U:=ip hcl ops.size j k oj ac G h7
      rw[<-hK]
      exact zI Z V U B
     ·exact bD _ B
    have g1:∀c,cs j=some c->listed.getD c false=false:=fun c hc=>by
     obtain⟨_,Z,_,V⟩:=ab j c J hc
     cases hl:listed.getD c false with
     | false=>rfl
     | true=>
      have h7:=ip hcl ops.size c j ops[c] (by simp[Z]) (fun e I hb=>hcl c ops[c] (by simp[Z]) hl e I hb) V
      rw[cm]at h7; cases h7
    have g2:∀k∈R,k≠j:=fun k A e=>by
     rw[<-hR]at A
     have:=(jb.1 A).2
     rw[e]at this
     unfold iT at this
     rw[cm]at this
     simp at this
    have g3:∀v,((List.range ops.size).filter (iT nw cs (listed.setIfInBounds j true))).flatMap (fun i=>(iY g j v i).2.1) |>.Perm (v.2.1++R.flatMap (fun i=>(g i).2.1)):=fun v=>by
     have ec:=nO (p:=iT nw cs (listed.setIfInBounds j true)) (q:=fun k=>k == j) (List.range ops.size)
     have g4:iT nw cs (listed.setIfInBounds j true) j=true:=by
      unfold iT
      rw[hn,N,ah rfl]
      cases hc:cs j with
      | none=>rfl
      | some c=>
       have c3:c≠j:=fun e=>by
        obtain⟨_,Z,_,V⟩:=ab j c J hc
        have:=O c ops[c] (by simp[Z]) j V
        omega
       simp only[N,ae c3,g1 c hc]; rfl
     rw[Ag J g4]at ec
     have er:(List.range ops.size).filter (fun k=>iT nw cs (listed.setIfInBounds j true) k&&!(k == j))=R:=by
      rw[<-hR]
      refine eK fun k A=>?_
      by_cases hkj:k=j
      ·subst hkj
       have:iT nw cs listed k=false:=by unfold iT; rw[cm]; simp
       simp[this]
      ·unfold iT
       rw[N,ae hkj]
       cases hc:cs k with
       | none=>simp[hkj]
       | some c=>
        by_cases hcj2:c=j
        ·subst hcj2; simp only[N,am]; simp
        ·simp only[N,ae hcj2]
         have:(some c == some j)=false:=by simp[hcj2]
         simp[this,hkj]
     rw[er]at ec
     have h8:=ec.flatMap_right (f:=fun i=>(iY g j v i).2.1)
     rw[List.flatMap_append]at h8
     refine h8.trans (List.Perm.of_eq ?_)
     simp only[dM,List.flatMap_nil,bR]
     rw[rQ]
     congr 1
     refine nR fun k A=>?_
     rw[nY (g2 k A)]
    have g5:∀v:Th,∀o∈((List.range ops.size).filter (fun k=>nw k&&(listed.setIfInBounds j true).getD k false)).flatMap (fun k=>(iY g j v k).2.2)++es,o∈v.2.2++(K++es):=fun v o B=>by
     rcases bG.1 B with B | B
     ·obtain⟨k,A,B⟩:=iV.1 B
      obtain⟨g6,df⟩:=jb.1 A
      simp only[aK]at df
      by_cases hkj:k=j
      ·subst hkj; rw[rQ]at B; exact bX _ B
      ·rw[nY hkj]at B
       rw[N,ae hkj]at df
       refine bD _ (bX _ ?_)
       rw[<-hK]
       exact zI (cW.1 g6) df.1 df.2 B
     ·exact bD _ (bD _ B)
    have e6:∀v:Th,(∀o∈v.2.2,o.ns=true)->∀k,nw k=true->(listed.setIfInBounds j true).getD k false=true->∀o∈(iY g j v k).2.2,o.ns=true:=fun v hv k A hl o B=>by
     by_cases hkj:k=j
     ·subst hkj; rw[rQ]at B; exact hv o B
     ·rw[nY hkj]at B
      rw[N,ae hkj]at hl
      exact hgn k A hl o B
    unfold wpOp
    simp only[ac]
    rw[ah hw]
    left
    have go:∀v x y w',ent j ((ds j).map g) v x y->SfT (ea (coM ops.size cs g j++xs j++(brM ops.size bs xs j++os))) (T++ea (R.flatMap (fun i=>(g i).2.1)++X2)) w w' y (x++(brM ops.size bs xs j++os))->wpAny P .any ops Q m (listed.setIfInBounds j true) (a.put oj.dst v) w':=fun v x y w' I b2=>by
     have eC:=dY j _ v x y I
     have h9:=d4.unlend ey eC b2
     refine rF dy dX hT b7 dY hs ab O aS c4 c1 c2 m (l1++l2) _ (iY g j (v,x,y)) _ w' d1 cf (by simp[hsz]) d2 c5 (e6 (v,x,y) eC) ?_ (en v x y I)
     refine h9.perm (g5 (v,x,y)) ?_
     rw[dd]
     refine List.Perm.trans ?_ ((g3 (v,x,y)).append_right (X++os)).symm
     exact (E3 _ _ _ _ _).trans ((ex.symm.append_right os).append_left _)
    rcases e0 w _ _ d4.frS gb (gs.sub d7) (gN.sub d7) g0 with⟨v,w',x,y,hr | ⟨rfl,hr⟩,I,b2⟩ | ⟨f,args,hr,hC⟩
    ·unfold Oper.wp
     rw[hr]
     exact go v x y w' I b2
    ·unfold Oper.wp
     rw[hr]
     exact go undef x y w' I b2
    ·unfold Oper.wp
     rw[hr]
     refine Calls.mono hC fun e w' I=>?_
     cases e with
     | returned v=>obtain⟨x,y,I,b2⟩:=I; exact go v x y w' I b2
     | panicked c=>exact I.elim
     | outgrown=>exact I.elim
   ·rw[ae hn]at h1
    obtain⟨v,hv,U⟩:=h1
    have c0:nw j=false:=by simpa using hn
    have g7:(List.range ops.size).filter (iT nw cs (listed.setIfInBounds j true))=(List.range ops.size).filter (iT nw cs listed):=by
     refine eK fun k A=>?_
     have A:=cW.1 A
     unfold iT
     rw[N]
     by_cases hkj:k=j
     ·subst hkj; rw[c0]; rfl
     ·rw[ae hkj]
      cases hc:cs k with
      | none=>rfl
      | some c=>
       have c3:c≠j:=fun e=>by
        have:=(ab k c A hc).2.2.1
        rw[e,c0]at this; cases this
       simp only[N,ae c3]
    have ha:(List.range ops.size).filter (fun k=>nw k&&(listed.setIfInBounds j true).getD k false)=(List.range ops.size).filter (fun k=>nw k&&listed.getD k false):=by
     refine eK fun k A=>?_
     rw[N]
     by_cases hkj:k=j
     ·subst hkj; rw[c0]; rfl
     ·rw[ae hkj]
    have ih:wpAny P .any ops Q m (listed.setIfInBounds j true) (a.put oj.dst v) w:=
     rF dy dX hT b7 dY hs ab O aS c4 c1 c2 m (l1++l2) _ g _ w d1 cf (by simp[hsz]) d2 c5 (fun k A hl=>by
      rw[N]at hl
      by_cases hkj:k=j
      ·subst hkj; rw[c0]at A; cases A
      ·rw[ae hkj]at hl; exact hgn k A hl) (by rw[g7,ha,dd]; rw[dX j c0,bJ]at hX; exact hS.perm (fun o B=>B) ((hX.append_right os).append_left _)) U
    unfold wpOp
    simp only[ac]
    rcases hv with⟨hw,hv⟩ | ⟨hw,rfl⟩
    ·rw[ah hw]
     left
     unfold Oper.wp
     rw[hv w hS.tail.tail']
     exact ih
    ·rw[ae (by rw[hw]; simp)]
     exact ih
variable {n:Nat} {L:Env}
def jq (P:Program) (n:Nat) (ops:Array Oper) (Q:Exit->Act->World->Prop) (nw:Nat->Bool) (cs:Nat->Option Nat) (ks:Nat->Y4) (xs:Nat->List OE) (bs ds:Nat->Y4) (S T:Y4) (w0:World) (es os:List OE) (ent:Nat->List Th->Value->List OE->List OE->Prop) (l:Y4) (g:Gt) (L:Env):Prop:=
 ∀a,Rep n L a->lxM P ops Q nw cs ks xs bs ds S T w0 es os ent l g a
theorem zO {g:Gt} (h:∀w,SfT S T w0 w (((List.range ops.size).filter nw).flatMap (fun k=>(g k).2.2)++es) (((List.range ops.size).filter (fun k=>nw k&&cs k == none)).flatMap (fun k=>(g k).2.1)++os)->QE n Q .normal L w):jq P n ops Q nw cs ks xs bs ds S T w0 es os ent [] g L:=
 fun a j w hw=>h w hw a j
theorem kH {i:Nat} {r:Y4} {g:Gt} {d:Nat} {op:Op} {ty:TypeId} {pos:String} {after:Array Edge} {v:Value} (y:ops[i]? = some ⟨some d,op,ty,pos,after,none⟩) (hf:nw i=false)
  (A:∀w Sb wb,Fz S w0 Sb wb->Rds Sb wb es->Off T es->St Sb wb w os->OpV P n L w ⟨some d,op,ty,pos,after,none⟩ v w) (hd:Nat.blt d n=true) (h:jq P n ops Q nw cs ks xs bs ds S T w0 es os ent r g ((d,v) :: L)):jq P n ops Q nw cs ks xs bs ds S T w0 es os ent (i :: r) g L:=fun a j=>by
 simp only[lxM,y,hf,ai,ak]
 refine⟨v,.inl ⟨by simp[Region.wanted],fun w' q=>?_⟩,h _ (j.put hd)⟩
 obtain⟨Sb,wb,hZ,hA,hP,hS⟩:=q
 exact A w' Sb wb hZ hA hP hS a j
def vj (ops:Array Oper) (nw:Nat->Bool) (n:Nat):Nat->Env->Y4->Option (Env×Y4)
 | 0,L,l=>some (L,l)
 | m+1,L,i :: l=>match ops[i]? with
  | some ⟨some d,op,_,_,_,none⟩=>bif !nw i&&Nat.blt d n then (match pf L op with
   | some v=>vj ops nw n m ((d,v) :: L) l
   | none=>none) else none
  | _=>none
 | _+1,_,[]=>none
theorem qN {g:Gt}:∀(m:Nat) {L j:Env} {l l':Y4},vj ops nw n m L l=some (j,l')->jq P n ops Q nw cs ks xs bs ds S T w0 es os ent l' g j->jq P n ops Q nw cs ks xs bs ds S T w0 es os ent l g L
 | 0,L,j,l,l',h,k=>by simp only[vj]at h; cases h; exact k
 | m+1,L,j,[],l',h,k=>by simp[vj]at h
 | m+1,L,j,i :: l,l',h,k=>by
  simp only[vj]at h
  split at h
  ·rename_i d op ty pos after q
   cases hb:!nw i&&Nat.blt d n with
   | false=>rw[hb]at h; cases h
   | true=>
    rw[hb]at h
    simp only[cond_true]at h
    rw[aK]at hb
    cases hv:pf L op with
    | none=>rw[hv]at h; cases h
    | some v=>rw[hv]at h; exact kH q (by simpa using hb.1) (fun w _ _ _ _ _ _=>sr hv) hb.2 (qN m h k)
  ·cases h
theorem Bq (E:List Th->Value->List OE->List OE->Prop) (hh:List Th) (co ck bw:List OE) {i:Nat} {r:Y4} {g:Gt} {d:Nat} {op:Op} {ty:TypeId} {pos:String} {after:Array Edge} (N:ops[i]? = some ⟨some d,op,ty,pos,after,none⟩) (hf:nw i=true) (hE:∀h v x y,ent i h v x y=E h v x y)
  (B:coM ops.size cs g i++xs i=co) (G:ckM ks g i=ck) (q:brM ops.size bs xs i++os=bw) (j:(ds i).map g=hh) (I:∃v x y,E hh v x y)
  (O:∀w Sl Tl,Fz Sl w Sl w->TOk Sl Tl w->Rds Sl w (ck++es)->Off Tl (ck++es)->St Sl w w (co++bw)->OpX P n L w ⟨some d,op,ty,pos,after,none⟩ (fun v w'=>∃x y,E hh v x y/\SfT Sl Tl w w' y (x++bw))) (hd:Nat.blt d n=true)
  (h:∀v x y,E hh v x y->jq P n ops Q nw cs ks xs bs ds S T w0 es os ent r (iY g i (v,x,y)) ((d,v) :: L)):jq P n ops Q nw cs ks xs bs ds S T w0 es os ent (i :: r) g L:=fun a J=>by
 simp only[lxM,N,hf,am]
 refine⟨⟨by simp[Region.wanted],fun w Sl Tl V hT hA hP hS=>?_⟩,by simp only[hE,j]; exact I,fun v x y A=>h v x y (by rwa [hE,j]at A) _ (J.put hd)⟩
 rw[B,q]at hS
 rw[q]
 rw[G]at hA hP
 obtain⟨v,w',R,x,y,A,U⟩:=O w Sl Tl Fz.start hT hA hP hS
 exact .inl ⟨v,w',x,y,.inl (R a J),by rw[hE,j]; exact A,U⟩
theorem IW (E:List Th->Value->List OE->List OE->Prop) (hh:List Th) (co ck bw:List OE) {i:Nat} {r:Y4} {g:Gt} {d:Nat} {op:Op} {ty:TypeId} {pos:String} {after:Array Edge} (N:ops[i]? = some ⟨some d,op,ty,pos,after,none⟩) (hf:nw i=true) (hE:∀h v x y,ent i h v x y=E h v x y)
  (B:coM ops.size cs g i++xs i=co) (G:ckM ks g i=ck) (q:brM ops.size bs xs i++os=bw) (j:(ds i).map g=hh) (I:∃v x y,E hh v x y)
  (O:∀w Sl Tl,Fr S w0 w->Fz Sl w Sl w->TOk Sl Tl w->Rds Sl w (ck++es)->Off Tl (ck++es)->St Sl w w (co++bw)->OpX P n L w ⟨some d,op,ty,pos,after,none⟩ (fun v w'=>∃x y,E hh v x y/\SfT Sl Tl w w' y (x++bw))) (hd:Nat.blt d n=true)
  (h:∀v x y,E hh v x y->jq P n ops Q nw cs ks xs bs ds S T w0 es os ent r (iY g i (v,x,y)) ((d,v) :: L)):jq P n ops Q nw cs ks xs bs ds S T w0 es os ent (i :: r) g L:=fun a J=>by
 simp only[lxM,N,hf,am]
 refine⟨⟨by simp[Region.wanted],fun w Sl Tl R hT hA hP hS=>?_⟩,by simp only[hE,j]; exact I,fun v x y A=>h v x y (by rwa [hE,j]at A) _ (J.put hd)⟩
 rw[B,q]at hS
 rw[q]
 rw[G]at hA hP
 obtain⟨v,w',U,x,y,A,V⟩:=O w Sl Tl R Fz.start hT hA hP hS
 exact .inl ⟨v,w',x,y,.inl (U a J),by rw[hE,j]; exact A,V⟩
theorem wX (E:List Th->Value->List OE->List OE->Prop) (hh:List Th) (co ck bw:List OE) {i:Nat} {r:Y4} {g:Gt} {d:Nat} {f:FuncId} {A:List Operand} {N:Array TypeId} {vs:List Value} {ty:TypeId} {pos:String} {after:Array Edge}
  (O:ops[i]? = some ⟨some d,.call ⟨.value (.func f),A.toArray,N⟩,ty,pos,after,none⟩) (hf:nw i=true) (hE:∀h v x y,ent i h v x y=E h v x y)
  (B:coM ops.size cs g i++xs i=co) (G:ckM ks g i=ck) (q:brM ops.size bs xs i++os=bw) (j:(ds i).map g=hh) (I:∃v x y,E hh v x y) (R:jD P f=true) (hargs:L.evs A=some vs)
  (U:∀w Sl Tl,Fz Sl w Sl w->TOk Sl Tl w->Rds Sl w (ck++es)->Off Tl (ck++es)->St Sl w w (co++bw)->Calls P f vs.toArray w (Ret fun v w'=>∃x y,E hh v x y/\SfT Sl Tl w w' y (x++bw))) (hd:Nat.blt d n=true)
  (h:∀v x y,E hh v x y->jq P n ops Q nw cs ks xs bs ds S T w0 es os ent r (iY g i (v,x,y)) ((d,v) :: L)):jq P n ops Q nw cs ks xs bs ds S T w0 es os ent (i :: r) g L:=fun a J=>by
 simp only[lxM,O,hf,am]
 refine⟨⟨by simp[Region.wanted],fun w Sl Tl X hT hA hP hS=>?_⟩,by simp only[hE,j]; exact I,fun v x y V=>h v x y (by rwa [hE,j]at V) _ (J.put hd)⟩
 rw[B,q]at hS
 rw[q]
 rw[G]at hA hP
 refine .inr ⟨f,vs.toArray,tQ rfl R (J.evs hargs),?_⟩
 have:=U w Sl Tl Fz.start hT hA hP hS
 simp only[hE,j]
 exact this
theorem GO (E:List Th->Value->List OE->List OE->Prop) (hh:List Th) (co ck bw:List OE) {i:Nat} {r:Y4} {g:Gt} {d:Nat} {f:FuncId} {A:List Operand} {N:Array TypeId} {vs:List Value} {ty:TypeId} {pos:String} {after:Array Edge}
  (O:ops[i]? = some ⟨some d,.call ⟨.value (.func f),A.toArray,N⟩,ty,pos,after,none⟩) (hf:nw i=true) (hE:∀h v x y,ent i h v x y=E h v x y)
  (B:coM ops.size cs g i++xs i=co) (G:ckM ks g i=ck) (q:brM ops.size bs xs i++os=bw) (j:(ds i).map g=hh) (I:∃v x y,E hh v x y) (R:jD P f=true) (hargs:L.evs A=some vs)
  (U:∀w Sl Tl,Fr S w0 w->Fz Sl w Sl w->TOk Sl Tl w->Rds Sl w (ck++es)->Off Tl (ck++es)->St Sl w w (co++bw)->Calls P f vs.toArray w (Ret fun v w'=>∃x y,E hh v x y/\SfT Sl Tl w w' y (x++bw))) (hd:Nat.blt d n=true)
  (h:∀v x y,E hh v x y->jq P n ops Q nw cs ks xs bs ds S T w0 es os ent r (iY g i (v,x,y)) ((d,v) :: L)):jq P n ops Q nw cs ks xs bs ds S T w0 es os ent (i :: r) g L:=fun a J=>by
 simp only[lxM,O,hf,am]
 refine⟨⟨by simp[Region.wanted],fun w Sl Tl V hT hA hP hS=>?_⟩,by simp only[hE,j]; exact I,fun v x y X=>h v x y (by rwa [hE,j]at X) _ (J.put hd)⟩
 rw[B,q]at hS
 rw[q]
 rw[G]at hA hP
 refine .inr ⟨f,vs.toArray,tQ rfl R (J.evs hargs),?_⟩
 have:=U w Sl Tl V Fz.start hT hA hP hS
 simp only[hE,j]
 exact this
theorem DT (E:List Th->Value->List OE->List OE->Prop) (hh:List Th) (co ck bw:List OE) {i:Nat} {r:Y4} {g:Gt} {d:Nat} {G:Operand} {f:FuncId} {j:List Value} {I:List Operand} {R:Array TypeId} {vs:List Value} {ty:TypeId} {pos:String} {after:Array Edge}
  (U:ops[i]? = some ⟨some d,.call ⟨.value G,I.toArray,R⟩,ty,pos,after,none⟩) (hf:nw i=true) (hE:∀h v x y,ent i h v x y=E h v x y)
  (J:coM ops.size cs g i++xs i=co) (N:ckM ks g i=ck) (A:brM ops.size bs xs i++os=bw) (q:(ds i).map g=hh) (O:∃v x y,E hh v x y) (hx:L.ev G=some (.func (.func f) #[] j.toArray)) (V:jD P f=true) (hargs:L.evs I=some vs)
  (X:∀w Sl Tl,Fr S w0 w->Fz Sl w Sl w->TOk Sl Tl w->Rds Sl w (ck++es)->Off Tl (ck++es)->St Sl w w (co++bw)->Calls P f (vs++j).toArray w (Ret fun v w'=>∃x y,E hh v x y/\SfT Sl Tl w w' y (x++bw))) (hd:Nat.blt d n=true)
  (h:∀v x y,E hh v x y->jq P n ops Q nw cs ks xs bs ds S T w0 es os ent r (iY g i (v,x,y)) ((d,v) :: L)):jq P n ops Q nw cs ks xs bs ds S T w0 es os ent (i :: r) g L:=fun a B=>by
 simp only[lxM,U,hf,am]
 refine⟨⟨by simp[Region.wanted],fun w Sl Tl Y hT hA hP hS=>?_⟩,by simp only[hE,q]; exact O,fun v x y Z=>h v x y (by rwa [hE,q]at Z) _ (B.put hd)⟩
 rw[J,A]at hS
 rw[A]
 rw[N]at hA hP
 refine .inr ⟨f,(vs++j).toArray,xb rfl (B.ev hx) V (B.evs hargs),?_⟩
 have:=X w Sl Tl Y Fz.start hT hA hP hS
 simp only[hE,q]
 exact this
theorem ML (E:List Th->Value->List OE->List OE->Prop) (hh:List Th) (co ck bw:List OE) {i:Nat} {r:Y4} {g:Gt} {op:Op} {ty:TypeId} {pos:String} {after:Array Edge} (N:ops[i]? = some ⟨none,op,ty,pos,after,none⟩) (hf:nw i=true) (hE:∀h v x y,ent i h v x y=E h v x y)
  (B:coM ops.size cs g i++xs i=co) (G:ckM ks g i=ck) (q:brM ops.size bs xs i++os=bw) (j:(ds i).map g=hh) (I:∃v x y,E hh v x y)
  (O:∀w Sl Tl,Fr S w0 w->Fz Sl w Sl w->TOk Sl Tl w->Rds Sl w (ck++es)->Off Tl (ck++es)->St Sl w w (co++bw)->OpY P n L w ⟨none,op,ty,pos,after,none⟩ (fun w'=>∃x y,E hh undef x y/\SfT Sl Tl w w' y (x++bw)))
  (h:∀v x y,E hh v x y->jq P n ops Q nw cs ks xs bs ds S T w0 es os ent r (iY g i (v,x,y)) L):jq P n ops Q nw cs ks xs bs ds S T w0 es os ent (i :: r) g L:=fun a J=>by
 simp only[lxM,N,hf,am]
 refine⟨⟨by simp[Region.wanted],fun w Sl Tl R hT hA hP hS=>?_⟩,by simp only[hE,j]; exact I,fun v x y A=>h v x y (by rwa [hE,j]at A) _ J⟩
 rw[B,q]at hS
 rw[q]
 rw[G]at hA hP
 obtain⟨w',U,x,y,A,V⟩:=O w Sl Tl R Fz.start hT hA hP hS
 exact .inl ⟨undef,w',x,y,.inr ⟨rfl,U a J⟩,by rw[hE,j]; exact A,V⟩
theorem LA {o:Oper} {w:World} {φ ψ:World->Prop} (h:OpY P n L w o φ) (hi:∀w',φ w'->ψ w'):OpY P n L w o ψ:=by
 obtain⟨w',j,q⟩:=h
 exact⟨w',j,hi w' q⟩
theorem nt {P:Program} {f:FuncId} {args:Array Value} {w:World} {φ ψ:Value->World->Prop} (h:Calls P f args w (Ret φ)) (hi:∀v w',φ v w'->ψ v w'):Calls P f args w (Ret ψ):=
 h.mono fun e w' j=>by
  cases e with
  | returned v=>exact hi v w' j
  | panicked c=>exact j.elim
  | outgrown=>exact j.elim
theorem vO {o:Oper} {w:World} {φ ψ:Value->World->Prop} (h:OpX P n L w o φ) (hi:∀v w',φ v w'->ψ v w'):OpX P n L w o ψ:=by
 obtain⟨v,w',j,q⟩:=h
 exact⟨v,w',j,hi v w' q⟩
theorem Oq {o:Oper} {w:World} {v:Value} {ψ:Value->World->Prop} (h:OpV P n L w o v w) (hi:ψ v w):OpX P n L w o ψ:=⟨v,w,h,hi⟩
def JJ (ops:Array Oper) (nw:Nat->Bool) (cs:Nat->Option Nat) (ks bs ds:Nat->Y4):Bool:=
 (List.range ops.size).all fun k=>((match cs k with | none=>true | some c=>nw k&&Nat.blt c ops.size&&nw c&&fY ops ops.size c k)&&(ks k).all fun c=>Nat.blt c ops.size&&nw c&&fY ops ops.size k c)&&((ds k).all fun c=>fY ops ops.size k c)&&(bs k).all fun c=>Nat.blt c ops.size&&fY ops ops.size c k
theorem AH {c:Prop} [Decidable c] {A B:List Th->Value->List OE->List OE->Prop} (j:∀h v x y,A h v x y->∀o∈y,o.ns=true) (q:∀h v x y,B h v x y->∀o∈y,o.ns=true):∀h v x y,(if c then A else B) h v x y->∀o∈y,o.ns=true:=by
 by_cases hc:c
 ·rw[ah hc]; exact j
 ·rw[ae hc]; exact q
theorem pS {y:List OE} (h:y.all OE.ns=true):∀o∈y,o.ns=true:=cq.1 h
theorem sN {id:Nat} {l:List Oper} {w:World} (nw:Nat->Bool) (cs:Nat->Option Nat) (ks:Nat->Y4) (xs:Nat->List OE) (bs ds:Nat->Y4) (ent:Nat->List Th->Value->List OE->List OE->Prop) (V:SfT S T w0 w es ((List.range l.length).flatMap xs++os)) (N:∀k,nw k=false->xs k=[]) (hT:TOk S T w0) (O:es.all OE.ns=true)
  (R:∀i h v x y,ent i h v x y->∀o∈y,o.ns=true) (hm:P.follows .mixedOrders=true)
  (G:(lG l.toArray&&pG l.toArray&&pz l.toArray (fun _=>true))=true) (hK:JJ l.toArray nw cs ks bs ds=true)
  (h:jq P n l.toArray Q nw cs ks xs bs ds S T w0 es os ent (List.range l.length) (fun _=>(undef,[],[])) L):wpC P n (.region id l.toArray true) Q L w:=
 fun a X=>by
  simp only[aK]at G
  have B:=rJ G.1.2
  refine wp_region_any hm ?_
  have A:∀k,k<l.toArray.size->_:=fun k q=>cq.1 hK k (cW.2 q)
  refine rF (fun c k hc q=>?_) N hT (pS O) R (pD G.1.1) (fun k c q hc=>?_) (fun c oc _ k Y=>A0 B _ _ _ Y) (fun c k hc q=>?_) (fun c k hc q=>?_) B (fun i j I Z h3 oi U h4 h5=>(rq G.2 i j I Z h3 oi U h4 h5).1) _ (List.range l.length) _ (fun _=>(undef,[],[])) a _ (by simp) iz (by simp) (fun j U hj hl=>?_) (fun i=>?_) (fun k _ _ o ho=>by cases ho) ?_ (h a X)
  ·have:=A c hc
   simp only[aK]at this
   have:=cq.1 this.2 k q
   simp only[aK]at this
   exact⟨by have:=this.1; rwa [fp]at this,this.2⟩
  ·have:=A k q
   simp only[hc,aK]at this
   have:=this.1.1.1
   exact⟨this.1.1.1,by have:=this.1.1.2; rwa [fp]at this,this.1.2,this.2⟩
  ·have:=A c hc
   simp only[aK]at this
   have:=cq.1 this.1.1.2 k q
   simp only[aK]at this
   exact⟨by have:=this.1.1; rwa [fp]at this,this.1.2,this.2⟩
  ·have:=A c hc
   simp only[aK]at this
   exact cq.1 this.1.2 k q
  ·rw[bO,eg]at hl
   split at hl <;> simp at hl
  ·rw[bO,eg]
   by_cases I:i<l.length
   ·simp[I]
   ·simp[I]
  ·have J:∀k,(Array.replicate l.toArray.size false).getD k false=false:=fun k=>by
    rw[bO,eg]; split <;> rfl
   have e:(List.range l.toArray.size).filter (iT nw cs (Array.replicate l.toArray.size false))=[]:=by
    refine List.filter_eq_nil_iff.2 fun k q=>?_
    unfold iT
    rw[J]; simp
   have e2:(List.range l.toArray.size).filter (fun k=>nw k&&(Array.replicate l.toArray.size false).getD k false)=[]:=by
    refine List.filter_eq_nil_iff.2 fun k q=>?_
    rw[J]; simp
   have e3:(List.range l.toArray.size).filter (fun k=>!(Array.replicate l.toArray.size false).getD k false)=List.range l.toArray.size:=by
    refine List.filter_eq_self.2 fun k q=>?_
    rw[J]; rfl
   rw[e,e2,e3]
   obtain⟨Sb,wb,hZ,hA,hP,hS⟩:=V
   exact⟨Sb,wb,hZ,hA,hP,by simpa using hS.drew⟩
end
def lenV (v:Value):Nat:=match v with
 | .slice _ n _=>n
 | _=>0
def qm (v:Value) (sz lo hi:Nat) (vp:Value):Prop:=(∃a n c a' c',v=.slice a n c/\vp=.slice a' (hi - lo) c'/\hi - lo<=c'/\(lo<hi->a'=a.map (·.add (lo*sz))))/\lo<=hi/\hi<=lenV v
section
variable {w w0:World} {S:Y4} {τ:Type} {e:Enc τ} {v vp:Value} {l:List τ} {lo hi:Nat}
theorem Px (a:Option Addr) (j:Nat):a=a.map (·.add (0*j)):=by cases a <;> simp[Addr.add]
theorem RO.lenV (h:RO w e v l):lenV v=l.length:=by obtain⟨a,c,rfl,_⟩:=h; rfl
theorem RO.whole (h:RO w e v l):qm v e.sz 0 l.length v:=by
 have hl:=h.lenV
 obtain⟨a,c,rfl,hc,_⟩:=h
 exact⟨⟨a,_,c,a,c,rfl,by simp,by omega,fun _=>Px a _⟩,eM _,by rw[hl]; exact av _⟩
theorem RO.part (h:RO w e v l) (j:lo<=hi) (q:hi<=l.length):qm v e.sz lo hi (slV v e.sz lo hi):=by
 have hl:=h.lenV
 obtain⟨a,c,rfl,hc,_⟩:=h
 exact⟨⟨a,_,c,_,_,rfl,rfl,by omega,fun y=>ae (by omega)⟩,j,by rw[hl]; exact q⟩
theorem RO.po (h:RO w e v l) (hp:qm v e.sz lo hi vp):RO w e vp ((l.drop lo).take (hi - lo)):=by
 have hl:=h.lenV
 obtain⟨⟨a,n,c,N,O,rfl,rfl,hc,R⟩,Y,U⟩:=hp
 obtain⟨a2,Z,G,X,V⟩:=h
 injection G with G e2 e3
 subst G e3
 simp only[Gk.lenV]at U hl
 have q:((l.drop lo).take (hi - lo)).length=hi - lo:=by simp; omega
 refine⟨N,O,by rw[q],by rw[q]; exact hc,fun y=>?_⟩
 have I:lo<hi:=by
  rcases cj lo hi with J | J
  ·exact J
  ·rw[show hi - lo=0 by omega]at y; simp at y
 have hn:l≠[]:=by rintro rfl; simp at y
 obtain⟨b,off,rfl,B⟩:=V hn
 refine⟨b,off+lo*e.sz,by rw[R I]; simp[gK],fun j u A=>?_⟩
 rw[e.fl_take,e.fl_drop,bK]at A
 split at A
 ·rw[ep]at A
  have:=B _ _ A
  rw[eo]
  exact this
 ·cases A
theorem RP.po (h:RP S w e v l) (hp:qm v e.sz lo hi vp):RP S w e vp ((l.drop lo).take (hi - lo)):=by
 refine⟨h.1.po hp,fun j k B q=>?_⟩
 have hl:=h.1.lenV
 have hn:l≠[]:=by rintro rfl; simp at j
 refine h.2 hn k B ?_
 obtain⟨⟨a,n,c,I,J,rfl,rfl,hc,G⟩,N,O⟩:=hp
 have y:lo<hi:=by
  rcases cj lo hi with A | A
  ·exact A
  ·rw[show hi - lo=0 by omega]at j; simp at j
 rw[G y]at q
 cases a with
 | none=>simp[Value.ownBlock]at q
 | some x=>simp[Value.ownBlock]at q ⊢; rw[<-q]; unfold Addr.add; split <;> rfl
theorem IB (h:RO w e v l) (hp:qm v e.sz lo hi vp) {j:Nat} (J:j<hi - lo):ixA vp e.sz j=ixA v e.sz (lo+j):=by
 obtain⟨⟨a,n,c,N,O,rfl,rfl,hc,B⟩,R,y⟩:=hp
 obtain⟨a2,U,q,I,G⟩:=h
 injection q with q e2 e3
 subst q e2 e3
 simp only[Gk.lenV]at y
 have A:l≠[]:=by rintro rfl; simp at y; omega
 obtain⟨b,off,rfl,_⟩:=G A
 rw[B (by omega)]
 simp[ixA,gK,aW,eo]
end
section
variable {P:Program} {n:Nat} {L:Env} {w w0:World} {S:Y4} {os:List OE} {d:Option Tmp} {ty:TypeId} {pos:String} {after:Array Edge}
theorem I7 {x y:Operand} {T:TypeId} {τ:Type} {e:Enc τ} {z:Value} {bytes:Nat} {v vp u:Value} {l:List τ} {lo hi:Nat} {i:Nat} {j:Int} {t B:τ} (hT:TI P T z 1 bytes)
  (hx:L.ev x=some (pP (ixA vp e.sz j.toNat))) (G:L.ev y=some u) (hS:St S w0 w os) (q:os[i]? = some (own e v l)) (hp:qm v e.sz lo hi vp) (I:au ((l.drop lo).take (hi - lo)) j=some B) (hu:e.cells t=[u]) :
  OpY P n L w ⟨none,.store T x y,ty,pos,after,none⟩ (fun w'=>St S w0 w' (os.set i (own e v (l.set (lo+j.toNat) t)))):=by
 have A:RO w e v l:=(hS.ok _ (ba q)).ro
 have J:=(gp I).2.1
 have hl:=A.lenV
 have:=hp.2.2
 rw[aQ,bU]at J
 rw[IB A hp (by omega)]at hx
 exact um hT hx G hu hS q (by omega)
end
section
variable {P:Program} {n:Nat} {L:Env} {w w0:World} {S:Y4} {os:List OE} {d:Option Tmp} {ty:TypeId} {pos:String} {after:Array Edge}
theorem zS {x y:Operand} {T T2 E:TypeId} {τ:Type} {e:Enc τ} {z:Value} {bytes:Nat} {u:Value} {m:List τ} (hT:P.underlying T=some (.slice E)) (A:P.underlying T2=some (.slice E)) (hE:TI P E z e.sz bytes) (hz:z.cells.size=e.sz) (B:bytes<=65536) (j:0<bytes)
  (hx:L.ev x=some (.slice none 0 0)) (I:L.ev y=some u) (hS:St S w0 w os) (hu:RO w e u m) (J:m.length*bytes<=225000000000000) :
  OpX P n L w ⟨d,.call ⟨.builtin .append,#[x,y],#[T,T2]⟩,ty,pos,after,none⟩ (fun q w'=>St S w0 w' (own e q m :: os)):=by
 have hn:(own e (.slice none 0 0) ([]:List τ)).ok S w0.heap.size w:=⟨by simp,.inl ⟨rfl,rfl⟩⟩
 obtain⟨q,w',N,O,R,U⟩:=nC (ty:=ty) hT hE hz B j hn hu hS.fr.size (by simpa using J)
 refine gD q w' (fun a G=>?_) (hS.push (by simpa [OE.blk,Value.ownBlock] using R) O fun k V=>?_)
 ·have X:(Builtin.append_ #[T,T2] ty #[.slice none 0 0,u]).run P w=(Builtin.append_ #[T,T] ty #[.slice none 0 0,u]).run P w:=by
   simp[Builtin.append_,run_underlying hT,run_underlying A]
  simp[execOp,resolve,invoke,builtin,G.ev hx,G.ev I,X,N]
 ·rcases U k V with h | h
  ·simp[OE.blk,Value.ownBlock]at h
  ·exact h
theorem Et {x y:Operand} {T T2 E:TypeId} {τ:Type} {e:Enc τ} {z:Value} {bytes:Nat} {u:Value} {m r:List τ} (hT:P.underlying T=some (.slice E)) (j:P.underlying T2=some (.slice E)) (hE:TI P E z e.sz bytes) (hz:(Nat.beq z.cells.size e.sz&&Nat.ble bytes 65536&&Nat.blt 0 bytes)=true)
  (hx:L.ev x=some (.slice none 0 0)) (q:L.ev y=some u) (hS:St S w0 w os) (hu:RO w e u m) (A:apO bytes [] m=some r) :
  OpX P n L w ⟨d,.call ⟨.builtin .append,#[x,y],#[T,T2]⟩,ty,pos,after,none⟩ (fun B w'=>St S w0 w' (own e B r :: os)):=by
 obtain⟨rfl,G⟩:=oC A
 simp only[aK,fp]at hz
 exact zS hT j hE (bf hz.1.1) (an hz.1.2) hz.2 hx q hS hu (by simpa using G)
end
section
variable {P:Program} {n:Nat} {L:Env} {w:World} {Q:Exit->Act->World->Prop}
theorem FK {c:Code} (h:wpC P n c (Exit.noGoto Q) L w):wpC P n (.scope c) Q L w:=fun a j=>wp_scope_straight (h a j)
theorem Fa {l:Nat} (h:QE n Q .normal L w):wpC P n (.label l) Q L w:=fun a j=>wp_label (h a j)
theorem H3 (h:QE n Q .normal L w):QE n (Exit.noGoto Q) .normal L w:=h
theorem A9 (h:QE n Q .ret L w):QE n (Exit.noGoto Q) .ret L w:=h
end
section
variable {P:Program} {n:Nat} {L:Env} {w:World} {Q:Exit->Act->World->Prop}
theorem DV {c rest:Code} (l:Nat) (hf:findLabel c l=some rest) (h:wpC P n c (Exit.jump l (fun a w=>rest.wp P (Exit.noGoto Q) a w) Q) L w):wpC P n (.scope c) Q L w:=fun a j=>
 wp_scope_jumps l _ (fun _ _=>0) hf (h a j) fun a w y=>wp_mono y fun e a w q=>by cases e <;> first | exact q | exact q.elim
theorem Iu {l:Nat} (h:QE n Q (.goto l) L w):wpC P n (.goto l) Q L w:=fun a j=>wp_goto (h a j)
theorem HB {l:Nat} {J:Act->World->Prop} (h:QE n Q .ret L w):QE n (Exit.jump l J Q) .ret L w:=h
theorem H4 {l:Nat} {rest:Code} (h:wpC P n rest (Exit.noGoto Q) L w):QE n (Exit.jump l (fun a w=>rest.wp P (Exit.noGoto Q) a w) Q) (.goto l) L w:=fun a j=>⟨rfl,h a j⟩
theorem EX {K:Act->World->Prop} {l:Nat} (h:QE n Q (.goto l) L w):QE n (Exit.then K Q) (.goto l) L w:=h
end
section
variable {P:Program} {n:Nat} {L:Env} {w:World} {S:Y4} {d:Option Tmp} {ty:TypeId} {pos:String} {after:Array Edge}
theorem N4 {x y z u:Operand} {T E:TypeId} {k B q:IntKind} {lo hi:Int} {τ:Type} {e:Enc τ} {v z0:Value} {l r:List τ} {bytes:Nat} (hT:P.underlying T=some (.slice E)) (hE:TI P E z0 e.sz bytes)
  (hx:L.ev x=some v) (G:L.ev y=some (.int q lo)) (hz:L.ev z=some (.int k hi)) (hu:L.ev u=some (.int B hi)) (h:RO w e v l) (I:slO l lo hi=some r) :
  OpV P n L w ⟨d,.slice T x (some y) (some z) (some u),ty,pos,after,none⟩ (slV3 v e.sz lo.toNat hi.toNat hi.toNat) w:=fun a j=>by
 obtain⟨b,c,rfl,hc,_⟩:=h
 obtain⟨V,A,_,hs,_⟩:=hE.get
 obtain⟨⟨J,N,X⟩,rfl⟩:=fM I
 have O:hi<=(c:Int):=by omega
 have R:(hi.toNat:Int)=hi:=gY (by omega)
 have U:0<=hi:=by omega
 have Y:(lo.toNat:Int)=lo:=gY (by omega)
 have Z:lo.toNat<=hi.toNat:=by omega
 simp[execOp,j.ev hx,j.ev G,j.ev hz,j.ev hu,Instr.sliceAt,Instr.slice,run_underlying hT,Instr.sliceBounds,run_sliceBound,J,N,O,R,U,sizeOf,typeInfo,A,hs,slV3]
theorem RO.g_sl3 {τ:Type} {e:Enc τ} {v:Value} {l r:List τ} {lo hi:Int} (h:RO w e v l) (j:slO l lo hi=some r):RO w e (slV3 v e.sz lo.toNat hi.toNat hi.toNat) r:=by
 obtain⟨⟨y,A,q⟩,rfl⟩:=fM j
 exact h.sub3 (by omega) q (av _)
theorem RP.g_sl3 {τ:Type} {e:Enc τ} {v:Value} {l r:List τ} {lo hi:Int} (h:RP S w e v l) (q:slO l lo hi=some r):RP S w e (slV3 v e.sz lo.toNat hi.toNat hi.toNat) r:=by
 refine⟨h.1.g_sl3 q,fun y k A j=>?_⟩
 obtain⟨_,rfl⟩:=fM q
 refine h.2 (fun e=>y (by rw[e]; simp)) k A ?_
 obtain⟨a,c,rfl,_⟩:=h.1
 cases a with
 | none=>simp[slV3,Value.ownBlock]at j
 | some x=>
  by_cases hc:hi.toNat=lo.toNat
  ·simpa [slV3,hc,Value.ownBlock] using j
  ·simp[slV3,hc,Value.ownBlock]at j ⊢
   rw[<-j]; unfold Addr.add; split <;> rfl
end
section
variable {P:Program} {n:Nat} {L:Env} {w w0:World} {S:Y4} {os:List OE} {d:Option Tmp} {ty:TypeId} {pos:String} {after:Array Edge}
theorem jr (T:TypeId) (x:Int) (y:UInt64) (k:Nat) (h:y.toNat=k):cr P .shr T (vI x) (v64 y) (vI (nA x k)):=by subst h; exact Ih T x y
theorem GA.part {τ:Type} {g:Nat} {e:Enc τ} {l q:List τ} {off:Nat} (h:GA S w0 g e l) (hf:Fr S w0 w) (hp:((e.fl l).drop off).take (e.fl q).length=e.fl q):∀j u,(e.fl q)[j]? = some u->w.cell? ⟨g,off+j,none⟩=some u:=fun j u y=>by
 have A:j<(e.fl q).length:=(aD.1 y).1
 rw[<-hp,bK,ah A,ep]at y
 have:=h.cells hf (off+j) u y
 rwa [bh]at this
end
end Go.Gk
end
