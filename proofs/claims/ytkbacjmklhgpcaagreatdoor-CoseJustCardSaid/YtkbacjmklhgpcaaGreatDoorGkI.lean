import Derived.Test.YtkbacjmklhgpcaaGreatDoorGkS
import Derived.Laws.CopyRow
import Derived.Laws.StructEq
import Derived.Lib.AppendStr
import Derived.Scope
import Derived.ScopeJumps
set_option linter.unusedVariables false
set_option linter.unusedSimpArgs false
set_option linter.unusedSectionVars false
section
namespace Go.Gk
open Go Go.RowKit
section
variable {P:Program} {n:Nat} {L:Env} {w w0:World} {Q:Exit->Act->World->Prop} {S:L02} {os:List OE}
variable {d:Option Tmp} {ty:TypeId} {pos:String} {after:Array Edge}
abbrev pB (b off:Nat):Value:=.pointer (some ⟨b,off,none⟩)
theorem ry (b off k:Nat):(⟨b,off,none⟩:Addr).add k=⟨b,off+k,none⟩:=by unfold Addr.add; split <;> simp_all
theorem Bq (h:St S w0 w os) (cs:Array Value) (E:TypeId):St S w0 (w.alloc (.cells cs E)) (.bx w.heap.size cs.toList :: os):=by
 refine h.push (Fr.alloc _ _ _) ⟨h.fresh,E,cs,heap_alloc_new w _,rfl⟩ fun k j=>?_
 simp[OE.blk]at j; omega
theorem m0 {E:TypeId} {z:Value} {cs:List Value} (hE:(P.info? E).map (·.zero)=some (some z)) (hz:z.cells.toList=cs) (hS:St S w0 w os) :
  OpX P n L w ⟨d,.alloc E,ty,pos,after,none⟩ (fun v w'=>∃b,v=pB b 0/\St S w0 w' (.bx b cs :: os)):=by
 refine iH (pB w.heap.size 0) (w.alloc (.cells z.cells E)) (fun a ha=>?_) ⟨_,rfl,hz ▸ Bq hS _ _⟩
 cases hi:P.info? E with
 | none=>rw[hi]at hE; cases hE
 | some i=>
  rw[hi]at hE
  simp only[bO,dR]at hE
  simp[execOp,Instr.alloc,zeroValue,typeInfo,hi,hE,newVar,newRow]
theorem s7 {E:TypeId} {x:Operand} {v:Value} {cs:List Value} (hx:L.ev x=some v) (hz:v.cells.toList=cs) (hS:St S w0 w os) :
  OpX P n L w ⟨d,.box E x,ty,pos,after,none⟩ (fun v w'=>∃b,v=pB b 0/\St S w0 w' (.bx b cs :: os)):=by
 refine iH (pB w.heap.size 0) (w.alloc (.cells v.cells E)) (fun a ha=>?_) ⟨_,rfl,hz ▸ Bq hS _ _⟩
 simp[execOp,Instr.box,ha.ev hx,newVar,newRow]
theorem br {s:TypeId} {x:Operand} {b off f k:Nat} {z:Array Field} {y:Field} (hs:P.underlying s=some (.struct z)) (hf:z[f]? = some y) (A:y.offset=k) (j:(P.info? y.type).map (·.size == 0)=some false)
  (hx:L.ev x=some (pB b off)):OpV P n L w ⟨d,.fieldAddr s x f,ty,pos,after,none⟩ (pB b (off+k)) w:=fun a ha=>by
 cases hi:P.info? y.type with
 | none=>rw[hi]at j; cases j
 | some i=>
  have B:¬i.size=0:=by rw[hi]at j; simpa using j
  simp[execOp,Instr.fieldAt,ha.ev hx,run_underlying hs,hf,Instr.sureAddr,fieldPlace,sizeOf,typeInfo,hi,B,ry,A]
theorem kv {T E:TypeId} {m:Nat} {x y:Operand} {b off:Nat} {k:IntKind} {i:Int} {j:Nat} (hT:P.underlying T=some (.array m E)) (hE:(P.info? E).map (·.size)=some j)
  (hx:L.ev x=some (pB b off)) (z:L.ev y=some (.int k i)) (A:0<=i) (B:i<(m:Int)):OpV P n L w ⟨d,.indexAddr T x y,ty,pos,after,none⟩ (pB b (off+i.toNat*j)) w:=fun a ha=>by
 cases hi:P.info? E with
 | none=>rw[hi]at hE; cases hE
 | some inf=>
  have hs:inf.size=j:=by rw[hi]at hE; simpa using hE
  simp[execOp,Instr.indexAt,ha.ev hx,ha.ev z,asIntOf,run_underlying hT,Instr.sureAddr,A,B,sizeOf,typeInfo,hi,hs,ry]
theorem ib {x:Operand} {b off:Nat} (hx:L.ev x=some (pB b off)):OpV P n L w ⟨d,.nilCheck x,ty,pos,after,none⟩ (pB b off) w:=fun a ha=>by
 simp[execOp,ha.ev hx]
theorem St.bxc (h:St S w0 w os) (i:Nat) {b:Nat} {cs:List Value} (hi:os[i]? = some (.bx b cs)) (k:Nat):w.cell? ⟨b,k,none⟩=cs[k]?:=by
 obtain⟨_,T,j,hg,y⟩:=h.ok _ (bd hi)
 rw[cell_of_row w b k j T (0,0) hg,<-y]; simp
theorem cc {T:TypeId} {D:TypeDesc} {x:Operand} {b off:Nat} {u:Value} (hT:P.underlying T=some D) (k:(match D with | .struct _ | .array _ _=>true | _=>false)=false)
  (hx:L.ev x=some (pB b off)) (hc:w.cell? ⟨b,off,none⟩=some u):OpV P n L w ⟨d,.load T x,ty,pos,after,none⟩ u w:=fun a ha=>by
 have j:(isAgg T).run P w=.ok false w:=by
  unfold isAgg
  rw[Sem.run_bind,run_underlying hT w]
  cases D <;> simp_all
 simp[execOp,Instr.loadAt,ha.ev hx,Instr.sureAddr,loadVar,j,hc]
theorem BV {T:TypeId} {D:TypeDesc} {x:Operand} {b off:Nat} {us:List Value} (hT:P.underlying T=some D) (z:(match D with | .struct _ | .array _ _=>true | _=>false)=true)
  (hi:(P.info? T).map (·.size)=some us.length) (hx:L.ev x=some (pB b off)) (hc:∀j u,us[j]? = some u->w.cell? ⟨b,off+j,none⟩=some u) :
  OpV P n L w ⟨d,.load T x,ty,pos,after,none⟩ (.agg us.toArray) w:=fun a ha=>by
 have k:(isAgg T).run P w=.ok true w:=by
  unfold isAgg
  rw[Sem.run_bind,run_underlying hT w]
  cases D <;> simp_all
 cases hq:P.info? T with
 | none=>simp[hq]at hi
 | some i=>
  have hs:i.size=us.length:=by simpa [hq] using hi
  have hl:(loadCells ⟨b,off,none⟩ us.length).run P w=.ok us.toArray w:=
   run_loadCells_list (P:=P) w ⟨b,off,none⟩ us (fun j v y=>by rw[ry]; exact hc j v y)
  simp[execOp,Instr.loadAt,ha.ev hx,Instr.sureAddr,loadVar,k,sizeOf,typeInfo,hq,hs,hl]
theorem St.bxs (h:St S w0 w os) (i:Nat) {b:Nat} {cs us:List Value} {off:Nat} (hi:os[i]? = some (.bx b cs)) (hu:(cs.drop off).take us.length=us):∀j u,us[j]? = some u->w.cell? ⟨b,off+j,none⟩=some u:=by
 intro j u k
 rw[h.bxc i hi]
 rw[<-hu,bR]at k
 split at k
 ·simpa using k
 ·cases k
def ug:List Value->Prop
 | []=>True
 | v :: r=>v.oneCell'=true/\ug r
theorem Af:∀{l:List Value},ug l->∀v∈l,v.oneCell'=true
 | [],_,v,j=>by cases j
 | u :: r,h,v,j=>by
  rcases aG.1 j with rfl | j
  ·exact h.1
  ·exact Af h.2 v j
def spl (cs:List Value) (off:Nat) (us:List Value):List Value:=cs.take off++us++cs.drop (off+us.length)
theorem St.setB (h:St S w0 w os) {i b off:Nat} {cs us:List Value} (hi:os[i]? = some (.bx b cs)) :
  ∃T j,w.heap[b]? = some (.cells j T (0,0))/\j.toList=cs/\St S w0 (w.setRow b (j.toList.take off++us++j.toList.drop (off+us.length)).toArray) (os.set i (.bx b (spl cs off us))):=by
 have z:=h.ok _ (bd hi)
 obtain⟨hf,T,j,hg,y⟩:=z
 refine⟨T,j,hg,y,?_⟩
 refine h.set hi (o':=.bx b (spl cs off us)) (Fr.setRow w b _) ⟨hf,T,_,setRow_heap w b j _ T (0,0) hg,?_⟩ fun k A=>.inl A
 subst y
 simp[spl]
theorem jN {T:TypeId} {x y:Operand} {b off i:Nat} {v:Value} {cs us:List Value} (hi:os[i]? = some (.bx b cs)) (j:(P.info? T).map (·.size)=some us.length)
  (hx:L.ev x=some (pB b off)) (N:L.ev y=some v) (A:v.cells.toList=us) (O:ug us) (hl:Nat.ble (off+us.length) cs.length=true) (hS:St S w0 w os) :
  OpY P n L w ⟨none,.store T x y,ty,pos,after,none⟩ (fun w'=>St S w0 w' (os.set i (.bx b (spl cs off us)))):=by
 obtain⟨R,k,hg,B,G⟩:=hS.setB (off:=off) (us:=us) hi
 refine tq _ (fun a ha=>?_) G
 cases hq:P.info? T with
 | none=>simp[hq]at j
 | some inf=>
  have hs:inf.size=us.length:=by simpa [hq] using j
  have I:off+0+us.length<=k.size:=by
   have:=ao hl
   rw[<-B]at this; simpa using this
  have z:=run_storeCells_at P b off R us 0 k w hg I (Af O)
  have J:v.cells.size=us.length:=by rw[<-A]; simp
  simp only[bm]at z
  simp[execOp,Instr.storeAt,ha.ev hx,ha.ev N,Instr.sureAddr,storeVar,sizeOf,typeInfo,hq,hs,A,J,z]
theorem _root_.Go.Gk.RO.one {τ:Type} {e:Enc τ} {v:Value} {l:List τ} (h:RO w e v l):v.oneCell'=true:=by
 obtain⟨a,c,rfl,_⟩:=h; rfl
theorem jI {v:Value} (h:v.oneCell'=true):v.cells.toList=[v]:=by cases v <;> simp_all [Value.cells,Value.oneCell']
def kn (P:Program) (T:TypeId):Option (List (Nat×Nat)×List Value):=
 match P.info? T,P.underlying T with
 | some it,some (.array m e)=>
  match it.zero,P.info? e with
  | some z,some ie=>some ((List.range m).map fun i=>(i*ie.size,ie.size),z.cells.toList)
  | _,_=>none
 | some it,some (.struct fields)=>
  match it.zero,fields.toList.mapM (fun f=>(P.info? f.type).map fun i=>(f.offset,i.size)) with
  | some z,some places=>some (places,z.cells.toList)
  | _,_=>none
 | _,_=>none
def nQ (pl:List (Nat×Nat)):List Value->List (Nat×Value×List Value)->Option (List Value)
 | cs,[]=>some cs
 | cs,(i,_,us) :: r=>match pl[i]? with
  | some (off,sz)=>if Nat.beq us.length sz&&Nat.ble (off+us.length) cs.length then nQ pl (spl cs off us) r else none
  | none=>none
theorem yM:∀(us:List Value) (off k:Nat) (cs:Array Value),off+k+us.length<=cs.size ->
  (us.zipIdx k).foldl (fun cs (x:Value×Nat)=>cs.setIfInBounds (off+x.2) x.1) cs=(spl cs.toList (off+k) us).toArray
 | [],off,k,cs,_=>by simp[spl]
 | u :: r,off,k,cs,h=>by
  have j:=yM r off (k+1) (cs.setIfInBounds (off+k) u) (by simp at h ⊢; omega)
  rw[List.zipIdx_cons,ep,j]
  congr 1
  unfold spl
  have e:=list_seg_step cs.toList (off+k) u r (by simp at h ⊢; omega)
  simpa [Array.toList_setIfInBounds,dn] using e
theorem vT {place:Nat->Option (Nat×Nat)} {pl:List (Nat×Nat)} (hpl:∀i x,pl[i]? = some x->place i=some x):∀(k:List (Nat×Value×List Value)) (cs j:List Value),
  (∀p∈k,p.2.1.cells.toList=p.2.2)->nQ pl cs k=some j->Instr.fill place cs.toArray (k.map fun p=>(p.1,p.2.1))=some j.toArray
 | [],cs,j,_,h=>by simp[nQ]at h; simp[Instr.fill,h]
 | (i,v,us) :: r,cs,j,hc,h=>by
  simp only[nQ]at h
  cases hi:pl[i]? with
  | none=>rw[hi]at h; cases h
  | some x=>
   obtain⟨off,G⟩:=x
   rw[hi]at h
   simp only at h
   split at h
   ·rename_i hb
    simp only[aK]at hb
    have I:=bK hb.1
    have z:=ao hb.2
    have y:v.cells.toList=us:=hc (i,v,us) (by simp)
    have B:v.cells.size=us.length:=by rw[<-y]; simp
    have A:=vT hpl r (spl cs off us) j (fun p hp=>hc p (by simp[hp])) h
    simp only[db,Instr.fill,hpl i _ hi]
    rw[ae (by simp; omega)]
    have hf:v.cells.zipIdx.foldl (fun cs (x:Value×Nat)=>cs.setIfInBounds (off+x.2) x.1) cs.toArray=(spl cs off us).toArray:=by
     have:=yM us off 0 cs.toArray (by simpa using z)
     simp only[bm]at this
     rw[<-this,<-Array.foldl_toList]
     simp[Array.toList_zipIdx,y]
    rw[hf]
    exact A
   ·cases h
theorem Me {T:TypeId} {pl:List (Nat×Nat)} {z k:List Value} {y:List (Nat×Value×List Value)} (j:kn P T=some (pl,z)) (hc:∀p∈y,p.2.1.cells.toList=p.2.2) (hf:nQ pl z y=some k) :
  P.built T (y.map fun p=>(p.1,p.2.1))=some k.toArray:=by
 unfold kn at j
 unfold Program.built
 cases hi:P.info? T with
 | none=>rw[hi]at j; cases j
 | some it=>
  cases hu:P.underlying T with
  | none=>rw[hi,hu]at j; cases j
  | some D=>
   rw[hi,hu]at j
   cases D with
   | array m e=>
    simp only at j ⊢
    cases hz:it.zero with
    | none=>rw[hz]at j; cases j
    | some z0=>
     cases he:P.info? e with
     | none=>rw[hz,he]at j; cases j
     | some ie=>
      rw[hz,he]at j
      simp only[dR,iu]at j
      obtain⟨rfl,rfl⟩:=j
      simp only
      have:=vT (place:=fun i=>some (i*ie.size,ie.size)) (fun i x hx=>by
       rw[fF]at hx
       by_cases hm:i<m
       ·rw[List.getElem?_range hm]at hx; simpa using hx
       ·rw[c9 (by simp; omega)]at hx; cases hx) y _ k hc hf
      simpa using this
   | struct fields=>
    simp only at j ⊢
    cases hz:it.zero with
    | none=>rw[hz]at j; cases j
    | some z0=>
     cases hp:fields.toList.mapM (fun f=>(P.info? f.type).map fun i=>(f.offset,i.size)) with
     | none=>rw[hz,hp]at j; cases j
     | some places=>
      rw[hz,hp]at j
      simp only[dR,iu]at j
      obtain⟨rfl,rfl⟩:=j
      simp only
      have:=vT (place:=fun i=>places.toArray[i]?) (fun i x hx=>by simpa using hx) y _ k hc hf
      simpa using this
   | _=>cases j
def oE:List (Nat×Value×List Value)->Prop
 | []=>True
 | p :: r=>p.2.1.cells.toList=p.2.2/\oE r
theorem qd:∀{l:List (Nat×Value×List Value)},oE l->∀p∈l,p.2.1.cells.toList=p.2.2
 | [],_,v,j=>by cases j
 | u :: r,h,v,j=>by
  rcases aG.1 j with rfl | j
  ·exact h.1
  ·exact qd h.2 v j
theorem sL {T:TypeId} {j:List (Nat×Operand)} {vs:List (Nat×Value×List Value)} {pl:List (Nat×Nat)} {z cells:List Value} (k:(j.map fun p=>(L.ev p.2).map fun v=>(p.1,v))=vs.map (fun p=>some (p.1,p.2.1)))
  (A:kn P T=some (pl,z)) (hc:oE vs) (hf:nQ pl z vs=some cells) :
  OpV P n L w ⟨d,.build T j.toArray,ty,pos,after,none⟩ (.agg cells.toArray) w:=fun a ha=>by
 have B:j.map (fun p=>(p.1,a.eval p.2))=vs.map (fun p=>(p.1,p.2.1)):=by
  clear hc hf
  induction j generalizing vs with
  | nil=>cases vs <;> simp_all
  | cons p r ih=>
   cases vs with
   | nil=>simp at k
   | cons v s=>
    simp only[db,eQ]at k
    obtain⟨y,G⟩:=k
    cases hp:L.ev p.2 with
    | none=>rw[hp]at y; cases y
    | some u=>
     rw[hp]at y
     simp only[bO,dR]at y
     simp[ha.ev hp,y,ih G]
 have I:=run_build (P:=P) w T (j.toArray.map fun x=>(x.1,a.eval x.2)) cells.toArray (by
  have:=Me A (qd hc) hf
  simpa [B] using this)
 simp only[execOp,Sem.run_bind,I,Result.andThen_ok]; rfl
theorem MD {T E:TypeId} {m:Nat} {x y:Operand} {cs:Array Value} {k:IntKind} {i:Int} {z:Nat} {u:Value} {D:TypeDesc} (hT:P.underlying T=some (.array m E)) (hE:P.underlying E=some D)
  (J:(match D with | .struct _ | .array _ _=>true | _=>false)=false) (j:(P.info? E).map (·.size)=some z)
  (hx:L.ev x=some (.agg cs)) (B:L.ev y=some (.int k i)) (G:0<=i) (I:i<(m:Int)) (hu:cs[i.toNat*z]? = some u):OpV P n L w ⟨d,.index T x y,ty,pos,after,none⟩ u w:=fun a ha=>by
 have A:(isAgg E).run P w=.ok false w:=by
  unfold isAgg
  rw[Sem.run_bind,run_underlying hE w]
  cases D <;> simp_all
 cases hi:P.info? E with
 | none=>rw[hi]at j; cases j
 | some inf=>
  have hs:inf.size=z:=by rw[hi]at j; simpa using j
  simp[execOp,Instr.index,ha.ev hx,ha.ev B,asIntOf,run_underlying hT,G,I,sizeOf,typeInfo,hi,hs,part,A,hu]
end
def eB:Enc Bool:=⟨1,fun x=>[vB x],fun _=>rfl,fun _ u h=>by simp at h; subst h; rfl⟩
def eP {α β:Type} (e:Enc α) (f:Enc β):Enc (α×β):=⟨e.sz+f.sz,fun t=>e.cells t.1++f.cells t.2,fun t=>by rw[aQ,e.len,f.len],fun t u h=>by
 rcases bG.1 h with h | h
 ·exact e.one _ _ h
 ·exact f.one _ _ h⟩
section
variable {P:Program} {n:Nat} {L:Env} {w w0:World} {Q:Exit->Act->World->Prop} {S:L02} {os:List OE}
variable {d:Option Tmp} {ty:TypeId} {pos:String} {after:Array Edge}
theorem iQ {s:TypeId} {x:Operand} {a0:Addr} {f k:Nat} {z:Array Field} {y:Field} (hs:P.underlying s=some (.struct z)) (hf:z[f]? = some y) (A:y.offset=k) (j:(P.info? y.type).map (·.size == 0)=some false)
  (hx:L.ev x=some (pP a0)):OpV P n L w ⟨d,.fieldAddr s x f,ty,pos,after,none⟩ (pP (a0.add k)) w:=fun a ha=>by
 cases hi:P.info? y.type with
 | none=>rw[hi]at j; cases j
 | some i=>
  have B:¬i.size=0:=by rw[hi]at j; simpa using j
  simp[execOp,Instr.fieldAt,ha.ev hx,run_underlying hs,hf,Instr.sureAddr,fieldPlace,sizeOf,typeInfo,hi,B,A]
theorem MF {x:Operand} {T:TypeId} {D:TypeDesc} {τ:Type} {e:Enc τ} {v:Value} {l:List τ} {i:Int} {t:τ} {k:Nat} {u:Value} (hT:P.underlying T=some D) (j:(match D with | .struct _ | .array _ _=>true | _=>false)=false)
  (hx:L.ev x=some (pP ((ixA v e.sz i.toNat).add k))) (h:RO w e v l) (hg:aw l i=some t) (y:Nat.blt k e.sz=true) (hu:(e.cells t)[k]? = some u) :
  OpV P n L w ⟨d,.load T x,ty,pos,after,none⟩ u w:=Bi hT j hx (h.cellAt (fO hg).2.2 (ao y) hu)
theorem wP {x:Operand} {T:TypeId} {D:TypeDesc} {τ:Type} {e:Enc τ} {v:Value} {l:List τ} {i:Int} {t:τ} (hT:P.underlying T=some D) (y:(match D with | .struct _ | .array _ _=>true | _=>false)=true)
  (hi:(P.info? T).map (·.size)=some e.sz) (hx:L.ev x=some (pP (ixA v e.sz i.toNat))) (h:RO w e v l) (hg:aw l i=some t) :
  OpV P n L w ⟨d,.load T x,ty,pos,after,none⟩ (.agg (e.cells t).toArray) w:=fun a ha=>by
 have k:(isAgg T).run P w=.ok true w:=by
  unfold isAgg
  rw[Sem.run_bind,run_underlying hT w]
  cases D <;> simp_all
 cases hq:P.info? T with
 | none=>simp[hq]at hi
 | some inf=>
  have hs:inf.size=(e.cells t).length:=by rw[e.len]; simpa [hq] using hi
  have hl:(loadCells (ixA v e.sz i.toNat) (e.cells t).length).run P w=.ok (e.cells t).toArray w:=
   run_loadCells_list (P:=P) w _ (e.cells t) (fun j u hu=>h.cellAt (fO hg).2.2 (by have:=(aP.1 hu).1; rwa [e.len]at this) hu)
  simp[execOp,Instr.loadAt,ha.ev hx,Instr.sureAddr,loadVar,k,sizeOf,typeInfo,hq,hs,hl]
theorem Pv {τ:Type} (e:Enc τ) (l:List τ) (j:Nat) (t:τ) (k:j<l.length):e.fl (l.set j t)=(e.fl l).take (j*e.sz)++e.cells t++(e.fl l).drop ((j+1)*e.sz):=by
 rw[<-e.fl_take,<-e.fl_drop,fI,ag k,e.fl_append]
 simp[Enc.fl]
theorem pe {α:Type} (c:List α) (a:Nat) (h:a<=c.length):∃A B,c=A++B/\A.length=a:=⟨c.take a,c.drop a,(cD a c).symm,by simp; omega⟩
theorem LX {α:Type} (c us:List α) (a k j m:Nat) (y:m<=c.length) (ha:a+j<=m) (hk:k+us.length<=j) :
  (c.take (a+k)++us++c.drop (a+k+us.length)).take m=(c.take m).take a++(((c.drop a).take j).take k++us++((c.drop a).take j).drop (k+us.length))++(c.take m).drop (a+j):=by
 obtain⟨A,z,rfl,rfl⟩:=pe c a (by omega)
 simp only[aQ]at y
 obtain⟨B,G,rfl,rfl⟩:=pe z k (by omega)
 simp only[aQ]at y
 obtain⟨C,I,rfl,hC⟩:=pe G us.length (by omega)
 simp only[aQ]at y
 obtain⟨D,J,rfl,hD⟩:=pe I (j - B.length - us.length) (by omega)
 simp only[aQ]at y
 obtain⟨E,F,rfl,hE⟩:=pe J (m - A.length - j) (by omega)
 have N:(A++(B++(C++(D++(E++F))))).take (A.length+B.length)=A++B:=by
  rw[<-aN,show A.length+B.length=(A++B).length by simp,fE rfl]
 have O:(A++(B++(C++(D++(E++F))))).drop (A.length+B.length+us.length)=D++(E++F):=by
  rw[<-aN,<-aN,show A.length+B.length+us.length=(A++B++C).length by simp; omega,jt rfl]
 have R:(A++(B++(C++(D++(E++F))))).drop A.length=B++(C++(D++(E++F))):=jt rfl
 have U:(B++(C++(D++(E++F)))).take j=B++(C++D):=by
  rw[show B++(C++(D++(E++F)))=(B++(C++D))++(E++F) by simp,fE (by simp; omega)]
 have V:(B++(C++D)).take B.length=B:=fE rfl
 have X:(B++(C++D)).drop (B.length+us.length)=D:=by
  rw[<-aN,jt (by simp; omega)]
 have Y:(A++(B++(C++(D++(E++F))))).take m=A++(B++(C++(D++E))):=by
  rw[show A++(B++(C++(D++(E++F))))=(A++(B++(C++(D++E))))++F by simp,fE (by simp; omega)]
 have e8:(A++(B++(C++(D++E)))).take A.length=A:=fE rfl
 have Z:(A++(B++(C++(D++E)))).drop (A.length+j)=E:=by
  rw[show A++(B++(C++(D++E)))=(A++(B++(C++D)))++E by simp,jt (by simp; omega)]
 rw[N,O,R,U,V,X,Y,e8,Z,show A++B++us++(D++(E++F))=(A++(B++us++D)++E)++F by simp,fE (by simp; omega)]
theorem FK {x y:Operand} {T:TypeId} {τ:Type} {e:Enc τ} {v u:Value} {l:List τ} {i k:Nat} {j:Int} {t A:τ} {us:List Value} (hT:(P.info? T).map (·.size)=some us.length)
  (hx:L.ev x=some (pP ((ixA v e.sz j.toNat).add k))) (hy:L.ev y=some u) (hu:u.cells.toList=us) (hS:St S w0 w os) (hi:os[i]? = some (own e v l)) (hg:aw l j=some A)
  (V:e.cells t=(e.cells A).take k++us++(e.cells A).drop (k+us.length)) (R:Nat.ble (k+us.length) e.sz=true) :
  OpY P n L w ⟨none,.store T x y,ty,pos,after,none⟩ (fun w'=>St S w0 w' (os.set i (own e v (l.set j.toNat t)))):=by
 have X:=hS.ok _ (bd hi)
 obtain⟨_,Y,Z⟩:=fO hg
 have b7:=ao R
 have ab:∀q∈us,q.oneCell'=true:=fun q G=>e.one t q (by rw[V]; simp[G])
 rcases X.2 with⟨rfl,hn⟩ | ⟨g,I,z,T',rfl,ad,J,N,ap,b8,B⟩
 ·omega
 ·have hm:(j.toNat+1)*e.sz<=l.length*e.sz:=aT _ Y
  have bx:(j.toNat+1)*e.sz=j.toNat*e.sz+e.sz:=by rw[aU,cy]
  have b9:l.length*e.sz<=I*e.sz:=aT _ N
  have b2:(ixA (.slice (some ⟨g,0,none⟩) l.length I) e.sz j.toNat).add k=⟨g,j.toNat*e.sz+k,none⟩:=by simp[ixA,iS]
  rw[b2]at hx
  cases G:P.info? T with
  | none=>simp[G]at hT
  | some inf=>
   have hs:inf.size=us.length:=by simpa [G] using hT
   have O:=iZ P g (j.toNat*e.sz+k) T' us 0 z w J (by omega) ab
   simp only[bm]at O
   have b3:u.cells.size=us.length:=by rw[<-hu]; simp
   refine tq _ (fun a ha=>?_) (hS.set hi (Fr.setRow w g (z.toList.take (j.toNat*e.sz+k)++us++z.toList.drop (j.toNat*e.sz+k+us.length)).toArray) (o':=own e _ _) ⟨e.fl_length _,.inr ⟨g,I,_,T',by simp,ad,J.set _ (by simp; omega),by simpa using N,ap,?_,?_⟩⟩ fun k R=>.inl R)
   ·simp[execOp,ha.ev hx,ha.ev hy,Instr.storeAt,Instr.sureAddr,storeVar,sizeOf,typeInfo,G,hs,hu,b3,O]
   ·simp; omega
   ·rw[dJ,Pv e l _ t Y,V,<-B]
    have ce:(e.cells A).length=e.sz:=e.len A
    have U:e.cells A=(z.toList.drop (j.toNat*e.sz)).take e.sz:=by
     apply iY
     intro q
     rw[bR]
     split
     ·rename_i b4
      have h1:=e.fl_get l j.toNat A Z q b4
      rw[<-h1,<-B,bR,ag (by omega),dL]
     ·rw[c9 (by omega)]
    rw[U]
    simp only[bx]
    exact LX z.toList us (j.toNat*e.sz) k e.sz (l.length*e.sz) (by simp; omega) (by omega) (by omega)
theorem Au {T E:TypeId} {m:Nat} {y:List (Nat×Operand)} {vs:List (Nat×Value×List Value)} {τ:Type} {e:Enc τ} {l:List τ} {z:Value} {bytes:Nat} (hT:P.underlying T=some (.slice E)) (hE:TI P E z e.sz bytes)
  (A:(y.map fun p=>(L.ev p.2).map fun v=>(p.1,v))=vs.map (fun p=>some (p.1,p.2.1))) (hc:oE vs) (hl:l.length=m)
  (hf:nQ ((List.range m).map fun i=>(i*e.sz,e.sz)) ((List.range (m*e.sz)).map (fun i=>z.cells[i%z.cells.size]!)) vs=some (e.fl l)) (J:0<m*e.sz) (Y:m*e.sz<=16777216) (hS:St S w0 w os) :
  OpX P n L w ⟨d,.buildSlice T m y.toArray,ty,pos,after,none⟩ (fun v w'=>St S w0 w' (own e v l :: os)):=by
 obtain⟨B,hi,N,hs,hb⟩:=hE.get
 have G:=e.fl_length l
 have Z:m<=m*e.sz:=eJ _ (eF fun h=>by rw[h]at J; simp at J)
 refine iH (.slice (some ⟨w.heap.size,0,none⟩) m m) (w.alloc (.cells (e.fl l).toArray E)) (fun a ha=>?_) ?_
 ·have R:y.map (fun p=>(p.1,a.eval p.2))=vs.map (fun p=>(p.1,p.2.1)):=by
   clear hc hf
   induction y generalizing vs with
   | nil=>cases vs <;> simp_all
   | cons p r ih=>
    cases vs with
    | nil=>simp at A
    | cons v s=>
     simp only[db,eQ]at A
     obtain⟨I,U⟩:=A
     cases hp:L.ev p.2 with
     | none=>rw[hp]at I; cases I
     | some u=>
      rw[hp]at I
      simp only[bO,dR]at I
      simp[ha.ev hp,I,ih U]
  have j:=vT (place:=fun i=>some (i*B.size,B.size)) (pl:=(List.range m).map fun i=>(i*e.sz,e.sz)) (fun i x hx=>by
   rw[fF]at hx
   by_cases hm:i<m
   ·rw[List.getElem?_range hm]at hx; rw[hs]; simpa using hx
   ·rw[c9 (by simp; omega)]at hx; cases hx) vs _ _ (qd hc) hf
  have V:=run_buildSlice (P:=P) w T E m (y.toArray.map fun x=>(x.1,a.eval x.2)) (e.fl l).toArray B z hT hi N (by rw[hs]; omega) (by rw[hs]; omega) (by
   have:(y.toArray.map fun x=>(x.1,a.eval x.2)).toList=vs.map (fun p=>(p.1,p.2.1)):=by simp[R]
   rw[this]
   have O:((List.range (m*e.sz)).map (fun i=>z.cells[i%z.cells.size]!)).toArray=(Array.range (m*e.sz)).map (z.cells[·%z.cells.size]!):=by
    apply Array.ext'; simp
   rw[O]at j
   rw[hs]at j ⊢
   exact j)
  simp only[execOp,Sem.run_bind,V,Result.andThen_ok]; rfl
 ·refine hS.push (Fr.alloc _ _ _) (o:=own e _ _) ?_ ?_
  ·refine⟨e.fl_length _,.inr ⟨w.heap.size,m,(e.fl l).toArray,E,?_,hS.fresh,Row.new w _ _,?_,?_,?_,?_⟩⟩
   ·rw[hl]
   ·omega
   ·simp[maxLen]; omega
   ·simp[G,hl]
   ·simp only[]
    rw[aA (by rw[G]; exact ax _)]
  ·intro k X
   simp[OE.blk,Value.ownBlock]at X
   omega
theorem St.trunc {τ:Type} {e:Enc τ} {v:Value} {l:List τ} {i k:Nat} (h:St S w0 w os) (hi:os[i]? = some (own e v l)) (O:k<=l.length):St S w0 w (os.set i (own e (slV v e.sz 0 k) (l.take k))):=by
 have B:=h.ok _ (bd hi)
 have y:(l.take k).length=k:=by simp; omega
 refine h.set hi (o':=own e _ _) (Fr.refl _ _) ⟨e.fl_length _,?_⟩ ?_
 ·rcases B.2 with⟨rfl,hn⟩ | ⟨g,j,G,T,rfl,I,hg,R,J,N,z⟩
  ·left
   have:k=0:=by omega
   subst this
   simp[slV]
  ·right
   refine⟨g,j,G,T,?_,I,hg,by omega,J,N,?_⟩
   ·rw[y]
    by_cases hc:j=0
    ·simp[slV,hc]
    ·simp[slV,hc,Addr.add]
   ·rw[y,e.fl_take,<-z,List.take_take]
    congr 1
    have:=aT e.sz O
    omega
 ·intro q A
  left
  rcases B.2 with⟨rfl,hn⟩ | ⟨g,j,G,T,rfl,_⟩
  ·simp[OE.blk,slV,Value.ownBlock]at A
  ·simp only[OE.blk]at A ⊢
   by_cases hc:j=0
   ·simpa [slV,hc,Value.ownBlock] using A
   ·simpa [slV,hc,Value.ownBlock,Addr.add] using A
def EqF (P:Program) (xs ys:Array Value) (fs:List Field) (b:Bool):Prop:=∀(k:Nat) (w:World),(Op.eqFields (k+1) xs ys fs).run P w=.ok b w
theorem NE {xs j:Array Value}:EqF P xs j [] true:=fun k w=>by simp[Op.eqFields]
theorem q6 {T:TypeId} {D:TypeDesc} {xs:Array Value} {off:Nat} {u:Value} (hT:P.underlying T=some D) (k:(match D with | .struct _ | .array _ _=>true | _=>false)=false) (hu:xs[off]? = some u) (w:World):(part T xs off).run P w=.ok u w:=by
 have j:(isAgg T).run P w=.ok false w:=by
  unfold isAgg
  rw[Sem.run_bind,run_underlying hT w]
  cases D <;> simp_all
 simp[part,j,hu]
theorem EY {xs j : Array Value} {f : Field} {y : List Field} {k : IntKind} {a b : Int} {r : Bool} (hn : (f.name != "_") = true) (hT : P.underlying f.type = some (.int k)) (hx : xs[f.offset]? = some (.int k a)) (A : j[f.offset]? = some (.int k b)) (h : EqF P xs j y r) :
  EqF P xs j (f :: y) ((a == b)&&r):=fun d w=>by
 have z : f.name ≠ "_" := by simpa using hn
 simp only[Op.eqFields,z,ne_eq,iW,al,Sem.run_bind,q6 hT rfl hx,q6 hT rfl A,Result.andThen_ok,run_equalIn_int w d _ k k a b hT]
 cases hab:(a == b) <;> simp[h d w]
theorem PA {xs j : Array Value} {f : Field} {k : List Field} {a b : UInt64} {r : Bool} (hn : (f.name != "_") = true) (hT : P.underlying f.type = some (.int .u64)) (hx : xs[f.offset]? = some (v64 a)) (y : j[f.offset]? = some (v64 b)) (h : EqF P xs j k r) :
  EqF P xs j (f :: k) ((a == b)&&r):=by
 have z:=EY hn hT hx y h
 have A:((a.toNat:Int) == (b.toNat:Int))=(a == b):=by
  by_cases hab:a=b
  ·subst hab; simp
  ·have:¬(a.toNat:Int)=(b.toNat:Int):=fun e=>hab (cx.1 (by omega))
   rw[cR.2 this,cR.2 hab]
 rwa [A]at z
theorem QH {xs j : Array Value} {f : Field} {k : List Field} {a b : L01} {r : Bool} (hn : (f.name != "_") = true) (hT : P.underlying f.type = some .string) (hx : xs[f.offset]? = some (vS a)) (z : j[f.offset]? = some (vS b)) (h : EqF P xs j k r) :
  EqF P xs j (f :: k) ((a == b)&&r):=fun d w=>by
 have y : f.name ≠ "_" := by simpa using hn
 simp only[Op.eqFields,y,ne_eq,iW,al,Sem.run_bind,q6 hT rfl hx,q6 hT rfl z,Result.andThen_ok,run_equalIn_string w d _ ⟨⟨a⟩⟩ ⟨⟨b⟩⟩ hT,sk]
 cases hab:(a == b) <;> simp[h d w]
theorem agx {op:BinOp} {T:TypeId} {x y:Value} {b b':Bool} (h:cj P op T x y (vB b)) (hb:b=b'):cj P op T x y (vB b'):=hb ▸ h
theorem O1 {T:TypeId} {k:Array Field} {xs j:Array Value} {b:Bool} (hT:P.underlying T=some (.struct k)) (hp:P.stoodInHeld T=false) (hg:P.eqGuardType P.depth T=false) (h:EqF P xs j k.toList b):cj P .neq T (.agg xs) (.agg j) (vB (!b)):=fun x y w=>by
 have hf:P.fieldsOf T=k:=by simp[Program.fieldsOf,hT]
 have z:P.underlying T=some (.struct (P.fieldsOf T)):=by rw[hf]; exact hT
 simp only[Sem.run_bind,run_eqGuard_agg w .neq T x y xs j hg,Result.andThen_ok,run_neq_struct w T xs j,run_equalIn_agg w 9999 T xs j z hp,hf,h 9998 w]
end
end Go.Gk
end
section
namespace Go.Gk
open Go Go.RowKit Go.Lib
section
variable {P:Program} {n:Nat} {L:Env} {w w' w0:World} {Q:Exit->Act->World->Prop} {S:L02} {os os0 os1:List OE}
variable {d:Option Tmp} {ty:TypeId} {pos:String} {after:Array Edge}
def eu (os:List OE):L02:=os.filterMap OE.blk
theorem dO {k:Nat}:k∈eu os↔∃o∈os,o.blk=some k:=by simp[eu,List.mem_filterMap]
theorem OE.ok.re {S y:L02} {B z:Nat} {o:OE} (h:o.ok S B w) (hb:∀k,o.blk=some k->fre S B k->fre y z k):o.ok y z w:=by
 cases o with
 | sl v sz n cs=>
  refine⟨h.1,?_⟩
  rcases h.2 with hn | ⟨g,A,G,T,rfl,hf,rest⟩
  ·exact .inl hn
  ·exact .inr ⟨g,A,G,T,rfl,hb g rfl hf,rest⟩
 | rd v sz n cs=>
  obtain⟨hl,a,c,rfl,hc,hx⟩:=h
  refine⟨hl,a,c,rfl,hc,fun hn=>?_⟩
  obtain⟨b,off,rfl,I,hf,j⟩:=hx hn
  exact⟨b,off,rfl,I,hb b (by simp[OE.blk,hn,Value.ownBlock]) hf,j⟩
 | bx b cs=>exact⟨hb b rfl h.1,h.2⟩
theorem St.give (h:St S w0 w (os0++os)):St (eu os0) w w os0:=
 ⟨Fr.refl _ _,fun o j=>(h.ok o (bW _ j)).re fun k y _=>.inr (dO.2 ⟨o,j,y⟩),(cd.1 h.dj).1⟩
theorem St.back (h:St S w0 w (os0++os)) (z:St (eu os0) w w' os1):St S w0 w' (os1++os):=by
 have A:∀k,fre (eu os0) w.heap.size k->fre S w0.heap.size k:=by
  intro k j
  rcases j with j | j
  ·exact .inl (ba h.fr.size j)
  ·obtain⟨o,y,hb⟩:=dO.1 j
   exact ((h.ok o (bW _ y)).lt hb).2
 have hx:=(cd.1 h.dj).2
 refine⟨h.fr.step z.fr fun k j=>A k (.inr j),?_,?_⟩
 ·intro o y
  rcases bG.1 y with y | y
  ·exact (z.ok o y).re fun k _ hf=>A k hf
  ·refine (h.ok o (bC _ y)).fr z.fr fun k j hb=>?_
   obtain⟨p,hp,G⟩:=dO.1 j
   exact hx.2 p hp o y k G hb
 ·refine cd.2 ⟨z.dj,hx.1,fun o y p hp k j B=>?_⟩
  have O:=((h.ok p (bC _ hp)).lt B).1
  rcases ((z.ok o y).lt j).2 with I | I
  ·omega
  ·obtain⟨q,N,J⟩:=dO.1 I
   exact hx.2 q N p hp k J B
theorem RP.give {τ:Type} {e:Enc τ} {v:Value} {l:List τ} (h:RP S w0 e v l) (hz:0<e.sz) (hS:St S w0 w (os0++os)):RP (eu os0) w e v l:=by
 refine⟨h.now hS.fr,fun hl k G hb=>?_⟩
 obtain⟨o,I,z⟩:=dO.1 G
 have j:=((hS.ok o (bW _ I)).lt z).2
 obtain⟨a,c,rfl,hc,J⟩:=h.1
 obtain⟨b,off,rfl,y⟩:=J hl
 have A:b=k:=by simpa [Value.ownBlock] using hb
 subst A
 rcases j with j | j
 ·have B:0<(e.fl l).length:=by
   rw[e.fl_length]
   exact Nat.mul_pos (fb.2 hl) hz
  have:=mh (y 0 _ (av B))
  simp only at this
  omega
 ·exact h.2 hl b j rfl
theorem St.giveO {τ:Type} {e:Enc τ} {v:Value} {l:List τ} (hS:St S w0 w (os0++os)) (i:Nat) (hi:os[i]? = some (own e v l)):RP (eu os0) w e v l:=by
 have j:=bd hi
 refine⟨(hS.ok _ (bC _ j)).ro,fun hl k z hb=>?_⟩
 obtain⟨o,A,y⟩:=dO.1 z
 exact (cd.1 hS.dj).2.2 o A _ j k y hb
theorem RP.tk {τ:Type} {e:Enc τ} {v:Value} {l:List τ} (h:RP S w e v l) {k:Nat} (j:k<=l.length):RP S w e (slV v e.sz 0 k) (l.take k):=h.subh j
theorem OE.ok.red {S:L02} {B:Nat} {τ:Type} {e:Enc τ} {v:Value} {l:List τ} (h:(own e v l).ok S B w):(red e v l).ok S B w:=by
 refine⟨h.1,?_⟩
 rcases h.2 with⟨rfl,hn⟩ | ⟨g,z,G,T,rfl,hf,hg,A,I,J,k⟩
 ·exact⟨none,0,by rw[hn],by rw[hn]; exact ax _,fun h=>absurd hn h⟩
 ·refine⟨_,z,rfl,A,fun _=>⟨g,0,rfl,hg.lt,hf,fun j u y=>?_⟩⟩
  rw[<-k,bR]at y
  split at y
  ·rw[bk,hg.cell j]
   simpa using y
  ·cases y
theorem St.freeze {τ:Type} {e:Enc τ} {v:Value} {l:List τ} {i:Nat} (h:St S w0 w os) (hi:os[i]? = some (own e v l)):St S w0 w (os.set i (red e v l)):=by
 refine h.set hi (o':=red e v l) (Fr.refl _ _) (h.ok _ (bd hi)).red fun k j=>.inl ?_
 simp only[OE.blk]at j ⊢
 split at j
 ·cases j
 ·exact j
theorem St.rnil {τ:Type} (e:Enc τ) (h:St S w0 w os):St S w0 w (red e (.slice none 0 0) ([]:List τ) :: os):=
 h.push (Fr.refl _ _) ⟨by simp,none,0,rfl,ax _,fun h=>absurd rfl h⟩ (by simp[OE.blk])
def sG (u:Value) (o:Option (List Value)):Prop:=match o with
 | none=>u=.pointer none
 | some _=>∃b,u=pB b 0
def pa (u:Value) (o:Option (List Value)):List OE:=match o,u with
 | some cs,.pointer (some a)=>[.bx a.block cs]
 | _,_=>[]
theorem FE {T E:TypeId} (hT:P.underlying T=some (.pointer E)) (b off k:Nat) (w:World):(Op.equalIn (k+1) T (pB b off) (.pointer none)).run P w=.ok false w:=by
 simp[Op.equalIn,run_underlying hT]
theorem Ku {T E:TypeId} (hT:P.underlying T=some (.pointer E)) (k:Nat) (w:World):(Op.equalIn (k+1) T (.pointer none) (.pointer none)).run P w=.ok true w:=by
 simp[Op.equalIn,run_underlying hT]
theorem Bd {T E:TypeId} (hT:P.underlying T=some (.pointer E)) (b off:Nat) (w:World):(Op.equal T (pB b off) (.pointer none)).run P w=.ok false w:=FE hT b off 9999 w
theorem HP {T E:TypeId} (hT:P.underlying T=some (.pointer E)) (w:World):(Op.equal T (.pointer none) (.pointer none)).run P w=.ok true w:=Ku hT 9999 w
theorem OS {T E:TypeId} (hT:P.underlying T=some (.pointer E)) (b off:Nat):cj P .neq T (pB b off) (.pointer none) (vB true):=fun _ _ w=>by
 simp[eqGuard,binOp,Bd hT]
theorem Pc {T E:TypeId} (hT:P.underlying T=some (.pointer E)):cj P .neq T (.pointer none) (.pointer none) (vB false):=fun _ _ w=>by
 simp[eqGuard,binOp,HP hT]
theorem G6 {T E:TypeId} (hT:P.underlying T=some (.pointer E)) (b off:Nat):cj P .eql T (pB b off) (.pointer none) (vB false):=fun _ _ w=>by
 simp[eqGuard,binOp,Bd hT]
theorem H8 {T E:TypeId} (hT:P.underlying T=some (.pointer E)):cj P .eql T (.pointer none) (.pointer none) (vB true):=fun _ _ w=>by
 simp[eqGuard,binOp,HP hT]
theorem GE {T E:TypeId} (hT:P.underlying T=some (.slice E)) (a:Option Addr) (n c k:Nat) (w:World):(Op.equalIn (k+1) T (.slice a n c) (.slice none 0 0)).run P w=.ok a.isNone w:=by
 cases a <;> simp[Op.equalIn,run_underlying hT]
theorem En {T E:TypeId} (hT:P.underlying T=some (.slice E)) (a:Option Addr) (n c:Nat) (w:World):(Op.equal T (.slice a n c) (.slice none 0 0)).run P w=.ok a.isNone w:=GE hT a n c 9999 w
theorem AN {T E:TypeId} {a:Option Addr} {n c:Nat} (hT:P.underlying T=some (.slice E)):cj P .neq T (.slice a n c) (.slice none 0 0) (vB (!a.isNone)):=fun _ _ w=>by
 simp[eqGuard,binOp,En hT]
theorem LH {T E:TypeId} {a:Option Addr} {n c:Nat} (hT:P.underlying T=some (.slice E)):cj P .eql T (.slice a n c) (.slice none 0 0) (vB a.isNone):=fun _ _ w=>by
 simp[eqGuard,binOp,En hT]
theorem tL (m:L01):strCells ⟨⟨m⟩⟩=e8.fl m:=by rw[wu]; rfl
theorem nu (t u ty e:TypeId) (i:TypeInfo) (I:P.underlying t=some (.slice e)) (hu:P.underlying u=some .string) (hi:P.info? e=some i) (G:i.size=1)
  (g j y:Nat) (k:Array Value) (T:TypeId) (hg:Row w g k T) (s:ByteArray)
  (z:j+s.size<=y) (B:j+s.size<=k.size) :
  (Builtin.append_ #[t,u] ty #[.slice (some ⟨g,0,none⟩) j y,.string s]).run P w =
   .ok (.slice (some ⟨g,0,none⟩) (j+s.size) y) (w.setRow g (k.toList.take j++strCells s++k.toList.drop (j+s.size)).toArray):=by
 have hf:=run_firstCells_string (P:=P) w 1 s
 have A:=iZ P g j T (strCells s) 0 k w hg (by simpa [strCells_length] using B) (strCells_oneCell s)
 simp only[bm,strCells_length]at A
 simp[Builtin.append_,run_underlying I,run_underlying hu,sizeOf,typeInfo,hi,G,Builtin.lenOf,z,hf,Addr.add_lit,A]
theorem BJ {j:Array Value} {a k:Nat} {us:List Value} (h:a+us.length<=j.size) (y:k=a+us.length):(j.toList.take a++us++j.toList.drop k).toArray.size=j.size:=by
 subst y
 simp only[eo,aQ,aJ,ca,fc]
 omega
theorem tz {T U E ty:TypeId} {v:Value} {l m:L01} {B:Nat} (hT:P.underlying T=some (.slice E)) (hU:P.underlying U=some .string) (hE:TI P E (.int .u8 0) 1 1)
  (ho:(own e8 v l).ok S B w) (hB:B<=w.heap.size) (hb:l.length+m.length<=225000000000000 / 1) :
  ∃v' w',(Builtin.append_ #[T,U] ty #[v,vS m]).run P w=.ok v' w'/\(own e8 v' (l++m)).ok S B w'/\Fr (own e8 v l).blk.toList w w'/\(∀k,(own e8 v' (l++m)).blk=some k->(own e8 v l).blk=some k\/w.heap.size<=k):=by
 obtain⟨O,hi,bx,hs,b2⟩:=hE.get
 have y:(⟨⟨m⟩⟩:ByteArray).size=m.length:=rfl
 have I:∀x:L01,(e8.fl x).length=x.length:=fun x=>by rw[e8.fl_length]; exact cE _
 by_cases hm:m=[]
 ·subst hm
  have b3:(strCells ⟨⟨[]⟩⟩)=[]:=rfl
  rcases ho.2 with⟨rfl,hn⟩ | ⟨g,z,J,V,rfl,X,hg,Y,Z,R,A⟩
  ·have hl:l=[]:=bp hn
   subst hl
   refine⟨.slice none 0 0,w,?_,by simpa using ho,Fr.refl _ _,fun k N=>.inl (by simpa using N)⟩
   have hf:=run_firstCells_string (P:=P) w 1 ⟨⟨[]⟩⟩
   rw[y]at hf
   simp only[dK]at hf
   simp[Builtin.append_,run_underlying hT,run_underlying hU,sizeOf,typeInfo,hi,hs,Builtin.lenOf,y,hf]
  ·have ab:z<=J.size:=by simpa [e8] using R
   have G:=nu (P:=P) (w:=w) T U ty E O hT hU hi hs g l.length z J V hg ⟨⟨[]⟩⟩ (by rw[y]; simpa using Y) (by rw[y]; simp; omega)
   refine⟨_,_,G,⟨e8.fl_length _,.inr ⟨g,z,_,V,by simp[y],X,hg.set _ (BJ (by simp[y,strCells_length,e8]at R ⊢; omega) (by simp[y,strCells_length,e8])),by simpa using Y,Z,?_,?_⟩⟩,Fr.setRow w g _,fun k N=>.inl (by simpa [OE.blk,Value.ownBlock] using N)⟩
   ·simp only[b3,y,bP,dK,bm,cD]
    simpa [e8] using ab
   ·simp only[b3,y,bP,dK,bm,cD]
    exact A
 ·have b9:0<m.length:=fb.2 hm
  rcases ho.2 with⟨rfl,hn⟩ | ⟨g,z,J,V,rfl,X,hg,Y,Z,R,A⟩
  ·have hl:l=[]:=bp hn
   subst hl
   simp only[dK,bk]at hb
   have G:=Go.run_append_nil_string (P:=P) w T U ty E O (.int .u8 0) hT hU hi bx ⟨⟨m⟩⟩ (by rw[y]; omega) (by rw[y]; omega) (by rw[y,b2]; omega)
   have e1:((⟨⟨m⟩⟩:ByteArray).data.map fun b=>Value.int .u8 b.toNat)=(e8.fl m).toArray:=by
    rw[wu]; simp
   rw[e1,y]at G
   refine⟨_,_,G,⟨e8.fl_length _,.inr ⟨w.heap.size,grownCap w m.length 0 E,_,E,?_,.inl hB,Row.new w.drew _ _,?_,?_,?_,?_⟩⟩,(Fr.drew _ w).trans (Fr.alloc _ _ _),?_⟩
   ·simp
   ·simp; exact grownCap_ge w m.length 0 E
   ·exact grownCap_le_maxLen w m.length 0 E (by simp[maxLen]; omega)
   ·have:=grownCap_ge w m.length 0 E
    have ac:(Value.int IntKind.u8 0).cells.size=1:=rfl
    simp only[iT,eo,size_zeroCells,ac,I]
    simp only[e8]
    omega
   ·simp only[bN,ij,List.toList_toArray]
    rw[<-e8.fl_length]
    exact ia
   ·intro k N
    simp[OE.blk,Value.ownBlock]at N
    right; omega
  ·by_cases hroom:l.length+m.length<=z
   ·have ab:z<=J.size:=by simpa [e8] using R
    have G:=nu (P:=P) (w:=w) T U ty E O hT hU hi hs g l.length z J V hg ⟨⟨m⟩⟩ (by rw[y]; exact hroom) (by rw[y]; omega)
    rw[tL,y]at G
    refine⟨_,_,G,⟨e8.fl_length _,.inr ⟨g,z,_,V,by simp,X,hg.set _ (BJ (by rw[I]; omega) (by rw[I])),by simpa using hroom,Z,?_,?_⟩⟩,Fr.setRow w g _,fun k N=>.inl (by simpa [OE.blk,Value.ownBlock] using N)⟩
    ·simp only[eo,aQ,aJ,ca,fc,I]
     simp only[e8]
     omega
    ·have ht:J.toList.take l.length=e8.fl l:=by simpa [e8] using A
     rw[ht,<-e8.fl_append,<-e8.fl_length]
     exact ia
   ·have ad:∀j x,(e8.fl l)[j]? = some x->w.cell? ((⟨g,0,none⟩:Addr).add j)=some x:=fun j x hj=>by
     rw[iS,bk,hg.cell j]
     rw[<-A,bR]at hj
     split at hj
     ·simpa using hj
     ·cases hj
    have G:=run_append_grow_string (P:=P) w T U ty E O (.int .u8 0) hT hU hi bx ⟨g,0,none⟩ l.length z (e8.fl l) (by rw[hs,I]; omega) ad ⟨⟨m⟩⟩ (by rw[y]; omega) (by rw[y]; omega)
     (by rw[y,b2]; exact x9 (by omega) (by omega) (by omega))
    rw[tL,y]at G
    refine⟨_,_,G,⟨e8.fl_length _,.inr ⟨w.heap.size,grownCap w (l.length+m.length) z E,_,E,?_,.inl hB,Row.new w.drew _ _,?_,?_,?_,?_⟩⟩,(Fr.drew _ w).trans (Fr.alloc _ _ _),?_⟩
    ·simp
    ·simp; exact grownCap_ge w (l.length+m.length) z E
    ·exact grownCap_le_maxLen w (l.length+m.length) z E (by simp[maxLen]; omega)
    ·have:=grownCap_ge w (l.length+m.length) z E
     have ac:(Value.int IntKind.u8 0).cells.size=1:=rfl
     simp only[iT,eo,size_zeroCells,ac,I]
     simp only[e8]
     omega
    ·simp only[ij,aN]
     rw[<-aN,<-e8.fl_append,<-e8.fl_length]
     exact ia
    ·intro k N
     simp[OE.blk,Value.ownBlock]at N
     right; omega
theorem yL {x y:Operand} {T U E:TypeId} {v:Value} {l m r:L01} {i:Nat} (hT:P.underlying T=some (.slice E)) (hU:P.underlying U=some .string) (hE:TI P E (.int .u8 0) 1 1)
  (hx:L.ev x=some v) (k:L.ev y=some (vS m)) (hS:St S w0 w os) (hi:os[i]? = some (own e8 v l)) (hg:apO 1 l m=some r) :
  OpX P n L w ⟨d,.call ⟨.builtin .append,#[x,y],#[T,U]⟩,ty,pos,after,none⟩ (fun j w'=>St S w0 w' (os.set i (own e8 j r))):=by
 obtain⟨rfl,hb⟩:=q9 hg
 obtain⟨j,w',z,A,B,G⟩:=tz (ty:=ty) (m:=m) hT hU hE (hS.ok _ (bd hi)) hS.fr.size (by omega)
 refine iH j w' (fun a ha=>?_) (hS.set hi B A G)
 simp[execOp,resolve,invoke,builtin,ha.ev hx,ha.ev k,z]
theorem HW {ops:Array Oper} {C D:World->Prop} {fl:Nat->Bool} {i:Nat} {r:L02} {d:Nat} {op:Op} {v:Value} (j:C w) (k:ops[i]? = some ⟨some d,op,ty,pos,after,none⟩) (hf:fl i=false)
  (y:OpV P n L w ⟨some d,op,ty,pos,after,none⟩ v w) (hd:Nat.blt d n=true) (h:lxE P n ops C D Q fl r ((d,v) :: L) w):lxE P n ops C D Q fl (i :: r) L w:=
 vP j k hf (Φ:=fun z w'=>z=v/\w'=w) (iH v w y ⟨rfl,rfl⟩) hd (by rintro _ _ ⟨rfl,rfl⟩; exact h)
theorem xQ {T:TypeId} {D:TypeDesc} {b:Nat} {us:List Value} (hT:P.underlying T=some D) (z:(match D with | .struct _ | .array _ _=>true | _=>false)=true)
  (hi:(P.info? T).map (·.size)=some us.length) (hc:∀j u,us[j]? = some u->w.cell? ⟨b,0+j,none⟩=some u):(loadVar T ⟨b,0,none⟩).run P w=.ok (.agg us.toArray) w:=by
 have k:(isAgg T).run P w=.ok true w:=by
  unfold isAgg
  rw[Sem.run_bind,run_underlying hT w]
  cases D <;> simp_all
 cases hq:P.info? T with
 | none=>simp[hq]at hi
 | some i=>
  have hs:i.size=us.length:=by simpa [hq] using hi
  have hl:(loadCells ⟨b,0,none⟩ us.length).run P w=.ok us.toArray w:=
   run_loadCells_list (P:=P) w ⟨b,0,none⟩ us (fun j v y=>by rw[ry]; exact hc j v y)
  simp[loadVar,k,sizeOf,typeInfo,hq,hs,hl]
def RV (P:Program) (L:Env) (w:World):ResultVar->Value->Prop
 | .tmp t,v=>L.get t=some v
 | .cell t T,v=>∃b,L.get t=some (pB b 0)/\(loadVar T ⟨b,0,none⟩).run P w=.ok v w
theorem jb (b off:Nat) (w:World):(asAddr (pB b off)).run P w=.ok ⟨b,off,none⟩ w:=rfl
theorem Ii {fn:Func} {y:ResultVar} {z:Value} {φ:Value->World->Prop} (j:fn.results=#[y]) (A:RV P L w y z) (h:φ z w):QE n (bodyPost P fn (Ret φ)) .ret L w:=fun a ha=>by
 refine⟨ha.defers,z,?_,h⟩
 cases y
 ·have k:=ha.get _ _ A
  simp[results,j,k]
 ·obtain⟨b1,k,B⟩:=A
  have k:=ha.get _ _ k
  simp[results,j,k,B,jb]
theorem Qe {fn:Func} {B G:ResultVar} {I J:Value} {φ:Value->World->Prop} (y:fn.results=#[B,G]) (z:RV P L w B I) (A:RV P L w G J) (h:φ (.tuple #[I,J]) w):QE n (bodyPost P fn (Ret φ)) .ret L w:=fun a ha=>by
 refine⟨ha.defers,.tuple #[I,J],?_,h⟩
 cases B <;> cases G
 ·have j:=ha.get _ _ z
  have k:=ha.get _ _ A
  simp[results,y,j,k]
 ·have j:=ha.get _ _ z
  obtain⟨R,k,N⟩:=A
  have k:=ha.get _ _ k
  simp[results,y,j,k,N,jb]
 ·obtain⟨b1,j,O⟩:=z
  have j:=ha.get _ _ j
  have k:=ha.get _ _ A
  simp[results,y,j,k,O,jb]
 ·obtain⟨b1,j,O⟩:=z
  have j:=ha.get _ _ j
  obtain⟨R,k,N⟩:=A
  have k:=ha.get _ _ k
  simp[results,y,j,k,O,N,jb]
def SHP (v:Value) (m:Nat):Prop:=∃a c,v=.slice a m c/\m<=c/\(m≠0->∃b off,a=some ⟨b,off,none⟩)
theorem RO.shp {τ:Type} {e:Enc τ} {v:Value} {l:List τ} (h:RO w e v l):SHP v l.length:=by
 obtain⟨a,c,rfl,hc,j⟩:=h
 refine⟨a,c,rfl,hc,fun hn=>?_⟩
 obtain⟨b,off,k,_⟩:=j (by rintro rfl; simp at hn)
 exact⟨b,off,k⟩
theorem FP {x y:Operand} {T E:TypeId} {k:IntKind} {i:Int} {τ:Type} {e:Enc τ} {v:Value} {l:List τ} {t:τ} {z:Value} {bytes:Nat} (hT:P.underlying T=some (.slice E)) (hE:TI P E z e.sz bytes)
  (hx:L.ev x=some v) (j:L.ev y=some (.int k i)) (h:SHP v l.length) (hg:aw l i=some t) :
  OpV P n L w ⟨d,.indexAddr T x y,ty,pos,after,none⟩ (pP (ixA v e.sz i.toNat)) w:=fun a ha=>by
 obtain⟨A,J,_⟩:=fO hg
 obtain⟨q,c,rfl,hc,B⟩:=h
 obtain⟨b,off,rfl⟩:=B (by omega)
 obtain⟨I,hi,_,hs,_⟩:=hE.get
 have G:i<l.length:=by omega
 simp[execOp,ha.ev hx,ha.ev j,Instr.indexAt,asIntOf,run_underlying hT,A,G,sizeOf,typeInfo,hi,hs,ixA]
theorem zX {τ:Type} {l y:List τ} {i:Int} {x t:τ} (j:l.set i.toNat t=y) (hx:aw l i=some x):aw y i=some t:=by
 obtain⟨k,z,_⟩:=fO hx
 subst j
 simp[aw,k,z]
def eWv (vb:Value) (o:Option (Nat×Nat)):Value:=match o with
 | none=>.slice none 0 0
 | some p=>match vb with
  | .slice a _ c=>.slice (if c=p.1 then a else a.map (·.add (p.1*1))) (p.2 - p.1) (c - p.1)
  | _=>.slice none 0 0
def eW (vb:Value):Enc (Option (Nat×Nat)):=⟨1,fun o=>[eWv vb o],fun _=>rfl,fun o u h=>by
 simp at h; subst h
 cases o with
 | none=>rfl
 | some p=>cases vb <;> rfl⟩
theorem wO {v:Value} {l:L01} (h:RO w e8 v l) (lo hi:Nat):slV v e8.sz lo hi=eWv v (some (lo,hi)):=by
 obtain⟨a,c,rfl,_⟩:=h
 rfl
theorem RP.eW {v:Value} {l:L01} {o:Option (Nat×Nat)} {c:Nat×Nat} (h:RP S w e8 v l) (j:o=some c) (k:c.1<=c.2) (y:c.2<=l.length):RP S w e8 (eWv v o) (vwL l c):=by
 subst j
 rw[<-wO h.1]
 exact h.sub k y
theorem RP.eWn {v:Value} {l:L01} (h:RP S w e8 v l) (hl:l≠[]) (o:Option (Nat×Nat)):∃a m c,eWv v o=.slice a m c/\a.isNone=o.isNone:=by
 obtain⟨a,c,rfl,hc,j⟩:=h.1
 obtain⟨b,off,rfl,_⟩:=j hl
 cases o with
 | none=>exact⟨none,0,0,rfl,rfl⟩
 | some p=>
  refine⟨_,_,_,rfl,?_⟩
  split <;> simp
theorem RP.eWne {v:Value} {l:L01} {T E:TypeId} (h:RP S w e8 v l) (hT:P.underlying T=some (.slice E)) (o:Option (Nat×Nat)) (hl:l≠[]):cj P .neq T (eWv v o) (.slice none 0 0) (vB o.isSome):=by
 obtain⟨a,m,c,j,k⟩:=h.eWn hl o
 rw[j]
 have:=AN (P:=P) (T:=T) (E:=E) (a:=a) (n:=m) (c:=c) hT
 rw[k]at this
 cases o <;> exact this
theorem W_sl {x y z:Operand} {T E:TypeId} {k j:IntKind} {lo hi:Int} {v:Value} {l r:L01} {z0:Value} {bytes:Nat} (hT:P.underlying T=some (.slice E)) (hE:TI P E z0 e8.sz bytes)
  (hx:L.ev x=some v) (A:L.ev y=some (.int k lo)) (hz:L.ev z=some (.int j hi)) (h:RO w e8 v l) (hg:slO l lo hi=some r) :
  OpV P n L w ⟨d,.slice T x (some y) (some z) none,ty,pos,after,none⟩ (eWv v (some (lo.toNat,hi.toNat))) w:=by
 have:=PS (n:=n) (d:=d) (ty:=ty) (pos:=pos) (after:=after) hT hE hx A hz h hg
 rwa [wO h]at this
theorem RP.W_sl {v:Value} {l r:L01} {lo hi:Int} (h:RP S w e8 v l) (hg:slO l lo hi=some r):RP S w e8 (eWv v (some (lo.toNat,hi.toNat))) r:=by
 rw[<-wO h.1]; exact h.g_sl hg
theorem td {x y:Operand} {T:TypeId} {p q:Int} (hx:L.ev x=some (vI p)) (j:L.ev y=some (vI q)):OpV P n L w ⟨d,.call ⟨.builtin .min,#[x,y],#[T,T]⟩,ty,pos,after,none⟩ (vI (min p q)) w:=fun a ha=>by
 have k:(if q<p then q else p)=min p q:=by split <;> omega
 have z:(Builtin.min2 (vI p) (vI q)).run P w=.ok (vI (min p q)) w:=by rw[<-k]; rfl
 simp[execOp,resolve,invoke,builtin,Builtin.min_,ha.ev hx,ha.ev j,z]
theorem MQ {x y:Operand} {T:TypeId} {p q:Int} (hx:L.ev x=some (vI p)) (j:L.ev y=some (vI q)):OpV P n L w ⟨d,.call ⟨.builtin .max,#[x,y],#[T,T]⟩,ty,pos,after,none⟩ (vI (max p q)) w:=fun a ha=>by
 have k:(if p<q then q else p)=max p q:=by split <;> omega
 have z:(Builtin.max2 (vI p) (vI q)).run P w=.ok (vI (max p q)) w:=by rw[<-k]; rfl
 simp[execOp,resolve,invoke,builtin,Builtin.max_,ha.ev hx,ha.ev j,z]
theorem St.bxro {τ:Type} {e:Enc τ} {l:List τ} {b:Nat} {cs:List Value} (h:St S w0 w os) (i:Nat) (hi:os[i]? = some (.bx b cs)) (hl:cs=e.fl l):RO w e (.slice (some ⟨b,0,none⟩) l.length l.length) l:=by
 refine⟨_,_,rfl,ax _,fun _=>⟨b,0,rfl,fun j u k=>?_⟩⟩
 rw[bk,h.bxc i hi,hl]
 exact k
theorem QS {x y:Operand} {T E:TypeId} {k:IntKind} {lo:Int} {τ:Type} {e:Enc τ} {l r:List τ} {b:Nat} {z0:Value} {bytes m:Nat} (hT:P.underlying T=some (.array m E)) (hE:TI P E z0 e.sz bytes)
  (hx:L.ev x=some (pB b 0)) (z:L.ev y=some (.int k lo)) (A:l.length=m) (hg:drO l lo=some r) :
  OpV P n L w ⟨d,.slice T x (some y) none none,ty,pos,after,none⟩ (slV (.slice (some ⟨b,0,none⟩) l.length l.length) e.sz lo.toNat l.length) w:=fun a ha=>by
 obtain⟨⟨B,N⟩,_⟩:=lC hg
 obtain⟨J,j,_,hs,_⟩:=hE.get
 have G:lo<=(m:Int):=by omega
 subst A
 have I:slV (.slice (some ⟨b,0,none⟩) l.length l.length) e.sz lo.toNat l.length=.slice (some (if l.length=lo.toNat then ⟨b,0,none⟩ else (⟨b,0,none⟩:Addr).add (lo.toNat*e.sz))) (l.length - lo.toNat) (l.length - lo.toNat):=by
  simp only[slV]
  split <;> rfl
 rw[I]
 simp[execOp,ha.ev hx,ha.ev z,Instr.sliceAt,Instr.sureAddr,run_underlying hT,Instr.sliceBounds,run_sliceBound,B,G,sizeOf,typeInfo,j,hs]
end
end Go.Gk
end
section
namespace Go.Gk
open Go Go.RowKit
section
variable {P:Program} {n:Nat} {L:Env} {w w' w0:World} {Q:Exit->Act->World->Prop} {S:L02} {os os0 os1:List OE}
variable {d:Option Tmp} {ty:TypeId} {pos:String} {after:Array Edge}
theorem J0 {x:Operand} {p:Addr} (hx:L.ev x=some (pP p)):OpV P n L w ⟨d,.nilCheck x,ty,pos,after,none⟩ (pP p) w:=fun a ha=>by
 simp[execOp,ha.ev hx]
theorem AL {T E:TypeId} {τ:Type} {e:Enc τ} {z:Value} {bytes:Nat} (hT:P.underlying T=some (.slice E)) (hE:TI P E z e.sz bytes) (hS:St S w0 w os) :
  OpX P n L w ⟨d,.buildSlice T 0 #[],ty,pos,after,none⟩ (fun v w'=>St S w0 w' (own e v ([]:List τ) :: os)):=by
 obtain⟨A,hi,B,hs,hb⟩:=hE.get
 refine iH (.slice (some ⟨w.heap.size,0,none⟩) 0 0) (w.alloc (.cells #[] E)) (fun a ha=>?_) ?_
 ·have j:(Array.map (fun _:Nat=>(default:Value)) (Array.range 0))=#[]:=Array.eq_empty_of_size_eq_zero (by simp)
  simp[execOp,Instr.buildSlice,run_underlying hT,sizeOf,typeInfo,hi,Instr.fill,newRow,j]
 ·refine hS.push (Fr.alloc _ _ _) (o:=own e _ _) ?_ ?_
  ·exact⟨by simp,.inr ⟨w.heap.size,0,#[],E,rfl,hS.fresh,Row.new w _ _,ax _,by simp[maxLen],by simp,by simp⟩⟩
  ·intro k y
   simp[OE.blk,Value.ownBlock]at y
   omega
def SV.of (v:Value):SV:=match v with
 | .slice a n c=>⟨a,n,c⟩
 | _=>⟨none,0,0⟩
theorem RO.sv {τ:Type} {e:Enc τ} {v:Value} {l:List τ} (h:RO w e v l):(SV.of v).v=v:=by
 obtain⟨a,c,rfl,_⟩:=h; rfl
theorem RO.svrp {τ:Type} {e:Enc τ} {v:Value} {l:List τ} (h:RO w e v l):RP [] w e (SV.of v).v l:=by rw[h.sv]; exact h.rp
theorem RP.sv {τ:Type} {e:Enc τ} {v:Value} {l:List τ} (h:RP S w e v l):RP S w e (SV.of v).v l:=by rw[h.1.sv]; exact h
theorem sK {v:Value} {r:List SV} {vs:List Value} (h:(SV.of v).v=v) (j:eV.fl r=vs):eV.fl (SV.of v :: r)=v :: vs:=by
 rw[<-j]
 show [(SV.of v).v]++eV.fl r=v :: eV.fl r
 rw[h]; rfl
def jD (S:L02) (w:World) {τ:Type} (e:Enc τ):List SV->List (List τ)->Prop
 | [],[]=>True
 | s :: r,l :: m=>RP S w e s.v l/\jD S w e r m
 | _,_=>False
theorem jD.len {τ:Type} {e:Enc τ}:∀{s:List SV} {m:List (List τ)},jD S w e s m->s.length=m.length
 | [],[],_=>rfl
 | _ :: _,_ :: _,h=>by simp[jD.len h.2]
theorem jD.nth {τ:Type} {e:Enc τ}:∀{s:List SV} {m:List (List τ)},jD S w e s m->∀{i:Nat} {l:List τ},m[i]? = some l->∃v,s[i]? = some v/\RP S w e v.v l
 | [],[],_,i,l,hi=>by simp at hi
 | a :: r,b :: m,h,0,l,hi=>by simp at hi; subst hi; exact⟨a,rfl,h.1⟩
 | a :: r,b :: m,h,i+1,l,hi=>by simpa using jD.nth h.2 (by simpa using hi)
theorem jD.get {τ:Type} {e:Enc τ} {s:List SV} {m:List (List τ)} (h:jD S w e s m) {i:Int} {l:List τ} (hi:aw m i=some l):∃v,aw s i=some v/\RP S w e v.v l:=by
 obtain⟨j,_,k⟩:=fO hi
 obtain⟨v,y,z⟩:=h.nth k
 exact⟨v,by simp[aw,j,y],z⟩
theorem LD {x:Operand} {T E:TypeId} {τ:Type} {v:Value} {s:List SV} {m:List (List τ)} (hT:P.underlying T=some (.slice E)) (hx:L.ev x=some v) (h:RO w eV v s) (hl:s.length=m.length) :
  OpV P n L w ⟨d,.call ⟨.builtin .len,#[x],#[T]⟩,ty,pos,after,none⟩ (vI m.length) w:=by
 have:=gx (n:=n) (d:=d) (ty:=ty) (pos:=pos) (after:=after) hT hx h
 rwa [hl]at this
section
variable {T E:TypeId} {τ:Type} {e:Enc τ} {v:Value} {l r:List τ} {z0:Value} {bytes:Nat}
end
theorem Oi (T:TypeId) (x y:Bool) {D:TypeDesc} (hT:P.underlying T=some D) (j:D=.bool):cj P .eql T (vB x) (vB y) (vB (x == y)):=fun _ _ w=>by
 subst j
 have h:∀k,(Op.equalIn (k+1) T (vB x) (vB y)).run P w=.ok (x == y) w:=fun k=>by simp[Op.equalIn,run_underlying hT]
 have z:(Op.equal T (vB x) (vB y)).run P w=.ok (x == y) w:=h 9999
 simp[eqGuard,binOp,z]
theorem Qc (T:TypeId) (x y:Bool) {D:TypeDesc} (hT:P.underlying T=some D) (j:D=.bool):cj P .neq T (vB x) (vB y) (vB (x != y)):=fun _ _ w=>by
 subst j
 have h:∀k,(Op.equalIn (k+1) T (vB x) (vB y)).run P w=.ok (x == y) w:=fun k=>by simp[Op.equalIn,run_underlying hT]
 have z:(Op.equal T (vB x) (vB y)).run P w=.ok (x == y) w:=h 9999
 simp[eqGuard,binOp,z,bne]
theorem RP.isnil {τ:Type} {e:Enc τ} {v:Value} {l:List τ} {T E:TypeId} (h:RP S w e v l) (hT:P.underlying T=some (.slice E)) :
  (l=[]/\cj P .eql T v (.slice none 0 0) (vB true)/\cj P .neq T v (.slice none 0 0) (vB false))\/(cj P .eql T v (.slice none 0 0) (vB false)/\cj P .neq T v (.slice none 0 0) (vB true)):=by
 obtain⟨a,c,rfl,hc,j⟩:=h.1
 cases a with
 | some a=>exact .inr ⟨LH hT,AN hT⟩
 | none=>
  refine .inl ⟨?_,LH hT,AN hT⟩
  cases l with
  | nil=>rfl
  | cons x r=>obtain⟨b,off,k,_⟩:=j (by simp); cases k
end
end Go.Gk
end
section
namespace Go.Gk
section
variable {P:Program} {n:Nat} {L:Env} {w w0:World} {Q:Exit->Act->World->Prop}
variable {d:Option Nat} {ty:TypeId} {pos:String} {after:Array Edge}
theorem F3 {f:FuncId} {xs:List Operand} {vs:List Value} (h:L.evs xs=some vs):OpV P n L w ⟨d,.makeFunc (.func f) #[] xs.toArray,ty,pos,after,none⟩ (.func (.func f) #[] vs.toArray) w:=fun a ha=>by
 have:=ha.evs h
 simp[execOp,Instr.makeFunc,<-this]
theorem yf {o:Oper} {x:Operand} {f:FuncId} {xs:List Operand} {k:Array TypeId} {vs j:List Value} {a:Act} (y:o.op=.call ⟨.value x,xs.toArray,k⟩)
  (hx:a.eval x=.func (.func f) #[] j.toArray) (hf:ki P f=true) (hargs:xs.map a.eval=vs):(execOp a.eval o).run P w=.ok (.enter f (vs++j).toArray) w:=by
 simp only[execOp,y,resolve,hx,Deferred.ofValue,Sem.run_bind,Sem.run_pure,Result.andThen_ok,invoke]
 have:(#[]++Array.map a.eval xs.toArray++j.toArray:Array Value)=(vs++j).toArray:=by simp[hargs]
 rw[this]
 exact rR hf
theorem IJ {o:Oper} {x:Operand} {f:FuncId} {xs:List Operand} {z:Array TypeId} {vs j:List Value} {φ:Value->World->Prop} {K:Act->World->Prop} {a:Act} (A:o.op=.call ⟨.value x,xs.toArray,z⟩)
  (hx:a.eval x=.func (.func f) #[] j.toArray) (hf:ki P f=true) (hargs:xs.map a.eval=vs) (hc:Calls P f (vs++j).toArray w (Ret φ)) (k:∀v w',φ v w'->K (a.put o.dst v) w'):o.wp P a w K Q:=by
 unfold Oper.wp
 rw[yf A hx hf hargs]
 refine Calls.mono hc fun e w' y=>?_
 cases e with
 | returned v=>exact k v w' y
 | panicked c=>exact y.elim
 | outgrown=>exact y.elim
theorem pI {ops:Array Oper} {rest:List Oper} {d:Nat} {x:Operand} {f:FuncId} {xs:List Operand} {y:Array TypeId} {vs j:List Value} {φ:Value->World->Prop}
  (hx:L.ev x=some (.func (.func f) #[] j.toArray)) (hf:ki P f=true) (hargs:L.evs xs=some vs) (hc:Calls P f (vs++j).toArray w (Ret φ)) (hd:Nat.blt d n=true)
  (k:∀v w',φ v w'->wpR P n ops Q rest ((d,v) :: L) w'):wpR P n ops Q (⟨some d,.call ⟨.value x,xs.toArray,y⟩,ty,pos,after,none⟩ :: rest) L w:=fun a ha=>by
 unfold wpList
 rw[ag (by simp[Region.wanted])]
 exact .inl (IJ rfl (ha.ev hx) hf (ha.evs hargs) hc fun v w' h=>k v w' h _ (ha.put hd))
end
section
variable {P:Program} {n:Nat} {L:Env} {w w0:World} {Q:Exit->Act->World->Prop} {S:L02} {os:List OE}
variable {d:Option Nat} {ty:TypeId} {pos:String} {after:Array Edge}
theorem wn (a:Addr) (m k:Nat):(w.freeze a m).heap[k]? = (w.heap[k]?).map fun o=>if k=a.block/\m≠0 then (match o with
   | .cells c elem (lo,hi)=>.cells c elem (if lo == hi then (a.off,a.off+m) else (min lo a.off,max hi (a.off+m)))
   | o=>o) else o:=by
 unfold World.freeze
 by_cases hm:m=0
 ·simp[hm]
 ·rw[ae hm]
  simp only[Array.getElem?_modify]
  by_cases hk:a.block=k
  ·subst hk
   simp only[al]
   cases w.heap[a.block]? with
   | none=>rfl
   | some o=>simp[hm]; cases o <;> rfl
  ·rw[ae hk]
   have:¬(k=a.block/\m≠0):=fun h=>hk h.1.symm
   simp[this]
theorem C5 (a b:Addr) (m:Nat):(w.freeze a m).cell? b=w.cell? b:=by
 unfold World.cell?
 rw[wn]
 cases w.heap[b.block]? with
 | none=>rfl
 | some o=>
  simp only[bO]
  by_cases hc:b.block=a.block/\m≠0
  ·rw[ag hc]; cases o <;> rfl
  ·rw[ae hc]
theorem tK (a:Addr) (m:Nat):(w.freeze a m).heap.size=w.heap.size:=by
 unfold World.freeze; split
 ·rfl
 ·simp
theorem HI (a:Addr) (m:Nat):Fr [a.block] w (w.freeze a m):=by
 refine⟨?_,?_,?_,by rw[tK]; exact ax _,fun k j hn=>?_⟩
 ·unfold World.freeze; split <;> rfl
 ·unfold World.freeze; split <;> rfl
 ·unfold World.freeze; split <;> rfl
 ·rw[wn]
  have:¬(k=a.block/\m≠0):=fun h=>hn (by simp[h.1])
  cases w.heap[k]? with
  | none=>rfl
  | some o=>simp[this]
theorem FQ {T E:TypeId} {x:Operand} {v:Value} {l:L01} {i:Nat} (hT:P.underlying T=some (.slice E)) (hE:P.underlying E=some (.int .u8)) (hx:L.ev x=some v)
  (hS:St S w0 w os) (hi:os[i]? = some (own e8 v l)) (hl:l≠[]) :
  OpX P n L w ⟨d,.convert T T x,ty,pos,after,none⟩ (fun X w'=>X=v/\St S w0 w' (os.set i (red e8 v l))):=by
 have B:=hS.ok _ (bd hi)
 have G:=B.red
 obtain⟨h1,Y⟩:=B
 rcases Y with⟨_,hn⟩ | ⟨g,I,y,U,rfl,hf,hg,ap,bx,b2,V⟩
 ·exact absurd (bp hn) hl
 ·have J:St S w0 (w.freeze ⟨g,y.size,none⟩ 1) (os.set i (red e8 (.slice (some ⟨g,0,none⟩) l.length I) l)):=by
   refine hS.set hi (o':=red e8 _ l) (by simpa [OE.blk,Value.ownBlock] using HI (w:=w) ⟨g,y.size,none⟩ 1) ?_ fun k z=>.inl ?_
   ·obtain⟨Z,a,c,hv,hc,hr⟩:=G
    refine⟨Z,a,c,hv,hc,fun N=>?_⟩
    obtain⟨b,off,ha,hb,O,A⟩:=hr N
    exact⟨b,off,ha,by rw[tK]; exact hb,O,fun j u hj=>by rw[C5]; exact A j u hj⟩
   ·simp only[OE.blk]at z ⊢
    split at z
    ·cases z
    ·exact z
  refine iH _ _ (fun a ha=>?_) ⟨rfl,J⟩
  have R:w.shape? g=some (U,y.size):=by obtain⟨mk,hg,_⟩:=hg; unfold World.shape?; rw[hg]
  simp[execOp,ha.ev hx,convert,run_underlying hT,run_underlying hE,markStringish,shape,freeze,Sem.run,R]
def ru (w0 w:World) (r:Nat) (es:Array MapEntry) (c:Nat):Prop:=Fr [] w0 w/\w0.heap.size<=r/\w.heap[r]? = some (.map es c)
theorem CU {T:TypeId} (hS:St [] w0 w []) :
  OpX P n L w ⟨d,.makeMap T none,ty,pos,after,none⟩ (fun v w'=>∃r,v=.map (some r)/\ru w0 w' r #[] 0):=by
 refine iH (.map (some w.heap.size)) { w with heap:=w.heap.push (.map #[] 0) } (fun a ha=>?_) ⟨_,rfl,?_⟩
 ·simp[execOp,Instr.makeMap,newObj,Sem.run]
 ·refine⟨⟨hS.fr.os,hS.fr.tape,hS.fr.output,by have:=hS.fr.size; simp; omega,fun k j hn=>?_⟩,hS.fr.size,by simp⟩
  have:=hS.fr.size
  rw[<-hS.fr.block k j hn]
  simp[Array.getElem?_push]; omega
theorem oL {K:TypeId} {k:IntKind} (hK:P.underlying K=some (.int k)) (b:Bool) (x:Int) (m:Nat):(Instr.checkKey b (m+1) K (.int k x)).run P w=.ok () w:=by
 simp[Instr.checkKey,run_underlying hK]
theorem ru.put {r:Nat} {es j:Array MapEntry} {c y:Nat} (h:ru w0 w r es c):ru w0 { w with heap:=w.heap.setIfInBounds r (.map j y) } r j y:=by
 obtain⟨hf,A,hg⟩:=h
 have z:r<w.heap.size:=(cg.1 hg).1
 refine⟨⟨hf.os,hf.tape,hf.output,by simpa using hf.size,fun k B hn=>?_⟩,A,by simp[z]⟩
 rw[<-hf.block k B hn]
 simp[Array.getElem?_setIfInBounds]; omega
theorem q8 {r:Nat} {es:Array MapEntry} {c:Nat} (h:w.heap[r]? = some (.map es c)):(getObj r).run P w=.ok (.map es c) w:=by
 simp[getObj,Sem.run,h]
theorem EH {r:Nat} {es:Array MapEntry} {c:Nat} {o:Obj} (h:w.heap[r]? = some (.map es c)):(setObj r o).run P w=.ok () { w with heap:=w.heap.setIfInBounds r o }:=by
 simp[setObj,Sem.run,h]
theorem jW {T K E:TypeId} {x:Operand} {r:Nat} {es:Array MapEntry} {c:Nat} {k:Int} {v:Value} {kd:IntKind} (hT:P.underlying T=some (.map K E)) (hK:P.underlying K=some (.int kd)) (hx:L.ev x=some (.map (some r)))
  (j:ru w0 w r es c) (hf:Instr.findNow (.int kd) (.int kd k) es.toList 0=some none) :
  OpY P n L w ⟨none,.insert T x (.const (.int kd k)) (.const v),ty,pos,after,none⟩ (fun w'=>ru w0 w' r (es.push ⟨.int kd k,v,c⟩) (c+1)):=by
 refine⟨_,fun a ha=>?_,j.put⟩
 have y:a.eval (.const (.int kd k))=.int kd k:=rfl
 have z:a.eval (.const v)=v:=rfl
 simp[execOp,Instr.mapUpdate,ha.ev hx,y,z,run_underlying hT,run_underlying hK,oL hK,Instr.findKey,hf,q8 j.2.2,EH j.2.2]
theorem F7 {T K E:TypeId} {x y:Operand} {r:Nat} {es:Array MapEntry} {c:Nat} {k:Int} {v:Value} {kd:IntKind} {res:Option (Nat×Value)} (hT:P.underlying T=some (.map K E)) (hK:P.underlying K=some (.int kd)) (hx:L.ev x=some (.map (some r)))
  (j:L.ev y=some (.int kd k)) (z:ru w0 w r es c) (hf:Instr.findNow (.int kd) (.int kd k) es.toList 0=some res) (hz:(P.info? E).map (·.zero)=some (some v)) :
  OpV P n L w ⟨d,.lookup T x y false,ty,pos,after,none⟩ ((res.map (·.2)).getD v) w:=fun a ha=>by
 cases hi:P.info? E with
 | none=>rw[hi]at hz; cases hz
 | some info=>
  rw[hi]at hz
  simp only[bO,dR]at hz
  cases res with
  | none=>simp[execOp,Instr.lookup,ha.ev hx,ha.ev j,run_underlying hT,run_underlying hK,oL hK,Instr.findKey,hf,q8 z.2.2,zeroValue,typeInfo,hi,hz,program,Sem.run]
  | some q=>simp[execOp,Instr.lookup,ha.ev hx,ha.ev j,run_underlying hT,run_underlying hK,oL hK,Instr.findKey,hf,q8 z.2.2]
end
end Go.Gk
end
section
namespace Go.Gk
open Go Go.RowKit
theorem L1 {a b:OE} (h:OE.dj a b):OE.dj b a:=by
 unfold OE.dj at *
 intro k y j
 exact h k j y
theorem St.perm {S:L02} {w0 w:World} {os os':List OE} (h:St S w0 w os) (hp:os.Perm os'):St S w0 w os':=
 ⟨h.fr,fun o k=>h.ok o (hp.mem_iff.2 k),(hp.pairwise_iff (fun {a b} j=>L1 j)).1 h.dj⟩
theorem St.tail {S:L02} {w0 w:World} {l os:List OE} (h:St S w0 w (l++os)):St S w0 w os:=
 ⟨h.fr,fun o j=>h.ok o (bC _ j),(cd.1 h.dj).2.1⟩
def upd (g:Nat->Value) (i:Nat) (v:Value):Nat->Value:=fun k=>if k=i then v else g k
theorem IH {g:Nat->Value} {i j:Nat} {u v:Value} (h:i≠j):upd (upd g i u) j v=upd (upd g j v) i u:=by
 funext k
 unfold upd
 by_cases h1:k=i <;> by_cases h2:k=j <;> simp_all
section
variable {P:Program} {ops:Array Oper} {Q:Exit->Act->World->Prop} {nw:Nat->Bool} {S:L02} {w0:World} {os:List OE} {ent:Nat->Value->OE} {news:L02}
def vi (P:Program) (ops:Array Oper) (S:L02) (w0:World) (ent:Nat->Value->OE) (o:Oper) (i:Nat) (a:Act):Prop:=
 Region.wanted o (yielded ops a.tmps)=true/\∀w os',St S w0 w os'->∃v w',(execOp a.eval o).run P w=.ok (.value v) w'/\St S w0 w' (ent i v :: os')
theorem vi.of_same {o:Oper} {i:Nat} {a j:Act} (k:vi P ops S w0 ent o i a) (y:execOp j.eval o=execOp a.eval o)
  (hw:Region.wanted o (yielded ops j.tmps)=Region.wanted o (yielded ops a.tmps)):vi P ops S w0 ent o i j:=by
 unfold vi at *
 rw[y,hw]
 exact k
def lxN (P:Program) (ops:Array Oper) (Q:Exit->Act->World->Prop) (nw:Nat->Bool) (S:L02) (w0:World) (os:List OE) (ent:Nat->Value->OE) (news:L02):L02->(Nat->Value)->Act->Prop
 | [],g,a=>∀w,St S w0 w (news.map (fun i=>ent i (g i))++os)->Q .normal a w
 | i :: r,g,a=>match ops[i]? with
  | none=>lxN P ops Q nw S w0 os ent news r g a
  | some o=>if nw i then vi P ops S w0 ent o i a/\∀v,lxN P ops Q nw S w0 os ent news r (upd g i v) (a.put o.dst v)
   else ∃v,Ins P ops (fun w=>St S w0 w os) o v a/\lxN P ops Q nw S w0 os ent news r g (a.put o.dst v)
theorem Jj (hs:nV ops) (N:∃w,St S w0 w os) {i j:Nat} {r:L02} {g:Nat->Value} {a:Act}
  (O:∀y k,ops[i]? = some y->ops[j]? = some k->y.apart ops k=true) (R:i≠j)
  (h:lxN P ops Q nw S w0 os ent news (i :: j :: r) g a):lxN P ops Q nw S w0 os ent news (j :: i :: r) g a:=by
 cases hi:ops[i]? with
 | none=>
  simp only[lxN,hi]at h
  cases hj:ops[j]? with
  | none=>simp only[lxN,hi,hj]at h ⊢; exact h
  | some k=>simp only[lxN,hi,hj]at h ⊢; exact h
 | some y=>
  cases hj:ops[j]? with
  | none=>simp only[lxN,hi,hj]at h ⊢; exact h
  | some k=>
   obtain⟨p1,p2,p3⟩:=Oper.apart_spec (O y k hi hj)
   have B:=fun cs b=>hs i y cs b hi
   have G:=fun cs b=>hs j k cs b hj
   simp only[lxN,hi,hj]at h ⊢
   by_cases hni:nw i=true
   ·rw[ag hni]at h
    obtain⟨J,z⟩:=h
    by_cases hnj:nw j=true
    ·simp only[hni,hnj,al]at z ⊢
     refine⟨(z undef).1.of_same (execOp_put k G a y.dst undef p1).symm (wanted_put k a y.dst undef p1).symm,fun v=>⟨J.of_same (execOp_put y B a k.dst v p3) (wanted_put y a k.dst v p3),fun u=>?_⟩⟩
     have:=(z u).2 v
     rw[IH R]at this
     rw[<-Act.put_comm a u v p2]; exact this
    ·simp only[hni,hnj,al,aj]at z ⊢
     have get:∀u,∃v,Ins P ops (fun w=>St S w0 w os) k v a/\lxN P ops Q nw S w0 os ent news r (upd g i u) ((a.put y.dst u).put k.dst v):=fun u=>by
      obtain⟨v,A,I⟩:=z u
      exact⟨v,A.of_same (execOp_put k G a y.dst u p1).symm (wanted_put k a y.dst u p1).symm,I⟩
     obtain⟨v,A,_⟩:=get undef
     refine⟨v,A,?_⟩
     refine⟨J.of_same (execOp_put y B a k.dst v p3) (wanted_put y a k.dst v p3),fun u=>?_⟩
     obtain⟨U,V,I⟩:=get u
     obtain⟨w,hw⟩:=N
     have:U=v:=Ins.unique (w:=w) hw V A
     subst this
     rw[<-Act.put_comm a u U p2]; exact I
   ·rw[ae hni]at h
    obtain⟨v,A,h⟩:=h
    by_cases hnj:nw j=true
    ·simp only[hni,hnj,al,aj]at h ⊢
     obtain⟨J,z⟩:=h
     refine⟨J.of_same (execOp_put k G a y.dst v p1).symm (wanted_put k a y.dst v p1).symm,fun u=>⟨v,A.of_same (execOp_put y B a k.dst u p3) (wanted_put y a k.dst u p3),?_⟩⟩
     rw[<-Act.put_comm a v u p2]; exact z u
    ·simp only[hni,hnj,aj]at h ⊢
     obtain⟨u,hu,I⟩:=h
     refine⟨u,hu.of_same (execOp_put k G a y.dst v p1).symm (wanted_put k a y.dst v p1).symm,v,A.of_same (execOp_put y B a k.dst u p3) (wanted_put y a k.dst u p3),?_⟩
     rw[<-Act.put_comm a v u p2]; exact I
theorem ym (hs:nV ops) (z:∃w,St S w0 w os) {j:Nat}:∀(l1 y:L02) (g:Nat->Value) (a:Act),(∀i∈l1,i≠j/\∀A G,ops[i]? = some A->ops[j]? = some G->A.apart ops G=true) ->
   lxN P ops Q nw S w0 os ent news (l1++j :: y) g a->lxN P ops Q nw S w0 os ent news (j :: (l1++y)) g a
 | [],_,_,_,_,h=>h
 | i :: l1,y,g,a,hall,h=>by
  have B:∀g a,lxN P ops Q nw S w0 os ent news (l1++j :: y) g a->lxN P ops Q nw S w0 os ent news (j :: (l1++y)) g a:=fun g a h=>
   ym hs z l1 y g a (fun k I=>hall k (by simp[I])) h
  have J:lxN P ops Q nw S w0 os ent news (i :: j :: (l1++y)) g a:=by
   rw[cW]at h
   cases hi:ops[i]? with
   | none=>
    unfold lxN at h ⊢
    simp only[hi]at h ⊢
    exact B _ _ h
   | some A=>
    unfold lxN at h ⊢
    simp only[hi]at h ⊢
    by_cases hn:nw i=true
    ·rw[ag hn]at h ⊢
     exact⟨h.1,fun v=>B _ _ (h.2 v)⟩
    ·rw[ae hn]at h ⊢
     obtain⟨v,N,h⟩:=h
     exact⟨v,N,B _ _ h⟩
  have hi:=hall i (by simp)
  exact Jj hs z hi.2 hi.1 J
theorem sC (hs:nV ops)
  (O:∀j A,ops[j]? = some A->∀e∈A.after,Region.binds .any e=true->e.on<j)
  (R:∀i j,i<j->j<ops.size->gj ops ops.size j i=false->∀oi A,ops[i]? = some oi->ops[j]? = some A->oi.apart ops A=true) (B:news.Nodup) :
  ∀(m:Nat) (l:L02) (listed:Array Bool) (done:L02) (g:Nat->Value) (a:Act) (w:World),l.length=m->l.Pairwise (·<·)->listed.size=ops.size->closed ops listed ->
   (∀i,i∈l↔i<ops.size/\listed.getD i true=false)->(done++l.filter nw).Perm news->St S w0 w (done.map (fun i=>ent i (g i))++os) ->
   lxN P ops Q nw S w0 os ent news l g a->wpAny P .any ops Q m listed a w
 | 0,l,listed,done,g,a,w,hm,_,_,_,hmem,hperm,hS,h=>by
  have hl:l=[]:=bp hm
  subst hl
  refine⟨?_,h w (hS.perm ?_)⟩
  ·refine List.eq_nil_iff_forall_not_mem.2 fun i hi=>?_
   obtain⟨G,o,cm,_⟩:=mem_ready.1 hi
   have:=(hmem i).2 ⟨(cg.1 cm).1,G⟩
   cases this
  ·simp only[List.filter_nil,bP]at hperm
   exact (hperm.map _).append_right os
 | m+1,l,listed,done,g,a,w,hm,hsort,hsz,hcl,hmem,hperm,hS,h=>by
  refine⟨fun b5=>?_,fun j hj=>?_⟩
  ·exfalso
   cases l with
   | nil=>simp at hm
   | cons i r=>
    obtain⟨b4,G⟩:=(hmem i).1 (by simp)
    have hi:i∈Region.ready .any ops listed:=by
     refine mem_ready.2 ⟨G,ops[i],by simp[b4],fun e he hb=>?_⟩
     have I:=O i ops[i] (by simp[b4]) e he hb
     cases hl:listed.getD e.on false with
     | true=>rfl
     | false=>
      have ct:e.on<listed.size:=by rw[hsz]; omega
      have c0:listed.getD e.on true=false:=by simp[ct]at hl ⊢; exact hl
      have c1:=(hmem e.on).2 ⟨by omega,c0⟩
      rcases aG.1 c1 with J | J
      ·omega
      ·have:=(gc.1 hsort).1 e.on J
       omega
    rw[b5]at hi
    cases hi
  ·obtain⟨G,A,z,X⟩:=mem_ready.1 hj
   have U:j<ops.size:=(cg.1 z).1
   have c2:j∈l:=(hmem j).2 ⟨U,G⟩
   obtain⟨l1,y,rfl⟩:=List.append_of_mem c2
   have I:∀i∈l1,i<j:=fun i hi=>(cd.1 hsort).2.2 i hi j (by simp)
   have J:=ym hs ⟨w,hS.tail⟩ l1 y g a (fun i hi=>⟨Nat.ne_of_lt (I i hi),fun oi c3 c4 b6=>by
    refine R i j (I i hi) U ?_ oi c3 c4 b6
    cases hr:gj ops ops.size j i with
    | false=>rfl
    | true=>
     have Y:=iL hcl ops.size j i A z X hr
     have h3:=((hmem i).1 (by simp[hi])).2
     rw[bT]at Y h3
     have:i<listed.size:=by rw[hsz]; exact fZ (I i hi) U
     simp[this]at Y h3
     rw[Y]at h3; cases h3⟩) h
   have N:(l1++y).Pairwise (·<·):=by
    refine hsort.sublist ?_
    exact List.Sublist.append_left (List.sublist_cons_self j y) l1
   have Z:(l1++y).length=m:=by simp at hm ⊢; omega
   have ab:closed ops (listed.setIfInBounds j true):=by
    intro k ok hk hl e he hb
    by_cases hkj:j=k
    ·subst hkj
     have:ok=A:=et (hk.symm.trans z)
     subst this
     exact getD_set_true (X e he hb)
    ·rw[getD_set_ne false hkj]at hl
     exact getD_set_true (hcl k ok hk hl e he hb)
   have c6:j ∉ l1++y:=by
    intro hx
    rcases bG.1 hx with hx | hx
    ·exact absurd (I j hx) (jn _)
    ·have:=(cd.1 hsort).2.1
     have:=(gc.1 this).1 j hx
     exact absurd this (jn _)
   have V:∀i,i∈l1++y↔i<ops.size/\(listed.setIfInBounds j true).getD i true=false:=by
    intro i
    by_cases hij:j=i
    ·subst hij
     constructor
     ·intro hx; exact absurd hx c6
     ·intro hx
      have:=mJ (listed:=listed) (i:=j) (by rw[hsz]; exact U) true
      rw[this]at hx; cases hx.2
    ·rw[getD_set_ne true hij,<-hmem i]
     simp only[bG,aG]
     constructor
     ·rintro (hx | hx)
      ·exact .inl hx
      ·exact .inr (.inr hx)
     ·rintro (hx | hx | hx)
      ·exact .inl hx
      ·exact absurd hx.symm hij
      ·exact .inr hx
   simp only[lxN,z]at J
   by_cases hn:nw j=true
   ·rw[ag hn]at J
    obtain⟨⟨hw,b8⟩,b3⟩:=J
    obtain⟨v,w',hr,dc⟩:=b8 w _ hS
    have ac:j ∉ done:=by
     have b9:=hperm.nodup_iff.2 B
     have:=(List.nodup_append.1 b9).2.2
     intro ac
     exact this j ac j (by simp[hn]) rfl
    have ce:done.map (fun i=>ent i (upd g j v i))=done.map (fun i=>ent i (g i)):=by
     refine List.map_congr_left fun i hi=>?_
     have:i≠j:=fun e=>ac (e ▸ hi)
     simp[upd,this]
    unfold wpOp
    simp only[z]
    rw[ag hw]
    left
    unfold Oper.wp
    rw[hr]
    refine sC hs O R B m (l1++y) _ (j :: done) (upd g j v) _ w' Z N (by simp[hsz]) ab V ?_ ?_ (b3 v)
    ·refine List.Perm.trans ?_ hperm
     simp only[List.filter_append,List.filter_cons,hn,al,cW]
     have:(done++(l1.filter nw++j :: y.filter nw)).Perm (j :: (done++(l1.filter nw++y.filter nw))):=by
      rw[<-aN,<-aN]
      exact gy
     exact this.symm
    ·simp only[db,cW,ce]
     have:upd g j v j=v:=by simp[upd]
     rw[this]; exact dc
   ·rw[ae hn]at J
    obtain⟨v,hv,Y⟩:=J
    have ad:(done++(l1++y).filter nw).Perm news:=by
     have dd:nw j=false:=by simpa using hn
     simpa [List.filter_append,List.filter_cons,dd] using hperm
    have ih:wpAny P .any ops Q m (listed.setIfInBounds j true) (a.put A.dst v) w:=
     sC hs O R B m (l1++y) _ done g _ w Z N (by simp[hsz]) ab V ad hS Y
    unfold wpOp
    simp only[z]
    rcases hv with⟨hw,hv⟩ | ⟨hw,rfl⟩
    ·rw[ag hw]
     left
     unfold Oper.wp
     rw[hv w hS.tail]
     exact ih
    ·rw[ae (by rw[hw]; simp)]
     exact ih
variable {n:Nat} {L:Env}
def un (P:Program) (n:Nat) (ops:Array Oper) (Q:Exit->Act->World->Prop) (nw:Nat->Bool) (S:L02) (w0:World) (os:List OE) (ent:Nat->Value->OE) (news:L02) (l:L02) (g:Nat->Value) (L:Env):Prop:=
 ∀a,Rep n L a->lxN P ops Q nw S w0 os ent news l g a
theorem J1 {g:Nat->Value} (h:∀w,St S w0 w (news.map (fun i=>ent i (g i))++os)->QE n Q .normal L w):un P n ops Q nw S w0 os ent news [] g L:=
 fun a ha w hw=>h w hw a ha
theorem kf {i:Nat} {r:L02} {g:Nat->Value} {d:Nat} {op:Op} {ty:TypeId} {pos:String} {after:Array Edge} {v:Value} (k:ops[i]? = some ⟨some d,op,ty,pos,after,none⟩) (hf:nw i=false)
  (y:∀w,St S w0 w os->OpV P n L w ⟨some d,op,ty,pos,after,none⟩ v w) (hd:Nat.blt d n=true) (h:un P n ops Q nw S w0 os ent news r g ((d,v) :: L)):un P n ops Q nw S w0 os ent news (i :: r) g L:=fun a ha=>by
 simp only[lxN,k,hf,ah,aj]
 exact⟨v,.inl ⟨by simp[Region.wanted],fun w' j=>y w' j a ha⟩,h _ (ha.put hd)⟩
theorem ud (E:Value->OE) {i:Nat} {r:L02} {g:Nat->Value} {d:Nat} {op:Op} {ty:TypeId} {pos:String} {after:Array Edge} (j:ops[i]? = some ⟨some d,op,ty,pos,after,none⟩) (hf:nw i=true) (hE:∀v,ent i v=E v)
  (k:∀w os',St S w0 w os'->OpX P n L w ⟨some d,op,ty,pos,after,none⟩ (fun v w'=>St S w0 w' (E v :: os'))) (hd:Nat.blt d n=true)
  (h:∀v,un P n ops Q nw S w0 os ent news r (upd g i v) ((d,v) :: L)):un P n ops Q nw S w0 os ent news (i :: r) g L:=fun a ha=>by
 simp only[lxN,j,hf,al]
 refine⟨⟨by simp[Region.wanted],fun w os' hS=>?_⟩,fun v=>h v _ (ha.put hd)⟩
 obtain⟨v,w',y,z⟩:=k w os' hS
 exact⟨v,w',y a ha,by rw[hE]; exact z⟩
theorem C3 {id:Nat} {l:List Oper} {w:World} (nw:Nat->Bool) (ent:Nat->Value->OE) (hS:St S w0 w os) (A:P.follows .mixedOrders=true)
  (k:(mp l.toArray&&qa l.toArray&&pX l.toArray (fun _=>true))=true)
  (h:un P n l.toArray Q nw S w0 os ent ((List.range l.length).filter nw) (List.range l.length) (fun _=>undef) L):wpC P n (.region id l.toArray true) Q L w:=
 fun a ha=>by
  simp only[aK]at k
  refine wp_region_any A ?_
  refine sC (pZ k.1.1) (su k.1.2) (fun i j y B G I z J N=>(r7 k.2 i j y B G I z J N).1) (List.nodup_range.filter _) _ (List.range l.length) _ [] (fun _=>undef) a _ (by simp) List.pairwise_lt_range (by simp) (fun j z O hl=>?_) (fun i=>?_) (by simp) (by simpa using hS.drew) (h a ha)
  ·rw[bT,eA]at hl
   split at hl <;> simp at hl
  ·rw[bT,eA]
   by_cases y:i<l.length
   ·simp[y]
   ·simp[y]
end
section
variable {P:Program} {n:Nat} {L:Env} {w w' w0:World} {Q:Exit->Act->World->Prop} {S:L02} {os os0 os1:List OE}
variable {d:Option Tmp} {ty:TypeId} {pos:String} {after:Array Edge}
def twE {τ:Type} (e:Enc τ) (va:Value) (la:List τ) (q:Nat):OE:=if q=0 then red e (.slice none 0 0) ([]:List τ) else red e va la
def Tw {τ:Type} (va:Value) (la:List τ) (v:Value) (l:List τ) (q:Nat):Prop:=
 q=0->∃a c c' t,va=.slice a la.length c/\la.length<=c/\v=.slice a l.length c'/\l=la++t
theorem Tw.ro {τ:Type} {e:Enc τ} {y v:Value} {z l:List τ} {q:Nat} {B:Nat} (h:Tw y z v l q) (A:(twE e y z q).ok S B w) (I:RO w e v l):RO w e y z:=by
 by_cases hq:q=0
 ·obtain⟨a,c,O,t,rfl,hc,rfl,rfl⟩:=h hq
  obtain⟨a2,R,J,U,N⟩:=I
  injection J with e1 e2 e3
  subst e1
  refine⟨a,c,rfl,hc,fun hl=>?_⟩
  obtain⟨b,off,hb,k⟩:=N (by simp[hl])
  refine⟨b,off,hb,fun j u G=>k j u ?_⟩
  rw[e.fl_append,List.getElem?_append_left (aP.1 G).1]
  exact G
 ·unfold twE at A
  rw[ae hq]at A
  exact A.rro
theorem Kb {α:Type} {l:List α} {j:Nat} {x:α} (h:l[j]? = some x):l.set j x=l:=by
 apply iY
 intro k
 rw[gm]
 split
 ·rename_i y
  subst y
  have:=(aP.1 h).1
  rw[ag this,h]
 ·rfl
theorem _root_.Eq.to {op:BinOp} {T:TypeId} {x y:Value} {b b':Bool} (h:b=b') (hb:cj P op T x y (vB b)):cj P op T x y (vB b'):=h ▸ hb
theorem qX {D T E:TypeId} {x:Operand} {l:L01} (I:P.underlying D=some .string) (hT:P.underlying T=some (.slice E)) (hE:P.underlying E=some (.int .u8))
  (hx:L.ev x=some (vS l)) (hS:St S w0 w os) (hl:l.length<=225000000000000) :
  OpX P n L w ⟨d,.convert D T x,ty,pos,after,none⟩ (fun v w'=>St S w0 w' (own e8 v l :: os)):=by
 have J:=Lib.run_convert_string_bytes (P:=P) w D T E ⟨⟨l⟩⟩ I hT hE
 have A:Fr [] w (Lib.bytesWorld w E ⟨⟨l⟩⟩):=⟨rfl,rfl,rfl,by rw[Lib.bytesWorld_size]; omega,fun k z _=>Lib.bytesWorld_at_old w E ⟨⟨l⟩⟩ k z⟩
 have y:=grownCap_ge w (⟨⟨l⟩⟩:ByteArray).size 0 E
 have j:(⟨⟨l⟩⟩:ByteArray).size=l.length:=rfl
 have B:(own e8 (.slice (some ⟨w.heap.size,0,none⟩) l.length (grownCap w (⟨⟨l⟩⟩:ByteArray).size 0 E)) l).ok S w0.heap.size (Lib.bytesWorld w E ⟨⟨l⟩⟩):=by
  refine⟨e8.fl_length l,.inr ⟨w.heap.size,_,Lib.bytesCells w E ⟨⟨l⟩⟩,E,rfl,hS.fresh,⟨_,Lib.bytesWorld_at_new w E ⟨⟨l⟩⟩,.inr (ax _)⟩,y,?_,?_,?_⟩⟩
  ·exact grownCap_le_maxLen w _ 0 E (by rw[j]; simp[maxLen]; omega)
  ·simp only[Lib.bytesCells,iT,Array.size_map,Array.size_replicate]
   show _*1<=_
   have:(⟨⟨l⟩⟩:ByteArray).data.size=l.length:=rfl
   rw[this,j]
   rw[j]at y
   omega
  ·rw[show l.length*e8.sz=l.length from cE _,wu]
   simp only[Lib.bytesCells,ij,Array.toList_map]
   rw[fE (by simp)]
 have G:=hS.push A B fun k z=>by
  simp[OE.blk,Value.ownBlock]at z; omega
 refine iH _ _ (fun a ha=>?_) G
 simp only[execOp,ha.ev hx,Sem.run_bind,J,Result.andThen_ok]; rfl
end
def isB (want:Bool):Value->Bool
 | .bool b=>b == want
 | _=>false
def Kk (op:BinOp) (x y:Int):Option Value:=match op with
 | .add=>some (vI (wI (x+y)))
 | .sub=>some (vI (wI (x - y)))
 | .eql=>some (vB (x == y))
 | .neq=>some (vB (x != y))
 | .lss=>some (vB (decide (x<y)))
 | .leq=>some (vB (decide (x<=y)))
 | .gtr=>some (vB (decide (y<x)))
 | .geq=>some (vB (decide (y<=x)))
 | _=>none
def rO (L:Env):Op->Option Value
 | .move x=>L.ev x
 | .assign x=>L.ev x
 | .pick c x y=>match L.ev c with
  | some (.bool true)=>L.ev x
  | some (.bool false)=>L.ev y
  | _=>none
 | .extract x i=>match L.ev x with
  | some (.tuple vs)=>vs.toList[i]?
  | _=>none
 | .unOp op _ x=>match op,L.ev x with
  | .not,some (.bool b)=>some (vB (!b))
  | _,_=>none
 | .binOp op _ x y _=>match L.ev x,L.ev y with
  | some (.int .i64 a),some (.int .i64 b)=>Kk op a b
  | _,_=>none
 | _=>none
def up (ops:Array Oper) (n:Nat):Nat->Env->List Oper->Option (Env×List Oper)
 | 0,L,l=>some (L,l)
 | m+1,L,o :: l=>match o.dst with
  | none=>none
  | some d=>bif Nat.blt d n then
   match o.guard with
   | none=>match rO L o.op with
    | some v=>up ops n m ((d,v) :: L) l
    | none=>none
   | some (j,want)=>match (ops[j]?).bind (·.dst) with
    | none=>none
    | some t=>match L.get t with
     | none=>none
     | some v=>bif isB want v then (match rO L o.op with
      | some u=>up ops n m ((d,u) :: L) l
      | none=>none) else up ops n m ((d,undef) :: L) l
   else none
 | _+1,_,[]=>none
section
variable {P:Program} {n:Nat} {L:Env} {w:World} {Q:Exit->Act->World->Prop}
theorem NP {op:BinOp} {T:TypeId} {x y:Int} {v:Value} (h:Kk op x y=some v):cj P op T (vI x) (vI y) v:=by
 cases op <;> simp only[Kk]at h <;> first | (cases h; fail) | (injection h with h; subst h; first | exact ms _ _ _ | exact mC _ _ _ | exact BG _ _ _ | exact H1 _ _ _ | exact lT _ _ _ | exact qu _ _ _ | exact vr _ _ _ | exact HE _ _ _) | cases h
theorem xq {d:Option Tmp} {op:Op} {v:Value} {ty:TypeId} {pos:String} {after:Array Edge} (h:rO L op=some v):OpV P n L w ⟨d,op,ty,pos,after,none⟩ v w:=by
 unfold rO at h
 split at h
 ·exact oR h
 ·exact du h
 ·split at h
  ·rename_i e; exact yg e h
  ·rename_i e; exact yN e h
  ·cases h
 ·split at h
  ·rename_i e
   refine tP e ?_
   rw[<-gO]; exact h
  ·cases h
 ·split at h
  ·rename_i e; cases h; exact GF e (Lo _)
  ·cases h
 ·split at h
  ·rename_i j k; exact bI j k (NP h)
  ·cases h
 ·cases h
theorem aq {ops:Array Oper}:∀(m:Nat) {L z:Env} {rest y:List Oper},up ops n m L rest=some (z,y)->wpR P n ops Q y z w->wpR P n ops Q rest L w
 | 0,L,z,rest,y,h,k=>by simp only[up]at h; cases h; exact k
 | m+1,L,z,[],y,h,k=>by simp[up]at h
 | m+1,L,z,o :: l,y,h,k=>by
  obtain⟨dst,op,ty,pos,after,B⟩:=o
  simp only[up]at h
  cases dst with
  | none=>cases h
  | some d=>
   simp only at h
   cases hd:Nat.blt d n with
   | false=>rw[hd]at h; cases h
   | true=>
    rw[hd]at h
    simp only[cond_true]at h
    cases B with
    | none=>
     simp only at h
     cases hv:rO L op with
     | none=>rw[hv]at h; cases h
     | some v=>rw[hv]at h; exact aO (xq hv) hd (aq m h k)
    | some g=>
     obtain⟨j,A⟩:=g
     simp only at h
     cases hj:(ops[j]?).bind (·.dst) with
     | none=>rw[hj]at h; cases h
     | some t=>
      rw[hj]at h
      simp only at h
      cases hg:L.get t with
      | none=>rw[hg]at h; cases h
      | some v=>
       rw[hg]at h
       simp only at h
       cases hb:isB A v with
       | true=>
        rw[hb]at h
        simp only[cond_true]at h
        have G:v=vB A:=by
         cases v <;> simp[isB]at hb
         subst hb; rfl
        subst G
        cases hv:rO L op with
        | none=>rw[hv]at h; cases h
        | some u=>rw[hv]at h; exact dM hj hg (xq hv) hd (aq m h k)
       | false=>
        rw[hb]at h
        simp only[cond_false]at h
        intro a ha
        unfold wpList
        rw[ae (by
         have:=ha.get t _ hg
         simp only[Region.wanted,yielded,hj,Option.bind_some,this]
         cases v <;> simp_all [isB])]
        exact aq m h k _ (ha.put hd)
def vM (ops:Array Oper) (fl:Nat->Bool) (n:Nat):Nat->Env->L02->Option (Env×L02)
 | 0,L,l=>some (L,l)
 | m+1,L,i :: l=>match ops[i]? with
  | some ⟨some d,op,_,_,_,none⟩=>bif fl i&&Nat.blt d n then (match rO L op with
   | some v=>vM ops fl n m ((d,v) :: L) l
   | none=>none) else none
  | _=>none
 | _+1,_,[]=>none
theorem cH {P:Program} {n:Nat} {w:World} {Q:Exit->Act->World->Prop} {ops:Array Oper} {C D:World->Prop} {fl:Nat->Bool}:∀(m:Nat) {L j:Env} {l y:L02},vM ops fl n m L l=some (j,y)->C w->lxE P n ops C D Q fl y j w->lxE P n ops C D Q fl l L w
 | 0,L,j,l,y,h,hC,k=>by simp only[vM]at h; cases h; exact k
 | m+1,L,j,[],y,h,hC,k=>by simp[vM]at h
 | m+1,L,j,i :: l,y,h,hC,k=>by
  simp only[vM]at h
  split at h
  ·rename_i d op ty pos after z
   cases hb:fl i&&Nat.blt d n with
   | false=>rw[hb]at h; cases h
   | true=>
    rw[hb]at h
    simp only[cond_true]at h
    rw[aK]at hb
    cases hv:rO L op with
    | none=>rw[hv]at h; cases h
    | some v=>rw[hv]at h; exact cC hC z hb.1 (fun w _=>xq hv) hb.2 (cH m h hC k)
  ·cases h
end
def Up (cs:List Value) (off:Nat) (xs cs' xs':List Value):Prop:=∃A B,cs=A++(xs++B)/\cs'=A++(xs'++B)/\A.length=off
theorem Up.here {xs xs' B:List Value}:Up (xs++B) 0 xs (xs'++B) xs':=⟨[],B,rfl,rfl,rfl⟩
theorem Up.last {xs xs':List Value}:Up xs 0 xs xs' xs':=⟨[],[],by simp,by simp,rfl⟩
theorem Up.skip {cs j xs xs' A:List Value} {k off o:Nat} (hA:A.length=k) (h:Up cs off xs j xs') (y:k+off=o):Up (A++cs) o xs (A++j) xs':=by
 obtain⟨C,B,z,G,I⟩:=h
 exact⟨A++C,B,by rw[z,aN],by rw[G,aN],by rw[aQ,hA,I,y]⟩
theorem Up.get {cs j xs':List Value} {off:Nat} {u:Value} (h:Up cs off [u] j xs'):cs[off]? = some u:=by
 obtain⟨A,B,rfl,_,rfl⟩:=h
 simp
theorem Up.get0 {cs:List Value} {off:Nat} {u:Value} (h:Up cs off [u] cs [u]):cs[off]? = some u:=h.get
theorem Up.gets {cs k xs xs':List Value} {off:Nat} (h:Up cs off xs k xs') {j:Nat} {u:Value} (y:xs[j]? = some u):cs[off+j]? = some u:=by
 obtain⟨A,B,rfl,_,rfl⟩:=h
 rw[eL (by omega),dt,List.getElem?_append_left (aP.1 y).1]
 exact y
theorem Up.spl {cs j xs xs':List Value} {off:Nat} (h:Up cs off xs j xs') (hl:xs'.length=xs.length):spl cs off xs'=j:=by
 obtain⟨A,B,rfl,rfl,rfl⟩:=h
 unfold Go.Gk.spl
 rw[ia,hl,<-aN A xs B,jt (by simp),aN]
theorem Up.le {cs j xs xs':List Value} {off:Nat} (h:Up cs off xs j xs'):off+xs.length<=cs.length:=by
 obtain⟨A,B,rfl,rfl,rfl⟩:=h
 simp only[aQ]; omega
section
variable {τ:Type} {e:Enc τ} {l:List τ}
theorem Mu {j:Int} {t y:τ} {u z:Value} (G:aw l j=some t) (hu:e.cells t=[u]) (A:e.cells y=[z]):Up (e.fl l) (j.toNat*1) [u] (e.fl (l.set j.toNat y)) [z]:=by
 obtain⟨J,k,hg⟩:=fO G
 have hl:l=l.take j.toNat++(t :: l.drop (j.toNat+1)):=by
  have I:l[j.toNat]=t:=by rw[av k]at hg; exact et hg
  rw[<-I,<-aS k,cD]
 have hs:l.set j.toNat y=l.take j.toNat++(y :: l.drop (j.toNat+1)):=by
  rw[fI,ag k]
 refine⟨e.fl (l.take j.toNat),e.fl (l.drop (j.toNat+1)),?_,?_,?_⟩
 ·conv=>lhs; rw[hl]
  rw[e.fl_append]; congr 1
  simp[Enc.fl,hu]
 ·rw[hs,e.fl_append]; congr 1
  simp[Enc.fl,A]
 ·have B:e.sz=1:=by rw[<-e.len t,hu]; rfl
  rw[e.fl_length,B,aJ]; omega
theorem Up.sub {cs j z y xs xs':List Value} {off k:Nat} (h:Up cs off z j y) (g:Up z k xs y xs'):Up cs (off+k) xs j xs':=by
 obtain⟨A,B,rfl,rfl,rfl⟩:=h
 obtain⟨C,D,rfl,rfl,rfl⟩:=g
 exact⟨A++C,D++B,by simp,by simp,by simp⟩
theorem Up.elt {cs k:List Value} {off:Nat} {j:Int} {t y:τ} {u z:Value} (h:Up cs off (e.fl l) k (e.fl (l.set j.toNat y))) (B:aw l j=some t) (hu:e.cells t=[u]) (A:e.cells y=[z]):Up cs (off+j.toNat*1) [u] k [z]:=
 h.sub (Mu B hu A)
theorem Up.elr {cs:List Value} {off:Nat} {j:Int} {t:τ} {u:Value} (h:Up cs off (e.fl l) cs (e.fl l)) (y:aw l j=some t) (hu:e.cells t=[u]):cs[off+j.toNat*1]? = some u:=by
 obtain⟨A,z,hg⟩:=fO y
 have k:e.sz=1:=by rw[<-e.len t,hu]; rfl
 have:=e.fl_get l j.toNat t hg 0 (by omega)
 rw[k,hu]at this
 exact h.gets (by simpa using this)
theorem Ek {j:Int} {t:τ} {m:Nat} (k:aw l j=some t) (hl:l.length=m):0<=j/\j<(m:Int):=by
 obtain⟨z,y,_⟩:=fO k
 omega
theorem fp {m:Nat} (hl:l.length=m) (hs:e.sz=1):(e.fl l).length=m:=by rw[e.fl_length,hs,cE,hl]
theorem NL {A B:List Value} {a b c:Nat} (j:A.length=a) (k:B.length=b) (h:a+b=c):(A++B).length=c:=by rw[aQ,j,k,h]
theorem vj:∀u∈e.fl l,u.oneCell'=true:=e.fl_one l
theorem M9 {A B:List Value} (j:∀u∈A,u.oneCell'=true) (k:∀u∈B,u.oneCell'=true):∀u∈A++B,u.oneCell'=true:=fun u hu=>by
 rcases bG.1 hu with h | h
 ·exact j u h
 ·exact k u h
theorem wM {v:Value} (h:v.oneCell'=true):∀u∈[v],u.oneCell'=true:=fun u hu=>by
 simp at hu; subst hu; exact h
theorem xu {j:Int} {t:τ} {u:Value} (k:aw l j=some t) (hu:e.cells t=[u]):((e.fl l).toArray)[j.toNat*1]? = some u:=by
 have:=Up.elr (cs:=e.fl l) (off:=0) Up.last k hu
 simpa using this
end
section
variable {P:Program} {n:Nat} {L:Env} {w w0:World} {Q:Exit->Act->World->Prop} {S:L02} {os:List OE}
variable {d:Option Tmp} {ty:TypeId} {pos:String} {after:Array Edge}
theorem Nx {T E:TypeId} {m:Nat} {x y:Operand} {b off:Nat} {k:IntKind} {i:Int} (hT:P.underlying T=some (.array m E)) (hE:(P.info? E).map (·.size)=some 1)
  (hx:L.ev x=some (pB b off)) (j:L.ev y=some (.int k i)) (h:0<=i/\i<(m:Int)):OpV P n L w ⟨d,.indexAddr T x y,ty,pos,after,none⟩ (pB b (off+i.toNat*1)) w:=
 kv hT hE hx j h.1 h.2
theorem mW {T:TypeId} {D:TypeDesc} {x:Operand} {b off m:Nat} {us:List Value} (hT:P.underlying T=some D) (k:(match D with | .struct _ | .array _ _=>true | _=>false)=true)
  (hi:(P.info? T).map (·.size)=some m) (hl:us.length=m) (hx:L.ev x=some (pB b off)) (hc:∀j u,us[j]? = some u->w.cell? ⟨b,off+j,none⟩=some u) :
  OpV P n L w ⟨d,.load T x,ty,pos,after,none⟩ (.agg us.toArray) w:=BV hT k (by rw[hl]; exact hi) hx hc
theorem St.bxg (h:St S w0 w os) (i:Nat) {b:Nat} {cs:List Value} (hi:os[i]? = some (.bx b cs)) {off:Nat} {u:Value} (hu:cs[off]? = some u):w.cell? ⟨b,off,none⟩=some u:=(h.bxc i hi off).trans hu
theorem St.bxgs (h:St S w0 w os) (i:Nat) {b:Nat} {cs xs k xs':List Value} (hi:os[i]? = some (.bx b cs)) {off:Nat} (hu:Up cs off xs k xs'):∀j u,xs[j]? = some u->w.cell? ⟨b,off+j,none⟩=some u:=
 fun j u y=>(h.bxc i hi _).trans (hu.gets y)
theorem St.bxgs0 (h:St S w0 w os) (i:Nat) {b:Nat} {cs xs:List Value} (hi:os[i]? = some (.bx b cs)) {off:Nat} (hu:Up cs off xs cs xs):∀j u,xs[j]? = some u->w.cell? ⟨b,off+j,none⟩=some u:=h.bxgs i hi hu
theorem St.bxroA {τ:Type} {e:Enc τ} {l:List τ} {b off m:Nat} {cs:List Value} (h:St S w0 w os) (i:Nat) (hi:os[i]? = some (.bx b cs)) (hl:l.length=m) (hu:Up cs off (e.fl l) cs (e.fl l)):RO w e (.slice (some ⟨b,off,none⟩) m m) l:=by
 subst hl
 exact⟨_,_,rfl,ax _,fun _=>⟨b,off,rfl,h.bxgs i hi hu⟩⟩
theorem oI {T:TypeId} {x y:Operand} {b off i m:Nat} {v:Value} {cs xs j xs':List Value} (hi:os[i]? = some (.bx b cs)) (k:(P.info? T).map (·.size)=some m)
  (hx:L.ev x=some (pB b off)) (R:L.ev y=some v) (G:v.cells.toList=xs') (hu:Up cs off xs j xs') (X:xs.length=m) (I:xs'.length=m) (U:∀u∈xs',u.oneCell'=true) (hS:St S w0 w os) :
  OpY P n L w ⟨none,.store T x y,ty,pos,after,none⟩ (fun w'=>St S w0 w' (os.set i (.bx b j))):=by
 obtain⟨V,z,hg,J,A⟩:=hS.setB (off:=off) (us:=xs') hi
 rw[hu.spl (by omega)]at A
 refine tq _ (fun a ha=>?_) A
 cases hq:P.info? T with
 | none=>simp[hq]at k
 | some inf=>
  have hs:inf.size=xs'.length:=by rw[I]; simpa [hq] using k
  have N:off+0+xs'.length<=z.size:=by
   have:=hu.le
   rw[<-J]at this
   simp only[fc]at this
   omega
  have B:=run_storeCells_at P b off V xs' 0 z w hg N U
  have O:v.cells.size=xs'.length:=by rw[<-G]; simp
  simp only[bm]at B
  simp[execOp,Instr.storeAt,ha.ev hx,ha.ev R,Instr.sureAddr,storeVar,sizeOf,typeInfo,hq,hs,G,O,B]
theorem JL {T E:TypeId} {m:Nat} {x y:Operand} {cs:Array Value} {k:IntKind} {i:Int} {u:Value} {D:TypeDesc} (hT:P.underlying T=some (.array m E)) (hE:P.underlying E=some D)
  (z:(match D with | .struct _ | .array _ _=>true | _=>false)=false) (j:(P.info? E).map (·.size)=some 1)
  (hx:L.ev x=some (.agg cs)) (A:L.ev y=some (.int k i)) (h:0<=i/\i<(m:Int)) (hu:cs[i.toNat*1]? = some u):OpV P n L w ⟨d,.index T x y,ty,pos,after,none⟩ u w:=
 MD hT hE z j hx A h.1 h.2 hu
theorem Lr {b off m lo hi:Nat}:slV (.slice (some ⟨b,off,none⟩) m m) 1 lo hi=.slice (some (if m=lo then ⟨b,off,none⟩ else (⟨b,off,none⟩:Addr).add (lo*1))) (hi - lo) (m - lo):=by
 simp only[slV]
 split <;> rfl
theorem PH {x y z:Operand} {T E:TypeId} {k A:IntKind} {lo hi:Int} {τ:Type} {e:Enc τ} {l r:List τ} {b off m:Nat} (hT:P.underlying T=some (.array m E)) (hE:(P.info? E).map (·.size)=some 1) (hs:e.sz=1)
  (hx:L.ev x=some (pB b off)) (B:L.ev y=some (.int k lo)) (hz:L.ev z=some (.int A hi)) (U:l.length=m) (hg:slO l lo hi=some r) :
  OpV P n L w ⟨d,.slice T x (some y) (some z) none,ty,pos,after,none⟩ (slV (.slice (some ⟨b,off,none⟩) m m) e.sz lo.toNat hi.toNat) w:=fun a ha=>by
 obtain⟨⟨G,V,X⟩,_⟩:=fY hg
 cases hi':P.info? E with
 | none=>rw[hi']at hE; cases hE
 | some inf=>
  have j:inf.size=1:=by rw[hi']at hE; simpa using hE
  have I:lo<=hi:=by omega
  have J:hi<=(m:Int):=by omega
  have N:0<=hi:=by omega
  have O:lo<=(m:Int):=by omega
  have R:(hi.toNat:Int)=hi:=by omega
  rw[hs,Lr]
  simp[execOp,ha.ev hx,ha.ev B,ha.ev hz,Instr.sliceAt,Instr.sureAddr,run_underlying hT,Instr.sliceBounds,run_sliceBound,G,I,J,N,O,R,sizeOf,typeInfo,hi',j]
theorem Qm {x y:Operand} {T E:TypeId} {k:IntKind} {lo:Int} {τ:Type} {e:Enc τ} {l r:List τ} {b off m:Nat} (hT:P.underlying T=some (.array m E)) (hE:(P.info? E).map (·.size)=some 1) (hs:e.sz=1)
  (hx:L.ev x=some (pB b off)) (z:L.ev y=some (.int k lo)) (A:l.length=m) (hg:drO l lo=some r) :
  OpV P n L w ⟨d,.slice T x (some y) none none,ty,pos,after,none⟩ (slV (.slice (some ⟨b,off,none⟩) m m) e.sz lo.toNat l.length) w:=fun a ha=>by
 obtain⟨⟨B,I⟩,_⟩:=lC hg
 cases hi':P.info? E with
 | none=>rw[hi']at hE; cases hE
 | some inf=>
  have j:inf.size=1:=by rw[hi']at hE; simpa using hE
  have G:lo<=(m:Int):=by omega
  rw[hs,A,Lr]
  simp[execOp,ha.ev hx,ha.ev z,Instr.sliceAt,Instr.sureAddr,run_underlying hT,Instr.sliceBounds,run_sliceBound,B,G,sizeOf,typeInfo,hi',j]
theorem HN {x y:Operand} {T T2 E:TypeId} {τ:Type} {e:Enc τ} {z:Value} {bytes:Nat} {u:Value} {l m:List τ} {i lo hi b off q:Nat} {cs k:List Value} (hT:P.underlying T=some (.slice E)) (hE:TI P E z e.sz bytes) (j:e.sz=1)
  (hx:L.ev x=some (slV (.slice (some ⟨b,off,none⟩) q q) e.sz lo hi)) (hy:L.ev y=some u) (hS:St S w0 w os) (R:os[i]? = some (.bx b cs)) (hq:l.length=q) (ap:Up cs off (e.fl l) k (e.fl (cpL l m lo hi))) (hu:RO w e u m) (h1:lo<=hi) (h2:hi<=l.length) :
  OpX P n L w ⟨d,.call ⟨.builtin .copy,#[x,y],#[T,T2]⟩,ty,pos,after,none⟩ (fun r w'=>r=vI (min m.length (hi - lo):Nat)/\St S w0 w' (os.set i (.bx b k))):=by
 obtain⟨cf,U,_,hs,_⟩:=hE.get
 have Z:=ow (P:=P) hu (min m.length (hi - lo)) (Nat.min_le_left _ _)
 obtain⟨ua,uc,rfl,cm,ct⟩:=hu
 obtain⟨A,B,hA,b4,V⟩:=ap
 have b5:e.fl (m.take (min m.length (hi - lo)))=(e.fl m).take (min m.length (hi - lo)):=by rw[e.fl_take,j,cE]
 have I:(e.fl (m.take (min m.length (hi - lo)))).length=min m.length (hi - lo):=by rw[e.fl_length,j]; simp
 have b6:cpL l m lo hi=l.take lo++m.take (min m.length (hi - lo))++l.drop (lo+min m.length (hi - lo)):=by
  unfold cpL
  congr 2
  by_cases h:m.length<=hi - lo
  ·rw[bf h,aA h,aA (ax _)]
  ·rw[Nat.min_eq_right (by omega)]
 have J:spl cs (off+lo) (e.fl (m.take (min m.length (hi - lo))))=k:=by
  have b7:l=l.take lo++(l.drop lo).take (min m.length (hi - lo))++l.drop (lo+min m.length (hi - lo)):=by
   rw[aN,<-fS,cD,cD]
  have ab:Up cs (off+lo) (e.fl ((l.drop lo).take (min m.length (hi - lo)))) k (e.fl (m.take (min m.length (hi - lo)))):=by
   refine⟨A++e.fl (l.take lo),e.fl (l.drop (lo+min m.length (hi - lo)))++B,?_,?_,?_⟩
   ·rw[hA]
    conv=>lhs; rw[b7]
    simp[e.fl_append]
   ·rw[b4,b6]; simp[e.fl_append]
   ·rw[aQ,V,e.fl_length,j,aJ]; omega
  refine ab.spl ?_
  rw[I,e.fl_length,j,aJ,ca]; omega
 obtain⟨T',G,hg,b8,X⟩:=hS.setB (off:=off+lo) (us:=e.fl (m.take (min m.length (hi - lo)))) R
 rw[J]at X
 have ce:off+lo+min m.length (hi - lo)<=G.size:=by
  have:G.size=cs.length:=by rw[<-b8]; simp
  rw[this,hA,aQ,aQ,V,e.fl_length,j]; omega
 by_cases hcl:q=lo
 ·have hz:hi - lo=0:=by omega
  refine iH (vI 0) w (fun a ha=>?_) ⟨by rw[hz]; simp,?_⟩
  ·have N:slV (.slice (some ⟨b,off,none⟩) q q) e.sz lo hi=.slice (some ⟨b,off,none⟩) (hi - lo) (q - lo):=by simp[slV,hcl]
   rw[N]at hx
   simp only[hz,Nat.min_zero]at Z hx
   have hr:(Builtin.copy_ #[T,T2] ty #[.slice (some ⟨b,off,none⟩) 0 (q - lo),.slice ua m.length uc]).run P w=.ok (vI 0) w:=by
    simp[Builtin.copy_,run_underlying hT,Builtin.lenOf,sizeOf,typeInfo,U,hs,Z,goInt,Enc.fl,storeCells]
   simp[execOp,resolve,invoke,builtin,ha.ev hx,ha.ev hy,hr]
  ·have:k=cs:=by
    rw[<-J,hz]; simp[spl,Enc.fl]
   rw[this]
   have O:os.set i (.bx b cs)=os:=Kb R
   rw[O]; exact hS
 ·have N:slV (.slice (some ⟨b,off,none⟩) q q) e.sz lo hi=.slice (some ⟨b,off+lo,none⟩) (hi - lo) (q - lo):=by simp[slV,hcl,iS,j]
  rw[N]at hx
  have Y:=run_storeCells_at P b (off+lo) T' (e.fl (m.take (min m.length (hi - lo)))) 0 G w hg (by rw[I]; omega) (e.fl_one _)
  simp only[bm]at Y
  refine iH _ _ (fun a ha=>?_) ⟨rfl,X⟩
  have hr:(Builtin.copy_ #[T,T2] ty #[.slice (some ⟨b,off+lo,none⟩) (hi - lo) (q - lo),.slice ua m.length uc]).run P w=.ok (vI (min m.length (hi - lo):Nat)) (w.setRow b (G.toList.take (off+lo)++e.fl (m.take (min m.length (hi - lo)))++G.toList.drop (off+lo+(e.fl (m.take (min m.length (hi - lo)))).length)).toArray):=by
   simp[Builtin.copy_,run_underlying hT,Builtin.lenOf,sizeOf,typeInfo,U,hs,Z,Y,goInt]
  simp[execOp,resolve,invoke,builtin,ha.ev hx,ha.ev hy,hr]
def GA {τ:Type} (S:L02) (w0:World) (g:Nat) (e:Enc τ) (l:List τ):Prop:=(∀j u,(e.fl l)[j]? = some u->w0.cell? ⟨g,j,none⟩=some u)/\g ∉ S
theorem GA.cells {τ:Type} {g:Nat} {e:Enc τ} {l:List τ} (h:GA S w0 g e l) (hf:Fr S w0 w):∀j u,(e.fl l)[j]? = some u->w.cell? ⟨g,0+j,none⟩=some u:=fun j u k=>by
 have:=h.1 j u k
 rw[bk,hf.cell (mh this) h.2]
 exact this
theorem GA.cell {τ:Type} {g:Nat} {e:Enc τ} {l:List τ} (h:GA S w0 g e l) (hf:Fr S w0 w) {j:Int} {t:τ} {u:Value} (k:aw l j=some t) (hu:e.cells t=[u]):w.cell? ⟨g,0+j.toNat*1,none⟩=some u:=
 h.cells hf _ u (by have:=Up.elr (cs:=e.fl l) (off:=0) Up.last k hu; simpa using this)
theorem GA.now {τ:Type} {g:Nat} {e:Enc τ} {l:List τ} (h:GA S w0 g e l) (hf:Fr S w0 w):GA [] w g e l:=⟨fun j u k=>by have:=h.cells hf j u k; simpa using this,by simp⟩
theorem GA.give {τ:Type} {g:Nat} {e:Enc τ} {l:List τ} {os0:List OE} (h:GA S w0 g e l) (y:0<(e.fl l).length) (hS:St S w0 w (os0++os)):GA (eu os0) w g e l:=by
 refine⟨fun j u A=>by have:=h.cells hS.fr j u A; simpa using this,fun B=>?_⟩
 obtain⟨o,G,z⟩:=dO.1 B
 have k:=((hS.ok o (bW _ G)).lt z).2
 rcases k with k | k
 ·have:=mh (h.1 0 _ (av y))
  simp only at this
  omega
 ·exact h.2 k
theorem HZ {x z u:Operand} {T E:TypeId} {k y:IntKind} {hi m:Int} {τ:Type} {e:Enc τ} {v z0:Value} {l:List τ} {bytes:Nat} (hT:P.underlying T=some (.slice E)) (hE:TI P E z0 e.sz bytes)
  (hx:L.ev x=some v) (hz:L.ev z=some (.int k hi)) (hu:L.ev u=some (.int y m)) (h:RO w e v l) (hg:0<=hi/\hi.toNat<=l.length/\m=hi) :
  OpV P n L w ⟨d,.slice T x none (some z) (some u),ty,pos,after,none⟩ (slV3 v e.sz 0 hi.toNat hi.toNat) w:=fun a ha=>by
 obtain⟨b,c,rfl,hc,_⟩:=h
 obtain⟨I,j,_,hs,_⟩:=hE.get
 obtain⟨A,J,rfl⟩:=hg
 have B:m<=(c:Int):=by omega
 have G:(m.toNat:Int)=m:=ik (by omega)
 simp[execOp,ha.ev hx,ha.ev hz,ha.ev hu,Instr.sliceAt,Instr.slice,run_underlying hT,Instr.sliceBounds,run_sliceBound,A,B,G,sizeOf,typeInfo,j,hs,slV3]
theorem OE.ok.cut3 {B:Nat} {τ:Type} {e:Enc τ} {v:Value} {l:List τ} {k:Nat} (h:(own e v l).ok S B w) (I:k<=l.length):(own e (slV3 v e.sz 0 k k) (l.take k)).ok S B w:=by
 refine⟨e.fl_length _,?_⟩
 rcases h.2 with⟨rfl,hn⟩ | ⟨g,z,A,T,rfl,hf,hg,N,O,G,y⟩
 ·have:k=0:=by omega
  subst this
  exact .inl ⟨by simp[slV3],by simp⟩
 ·have J:slV3 (.slice (some ⟨g,0,none⟩) l.length z) e.sz 0 k k=.slice (some ⟨g,0,none⟩) k k:=by
   simp[slV3,iS]
  have j:(l.take k).length=k:=by simp; omega
  refine .inr ⟨g,k,A,T,by rw[J,j],hf,hg,by rw[j]; exact ax _,by omega,ba (aT _ (by omega)) G,?_⟩
  rw[j,e.fl_take,<-y,List.take_take,bf (aT _ I)]
theorem St.trunc3 {τ:Type} {e:Enc τ} {v:Value} {l:List τ} {i k:Nat} (h:St S w0 w os) (hi:os[i]? = some (own e v l)) (z:k<=l.length):St S w0 w (os.set i (own e (slV3 v e.sz 0 k k) (l.take k))):=by
 refine h.set hi (Fr.refl _ _) ((h.ok _ (bd hi)).cut3 z) fun q j=>.inl ?_
 have y:=h.ok _ (bd hi)
 rcases y.2 with⟨rfl,hn⟩ | ⟨g,A,B,T,rfl,_⟩
 ·simp[OE.blk,slV3,Value.ownBlock]at j
 ·simpa [OE.blk,slV3,iS,Value.ownBlock] using j
end
section
variable {S:L02} {w0 w:World} {os os0:List OE} {b:Nat} {cs:List Value}
def RB (S:L02) (w0:World) (b:Nat) (cs:List Value):Prop:=(∀j u,cs[j]? = some u->w0.cell? ⟨b,j,none⟩=some u)/\b ∉ S/\b<w0.heap.size
theorem RB.cells (h:RB S w0 b cs) (hf:Fr S w0 w):∀j u,cs[j]? = some u->w.cell? ⟨b,0+j,none⟩=some u:=fun j u k=>by
 have:=h.1 j u k
 rw[bk,hf.cell (mh this) h.2.1]
 exact this
theorem RB.cell (h:RB S w0 b cs) (hf:Fr S w0 w) (j:Nat) {u:Value} (k:cs[j]? = some u):w.cell? ⟨b,0+j,none⟩=some u:=h.cells hf j u k
theorem RB.now (h:RB S w0 b cs) (hf:Fr S w0 w):RB [] w b cs:=
 ⟨fun j u k=>by have:=h.cells hf j u k; simpa using this,by simp,aW h.2.2 hf.size⟩
theorem RB.give (h:RB S w0 b cs) (hS:St S w0 w (os0++os)):RB (eu os0) w b cs:=by
 refine⟨fun j u z=>by have:=h.cells hS.fr j u z; simpa using this,fun A=>?_,aW h.2.2 hS.fr.size⟩
 obtain⟨o,B,y⟩:=dO.1 A
 have k:=((hS.ok o (bW _ B)).lt y).2
 rcases k with k | k
 ·have:=h.2.2
  omega
 ·exact h.2.1 k
theorem St.rb (hS:St S w0 w os) (i:Nat) (hi:os[i]? = some (.bx b cs)):RB [] w b cs:=by
 obtain⟨hf,T,y,hg,z⟩:=hS.ok _ (bd hi)
 exact⟨fun j u k=>by rw[hS.bxc i hi]; exact k,by simp,(cg.1 hg).1⟩
theorem St.giveB (hS:St S w0 w (os0++os)) (i:Nat) (hi:os[i]? = some (.bx b cs)):RB (eu os0) w b cs:=by
 have y:=bd hi
 have j:(os0++os)[os0.length+i]? = some (.bx b cs):=by rw[eL (by omega)]; simpa using hi
 obtain⟨z,_,A⟩:=hS.rb _ j
 refine⟨z,fun B=>?_,A⟩
 obtain⟨o,G,k⟩:=dO.1 B
 exact (cd.1 hS.dj).2.2 o G _ y b k rfl
end
theorem CX {τ:Type} (k:Nat) (l:List τ):(l.take k).length<=l.length:=by rw[aJ]; exact Nat.min_le_right _ _
theorem HL (a:Addr) (k:Nat):a.add (0*k)=a:=by
 rw[fu]
 unfold Addr.add
 cases a with
 | mk b off sp=>cases sp <;> simp
theorem oQ (a:Option Addr) (k:Nat):a.map (·.add (0*k))=a:=by
 cases a with
 | none=>rfl
 | some a=>simp only[bO,HL]
theorem RO.full {w:World} {τ:Type} {e:Enc τ} {v:Value} {l:List τ} (h:RO w e v l):v=slV v e.sz 0 l.length:=by
 obtain⟨a,c,rfl,hc,_⟩:=h
 simp only[slV,f9,oQ,iM]
theorem RO.cut3 {w:World} {τ:Type} {e:Enc τ} {v:Value} {l:List τ} (h:RO w e v l) (k m:Nat):Go.Gk.slV3 (slV v e.sz 0 k) e.sz 0 m m=Go.Gk.slV3 v e.sz 0 m m:=by
 obtain⟨a,c,rfl,hc,_⟩:=h
 simp only[slV,Go.Gk.slV3,f9,oQ,iM]
theorem RO.tk3 {w:World} {τ:Type} {e:Enc τ} {v:Value} {l:List τ} (h:RO w e v l) {k:Nat} (j:k<=l.length):RO w e (slV3 v e.sz 0 k k) (l.take k):=by
 have:=h.sub3 (lo:=0) (hi:=k) (m:=k) (ft _) j (ax _)
 simpa using this
theorem RP.tk3 {S:L02} {w:World} {τ:Type} {e:Enc τ} {v:Value} {l:List τ} (h:RP S w e v l) {k:Nat} (A:k<=l.length):RP S w e (slV3 v e.sz 0 k k) (l.take k):=by
 refine⟨h.1.tk3 A,fun hl j B hb=>?_⟩
 have y:l≠[]:=by rintro rfl; simp at hl
 refine h.2 y j B ?_
 obtain⟨a,c,rfl,hc,_⟩:=h.1
 have z:Ax (.slice a k k)=some j:=by simpa only [Go.Gk.slV3,f9,oQ,iM] using hb
 cases a <;> exact z
section
variable {S Sb:L02} {w0 wb w w':World} {es es1 os os0 osF osK:List OE}
def OE.kept (S:L02) (w:World):OE->Prop
 | .bx b cs=>RB S w b cs
 | .rd v sz n cs=>cs.length=n*sz/\∃a c,v=.slice a n c/\n<=c /\
   (n≠0->∃b off,a=some ⟨b,off,none⟩/\b<w.heap.size/\b ∉ S/\∀j u,cs[j]? = some u->w.cell? ⟨b,off+j,none⟩=some u)
 | .sl ..=>True
def OE.kp:OE->OE
 | .sl v sz n cs=>.rd v sz n cs
 | o=>o
theorem OE.kept.to {o:OE} {S':L02} (h:o.kept S w) (hf:Fr S w w') (hS:∀k,k<w.heap.size->k ∉ S->k ∉ S'):o.kept S' w':=by
 cases o with
 | sl v sz n cs=>trivial
 | bx b cs=>
  obtain⟨h1,h2,h3⟩:=h
  refine⟨fun j u hj=>?_,hS _ h3 h2,aW h3 hf.size⟩
  rw[hf.cell h3 h2]
  exact h1 j u hj
 | rd v sz n cs=>
  obtain⟨hl,a,c,rfl,hc,hx⟩:=h
  refine⟨hl,a,c,rfl,hc,fun hn=>?_⟩
  obtain⟨b,off,rfl,hb,hs,hcell⟩:=hx hn
  refine⟨b,off,rfl,aW hb hf.size,hS _ hb hs,fun j u hj=>?_⟩
  rw[hf.cell hb hs]
  exact hcell j u hj
theorem OE.kept.fr {o:OE} (h:o.kept S w) (hf:Fr S w w'):o.kept S w':=h.to hf fun _ _ h=>h
theorem OE.kept.blk {o:OE} (h:o.kept S w) (ho:∀v sz n cs,o≠.sl v sz n cs) {k:Nat} (hk:o.blk=some k):k<w.heap.size/\k ∉ S:=by
 cases o with
 | sl v sz n cs=>exact absurd rfl (ho v sz n cs)
 | bx b cs=>simp[OE.blk]at hk; subst hk; exact⟨h.2.2,h.2.1⟩
 | rd v sz n cs=>
  obtain⟨hl,a,c,rfl,hc,hx⟩:=h
  simp only[OE.blk]at hk
  split at hk
  ·cases hk
  ·rename_i hn
   obtain⟨b,off,rfl,hb,hs,_⟩:=hx hn
   simp[Value.ownBlock]at hk
   subst hk
   exact⟨hb,hs⟩
theorem OE.ok.kept {o:OE} {B:Nat} (h:o.ok S B w) {S':L02} (hd:∀k,o.blk=some k->k ∉ S'):o.kp.kept S' w:=by
 cases o with
 | sl v sz n cs=>
  refine⟨h.1,?_⟩
  rcases h.2 with⟨rfl,rfl⟩ | ⟨g,cap,cur,T,rfl,hf,hg,hnc,hcm,hcs,htake⟩
  ·exact⟨none,0,rfl,ax _,fun h=>absurd rfl h⟩
  ·refine⟨_,cap,rfl,hnc,fun _=>⟨g,0,rfl,hg.lt,hd g rfl,fun j u hj=>?_⟩⟩
   rw[<-htake,bR]at hj
   split at hj
   ·rw[bk,hg.cell j]
    simpa using hj
   ·cases hj
 | rd v sz n cs=>
  obtain⟨hl,a,c,rfl,hc,hx⟩:=h
  refine⟨hl,a,c,rfl,hc,fun hn=>?_⟩
  obtain⟨b,off,rfl,hb,_,hcell⟩:=hx hn
  exact⟨b,off,rfl,hb,hd b (by simp[OE.blk,hn,Value.ownBlock]),hcell⟩
 | bx b cs=>
  obtain⟨hf,T,cur,hg,hcs⟩:=h
  have hlt:=(cg.1 hg).1
  refine⟨fun j u hj=>?_,hd b rfl,hlt⟩
  rw[cell_of_row w b j cur T _ hg,<-gO,hcs]
  exact hj
def Rds (S:L02) (w:World) (es:List OE):Prop:=∀o∈es,o.kept S w
structure Fz (S:L02) (w0:World) (Sb:L02) (wb:World):Prop where
 fr:Fr S w0 wb
 sb:∀b∈Sb,fre S w0.heap.size b
def Sf (S:L02) (w0 w:World) (es os:List OE):Prop:=∃Sb wb,Fz S w0 Sb wb/\Rds Sb wb es/\St Sb wb w os
theorem Rds.nil:Rds S w []:=fun o h=>by cases h
theorem Rds.cons {o:OE} (h:o.kept S w) (hr:Rds S w es):Rds S w (o :: es):=fun p hp=>by
 rcases aG.1 hp with rfl | hp
 ·exact h
 ·exact hr p hp
theorem Rds.app (h:Rds S w es) (h1:Rds S w es1):Rds S w (es++es1):=fun p hp=>(bG.1 hp).elim (h p) (h1 p)
theorem RB.kept {b:Nat} {cs:List Value} (h:RB S w b cs):(OE.bx b cs).kept S w:=h
theorem RP.kept {τ:Type} {e:Enc τ} {v:Value} {l:List τ} (hz:0<e.sz) (h:RP S w e v l):(red e v l).kept S w:=by
 refine⟨e.fl_length l,?_⟩
 obtain⟨a,c,rfl,hc,hr⟩:=h.1
 refine⟨a,c,rfl,hc,fun hn=>?_⟩
 have hl:l≠[]:=by rintro rfl; exact hn rfl
 obtain⟨b,off,rfl,hcell⟩:=hr hl
 have hne:0<(e.fl l).length:=by
  rw[e.fl_length]
  exact Nat.mul_pos (fb.2 hl) hz
 exact⟨b,off,rfl,mh (hcell 0 _ (av hne)),fun hb=>h.2 hl b hb rfl,hcell⟩
theorem OE.kept.rp {τ:Type} {e:Enc τ} {v:Value} {l:List τ} (h:(red e v l).kept S w):RP S w e v l:=by
 obtain⟨_,a,c,rfl,hc,hcell⟩:=h
 refine⟨⟨a,c,rfl,hc,fun hl=>?_⟩,fun hl k hk hb=>?_⟩
 ·obtain⟨b,off,h1,_,_,h2⟩:=hcell (by simpa using hl)
  exact⟨b,off,h1,h2⟩
 ·obtain⟨b,off,rfl,_,hs,_⟩:=hcell (by simpa using hl)
  have:b=k:=by simpa [Value.ownBlock] using hb
  exact hs (this ▸ hk)
def rx (es:List OE) (k:Nat):Option OE:=es[es.length - 1 - k]?
theorem Rds.rp (h:Rds S w es) (k:Nat) {τ:Type} {e:Enc τ} {v:Value} {l:List τ} (hk:rx es k=some (red e v l)):RP S w e v l:=(h _ (bd hk)).rp
theorem Rds.rb (h:Rds S w es) (k:Nat) {b:Nat} {cs:List Value} (hk:rx es k=some (.bx b cs)):RB S w b cs:=h _ (bd hk)
theorem Rds.pick {es':List OE} (h:Rds S w es) (ix:L02) (he:es'.map some=ix.map (fun i=>rx es i)):Rds S w es':=fun o ho=>by
 have h1:some o∈es'.map some:=List.mem_map_of_mem ho
 rw[he]at h1
 obtain⟨i,_,hi⟩:=jx.1 h1
 exact h o (bd hi)
theorem Sf.of (hA:Rds S w0 es) (hS:St S w0 w os):Sf S w0 w es os:=⟨S,w0,⟨Fr.refl _ _,fun b hb=>.inr hb⟩,hA,hS⟩
theorem Sf.mk' (hF:Fz S w0 Sb wb) (hA:Rds Sb wb es) (hS:St Sb wb w os):Sf S w0 w es os:=⟨Sb,wb,hF,hA,hS⟩
theorem Fz.start:Fz S w0 S w0:=⟨Fr.refl _ _,fun b hb=>.inr hb⟩
theorem Fz.st (hF:Fz S w0 Sb wb) (hS:St Sb wb w os):St S w0 w os:=by
 have hfre:∀k,fre Sb wb.heap.size k->fre S w0.heap.size k:=by
  intro k hk
  rcases hk with hk | hk
  ·exact .inl (ba hF.fr.size hk)
  ·exact hF.sb k hk
 refine⟨hF.fr.step hS.fr hF.sb,fun o ho=>(hS.ok o ho).re fun k _ hf=>hfre k hf,hS.dj⟩
theorem Fz.frz (hF:Fz S w0 Sb wb) (hA:Rds Sb wb es) (hS:St Sb wb w (osF++osK)):∃Sb' wb',Fz S w0 Sb' wb'/\Rds Sb' wb' (osF.map OE.kp++es)/\St Sb' wb' w osK:=by
 have hst:=hF.st hS
 have hp:=cd.1 hS.dj
 refine⟨eu osK,w,⟨hst.fr,fun b hb=>?_⟩,Rds.app ?_ ?_,?_⟩
 ·obtain⟨o,ho,hob⟩:=dO.1 hb
  exact ((hst.ok o (bC _ ho)).lt hob).2
 ·intro p hp'
  obtain⟨o,ho,rfl⟩:=jx.1 hp'
  refine (hS.ok o (bW _ ho)).kept fun k hk hx=>?_
  obtain⟨q,hq,hqb⟩:=dO.1 hx
  exact hp.2.2 o ho q hq k hk hqb
 ·intro o ho
  refine (hA o ho).to hS.fr fun k hk hs hx=>?_
  obtain⟨q,hq,hqb⟩:=dO.1 hx
  rcases ((hS.ok q (bC _ hq)).lt hqb).2 with h | h
  ·omega
  ·exact hs h
 ·exact⟨Fr.refl _ _,fun o ho=>(hS.ok o (bC _ ho)).re fun k hk _=>.inr (dO.2 ⟨o,ho,hk⟩),hp.2.1⟩
theorem Fz.out (hF:Fz [] w0 Sb wb) (hA:Rds Sb wb es) (hS:St Sb wb w os):St [] w0 w []/\Rds [] w (os.map OE.kp++es):=by
 obtain⟨Sb',wb',h1,h2,h3⟩:=Fz.frz (osK:=[]) hF hA (by rw[bP]; exact hS)
 exact⟨h1.st h3,fun o ho=>(h2 o ho).to h3.fr fun _ _ _ h=>by cases h⟩
end
theorem OE.kept.nil {S:L02} {w:World} {τ:Type} {e:Enc τ}:(red e (.slice none 0 0) ([]:List τ)).kept S w:=⟨by simp,none,0,rfl,ax _,fun h=>absurd rfl h⟩
theorem Rds.nth {S:L02} {w:World} {es:List OE} (h:Rds S w es) (k:Nat) {o:OE} (hk:rx es k=some o):o.kept S w:=h _ (bd hk)
def sS {α:Type} (x:Option α) (p:Prop) (q:α->Prop):Prop:=match x with
 | none=>p
 | some c=>q c
theorem Jy {α:Type} {p:Prop} {q:α->Prop} (h:p):sS none p q:=h
theorem KM {α:Type} {c:α} {p:Prop} {q:α->Prop} (h:q c):sS (some c) p q:=h
def OE.ns:OE->Bool
 | .sl ..=>false
 | _=>true
def Off (T:L02) (es:List OE):Prop:=∀o∈es,∀b,o.blk=some b->b ∉ T
def TOk (S T:L02) (w0:World):Prop:=∀b∈T,b<w0.heap.size/\b ∉ S
def SfT (S T:L02) (w0 w:World) (es os:List OE):Prop:=∃Sb wb,Fz S w0 Sb wb/\Rds Sb wb es/\Off T es/\St Sb wb w os
section
variable {S T Sb:L02} {w0 wb w w':World} {es es1 os os0 osF osK:List OE}
theorem TOk.nil:TOk S [] w0:=fun b h=>by cases h
theorem Off.nil:Off T []:=fun o h=>by cases h
theorem Off.emp:Off [] es:=fun o _ b _ h=>by cases h
theorem Off.cons {o:OE} (h:∀b,o.blk=some b->b ∉ T) (hr:Off T es):Off T (o :: es):=fun p hp=>by
 rcases aG.1 hp with rfl | hp
 ·exact h
 ·exact hr p hp
theorem Off.app (h:Off T es) (h1:Off T es1):Off T (es++es1):=fun p hp=>(bG.1 hp).elim (h p) (h1 p)
theorem OE.kept.off {o:OE} (h:o.kept T w) (hn:o.ns=true):∀b,o.blk=some b->b ∉ T:=fun b hb=>(h.blk (fun v sz n cs e=>by rw[e]at hn; cases hn) hb).2
theorem OE.kept.all {o:OE} (h:o.kept T w):o.kept [] w:=h.to (Fr.refl _ _) fun _ _ _=>by simp
theorem OE.kept.more {o:OE} (h:o.kept Sb w) (hn:∀b,o.blk=some b->b ∉ T):o.kept (T++Sb) w:=by
 cases o with
 | sl v sz n cs=>trivial
 | bx b cs=>
  obtain⟨h1,h2,h3⟩:=h
  exact⟨h1,fun hb=>(bG.1 hb).elim (hn b rfl) h2,h3⟩
 | rd v sz n cs=>
  obtain⟨hl,a,c,rfl,hc,hx⟩:=h
  refine⟨hl,a,c,rfl,hc,fun hne=>?_⟩
  obtain⟨b,off,rfl,hb,hs,hcell⟩:=hx hne
  exact⟨b,off,rfl,hb,fun hbb=>(bG.1 hbb).elim (hn b (by simp[OE.blk,hne,Value.ownBlock])) hs,hcell⟩
theorem Rds.off (h:Rds T w es) (hn:es.all OE.ns=true):Off T es:=fun o ho=>(h o ho).off (ci.1 hn o ho)
theorem Rds.all (h:Rds T w es):Rds [] w es:=fun o ho=>(h o ho).all
theorem Rds.rpT (h:Rds Sb w es) (hP:Off T es) (k:Nat) {τ:Type} {e:Enc τ} {v:Value} {l:List τ} (hk:rx es k=some (red e v l)):RP (T++Sb) w e v l:=
 ((h _ (bd hk)).more (hP _ (bd hk))).rp
theorem OE.blk_kp (o:OE):∀b,o.kp.blk=some b->o.blk=some b:=fun b h=>by
 cases o with
 | sl v sz n cs=>
  simp only[OE.kp,OE.blk]at h ⊢
  split at h
  ·cases h
  ·exact h
 | bx b cs=>exact h
 | rd v sz n cs=>exact h
theorem Fz.offF (hF:Fz S w0 Sb wb) (hT:TOk S T w0) (hP:Off T es) (hS:St Sb wb w (osF++osK)):Off T (osF.map OE.kp++es):=by
 refine Off.app (fun o ho b hb hbT=>?_) hP
 obtain⟨q,hq,rfl⟩:=jx.1 ho
 have h1:=(((hF.st hS).ok q (bW _ hq)).lt (OE.blk_kp q b hb)).2
 obtain⟨h2,h3⟩:=hT b hbT
 rcases h1 with h1 | h1
 ·omega
 ·exact h3 h1
theorem Fz.frzK (hF:Fz S w0 Sb wb) (hT:TOk S T w0) (hA:Rds Sb wb es) (hP:Off T es) (hS:St Sb wb w (osF++osK)) :
  Fz S w0 (eu osK) w/\Rds (eu osK) w (osF.map OE.kp++es)/\Off T (osF.map OE.kp++es)/\St (eu osK) w w osK:=by
 have hst:=hF.st hS
 have hp:=cd.1 hS.dj
 refine⟨⟨hst.fr,fun b hb=>?_⟩,Rds.app ?_ ?_,hF.offF hT hP hS,?_⟩
 ·obtain⟨o,ho,hob⟩:=dO.1 hb
  exact ((hst.ok o (bC _ ho)).lt hob).2
 ·intro p hp'
  obtain⟨o,ho,rfl⟩:=jx.1 hp'
  refine (hS.ok o (bW _ ho)).kept fun k hk hx=>?_
  obtain⟨q,hq,hqb⟩:=dO.1 hx
  exact hp.2.2 o ho q hq k hk hqb
 ·intro o ho
  refine (hA o ho).to hS.fr fun k hk hs hx=>?_
  obtain⟨q,hq,hqb⟩:=dO.1 hx
  rcases ((hS.ok q (bC _ hq)).lt hqb).2 with h | h
  ·omega
  ·exact hs h
 ·exact⟨Fr.refl _ _,fun o ho=>(hS.ok o (bC _ ho)).re fun k hk _=>.inr (dO.2 ⟨o,ho,hk⟩),hp.2.1⟩
theorem Fz.okT (hF:Fz S w0 (eu osK) w) (hT:TOk S T w0) (hS:St (eu osK) w w osK):TOk [] (T++eu osK) w:=fun b hb=>by
 refine⟨?_,by simp⟩
 rcases bG.1 hb with hb | hb
 ·exact aW (hT b hb).1 hF.fr.size
 ·obtain⟨o,ho,hob⟩:=dO.1 hb
  exact ((hS.ok o ho).lt hob).1
theorem Fz.callK (hF:Fz S w0 (eu osK) w) (hA:Rds (eu osK) w es) (hP:Off T es) (hS:St (eu osK) w w osK) (hC:St [] w w' []) (hR:Rds (T++eu osK) w' es1) (hn:es1.all OE.ns=true) :
  ∃Sb' wb',Fz S w0 Sb' wb'/\Rds Sb' wb' (es1++es)/\Off T (es1++es)/\St Sb' wb' w' osK:=by
 have h4:St (eu osK) w w' osK:=by have:=hS.call hC; rwa [bN]at this
 have hb:∀b∈eu osK,b<w.heap.size:=fun b hb=>by
  obtain⟨o,ho,hob⟩:=dO.1 hb
  exact ((hS.ok o ho).lt hob).1
 refine⟨eu osK,w',⟨(hF.st h4).fr,hF.sb⟩,Rds.app (fun o ho=>(hR o ho).to (Fr.refl _ _) fun k _ hk hx=>hk (bC _ hx)) (fun o ho=>(hA o ho).fr h4.fr),?_,?_⟩
 ·refine Off.app (fun o ho b hb hx=>?_) hP
  exact (hR o ho).off (ci.1 hn o ho) b hb (bW _ hx)
 ·exact⟨Fr.refl _ _,fun o ho=>(h4.ok o ho).re fun k hk _=>.inr (dO.2 ⟨o,ho,hk⟩),h4.dj⟩
theorem Fz.outT (hF:Fz [] w0 Sb wb) (hT:TOk [] T w0) (hA:Rds Sb wb es) (hP:Off T es) (hS:St Sb wb w os):St [] w0 w []/\Rds T w (os.map OE.kp++es):=by
 obtain⟨h1,h2,h3,h4⟩:=Fz.frzK (osK:=[]) hF hT hA hP (by rw[bP]; exact hS)
 refine⟨h1.st h4,fun o ho=>?_⟩
 have:=(h2 o ho).more (h3 o ho)
 exact this.to (Fr.refl _ _) fun k _ hk hx=>hk (bW _ hx)
theorem SfT.mk' (hF:Fz S w0 Sb wb) (hA:Rds Sb wb es) (hP:Off T es) (hS:St Sb wb w os):SfT S T w0 w es os:=⟨Sb,wb,hF,hA,hP,hS⟩
theorem Off.pick {es':List OE} (h:Off T es) (ix:L02) (he:es'.map some=ix.map (fun i=>rx es i)):Off T es':=fun o ho=>by
 have h1:some o∈es'.map some:=List.mem_map_of_mem ho
 rw[he]at h1
 obtain⟨i,_,hi⟩:=jx.1 h1
 exact h o (bd hi)
theorem Off.nth (h:Off T es) (k:Nat) {o:OE} (hk:rx es k=some o):∀b,o.blk=some b->b ∉ T:=h _ (bd hk)
end
section
variable {P:Program} {n:Nat} {L:Env} {w:World}
theorem OZ {fn:Func} {r1 r2 r3:ResultVar} {v1 v2 v3:Value} {φ:Value->World->Prop} (hres:fn.results=#[r1,r2,r3]) (h1:RV P L w r1 v1) (h2:RV P L w r2 v2) (h3:RV P L w r3 v3) (h:φ (.tuple #[v1,v2,v3]) w):QE n (bodyPost P fn (Ret φ)) .ret L w:=fun a ha=>by
 refine⟨ha.defers,.tuple #[v1,v2,v3],?_,h⟩
 cases r1 <;> cases r2 <;> cases r3
 ·have g1:=ha.get _ _ h1
  have g2:=ha.get _ _ h2
  have g3:=ha.get _ _ h3
  simp[results,hres,g1,g2,g3]
 ·have g1:=ha.get _ _ h1
  have g2:=ha.get _ _ h2
  obtain⟨b3,g3,k3⟩:=h3
  have g3:=ha.get _ _ g3
  simp[results,hres,g1,g2,g3,k3,jb]
 ·have g1:=ha.get _ _ h1
  obtain⟨b2,g2,k2⟩:=h2
  have g2:=ha.get _ _ g2
  have g3:=ha.get _ _ h3
  simp[results,hres,g1,g2,k2,g3,jb]
 ·have g1:=ha.get _ _ h1
  obtain⟨b2,g2,k2⟩:=h2
  have g2:=ha.get _ _ g2
  obtain⟨b3,g3,k3⟩:=h3
  have g3:=ha.get _ _ g3
  simp[results,hres,g1,g2,k2,g3,k3,jb]
 ·obtain⟨b1,g1,k1⟩:=h1
  have g1:=ha.get _ _ g1
  have g2:=ha.get _ _ h2
  have g3:=ha.get _ _ h3
  simp[results,hres,g1,k1,g2,g3,jb]
 ·obtain⟨b1,g1,k1⟩:=h1
  have g1:=ha.get _ _ g1
  have g2:=ha.get _ _ h2
  obtain⟨b3,g3,k3⟩:=h3
  have g3:=ha.get _ _ g3
  simp[results,hres,g1,k1,g2,g3,k3,jb]
 ·obtain⟨b1,g1,k1⟩:=h1
  have g1:=ha.get _ _ g1
  obtain⟨b2,g2,k2⟩:=h2
  have g2:=ha.get _ _ g2
  have g3:=ha.get _ _ h3
  simp[results,hres,g1,k1,g2,k2,g3,jb]
 ·obtain⟨b1,g1,k1⟩:=h1
  have g1:=ha.get _ _ g1
  obtain⟨b2,g2,k2⟩:=h2
  have g2:=ha.get _ _ g2
  obtain⟨b3,g3,k3⟩:=h3
  have g3:=ha.get _ _ g3
  simp[results,hres,g1,k1,g2,k2,g3,k3,jb]
end
section
variable {P:Program} {n:Nat} {L:Env} {w w' w0:World} {S:L02} {os:List OE}
variable {d:Option Tmp} {ty:TypeId} {pos:String} {after:Array Edge}
end
section
variable {P:Program} {ops:Array Oper} {Q:Exit->Act->World->Prop} {nw:Nat->Bool} {cs:Nat->Option Nat} {S:L02} {w0:World} {os:List OE} {ent:Nat->Value->OE}
def ED (P:Program) (ops:Array Oper) (S:L02) (w0:World) (ent:Nat->Value->OE) (co:List OE) (o:Oper) (i:Nat) (a:Act):Prop:=
 Region.wanted o (yielded ops a.tmps)=true/\∀w os',St S w0 w (co++os')->(∃v w',(execOp a.eval o).run P w=.ok (.value v) w'/\St S w0 w' (ent i v :: os')) \/
  ∃f args,(execOp a.eval o).run P w=.ok (.enter f args) w/\Calls P f args w (Ret fun v w'=>St S w0 w' (ent i v :: os'))
theorem ED.of_same {co:List OE} {o:Oper} {i:Nat} {a j:Act} (k:ED P ops S w0 ent co o i a) (y:execOp j.eval o=execOp a.eval o)
  (hw:Region.wanted o (yielded ops j.tmps)=Region.wanted o (yielded ops a.tmps)):ED P ops S w0 ent co o i j:=by
 unfold ED at *
 rw[y,hw]
 exact k
def jc (nw:Nat->Bool) (cs:Nat->Option Nat) (listed:Array Bool) (k:Nat):Bool:=nw k&&listed.getD k false&&(match cs k with | none=>true | some c=>!listed.getD c false)
theorem ox {p q:Nat->Bool} (l:L02):(l.filter p).Perm (l.filter (fun k=>p k&&q k)++l.filter (fun k=>p k&&!q k)):=by
 have:=(List.filter_append_perm q (l.filter p)).symm
 rw[List.filter_filter,List.filter_filter]at this
 refine this.trans ?_
 have j:(fun a=>q a&&p a)=(fun k=>p k&&q k):=by funext k; exact Bool.and_comm _ _
 have y:(fun a=>(!q a)&&p a)=(fun k=>p k&&!q k):=by funext k; exact Bool.and_comm _ _
 rw[j,y]
theorem A8 {n j:Nat} (h:j<n) {p:Nat->Bool} (hp:p j=true):(List.range n).filter (fun k=>p k&&k == j)=[j]:=by
 have y:(List.range n).filter (fun k=>p k&&k == j)=(List.range n).filter (fun k=>k == j):=by
  refine eM fun k _=>?_
  by_cases hk:k=j
  ·subst hk; simp[hp]
  ·simp[hk]
 rw[y]
 have z:=List.filter_beq (l:=List.range n) j
 rw[z,List.nodup_range.count,ag (dH.2 h)]; rfl
variable {n:Nat} {L:Env}
theorem BW (y:∀j z,ops[j]? = some z->∀e∈z.after,Region.binds .any e=true->e.on<j):∀(f j k:Nat),gj ops f j k=true->k<j
 | 0,_,_,h=>by simp[gj]at h
 | f+1,j,k,h=>by
  simp only[gj]at h
  cases hj:ops[j]? with
  | none=>simp[hj]at h
  | some z=>
   simp only[hj,List.any_eq_true,aK,fD]at h
   obtain⟨e,A,hb,h | h⟩:=h
   ·have:=y j z hj e (by simpa using A) hb
    have:=bK h; omega
   ·have:=y j z hj e (by simpa using A) hb
    have:=BW y f e.on k h; omega
end
abbrev Th:=Value×List OE×List OE
abbrev Gt:=Nat->Th
def jz (g:Gt) (i:Nat) (v:Th):Gt:=fun k=>if k=i then v else g k
theorem G3 {g:Gt} {i j:Nat} {u v:Th} (h:i≠j):jz (jz g i u) j v=jz (jz g j v) i u:=by
 funext k
 unfold jz
 by_cases h1:k=i <;> by_cases h2:k=j <;> simp_all
theorem oB {α β:Type} {f g:α->List β}:∀{l:List α},(∀k∈l,f k=g k)->l.flatMap f=l.flatMap g
 | [],_=>rfl
 | k :: l,h=>by rw[dU,dU,h k (fk ..),oB fun x hx=>h x (fC _ hx)]
theorem sI (g:Gt) (i:Nat) (v:Th):jz g i v i=v:=ag rfl
theorem oF {g:Gt} {i k:Nat} {v:Th} (h:k≠i):jz g i v k=g k:=ae h
section
variable {S T Sl Tl:L02} {w0 w w':World} {es es1 os os1 rest lent:List OE}
theorem Rds.sub (h:Rds S w es) (hs:∀o∈es1,o∈es):Rds S w es1:=fun o j=>h o (hs o j)
theorem Off.sub (h:Off T es) (hs:∀o∈es1,o∈es):Off T es1:=fun o j=>h o (hs o j)
theorem OE.kept.to' {o:OE} {B:L02} (h:o.kept S w) (hf:Fr S w w') (hS:∀k,k<w.heap.size->o.blk=some k->k ∉ S->k ∉ B):o.kept B w':=by
 cases o with
 | sl v sz n cs=>trivial
 | bx b cs=>
  obtain⟨I,G,z⟩:=h
  refine⟨fun j u A=>?_,hS _ z rfl G,aW z hf.size⟩
  rw[hf.cell z G]
  exact I j u A
 | rd v sz n cs=>
  obtain⟨hl,a,c,rfl,hc,hx⟩:=h
  refine⟨hl,a,c,rfl,hc,fun hn=>?_⟩
  obtain⟨b,off,rfl,hb,hs,y⟩:=hx hn
  refine⟨b,off,rfl,aW hb hf.size,hS _ hb (by simp[OE.blk,hn,Value.ownBlock]) hs,fun j u A=>?_⟩
  rw[hf.cell hb hs]
  exact y j u A
theorem SfT.tail (h:SfT S T w0 w (es1++es) (os1++os)):SfT S T w0 w es os:=by
 obtain⟨Sb,wb,hZ,hA,hP,hS⟩:=h
 exact⟨Sb,wb,hZ,hA.sub (fun o j=>bC _ j),hP.sub (fun o j=>bC _ j),hS.tail⟩
theorem SfT.tail' (h:SfT S T w0 w es (os1++os)):SfT S T w0 w es os:=by
 obtain⟨Sb,wb,hZ,hA,hP,hS⟩:=h
 exact⟨Sb,wb,hZ,hA,hP,hS.tail⟩
theorem SfT.perm (h:SfT S T w0 w es os) (j:∀o∈es1,o∈es) (k:os.Perm os1):SfT S T w0 w es1 os1:=by
 obtain⟨Sb,wb,hZ,hA,hP,hS⟩:=h
 exact⟨Sb,wb,hZ,hA.sub j,hP.sub j,hS.perm k⟩
theorem IK {Sb:L02} {wb:World} {o:OE} (j:o.kept Sb wb) (hn:o.ns=true) {b:Nat} (hb:o.blk=some b):b<wb.heap.size/\b ∉ Sb:=
 j.blk (fun v k n cs e=>by rw[e]at hn; cases hn) hb
theorem SfT.frS (h:SfT S T w0 w es os):Fr S w0 w:=by
 obtain⟨Sb,wb,hZ,hA,hP,hS⟩:=h
 exact (hZ.st hS).fr
theorem SfT.lend (h:SfT S T w0 w es (lent++rest)) (hT:TOk S T w0) (hn:∀o∈es,o.ns=true) :
  TOk (eu lent) (T++eu rest) w/\Rds (eu lent) w es/\Off (T++eu rest) es/\St (eu lent) w w lent:=by
 obtain⟨Sb,wb,hZ,hA,hP,hS⟩:=h
 have B:=hZ.st hS
 have J:=(cd.1 hS.dj).2.2
 refine⟨fun b hb=>?_,fun o j=>(hA o j).to hS.fr fun k O hs hx=>?_,fun o j b hb hx=>?_,hS.give⟩
 ·rcases bG.1 hb with hb | hb
  ·obtain⟨N,A⟩:=hT b hb
   refine⟨aW N B.fr.size,fun hx=>?_⟩
   obtain⟨o,j,z⟩:=dO.1 hx
   rcases ((B.ok o (bW _ j)).lt z).2 with I | I
   ·omega
   ·exact A I
  ·obtain⟨o,j,z⟩:=dO.1 hb
   refine⟨((B.ok o (bC _ j)).lt z).1,fun hx=>?_⟩
   obtain⟨q,G,y⟩:=dO.1 hx
   exact J q G o j b y z
 ·obtain⟨q,G,y⟩:=dO.1 hx
  rcases ((hS.ok q (bW _ G)).lt y).2 with h | h
  ·omega
  ·exact hs h
 ·rcases bG.1 hx with hx | hx
  ·exact hP o j b hb hx
  ·obtain⟨q,G,y⟩:=dO.1 hx
   have A:=((hS.ok q (bC _ G)).lt y).2
   have I:=IK (hA o j) (hn o j) hb
   rcases A with A | A
   ·omega
   ·exact I.2 A
theorem SfT.unlend (h:SfT S T w0 w es (lent++rest)) (hn:∀o∈es,o.ns=true) (X:∀o∈es1,o.ns=true)
  (V:SfT (eu lent) (T++eu rest) w w' es1 os1):SfT S T w0 w' (es1++es) (os1++rest):=by
 obtain⟨Sb,wb,hZ,hA,hP,hS⟩:=h
 obtain⟨Y,Z,N,O,I,A⟩:=V
 have R:=N.st A
 have hb:St Sb wb w' (os1++rest):=hS.back R
 have B:=hZ.st hb
 refine⟨eu (os1++rest),w',⟨B.fr,fun b U=>?_⟩,Rds.app (fun o j=>?_) (fun o j=>?_),Off.app (fun o j b hb hx=>I o j b hb (bW _ hx)) hP,
  Fr.refl _ _,fun o j=>(hb.ok o j).re fun k J _=>.inr (dO.2 ⟨o,j,J⟩),hb.dj⟩
 ·obtain⟨o,j,G⟩:=dO.1 U
  exact ((B.ok o j).lt G).2
 ·refine (O o j).to' A.fr fun k J G hs hx=>?_
  obtain⟨q,y,z⟩:=dO.1 hx
  rcases bG.1 y with y | y
  ·rcases ((A.ok q y).lt z).2 with h | h
   ·omega
   ·exact hs h
  ·exact I o j k G (bC _ (dO.2 ⟨q,y,z⟩))
 ·refine (hA o j).to hb.fr fun k J hs hx=>?_
  obtain⟨q,y,z⟩:=dO.1 hx
  rcases ((hb.ok q y).lt z).2 with h | h
  ·omega
  ·exact hs h
end
section
variable {P:Program} {ops:Array Oper} {Q:Exit->Act->World->Prop} {nw:Nat->Bool} {cs:Nat->Option Nat} {ks:Nat->L02} {xs:Nat->List OE} {bs:Nat->L02} {S T:L02} {w0:World} {es os:List OE} {ent:Nat->List Th->Value->List OE->List OE->Prop} {ds:Nat->L02}
def coM (n:Nat) (cs:Nat->Option Nat) (g:Gt) (j:Nat):List OE:=((List.range n).filter (fun k=>cs k == some j)).flatMap (fun k=>(g k).2.1)
def ckM (ks:Nat->L02) (g:Gt) (j:Nat):List OE:=(ks j).flatMap (fun k=>(g k).2.2)
def brM (n:Nat) (bs:Nat->L02) (xs:Nat->List OE) (j:Nat):List OE:=((List.range n).filter (fun k=>(bs j).contains k)).flatMap xs
def TrM (P:Program) (S:L02) (w0:World) (ops:Array Oper) (es os:List OE) (ent:Nat->List Th->Value->List OE->List OE->Prop) (hs:List Th) (co ck:List OE) (o:Oper) (i:Nat) (a:Act):Prop:=
 Region.wanted o (yielded ops a.tmps)=true/\∀w Sl Tl,Fr S w0 w->TOk Sl Tl w->Rds Sl w (ck++es)->Off Tl (ck++es)->St Sl w w (co++os) ->
  (∃v w' x y,((execOp a.eval o).run P w=.ok (.value v) w'\/v=undef/\(execOp a.eval o).run P w=.ok .skip w')/\ent i hs v x y/\SfT Sl Tl w w' y (x++os)) \/
  ∃f args,(execOp a.eval o).run P w=.ok (.enter f args) w/\Calls P f args w (Ret fun v w'=>∃x y,ent i hs v x y/\SfT Sl Tl w w' y (x++os))
theorem TrM.of_same {hs:List Th} {co ck:List OE} {o:Oper} {i:Nat} {a j:Act} (k:TrM P S w0 ops es os ent hs co ck o i a) (y:execOp j.eval o=execOp a.eval o)
  (hw:Region.wanted o (yielded ops j.tmps)=Region.wanted o (yielded ops a.tmps)):TrM P S w0 ops es os ent hs co ck o i j:=by
 unfold TrM at *
 rw[y,hw]
 exact k
def lxM (P:Program) (ops:Array Oper) (Q:Exit->Act->World->Prop) (nw:Nat->Bool) (cs:Nat->Option Nat) (ks:Nat->L02) (xs:Nat->List OE) (bs ds:Nat->L02) (S T:L02) (w0:World) (es os:List OE) (ent:Nat->List Th->Value->List OE->List OE->Prop):L02->Gt->Act->Prop
 | [],g,a=>∀w,SfT S T w0 w (((List.range ops.size).filter nw).flatMap (fun k=>(g k).2.2)++es) (((List.range ops.size).filter (fun k=>nw k&&cs k == none)).flatMap (fun k=>(g k).2.1)++os)->Q .normal a w
 | i :: r,g,a=>match ops[i]? with
  | none=>lxM P ops Q nw cs ks xs bs ds S T w0 es os ent r g a
  | some o=>if nw i then TrM P S w0 ops es (brM ops.size bs xs i++os) ent ((ds i).map g) (coM ops.size cs g i++xs i) (ckM ks g i) o i a/\(∃v x y,ent i ((ds i).map g) v x y)/\∀v x y,ent i ((ds i).map g) v x y->lxM P ops Q nw cs ks xs bs ds S T w0 es os ent r (jz g i (v,x,y)) (a.put o.dst v)
   else ∃v,Ins P ops (fun w=>SfT S T w0 w es os) o v a/\lxM P ops Q nw cs ks xs bs ds S T w0 es os ent r g (a.put o.dst v)
theorem D8 {n i j:Nat} {g:Gt} {v:Th} (h:cs i≠some j):coM n cs (jz g i v) j=coM n cs g j:=by
 unfold coM
 refine oB fun k z=>?_
 have A:cs k=some j:=by simpa using (jp.1 z).2
 have y:k≠i:=fun e=>h (by rw[<-e]; exact A)
 rw[oF y]
theorem D7 {i j:Nat} {g:Gt} {v:Th} (h:i ∉ ks j):ckM ks (jz g i v) j=ckM ks g j:=by
 unfold ckM
 refine oB fun k z=>?_
 have y:k≠i:=fun e=>h (by rw[<-e]; exact z)
 rw[oF y]
theorem qz {i j:Nat} {g:Gt} {v:Th} (h:i ∉ ds j):(ds j).map (jz g i v)=(ds j).map g:=by
 refine List.map_congr_left fun k z=>?_
 have y:k≠i:=fun e=>h (by rw[<-e]; exact z)
 rw[oF y]
theorem IM (hs:nV ops) (ac:∃w,SfT S T w0 w es os) {i j:Nat} {r:L02} {g:Gt} {a:Act}
  (ad:∀z k,ops[i]? = some z->ops[j]? = some k->z.apart ops k=true) (X:cs i≠some j/\cs j≠some i) (Y:i ∉ ks j/\j ∉ ks i) (B:i ∉ ds j/\j ∉ ds i) (ap:i≠j)
  (h:lxM P ops Q nw cs ks xs bs ds S T w0 es os ent (i :: j :: r) g a):lxM P ops Q nw cs ks xs bs ds S T w0 es os ent (j :: i :: r) g a:=by
 cases hi:ops[i]? with
 | none=>
  simp only[lxM,hi]at h
  cases hj:ops[j]? with
  | none=>simp only[lxM,hi,hj]at h ⊢; exact h
  | some k=>simp only[lxM,hi,hj]at h ⊢; exact h
 | some z=>
  cases hj:ops[j]? with
  | none=>simp only[lxM,hi,hj]at h ⊢; exact h
  | some k=>
   obtain⟨p1,p2,p3⟩:=Oper.apart_spec (ad z k hi hj)
   have N:=fun cs b=>hs i z cs b hi
   have O:=fun cs b=>hs j k cs b hj
   simp only[lxM,hi,hj]at h ⊢
   by_cases hni:nw i=true
   ·rw[ag hni]at h
    obtain⟨V,R,A⟩:=h
    by_cases hnj:nw j=true
    ·simp only[hni,hnj,al]at A ⊢
     obtain⟨v0,x0,y0,G⟩:=R
     have h0:=(A v0 x0 y0 G).1
     have Z:=(A v0 x0 y0 G).2.1
     rw[D8 X.1,D7 Y.1,qz B.1]at h0
     rw[qz B.1]at Z
     refine⟨h0.of_same (execOp_put k O a z.dst v0 p1).symm (wanted_put k a z.dst v0 p1).symm,Z,fun v x y I=>⟨?_,?_,fun u x' y' ab=>?_⟩⟩
     ·rw[D8 X.2,D7 Y.2,qz B.2]; exact V.of_same (execOp_put z N a k.dst v p3) (wanted_put z a k.dst v p3)
     ·rw[qz B.2]; exact⟨v0,x0,y0,G⟩
     rw[qz B.2]at ab
     have:=(A u x' y' ab).2.2 v x y (by rw[qz B.1]; exact I)
     rw[G3 ap]at this
     rw[<-Act.put_comm a u v p2]; exact this
    ·simp only[hni,hnj,al,aj]at A ⊢
     have get:∀u x y,ent i ((ds i).map g) u x y->∃v,Ins P ops (fun w=>SfT S T w0 w es os) k v a/\lxM P ops Q nw cs ks xs bs ds S T w0 es os ent r (jz g i (u,x,y)) ((a.put z.dst u).put k.dst v):=fun u x y I=>by
      obtain⟨v,J,U⟩:=A u x y I
      exact⟨v,J.of_same (execOp_put k O a z.dst u p1).symm (wanted_put k a z.dst u p1).symm,U⟩
     obtain⟨v0,x0,y0,G⟩:=R
     obtain⟨v,J,_⟩:=get v0 x0 y0 G
     refine⟨v,J,?_⟩
     refine⟨V.of_same (execOp_put z N a k.dst v p3) (wanted_put z a k.dst v p3),⟨v0,x0,y0,G⟩,fun u x y I=>?_⟩
     obtain⟨v',b3,U⟩:=get u x y I
     obtain⟨w,hw⟩:=ac
     have:v'=v:=Ins.unique (w:=w) hw b3 J
     subst this
     rw[<-Act.put_comm a u v' p2]; exact U
   ·rw[ae hni]at h
    obtain⟨v,J,h⟩:=h
    by_cases hnj:nw j=true
    ·simp only[hni,hnj,al,aj]at h ⊢
     obtain⟨V,R,A⟩:=h
     refine⟨V.of_same (execOp_put k O a z.dst v p1).symm (wanted_put k a z.dst v p1).symm,R,fun u x y I=>⟨v,J.of_same (execOp_put z N a k.dst u p3) (wanted_put z a k.dst u p3),?_⟩⟩
     rw[<-Act.put_comm a v u p2]; exact A u x y I
    ·simp only[hni,hnj,aj]at h ⊢
     obtain⟨u,hu,U⟩:=h
     refine⟨u,hu.of_same (execOp_put k O a z.dst v p1).symm (wanted_put k a z.dst v p1).symm,v,J.of_same (execOp_put z N a k.dst u p3) (wanted_put z a k.dst u p3),?_⟩
     rw[<-Act.put_comm a v u p2]; exact U
theorem yh (hs:nV ops) (A:∃w,SfT S T w0 w es os) {j:Nat}:∀(l1 z:L02) (g:Gt) (a:Act),(∀i∈l1,i≠j/\(cs i≠some j/\cs j≠some i)/\(i ∉ ks j/\j ∉ ks i)/\(i ∉ ds j/\j ∉ ds i)/\∀B I,ops[i]? = some B->ops[j]? = some I->B.apart ops I=true) ->
   lxM P ops Q nw cs ks xs bs ds S T w0 es os ent (l1++j :: z) g a->lxM P ops Q nw cs ks xs bs ds S T w0 es os ent (j :: (l1++z)) g a
 | [],_,_,_,_,h=>h
 | i :: l1,z,g,a,hall,h=>by
  have G:∀g a,lxM P ops Q nw cs ks xs bs ds S T w0 es os ent (l1++j :: z) g a->lxM P ops Q nw cs ks xs bs ds S T w0 es os ent (j :: (l1++z)) g a:=fun g a h=>
   yh hs A l1 z g a (fun k J=>hall k (by simp[J])) h
  have N:lxM P ops Q nw cs ks xs bs ds S T w0 es os ent (i :: j :: (l1++z)) g a:=by
   rw[cW]at h
   cases hi:ops[i]? with
   | none=>
    unfold lxM at h ⊢
    simp only[hi]at h ⊢
    exact G _ _ h
   | some B=>
    unfold lxM at h ⊢
    simp only[hi]at h ⊢
    by_cases hn:nw i=true
    ·rw[ag hn]at h ⊢
     exact⟨h.1,h.2.1,fun v x y O=>G _ _ (h.2.2 v x y O)⟩
    ·rw[ae hn]at h ⊢
     obtain⟨v,R,h⟩:=h
     exact⟨v,R,G _ _ h⟩
  have hi:=hall i (by simp)
  exact IM hs A hi.2.2.2.2 hi.2.1 hi.2.2.1 hi.2.2.2.1 hi.1 N
theorem AE {n:Nat} {nw:Nat->Bool} {g:Gt} {listed:Array Bool} {k:Nat} (j:k<n) (hn:nw k=true) (hl:listed.getD k false=true) {o:OE} (y:o∈(g k).2.2) :
  o∈((List.range n).filter (fun k=>nw k&&listed.getD k false)).flatMap (fun k=>(g k).2.2):=
 je.2 ⟨k,jp.2 ⟨dH.2 j,by rw[hn,hl]; rfl⟩,y⟩
theorem KK {α:Type} (A B C D E:List α):((A++B)++((C++D)++E)).Perm (((A++C)++E)++(B++D)):=by
 simp only[aN]
 refine ez A ?_
 refine (List.perm_append_comm_assoc B C (D++E)).trans (ez C ?_)
 rw[<-aN]
 exact List.perm_append_comm
theorem GH {α:Type} (A E B D:List α):((A++E)++(B++D)).Perm ((A++B)++(D++E)):=by
 simp only[aN]
 refine ez A ?_
 refine List.perm_append_comm.trans ?_
 rw[aN]
theorem Iw {α:Type} (A B C j k E:List α):((A++B)++((C++(j++k))++E)).Perm (((A++C)++(j++E))++(B++k)):=by
 have h:=KK A B (C++j) k E
 simp only[aN]at h ⊢
 exact h
theorem Gn {α:Type} (A B j k E:List α):((A++(j++E))++(B++k)).Perm ((A++B)++((j++k)++E)):=by
 refine (GH A (j++E) B k).trans ?_
 rw[aN j]
 exact (List.perm_append_comm_assoc k j E).append_left _
theorem sn (dd:∀c k,c<ops.size->k∈bs c->k<ops.size/\gj ops ops.size k c=true) (df:∀k,nw k=false->xs k=[]) (hT:TOk S T w0) (b8:∀o∈es,o.ns=true) (dk:∀i h v x y,ent i h v x y->∀o∈y,o.ns=true) (hs:nV ops)
  (Z:∀k c,k<ops.size->cs k=some c->nw k=true/\c<ops.size/\nw c=true/\gj ops ops.size c k=true) (N:∀c oc,ops[c]? = some oc->∀k,gj ops ops.size c k=true->k<c)
  (ap:∀c k,c<ops.size->k∈ks c->k<ops.size/\nw k=true/\gj ops ops.size c k=true) (c3:∀c k,c<ops.size->k∈ds c->gj ops ops.size c k=true)
  (c0:∀j oj,ops[j]? = some oj->∀e∈oj.after,Region.binds .any e=true->e.on<j)
  (c1:∀i j,i<j->j<ops.size->gj ops ops.size j i=false->∀oi oj,ops[i]? = some oi->ops[j]? = some oj->oi.apart ops oj=true) :
  ∀(m:Nat) (l:L02) (listed:Array Bool) (g:Gt) (a:Act) (w:World),l.length=m->l.Pairwise (·<·)->listed.size=ops.size->closed ops listed ->
   (∀i,i∈l↔i<ops.size/\listed.getD i true=false)->(∀k,nw k=true->listed.getD k false=true->∀o∈(g k).2.2,o.ns=true) ->
   SfT S T w0 w (((List.range ops.size).filter (fun k=>nw k&&listed.getD k false)).flatMap (fun k=>(g k).2.2)++es) (((List.range ops.size).filter (jc nw cs listed)).flatMap (fun i=>(g i).2.1)++(((List.range ops.size).filter (fun k=>!listed.getD k false)).flatMap xs++os)) ->
   lxM P ops Q nw cs ks xs bs ds S T w0 es os ent l g a->wpAny P .any ops Q m listed a w
 | 0,l,listed,g,a,w,hm,_,hsz,_,hmem,hgn,hS,h=>by
  have hl:l=[]:=bp hm
  subst hl
  have B:∀k,k<ops.size->listed.getD k false=true:=fun k z=>by
   cases hl:listed.getD k false with
   | true=>rfl
   | false=>
    have ap:k<listed.size:=by omega
    have:k∈([]:L02):=(hmem k).2 ⟨z,by simp[ap]at hl ⊢; exact hl⟩
    cases this
  refine⟨?_,?_⟩
  ·refine List.eq_nil_iff_forall_not_mem.2 fun i hi=>?_
   obtain⟨bx,o,e1,_⟩:=mem_ready.1 hi
   have:=(hmem i).2 ⟨(cg.1 e1).1,bx⟩
   cases this
  ·have e:(List.range ops.size).filter (jc nw cs listed)=(List.range ops.size).filter (fun k=>nw k&&cs k == none):=by
    refine eM fun k z=>?_
    have z:=dH.1 z
    unfold jc
    rw[B k z,Bool.and_true]
    cases hc:cs k with
    | none=>rfl
    | some c=>
     show (nw k&&!listed.getD c false)=(nw k&&(some c == none))
     rw[B c (Z k c z hc).2.1]; rfl
   have e2:(List.range ops.size).filter (fun k=>nw k&&listed.getD k false)=(List.range ops.size).filter nw:=by
    refine eM fun k z=>?_
    rw[B k (dH.1 z),Bool.and_true]
   have e3:(List.range ops.size).filter (fun k=>!listed.getD k false)=[]:=by
    refine List.filter_eq_nil_iff.2 fun k z=>?_
    rw[B k (dH.1 z)]; simp
   rw[e,e2,e3]at hS
   exact h w hS
 | m+1,l,listed,g,a,w,hm,hsort,hsz,hcl,hmem,hgn,hS,h=>by
  refine⟨fun ex=>?_,fun j hj=>?_⟩
  ·exfalso
   cases l with
   | nil=>simp at hm
   | cons i r=>
    obtain⟨V,bx⟩:=(hmem i).1 (by simp)
    have hi:i∈Region.ready .any ops listed:=by
     refine mem_ready.2 ⟨bx,ops[i],by simp[V],fun e G hb=>?_⟩
     have ad:=c0 i ops[i] (by simp[V]) e G hb
     cases hl:listed.getD e.on false with
     | true=>rfl
     | false=>
      have b8:e.on<listed.size:=by rw[hsz]; omega
      have e6:listed.getD e.on true=false:=by simp[b8]at hl ⊢; exact hl
      have e7:=(hmem e.on).2 ⟨by omega,e6⟩
      rcases aG.1 e7 with h1 | h1
      ·omega
      ·have:=(gc.1 hsort).1 e.on h1
       omega
    rw[ex]at hi
    cases hi
  ·obtain⟨bx,oj,ab,B⟩:=mem_ready.1 hj
   have I:j<ops.size:=(cg.1 ab).1
   have e9:j∈l:=(hmem j).2 ⟨I,bx⟩
   obtain⟨l1,l2,rfl⟩:=List.append_of_mem e9
   have ad:∀i∈l1,i<j:=fun i hi=>(cd.1 hsort).2.2 i hi j (by simp)
   have d0:∀i∈l1++l2,gj ops ops.size j i=false:=fun i hi=>by
    cases hr:gj ops ops.size j i with
    | false=>rfl
    | true=>
     have O:=iL hcl ops.size j i oj ab B hr
     have h3:=(hmem i).1 (by rcases bG.1 hi with h | h <;> simp[h])
     rw[bT]at O
     have h4:=h3.2
     rw[bT]at h4
     have:i<listed.size:=by rw[hsz]; exact h3.1
     simp[this]at O h4
     rw[O]at h4; cases h4
   have fd:∀i∈l1,cs i≠some j/\cs j≠some i:=fun i hi=>by
    have V:=((hmem i).1 (by simp[hi])).1
    refine⟨fun hc=>?_,fun hc=>?_⟩
    ·have:=(Z i j V hc).2.2.2
     rw[d0 i (by simp[hi])]at this; cases this
    ·obtain⟨_,Y,_,U⟩:=Z j i I hc
     have:=N i ops[i] (by simp[Y]) j U
     have:=ad i hi; omega
   have fm:∀i∈l1,i ∉ ks j/\j ∉ ks i:=fun i hi=>by
    have V:=((hmem i).1 (by simp[hi])).1
    refine⟨fun hc=>?_,fun hc=>?_⟩
    ·have:=(ap j i I hc).2.2
     rw[d0 i (by simp[hi])]at this; cases this
    ·have U:=(ap i j V hc).2.2
     have:=N i ops[i] (by simp[V]) j U
     have:=ad i hi; omega
   have fs:∀i∈l1,i ∉ ds j/\j ∉ ds i:=fun i hi=>by
    have V:=((hmem i).1 (by simp[hi])).1
    refine⟨fun hc=>?_,fun hc=>?_⟩
    ·have:=c3 j i I hc
     rw[d0 i (by simp[hi])]at this; cases this
    ·have U:=c3 i j V hc
     have:=N i ops[i] (by simp[V]) j U
     have:=ad i hi; omega
   have h1:=yh hs ⟨w,hS.tail.tail' ⟩ l1 l2 g a (fun i hi=>⟨Nat.ne_of_lt (ad i hi),fd i hi,fm i hi,fs i hi,fun oi fA fB ey=>by
    refine c1 i j (ad i hi) I ?_ oi fA fB ey
    cases hr:gj ops ops.size j i with
    | false=>rfl
    | true=>
     have O:=iL hcl ops.size j i oj ab B hr
     have h3:=((hmem i).1 (by simp[hi])).2
     rw[bT]at O h3
     have:i<listed.size:=by rw[hsz]; exact fZ (ad i hi) I
     simp[this]at O h3
     rw[O]at h3; cases h3⟩) h
   have ce:(l1++l2).Pairwise (·<·):=by
    refine hsort.sublist ?_
    exact List.Sublist.append_left (List.sublist_cons_self j l2) l1
   have d1:(l1++l2).length=m:=by simp at hm ⊢; omega
   have d2:closed ops (listed.setIfInBounds j true):=by
    intro k ok z hl e G hb
    by_cases hkj:j=k
    ·subst hkj
     have:ok=oj:=et (z.symm.trans ab)
     subst this
     exact getD_set_true (B e G hb)
    ·rw[getD_set_ne false hkj]at hl
     exact getD_set_true (hcl k ok z hl e G hb)
   have fJ:j ∉ l1++l2:=by
    intro hx
    rcases bG.1 hx with hx | hx
    ·exact absurd (ad j hx) (jn _)
    ·have:=(cd.1 hsort).2.1
     have:=(gc.1 this).1 j hx
     exact absurd this (jn _)
   have c4:∀i,i∈l1++l2↔i<ops.size/\(listed.setIfInBounds j true).getD i true=false:=by
    intro i
    by_cases hij:j=i
    ·subst hij
     constructor
     ·intro hx; exact absurd hx fJ
     ·intro hx
      have:=mJ (listed:=listed) (i:=j) (by rw[hsz]; exact I) true
      rw[this]at hx; cases hx.2
    ·rw[getD_set_ne true hij,<-hmem i]
     simp only[bG,aG]
     constructor
     ·rintro (hx | hx)
      ·exact .inl hx
      ·exact .inr (.inr hx)
     ·rintro (hx | hx | hx)
      ·exact .inl hx
      ·exact absurd hx.symm hij
      ·exact .inr hx
   have cf:listed.getD j false=false:=by
    have:j<listed.size:=by omega
    simp[this]at bx ⊢; exact bx
   have J:∀k,(listed.setIfInBounds j true).getD k false=if k=j then true else listed.getD k false:=fun k=>by
    by_cases hkj:k=j
    ·subst hkj; rw[ag rfl]; exact mJ (by omega) false
    ·rw[ae hkj,getD_set_ne false (fun e=>hkj e.symm)]
   have d3:listed.getD j false=false:=cf
   have hX:(((List.range ops.size).filter (fun k=>!listed.getD k false)).flatMap xs).Perm (xs j++((List.range ops.size).filter (fun k=>!(listed.setIfInBounds j true).getD k false)).flatMap xs):=by
    have b2:=ox (p:=fun k=>!listed.getD k false) (q:=fun k=>k == j) (List.range ops.size)
    rw[A8 I (by rw[d3]; rfl)]at b2
    have e4:(List.range ops.size).filter (fun k=>!listed.getD k false&&!(k == j))=(List.range ops.size).filter (fun k=>!(listed.setIfInBounds j true).getD k false):=by
     refine eM fun k z=>?_
     rw[J]
     by_cases hkj:k=j
     ·subst hkj; simp
     ·rw[ae hkj]; simp[hkj]
    rw[e4]at b2
    have h8:=b2.flatMap_right (f:=xs)
    rw[List.flatMap_append]at h8
    simpa using h8
   obtain⟨X,c5⟩:∃X,((List.range ops.size).filter (fun k=>!(listed.setIfInBounds j true).getD k false)).flatMap xs=X:=⟨_,rfl⟩
   rw[c5]at hX
   have fK:∀k,(bs j).contains k=true->k<ops.size/\listed.getD k false=false/\k≠j:=fun k z=>by
    have fP:k∈bs j:=by simpa using z
    obtain⟨Y,U⟩:=dd j k I fP
    refine⟨Y,?_,fun e=>?_⟩
    ·cases hl:listed.getD k false with
     | false=>rfl
     | true=>
      have h7:=iL hcl ops.size k j ops[k] (by simp[Y]) (fun e G hb=>hcl k ops[k] (by simp[Y]) hl e G hb) U
      rw[d3]at h7; cases h7
    ·have:=N k ops[k] (by simp[Y]) j U
     omega
   obtain⟨X2,el⟩:∃X2,X.Perm (brM ops.size bs xs j++X2):=by
    have b2:=ox (p:=fun k=>!(listed.setIfInBounds j true).getD k false) (q:=fun k=>(bs j).contains k) (List.range ops.size)
    have e5:(List.range ops.size).filter (fun k=>!(listed.setIfInBounds j true).getD k false&&(bs j).contains k)=(List.range ops.size).filter (fun k=>(bs j).contains k):=by
     refine eM fun k z=>?_
     cases hq:(bs j).contains k with
     | false=>rw[Bool.and_false]
     | true=>
      obtain⟨_,U,h7⟩:=fK k hq
      rw[J,ae h7,U]; rfl
    rw[e5]at b2
    have h8:=b2.flatMap_right (f:=xs)
    rw[List.flatMap_append,c5]at h8
    exact⟨_,h8⟩
   simp only[lxM,ab]at h1
   by_cases hn:nw j=true
   ·rw[ag hn]at h1
    obtain⟨⟨hw,eC⟩,_,ed⟩:=h1
    obtain⟨R,hR⟩:∃R,(List.range ops.size).filter (fun k=>jc nw cs listed k&&!(cs k == some j))=R:=⟨_,rfl⟩
    have f0:(List.range ops.size).filter (fun k=>jc nw cs listed k&&cs k == some j)=(List.range ops.size).filter (fun k=>cs k == some j):=by
     refine eM fun k z=>?_
     have z:=dH.1 z
     by_cases hc:cs k=some j
     ·obtain⟨h3,_,_,h4⟩:=Z k j z hc
      have Y:listed.getD k false=true:=by
       have O:=iL hcl ops.size j k oj ab B h4
       rw[bT]at O ⊢
       have:k<listed.size:=by omega
       simp[this]at O ⊢; exact O
      have:jc nw cs listed k=true:=by unfold jc; rw[h3,Y,hc]; simp[cf]
      simp[this,hc]
     ·simp[hc]
    have hp:=ox (p:=jc nw cs listed) (q:=fun k=>cs k == some j) (List.range ops.size)
    rw[f0,hR]at hp
    obtain⟨K,hK⟩:∃K,((List.range ops.size).filter (fun k=>nw k&&listed.getD k false)).flatMap (fun k=>(g k).2.2)=K:=⟨_,rfl⟩
    have en:∀o∈K++es,o.ns=true:=fun o A=>by
     rcases bG.1 A with A | A
     ·rw[<-hK]at A
      obtain⟨k,z,A⟩:=je.1 A
      have:=(jp.1 z).2
      simp only[aK]at this
      exact hgn k this.1 this.2 o A
     ·exact b8 o A
    rw[hK]at hS
    have d4:SfT S T w0 w (K++es) ((coM ops.size cs g j++xs j++(brM ops.size bs xs j++os))++(R.flatMap (fun i=>(g i).2.1)++X2)):=by
     refine hS.perm (fun o A=>A) ?_
     have O:((List.range ops.size).filter (jc nw cs listed)).flatMap (fun i=>(g i).2.1) |>.Perm (coM ops.size cs g j++R.flatMap (fun i=>(g i).2.1)):=by
      have:=hp.flatMap_right (f:=fun i=>(g i).2.1)
      rw[List.flatMap_append]at this
      exact this
     exact (O.append ((hX.trans (el.append_left _)).append_right os)).trans (Iw _ _ _ _ _ _)
    obtain⟨f1,f2,f3,f4⟩:=d4.lend hT en
    have d5:∀o∈ckM ks g j++es,o∈K++es:=fun o A=>by
     rcases bG.1 A with A | A
     ·refine bW _ ?_
      obtain⟨k,z,A⟩:=je.1 A
      obtain⟨Y,U,h7⟩:=ap j k I z
      have O:=iL hcl ops.size j k oj ab B h7
      rw[<-hK]
      exact AE Y U O A
     ·exact bC _ A
    have f5:∀c,cs j=some c->listed.getD c false=false:=fun c hc=>by
     obtain⟨_,Y,_,U⟩:=Z j c I hc
     cases hl:listed.getD c false with
     | false=>rfl
     | true=>
      have h7:=iL hcl ops.size c j ops[c] (by simp[Y]) (fun e G hb=>hcl c ops[c] (by simp[Y]) hl e G hb) U
      rw[cf]at h7; cases h7
    have f6:∀k∈R,k≠j:=fun k z e=>by
     rw[<-hR]at z
     have:=(jp.1 z).2
     rw[e]at this
     unfold jc at this
     rw[cf]at this
     simp at this
    have ga:∀v,((List.range ops.size).filter (jc nw cs (listed.setIfInBounds j true))).flatMap (fun i=>(jz g j v i).2.1) |>.Perm (v.2.1++R.flatMap (fun i=>(g i).2.1)):=fun v=>by
     have d6:=ox (p:=jc nw cs (listed.setIfInBounds j true)) (q:=fun k=>k == j) (List.range ops.size)
     have gb:jc nw cs (listed.setIfInBounds j true) j=true:=by
      unfold jc
      rw[hn,J,ag rfl]
      cases hc:cs j with
      | none=>rfl
      | some c=>
       have c2:c≠j:=fun e=>by
        obtain⟨_,Y,_,U⟩:=Z j c I hc
        have:=N c ops[c] (by simp[Y]) j U
        omega
       simp only[J,ae c2,f5 c hc]; rfl
     rw[A8 I gb]at d6
     have ek:(List.range ops.size).filter (fun k=>jc nw cs (listed.setIfInBounds j true) k&&!(k == j))=R:=by
      rw[<-hR]
      refine eM fun k z=>?_
      by_cases hkj:k=j
      ·subst hkj
       have:jc nw cs listed k=false:=by unfold jc; rw[cf]; simp
       simp[this]
      ·unfold jc
       rw[J,ae hkj]
       cases hc:cs k with
       | none=>simp[hkj]
       | some c=>
        by_cases hcj2:c=j
        ·subst hcj2; simp only[J,al]; simp
        ·simp only[J,ae hcj2]
         have:(some c == some j)=false:=by simp[hcj2]
         simp[this,hkj]
     rw[ek]at d6
     have h8:=d6.flatMap_right (f:=fun i=>(jz g j v i).2.1)
     rw[List.flatMap_append]at h8
     refine h8.trans (List.Perm.of_eq ?_)
     simp only[dU,List.flatMap_nil,bP]
     rw[sI]
     congr 1
     refine oB fun k z=>?_
     rw[oF (f6 k z)]
    have gs:∀v:Th,∀o∈((List.range ops.size).filter (fun k=>nw k&&(listed.setIfInBounds j true).getD k false)).flatMap (fun k=>(jz g j v k).2.2)++es,o∈v.2.2++(K++es):=fun v o A=>by
     rcases bG.1 A with A | A
     ·obtain⟨k,z,A⟩:=je.1 A
      obtain⟨g0,c6⟩:=jp.1 z
      simp only[aK]at c6
      by_cases hkj:k=j
      ·subst hkj; rw[sI]at A; exact bW _ A
      ·rw[oF hkj]at A
       rw[J,ae hkj]at c6
       refine bC _ (bW _ ?_)
       rw[<-hK]
       exact AE (dH.1 g0) c6.1 c6.2 A
     ·exact bC _ (bC _ A)
    have eU:∀v:Th,(∀o∈v.2.2,o.ns=true)->∀k,nw k=true->(listed.setIfInBounds j true).getD k false=true->∀o∈(jz g j v k).2.2,o.ns=true:=fun v hv k z hl o A=>by
     by_cases hkj:k=j
     ·subst hkj; rw[sI]at A; exact hv o A
     ·rw[oF hkj]at A
      rw[J,ae hkj]at hl
      exact hgn k z hl o A
    unfold wpOp
    simp only[ab]
    rw[ag hw]
    left
    have go:∀v x y w',ent j ((ds j).map g) v x y->SfT (eu (coM ops.size cs g j++xs j++(brM ops.size bs xs j++os))) (T++eu (R.flatMap (fun i=>(g i).2.1)++X2)) w w' y (x++(brM ops.size bs xs j++os))->wpAny P .any ops Q m (listed.setIfInBounds j true) (a.put oj.dst v) w':=fun v x y w' G b3=>by
     have er:=dk j _ v x y G
     have h9:=d4.unlend en er b3
     refine sn dd df hT b8 dk hs Z N ap c3 c0 c1 m (l1++l2) _ (jz g j (v,x,y)) _ w' d1 ce (by simp[hsz]) d2 c4 (eU (v,x,y) er) ?_ (ed v x y G)
     refine h9.perm (gs (v,x,y)) ?_
     rw[c5]
     refine List.Perm.trans ?_ ((ga (v,x,y)).append_right (X++os)).symm
     exact (Gn _ _ _ _ _).trans ((el.symm.append_right os).append_left _)
    rcases eC w _ _ d4.frS f1 (f2.sub d5) (f3.sub d5) f4 with⟨v,w',x,y,hr | ⟨rfl,hr⟩,G,b3⟩ | ⟨f,args,hr,hC⟩
    ·unfold Oper.wp
     rw[hr]
     exact go v x y w' G b3
    ·unfold Oper.wp
     rw[hr]
     exact go undef x y w' G b3
    ·unfold Oper.wp
     rw[hr]
     refine Calls.mono hC fun e w' G=>?_
     cases e with
     | returned v=>obtain⟨x,y,G,b3⟩:=G; exact go v x y w' G b3
     | panicked c=>exact G.elim
     | outgrown=>exact G.elim
   ·rw[ae hn]at h1
    obtain⟨v,hv,O⟩:=h1
    have ct:nw j=false:=by simpa using hn
    have g1:(List.range ops.size).filter (jc nw cs (listed.setIfInBounds j true))=(List.range ops.size).filter (jc nw cs listed):=by
     refine eM fun k z=>?_
     have z:=dH.1 z
     unfold jc
     rw[J]
     by_cases hkj:k=j
     ·subst hkj; rw[ct]; rfl
     ·rw[ae hkj]
      cases hc:cs k with
      | none=>rfl
      | some c=>
       have c2:c≠j:=fun e=>by
        have:=(Z k c z hc).2.2.1
        rw[e,ct]at this; cases this
       simp only[J,ae c2]
    have g2:(List.range ops.size).filter (fun k=>nw k&&(listed.setIfInBounds j true).getD k false)=(List.range ops.size).filter (fun k=>nw k&&listed.getD k false):=by
     refine eM fun k z=>?_
     rw[J]
     by_cases hkj:k=j
     ·subst hkj; rw[ct]; rfl
     ·rw[ae hkj]
    have ih:wpAny P .any ops Q m (listed.setIfInBounds j true) (a.put oj.dst v) w:=
     sn dd df hT b8 dk hs Z N ap c3 c0 c1 m (l1++l2) _ g _ w d1 ce (by simp[hsz]) d2 c4 (fun k z hl=>by
      rw[J]at hl
      by_cases hkj:k=j
      ·subst hkj; rw[ct]at z; cases z
      ·rw[ae hkj]at hl; exact hgn k z hl) (by rw[g1,g2,c5]; rw[df j ct,bN]at hX; exact hS.perm (fun o A=>A) ((hX.append_right os).append_left _)) O
    unfold wpOp
    simp only[ab]
    rcases hv with⟨hw,hv⟩ | ⟨hw,rfl⟩
    ·rw[ag hw]
     left
     unfold Oper.wp
     rw[hv w hS.tail.tail']
     exact ih
    ·rw[ae (by rw[hw]; simp)]
     exact ih
variable {n:Nat} {L:Env}
def kQ (P:Program) (n:Nat) (ops:Array Oper) (Q:Exit->Act->World->Prop) (nw:Nat->Bool) (cs:Nat->Option Nat) (ks:Nat->L02) (xs:Nat->List OE) (bs ds:Nat->L02) (S T:L02) (w0:World) (es os:List OE) (ent:Nat->List Th->Value->List OE->List OE->Prop) (l:L02) (g:Gt) (L:Env):Prop:=
 ∀a,Rep n L a->lxM P ops Q nw cs ks xs bs ds S T w0 es os ent l g a
theorem Jp {g:Gt} (h:∀w,SfT S T w0 w (((List.range ops.size).filter nw).flatMap (fun k=>(g k).2.2)++es) (((List.range ops.size).filter (fun k=>nw k&&cs k == none)).flatMap (fun k=>(g k).2.1)++os)->QE n Q .normal L w):kQ P n ops Q nw cs ks xs bs ds S T w0 es os ent [] g L:=
 fun a ha w hw=>h w hw a ha
theorem PY {i:Nat} {r:L02} {g:Gt} {d:Nat} {op:Op} {ty:TypeId} {pos:String} {after:Array Edge} {v:Value} (k:ops[i]? = some ⟨some d,op,ty,pos,after,none⟩) (hf:nw i=false)
  (y:∀w Sb wb,Fz S w0 Sb wb->Rds Sb wb es->Off T es->St Sb wb w os->OpV P n L w ⟨some d,op,ty,pos,after,none⟩ v w) (hd:Nat.blt d n=true) (h:kQ P n ops Q nw cs ks xs bs ds S T w0 es os ent r g ((d,v) :: L)):kQ P n ops Q nw cs ks xs bs ds S T w0 es os ent (i :: r) g L:=fun a ha=>by
 simp only[lxM,k,hf,ah,aj]
 refine⟨v,.inl ⟨by simp[Region.wanted],fun w' j=>?_⟩,h _ (ha.put hd)⟩
 obtain⟨Sb,wb,hZ,hA,hP,hS⟩:=j
 exact y w' Sb wb hZ hA hP hS a ha
theorem KB (E:List Th->Value->List OE->List OE->Prop) (hh:List Th) (co ck bw:List OE) {i:Nat} {r:L02} {g:Gt} {d:Nat} {op:Op} {ty:TypeId} {pos:String} {after:Array Edge} (I:ops[i]? = some ⟨some d,op,ty,pos,after,none⟩) (hf:nw i=true) (hE:∀h v x y,ent i h v x y=E h v x y)
  (A:coM ops.size cs g i++xs i=co) (B:ckM ks g i=ck) (k:brM ops.size bs xs i++os=bw) (j:(ds i).map g=hh) (G:∃v x y,E hh v x y)
  (J:∀w Sl Tl,Fr S w0 w->Fz Sl w Sl w->TOk Sl Tl w->Rds Sl w (ck++es)->Off Tl (ck++es)->St Sl w w (co++bw)->OpX P n L w ⟨some d,op,ty,pos,after,none⟩ (fun v w'=>∃x y,E hh v x y/\SfT Sl Tl w w' y (x++bw))) (hd:Nat.blt d n=true)
  (h:∀v x y,E hh v x y->kQ P n ops Q nw cs ks xs bs ds S T w0 es os ent r (jz g i (v,x,y)) ((d,v) :: L)):kQ P n ops Q nw cs ks xs bs ds S T w0 es os ent (i :: r) g L:=fun a ha=>by
 simp only[lxM,I,hf,al]
 refine⟨⟨by simp[Region.wanted],fun w Sl Tl N hT hA hP hS=>?_⟩,by simp only[hE,j]; exact G,fun v x y z=>h v x y (by rwa [hE,j]at z) _ (ha.put hd)⟩
 rw[A,k]at hS
 rw[k]
 rw[B]at hA hP
 obtain⟨v,w',O,x,y,z,R⟩:=J w Sl Tl N Fz.start hT hA hP hS
 exact .inl ⟨v,w',x,y,.inl (O a ha),by rw[hE,j]; exact z,R⟩
theorem Ic (E:List Th->Value->List OE->List OE->Prop) (hh:List Th) (co ck bw:List OE) {i:Nat} {r:L02} {g:Gt} {d:Nat} {f:FuncId} {z:List Operand} {I:Array TypeId} {vs:List Value} {ty:TypeId} {pos:String} {after:Array Edge}
  (J:ops[i]? = some ⟨some d,.call ⟨.value (.func f),z.toArray,I⟩,ty,pos,after,none⟩) (hf:nw i=true) (hE:∀h v x y,ent i h v x y=E h v x y)
  (A:coM ops.size cs g i++xs i=co) (B:ckM ks g i=ck) (k:brM ops.size bs xs i++os=bw) (j:(ds i).map g=hh) (G:∃v x y,E hh v x y) (hg:ki P f=true) (hargs:L.evs z=some vs)
  (N:∀w Sl Tl,Fr S w0 w->Fz Sl w Sl w->TOk Sl Tl w->Rds Sl w (ck++es)->Off Tl (ck++es)->St Sl w w (co++bw)->Calls P f vs.toArray w (Ret fun v w'=>∃x y,E hh v x y/\SfT Sl Tl w w' y (x++bw))) (hd:Nat.blt d n=true)
  (h:∀v x y,E hh v x y->kQ P n ops Q nw cs ks xs bs ds S T w0 es os ent r (jz g i (v,x,y)) ((d,v) :: L)):kQ P n ops Q nw cs ks xs bs ds S T w0 es os ent (i :: r) g L:=fun a ha=>by
 simp only[lxM,J,hf,al]
 refine⟨⟨by simp[Region.wanted],fun w Sl Tl O hT hA hP hS=>?_⟩,by simp only[hE,j]; exact G,fun v x y R=>h v x y (by rwa [hE,j]at R) _ (ha.put hd)⟩
 rw[A,k]at hS
 rw[k]
 rw[B]at hA hP
 refine .inr ⟨f,vs.toArray,Bl rfl hg (ha.evs hargs),?_⟩
 have:=N w Sl Tl O Fz.start hT hA hP hS
 simp only[hE,j]
 exact this
theorem E5 (E:List Th->Value->List OE->List OE->Prop) (hh:List Th) (co ck bw:List OE) {i:Nat} {r:L02} {g:Gt} {d:Nat} {A:Operand} {f:FuncId} {j:List Value} {B:List Operand} {N:Array TypeId} {vs:List Value} {ty:TypeId} {pos:String} {after:Array Edge}
  (O:ops[i]? = some ⟨some d,.call ⟨.value A,B.toArray,N⟩,ty,pos,after,none⟩) (hf:nw i=true) (hE:∀h v x y,ent i h v x y=E h v x y)
  (G:coM ops.size cs g i++xs i=co) (I:ckM ks g i=ck) (z:brM ops.size bs xs i++os=bw) (k:(ds i).map g=hh) (J:∃v x y,E hh v x y) (hx:L.ev A=some (.func (.func f) #[] j.toArray)) (hg:ki P f=true) (hargs:L.evs B=some vs)
  (R:∀w Sl Tl,Fr S w0 w->Fz Sl w Sl w->TOk Sl Tl w->Rds Sl w (ck++es)->Off Tl (ck++es)->St Sl w w (co++bw)->Calls P f (vs++j).toArray w (Ret fun v w'=>∃x y,E hh v x y/\SfT Sl Tl w w' y (x++bw))) (hd:Nat.blt d n=true)
  (h:∀v x y,E hh v x y->kQ P n ops Q nw cs ks xs bs ds S T w0 es os ent r (jz g i (v,x,y)) ((d,v) :: L)):kQ P n ops Q nw cs ks xs bs ds S T w0 es os ent (i :: r) g L:=fun a ha=>by
 simp only[lxM,O,hf,al]
 refine⟨⟨by simp[Region.wanted],fun w Sl Tl U hT hA hP hS=>?_⟩,by simp only[hE,k]; exact J,fun v x y V=>h v x y (by rwa [hE,k]at V) _ (ha.put hd)⟩
 rw[G,z]at hS
 rw[z]
 rw[I]at hA hP
 refine .inr ⟨f,(vs++j).toArray,yf rfl (ha.ev hx) hg (ha.evs hargs),?_⟩
 have:=R w Sl Tl U Fz.start hT hA hP hS
 simp only[hE,k]
 exact this
theorem O5 (E:List Th->Value->List OE->List OE->Prop) (hh:List Th) (co ck bw:List OE) {i:Nat} {r:L02} {g:Gt} {op:Op} {ty:TypeId} {pos:String} {after:Array Edge} (I:ops[i]? = some ⟨none,op,ty,pos,after,none⟩) (hf:nw i=true) (hE:∀h v x y,ent i h v x y=E h v x y)
  (A:coM ops.size cs g i++xs i=co) (B:ckM ks g i=ck) (k:brM ops.size bs xs i++os=bw) (j:(ds i).map g=hh) (G:∃v x y,E hh v x y)
  (J:∀w Sl Tl,Fr S w0 w->Fz Sl w Sl w->TOk Sl Tl w->Rds Sl w (ck++es)->Off Tl (ck++es)->St Sl w w (co++bw)->OpY P n L w ⟨none,op,ty,pos,after,none⟩ (fun w'=>∃x y,E hh undef x y/\SfT Sl Tl w w' y (x++bw)))
  (h:∀v x y,E hh v x y->kQ P n ops Q nw cs ks xs bs ds S T w0 es os ent r (jz g i (v,x,y)) L):kQ P n ops Q nw cs ks xs bs ds S T w0 es os ent (i :: r) g L:=fun a ha=>by
 simp only[lxM,I,hf,al]
 refine⟨⟨by simp[Region.wanted],fun w Sl Tl N hT hA hP hS=>?_⟩,by simp only[hE,j]; exact G,fun v x y z=>h v x y (by rwa [hE,j]at z) _ ha⟩
 rw[A,k]at hS
 rw[k]
 rw[B]at hA hP
 obtain⟨w',O,x,y,z,R⟩:=J w Sl Tl N Fz.start hT hA hP hS
 exact .inl ⟨undef,w',x,y,.inr ⟨rfl,O a ha⟩,by rw[hE,j]; exact z,R⟩
theorem NT {o:Oper} {w:World} {φ ψ:World->Prop} (h:OpY P n L w o φ) (hi:∀w',φ w'->ψ w'):OpY P n L w o ψ:=by
 obtain⟨w',j,k⟩:=h
 exact⟨w',j,hi w' k⟩
theorem sR {P:Program} {f:FuncId} {args:Array Value} {w:World} {φ ψ:Value->World->Prop} (h:Calls P f args w (Ret φ)) (hi:∀v w',φ v w'->ψ v w'):Calls P f args w (Ret ψ):=
 h.mono fun e w' j=>by
  cases e with
  | returned v=>exact hi v w' j
  | panicked c=>exact j.elim
  | outgrown=>exact j.elim
theorem MH {o:Oper} {w:World} {φ ψ:Value->World->Prop} (h:OpX P n L w o φ) (hi:∀v w',φ v w'->ψ v w'):OpX P n L w o ψ:=by
 obtain⟨v,w',j,k⟩:=h
 exact⟨v,w',j,hi v w' k⟩
theorem QA {o:Oper} {w:World} {v:Value} {ψ:Value->World->Prop} (h:OpV P n L w o v w) (hi:ψ v w):OpX P n L w o ψ:=⟨v,w,h,hi⟩
def LQ (ops:Array Oper) (nw:Nat->Bool) (cs:Nat->Option Nat) (ks bs ds:Nat->L02):Bool:=
 (List.range ops.size).all fun k=>((match cs k with | none=>true | some c=>nw k&&Nat.blt c ops.size&&nw c&&gj ops ops.size c k)&&(ks k).all fun c=>Nat.blt c ops.size&&nw c&&gj ops ops.size k c)&&((ds k).all fun c=>gj ops ops.size k c)&&(bs k).all fun c=>Nat.blt c ops.size&&gj ops ops.size c k
theorem GU {y:List OE} (h:y.all OE.ns=true):∀o∈y,o.ns=true:=ci.1 h
theorem CH {id:Nat} {l:List Oper} {w:World} (nw:Nat->Bool) (cs:Nat->Option Nat) (ks:Nat->L02) (xs:Nat->List OE) (bs ds:Nat->L02) (ent:Nat->List Th->Value->List OE->List OE->Prop) (V:SfT S T w0 w es ((List.range l.length).flatMap xs++os)) (N:∀k,nw k=false->xs k=[]) (hT:TOk S T w0) (O:es.all OE.ns=true)
  (R:∀i h v x y,ent i h v x y->∀o∈y,o.ns=true) (X:P.follows .mixedOrders=true)
  (G:(mp l.toArray&&qa l.toArray&&pX l.toArray (fun _=>true))=true) (hK:LQ l.toArray nw cs ks bs ds=true)
  (h:kQ P n l.toArray Q nw cs ks xs bs ds S T w0 es os ent (List.range l.length) (fun _=>(undef,[],[])) L):wpC P n (.region id l.toArray true) Q L w:=
 fun a ha=>by
  simp only[aK]at G
  have B:=su G.1.2
  refine wp_region_any X ?_
  have A:∀k,k<l.toArray.size->_:=fun k z=>ci.1 hK k (dH.2 z)
  refine sn (fun c k hc z=>?_) N hT (GU O) R (pZ G.1.1) (fun k c z hc=>?_) (fun c oc _ k Y=>BW B _ _ _ Y) (fun c k hc z=>?_) (fun c k hc z=>?_) B (fun i j I Z h3 oi U h4 h5=>(r7 G.2 i j I Z h3 oi U h4 h5).1) _ (List.range l.length) _ (fun _=>(undef,[],[])) a _ (by simp) List.pairwise_lt_range (by simp) (fun j U hj hl=>?_) (fun i=>?_) (fun k _ _ o ho=>by cases ho) ?_ (h a ha)
  ·have:=A c hc
   simp only[aK]at this
   have:=ci.1 this.2 k z
   simp only[aK]at this
   exact⟨by have:=this.1; rwa [fN]at this,this.2⟩
  ·have:=A k z
   simp only[hc,aK]at this
   have:=this.1.1.1
   exact⟨this.1.1.1,by have:=this.1.1.2; rwa [fN]at this,this.1.2,this.2⟩
  ·have:=A c hc
   simp only[aK]at this
   have:=ci.1 this.1.1.2 k z
   simp only[aK]at this
   exact⟨by have:=this.1.1; rwa [fN]at this,this.1.2,this.2⟩
  ·have:=A c hc
   simp only[aK]at this
   exact ci.1 this.1.2 k z
  ·rw[bT,eA]at hl
   split at hl <;> simp at hl
  ·rw[bT,eA]
   by_cases I:i<l.length
   ·simp[I]
   ·simp[I]
  ·have J:∀k,(Array.replicate l.toArray.size false).getD k false=false:=fun k=>by
    rw[bT,eA]; split <;> rfl
   have e:(List.range l.toArray.size).filter (jc nw cs (Array.replicate l.toArray.size false))=[]:=by
    refine List.filter_eq_nil_iff.2 fun k z=>?_
    unfold jc
    rw[J]; simp
   have e2:(List.range l.toArray.size).filter (fun k=>nw k&&(Array.replicate l.toArray.size false).getD k false)=[]:=by
    refine List.filter_eq_nil_iff.2 fun k z=>?_
    rw[J]; simp
   have e3:(List.range l.toArray.size).filter (fun k=>!(Array.replicate l.toArray.size false).getD k false)=List.range l.toArray.size:=by
    refine List.filter_eq_self.2 fun k z=>?_
    rw[J]; rfl
   rw[e,e2,e3]
   obtain⟨Sb,wb,hZ,hA,hP,hS⟩:=V
   exact⟨Sb,wb,hZ,hA,hP,by simpa using hS.drew⟩
end
def lenV (v:Value):Nat:=match v with
 | .slice _ n _=>n
 | _=>0
def mi (v:Value) (sz lo hi:Nat) (vp:Value):Prop:=(∃a n c a' c',v=.slice a n c/\vp=.slice a' (hi - lo) c'/\hi - lo<=c'/\(lo<hi->a'=a.map (·.add (lo*sz))))/\lo<=hi/\hi<=lenV v
section
variable {w w0:World} {S:L02} {τ:Type} {e:Enc τ} {v vp:Value} {l:List τ} {lo hi:Nat}
theorem RD (a:Option Addr) (j:Nat):a=a.map (·.add (0*j)):=by cases a <;> simp[Addr.add]
theorem RO.lenV (h:RO w e v l):lenV v=l.length:=by obtain⟨a,c,rfl,_⟩:=h; rfl
theorem RO.whole (h:RO w e v l):mi v e.sz 0 l.length v:=by
 have hl:=h.lenV
 obtain⟨a,c,rfl,hc,_⟩:=h
 exact⟨⟨a,_,c,a,c,rfl,by simp,by omega,fun _=>RD a _⟩,ft _,by rw[hl]; exact ax _⟩
theorem RO.part (h:RO w e v l) (j:lo<=hi) (k:hi<=l.length):mi v e.sz lo hi (slV v e.sz lo hi):=by
 have hl:=h.lenV
 obtain⟨a,c,rfl,hc,_⟩:=h
 exact⟨⟨a,_,c,_,_,rfl,rfl,by omega,fun y=>ae (by omega)⟩,j,by rw[hl]; exact k⟩
theorem mi.cut {j k:Nat} (hp:mi v j lo hi vp) (I:k<=hi - lo):mi v j (lo+k) hi (slV vp j k (hi - lo)):=by
 obtain⟨⟨a,n,c,z,y,rfl,rfl,hc,ha⟩,J,B⟩:=hp
 refine⟨⟨a,n,c,if y=k then z else z.map (·.add (k*j)),y - k,rfl,?_,?_,fun G=>?_⟩,by omega,B⟩
 ·simp only[slV]; rw[show hi - lo - k=hi - (lo+k) by omega]
 ·omega
 ·have A:¬y=k:=by omega
  rw[ae A,ha (by omega),Option.map_map]
  cases a with
  | none=>rfl
  | some x=>
   simp only[bO,Function.comp,aU]
   congr 1
   unfold Addr.add
   by_cases e1:lo*j=0 <;> by_cases e2:k*j=0 <;> simp[e1,e2,dn]
theorem RO.po (h:RO w e v l) (hp:mi v e.sz lo hi vp):RO w e vp ((l.drop lo).take (hi - lo)):=by
 have hl:=h.lenV
 obtain⟨⟨a,n,c,J,N,rfl,rfl,hc,ha⟩,V,O⟩:=hp
 obtain⟨a2,X,B,U,R⟩:=h
 injection B with B e2 e3
 subst B e3
 simp only[Gk.lenV]at O hl
 have k:((l.drop lo).take (hi - lo)).length=hi - lo:=by simp; omega
 refine⟨J,N,by rw[k],by rw[k]; exact hc,fun y=>?_⟩
 have G:lo<hi:=by
  rcases bX lo hi with I | I
  ·exact I
  ·rw[show hi - lo=0 by omega]at y; simp at y
 have hn:l≠[]:=by rintro rfl; simp at y
 obtain⟨b,off,rfl,A⟩:=R hn
 refine⟨b,off+lo*e.sz,by rw[ha G]; simp[iS],fun j u z=>?_⟩
 rw[e.fl_take,e.fl_drop,bR]at z
 split at z
 ·rw[dL]at z
  have:=A _ _ z
  rw[dn]
  exact this
 ·cases z
theorem RP.po (h:RP S w e v l) (hp:mi v e.sz lo hi vp):RP S w e vp ((l.drop lo).take (hi - lo)):=by
 refine⟨h.1.po hp,fun j k A hb=>?_⟩
 have hl:=h.1.lenV
 have hn:l≠[]:=by rintro rfl; simp at j
 refine h.2 hn k A ?_
 obtain⟨⟨a,n,c,B,G,rfl,rfl,hc,ha⟩,I,J⟩:=hp
 have y:lo<hi:=by
  rcases bX lo hi with z | z
  ·exact z
  ·rw[show hi - lo=0 by omega]at j; simp at j
 rw[ha y]at hb
 cases a with
 | none=>simp[Value.ownBlock]at hb
 | some x=>simp[Value.ownBlock]at hb ⊢; rw[<-hb]; unfold Addr.add; split <;> rfl
theorem Kh (h:RO w e v l) (hp:mi v e.sz lo hi vp) {j:Nat} (G:j<hi - lo):ixA vp e.sz j=ixA v e.sz (lo+j):=by
 obtain⟨⟨a,n,c,I,J,rfl,rfl,hc,ha⟩,N,y⟩:=hp
 obtain⟨a2,O,k,B,A⟩:=h
 injection k with k e2 e3
 subst k e2 e3
 simp only[Gk.lenV]at y
 have z:l≠[]:=by rintro rfl; simp at y; omega
 obtain⟨b,off,rfl,_⟩:=A z
 rw[ha (by omega)]
 simp[ixA,iS,aU,dn]
end
section
variable {P:Program} {n:Nat} {L:Env} {w w0:World} {S:L02} {os:List OE} {d:Option Tmp} {ty:TypeId} {pos:String} {after:Array Edge}
theorem B5 {x y:Operand} {T:TypeId} {τ:Type} {e:Enc τ} {z:Value} {bytes:Nat} {v vp u:Value} {l:List τ} {lo hi:Nat} {i:Nat} {j:Int} {t B:τ} (hT:TI P T z 1 bytes)
  (hx:L.ev x=some (pP (ixA vp e.sz j.toNat))) (G:L.ev y=some u) (hS:St S w0 w os) (k:os[i]? = some (own e v l)) (hp:mi v e.sz lo hi vp) (hg:aw ((l.drop lo).take (hi - lo)) j=some B) (hu:e.cells t=[u]) :
  OpY P n L w ⟨none,.store T x y,ty,pos,after,none⟩ (fun w'=>St S w0 w' (os.set i (own e v (l.set (lo+j.toNat) t)))):=by
 have A:RO w e v l:=(hS.ok _ (bd k)).ro
 have I:=(fO hg).2.1
 have hl:=A.lenV
 have:=hp.2.2
 rw[aJ,ca]at I
 rw[Kh A hp (by omega)]at hx
 exact vh hT hx G hu hS k (by omega)
end
section
variable {P:Program} {n:Nat} {L:Env} {w w0:World} {S:L02} {os:List OE} {d:Option Tmp} {ty:TypeId} {pos:String} {after:Array Edge}
theorem AM {x y:Operand} {T T2 E:TypeId} {τ:Type} {e:Enc τ} {z:Value} {bytes:Nat} {u:Value} {m:List τ} (hT:P.underlying T=some (.slice E)) (B:P.underlying T2=some (.slice E)) (hE:TI P E z e.sz bytes) (hz:z.cells.size=e.sz) (G:bytes<=65536) (j:0<bytes)
  (hx:L.ev x=some (.slice none 0 0)) (I:L.ev y=some u) (hS:St S w0 w os) (hu:RO w e u m) (hb:m.length*bytes<=225000000000000) :
  OpX P n L w ⟨d,.call ⟨.builtin .append,#[x,y],#[T,T2]⟩,ty,pos,after,none⟩ (fun A w'=>St S w0 w' (own e A m :: os)):=by
 have hn:(own e (.slice none 0 0) ([]:List τ)).ok S w0.heap.size w:=⟨by simp,.inl ⟨rfl,rfl⟩⟩
 obtain⟨A,w',J,N,O,R⟩:=om (ty:=ty) hT hE hz G j hn hu hS.fr.size (by simpa using hb)
 refine iH A w' (fun a ha=>?_) (hS.push (by simpa [OE.blk,Value.ownBlock] using O) N fun k U=>?_)
 ·have V:(Builtin.append_ #[T,T2] ty #[.slice none 0 0,u]).run P w=(Builtin.append_ #[T,T] ty #[.slice none 0 0,u]).run P w:=by
   simp[Builtin.append_,run_underlying hT,run_underlying B]
  simp[execOp,resolve,invoke,builtin,ha.ev hx,ha.ev I,V,J]
 ·rcases R k U with h | h
  ·simp[OE.blk,Value.ownBlock]at h
  ·exact h
theorem FG {x y:Operand} {T T2 E:TypeId} {τ:Type} {e:Enc τ} {z:Value} {bytes:Nat} {u:Value} {m r:List τ} (hT:P.underlying T=some (.slice E)) (j:P.underlying T2=some (.slice E)) (hE:TI P E z e.sz bytes) (hz:(Nat.beq z.cells.size e.sz&&Nat.ble bytes 65536&&Nat.blt 0 bytes)=true)
  (hx:L.ev x=some (.slice none 0 0)) (k:L.ev y=some u) (hS:St S w0 w os) (hu:RO w e u m) (hg:apO bytes [] m=some r) :
  OpX P n L w ⟨d,.call ⟨.builtin .append,#[x,y],#[T,T2]⟩,ty,pos,after,none⟩ (fun A w'=>St S w0 w' (own e A r :: os)):=by
 obtain⟨rfl,hb⟩:=q9 hg
 simp only[aK,fN]at hz
 exact AM hT j hE (bK hz.1.1) (ao hz.1.2) hz.2 hx k hS hu (by simpa using hb)
end
section
variable {P:Program} {n:Nat} {L:Env} {w:World} {Q:Exit->Act->World->Prop}
theorem Hb {c:Code} (h:wpC P n c (Exit.noGoto Q) L w):wpC P n (.scope c) Q L w:=fun a ha=>wp_scope_straight (h a ha)
theorem GD {l:Nat} (h:QE n Q .normal L w):wpC P n (.label l) Q L w:=fun a ha=>wp_label (h a ha)
theorem JD (h:QE n Q .normal L w):QE n (Exit.noGoto Q) .normal L w:=h
theorem B8 (h:QE n Q .ret L w):QE n (Exit.noGoto Q) .ret L w:=h
end
section
variable {P:Program} {n:Nat} {L:Env} {w:World} {Q:Exit->Act->World->Prop}
theorem E7 {c rest:Code} (l:Nat) (hf:findLabel c l=some rest) (h:wpC P n c (Exit.jump l (fun a w=>rest.wp P (Exit.noGoto Q) a w) Q) L w):wpC P n (.scope c) Q L w:=fun a ha=>
 wp_scope_jumps l _ (fun _ _=>0) hf (h a ha) fun a w j=>wp_mono j fun e a w q=>by cases e <;> first | exact q | exact q.elim
theorem J7 {l:Nat} (h:QE n Q (.goto l) L w):wpC P n (.goto l) Q L w:=fun a ha=>wp_goto (h a ha)
theorem I9 {l:Nat} {J:Act->World->Prop} (h:QE n Q .ret L w):QE n (Exit.jump l J Q) .ret L w:=h
theorem JF {l:Nat} {rest:Code} (h:wpC P n rest (Exit.noGoto Q) L w):QE n (Exit.jump l (fun a w=>rest.wp P (Exit.noGoto Q) a w) Q) (.goto l) L w:=fun a ha=>⟨rfl,h a ha⟩
theorem Gi {K:Act->World->Prop} {l:Nat} (h:QE n Q (.goto l) L w):QE n (Exit.then K Q) (.goto l) L w:=h
end
section
variable {P:Program} {n:Nat} {L:Env} {w:World} {S:L02} {d:Option Tmp} {ty:TypeId} {pos:String} {after:Array Edge}
theorem Ql {x y z u:Operand} {T E:TypeId} {k B j:IntKind} {lo hi:Int} {τ:Type} {e:Enc τ} {v z0:Value} {l r:List τ} {bytes:Nat} (hT:P.underlying T=some (.slice E)) (hE:TI P E z0 e.sz bytes)
  (hx:L.ev x=some v) (G:L.ev y=some (.int j lo)) (hz:L.ev z=some (.int k hi)) (hu:L.ev u=some (.int B hi)) (h:RO w e v l) (hg:slO l lo hi=some r) :
  OpV P n L w ⟨d,.slice T x (some y) (some z) (some u),ty,pos,after,none⟩ (slV3 v e.sz lo.toNat hi.toNat hi.toNat) w:=fun a ha=>by
 obtain⟨b,c,rfl,hc,_⟩:=h
 obtain⟨U,A,_,hs,_⟩:=hE.get
 obtain⟨⟨I,J,V⟩,rfl⟩:=fY hg
 have N:hi<=(c:Int):=by omega
 have O:(hi.toNat:Int)=hi:=ik (by omega)
 have R:0<=hi:=by omega
 have X:(lo.toNat:Int)=lo:=ik (by omega)
 have Y:lo.toNat<=hi.toNat:=by omega
 simp[execOp,ha.ev hx,ha.ev G,ha.ev hz,ha.ev hu,Instr.sliceAt,Instr.slice,run_underlying hT,Instr.sliceBounds,run_sliceBound,I,J,N,O,R,sizeOf,typeInfo,A,hs,slV3]
theorem RO.g_sl3 {τ:Type} {e:Enc τ} {v:Value} {l r:List τ} {lo hi:Int} (h:RO w e v l) (hg:slO l lo hi=some r):RO w e (slV3 v e.sz lo.toNat hi.toNat hi.toNat) r:=by
 obtain⟨⟨k,y,j⟩,rfl⟩:=fY hg
 exact h.sub3 (by omega) j (ax _)
theorem RP.g_sl3 {τ:Type} {e:Enc τ} {v:Value} {l r:List τ} {lo hi:Int} (h:RP S w e v l) (hg:slO l lo hi=some r):RP S w e (slV3 v e.sz lo.toNat hi.toNat hi.toNat) r:=by
 refine⟨h.1.g_sl3 hg,fun j k y hb=>?_⟩
 obtain⟨_,rfl⟩:=fY hg
 refine h.2 (fun e=>j (by rw[e]; simp)) k y ?_
 obtain⟨a,c,rfl,_⟩:=h.1
 cases a with
 | none=>simp[slV3,Value.ownBlock]at hb
 | some x=>
  by_cases hc:hi.toNat=lo.toNat
  ·simpa [slV3,hc,Value.ownBlock] using hb
  ·simp[slV3,hc,Value.ownBlock]at hb ⊢
   rw[<-hb]; unfold Addr.add; split <;> rfl
end
section
variable {P:Program} {n:Nat} {L:Env} {w w0:World} {S:L02} {os:List OE} {d:Option Tmp} {ty:TypeId} {pos:String} {after:Array Edge}
theorem Rc {x:Operand} {T E:TypeId} {b m:Nat} (hT:P.underlying T=some (.array m E)) (hE:(P.info? E).map (·.size)=some 1) (hx:L.ev x=some (pB b 0)) :
  OpV P n L w ⟨d,.slice T x none none none,ty,pos,after,none⟩ (.slice (some ⟨b,0,none⟩) m m) w:=fun a ha=>by
 cases hi':P.info? E with
 | none=>rw[hi']at hE; cases hE
 | some inf=>
  have j:inf.size=1:=by rw[hi']at hE; simpa using hE
  simp[execOp,ha.ev hx,Instr.sliceAt,Instr.sureAddr,run_underlying hT,Instr.sliceBounds,run_sliceBound,sizeOf,typeInfo,hi',j,Addr.add]
theorem St.bxOwn {τ:Type} {e:Enc τ} {l:List τ} {b i m:Nat} (h:St S w0 w os) (hi:os[i]? = some (.bx b (e.fl l))) (B:l.length=m) (hs:e.sz=1) (G:Nat.ble m 1000=true) :
  St S w0 w (os.set i (own e (.slice (some ⟨b,0,none⟩) m m) l)):=by
 have z:=h.ok _ (bd hi)
 obtain⟨hf,T,j,hg,y⟩:=z
 subst B
 have hl:(e.fl l).length=l.length:=by rw[e.fl_length,hs,cE]
 have A:j.size=l.length:=by rw[<-hl,<-y]; simp
 have J:=ao G
 refine h.set hi (Fr.refl _ _) ⟨e.fl_length l,.inr ⟨b,l.length,j,T,rfl,hf,.of hg,ax _,by unfold maxLen; omega,by rw[hs,A]; omega,?_⟩⟩ fun k I=>.inl I
 rw[hs,cE,y,<-hl,cZ]
theorem jG (T:TypeId) (x:Int) (y:UInt64) (k:Nat) (h:y.toNat=k):cj P .shr T (vI x) (v64 y) (vI (jw x k)):=by subst h; exact JT T x y
theorem GA.part {τ:Type} {g:Nat} {e:Enc τ} {l l1:List τ} {off:Nat} (h:GA S w0 g e l) (hf:Fr S w0 w) (hp:((e.fl l).drop off).take (e.fl l1).length=e.fl l1):∀j u,(e.fl l1)[j]? = some u->w.cell? ⟨g,off+j,none⟩=some u:=fun j u k=>by
 have y:j<(e.fl l1).length:=(aP.1 k).1
 rw[<-hp,bR,ag y,dL]at k
 have:=h.cells hf (off+j) u k
 rwa [bk]at this
theorem RO.pcut {τ:Type} {e:Enc τ} {v vp:Value} {l y:List τ} {lo hi:Nat} {k:Int} (h:RO w e v l) (hp:mi v e.sz lo hi vp) (hg:drO ((l.drop lo).take (hi - lo)) k=some y) :
  mi v e.sz (lo+k.toNat) hi (slV vp e.sz k.toNat ((l.drop lo).take (hi - lo)).length):=by
 obtain⟨⟨A,z⟩,_⟩:=lC hg
 have hl:=h.lenV
 have j:((l.drop lo).take (hi - lo)).length=hi - lo:=by have:=hp.2.1; have:=hp.2.2; simp; omega
 rw[j]at z ⊢
 exact hp.cut z
end
end Go.Gk
end
