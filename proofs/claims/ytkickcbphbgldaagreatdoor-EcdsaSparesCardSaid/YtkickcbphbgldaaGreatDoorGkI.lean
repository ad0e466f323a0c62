import Derived.Test.YtkickcbphbgldaaGreatDoorGkC
import Derived.Laws.CopyRow
import Derived.Laws.StructEq
import Derived.Lib.AppendStr
set_option linter.unusedVariables false
set_option linter.unusedSimpArgs false
set_option linter.unusedSectionVars false

section
namespace Go.Gk
open Go Go.RowKit
section
variable {P:Program} {n:Nat} {L:Env} {w w0:World} {Q:Exit→Act→World→Prop} {S:List Nat} {os:List OE}
variable {d:Option Tmp} {ty:TypeId} {pos:String} {after:Array Edge}
abbrev pB (b off:Nat):Value:=.pointer (some ⟨b,off,none⟩)
theorem km (b off k:Nat):(⟨b,off,none⟩:Addr).add k=⟨b,off+k,none⟩:=by unfold Addr.add; split <;> simp_all
theorem qS (h:St S w0 w os) (cs:Array Value) (E:TypeId):St S w0 (w.alloc (.cells cs E)) (.bx w.heap.size cs.toList :: os):=by
 refine h.push (Fr.alloc _ _ _) ⟨h.fresh,E,cs,heap_alloc_new w _,rfl⟩ fun k hk=>?_
 simp [OE.blk]at hk; omega
theorem bg {E:TypeId} {z:Value} {cs:List Value} (hE:(P.info? E).map (·.zero)=some (some z)) (hz:z.cells.toList=cs) (hS:St S w0 w os) :
  OpX P n L w ⟨d,.alloc E,ty,pos,after,none⟩ (fun v w'=>∃b,v=pB b 0∧St S w0 w' (.bx b cs :: os)):=by
 refine dK (pB w.heap.size 0) (w.alloc (.cells z.cells E)) (fun a ha=>?_) ⟨_,rfl,hz ▸ qS hS _ _⟩
 cases hi:P.info? E with
 | none=>rw [hi]at hE; cases hE
 | some i=>
  rw [hi]at hE
  simp only [Option.map_some,Option.some.injEq]at hE
  simp [execOp,Instr.alloc,zeroValue,typeInfo,hi,hE,newVar,newRow]
theorem dy {E:TypeId} {x:Operand} {v:Value} {cs:List Value} (hx:L.ev x=some v) (hz:v.cells.toList=cs) (hS:St S w0 w os) :
  OpX P n L w ⟨d,.box E x,ty,pos,after,none⟩ (fun v w'=>∃b,v=pB b 0∧St S w0 w' (.bx b cs :: os)):=by
 refine dK (pB w.heap.size 0) (w.alloc (.cells v.cells E)) (fun a ha=>?_) ⟨_,rfl,hz ▸ qS hS _ _⟩
 simp [execOp,Instr.box,ha.ev hx,newVar,newRow]
theorem ax {s:TypeId} {x:Operand} {b off f k:Nat} {fs:Array Field} {fd:Field} (hs:P.underlying s=some (.struct fs)) (hf:fs[f]? = some fd) (hk:fd.offset=k) (hsz:(P.info? fd.type).map (·.size == 0)=some false)
  (hx:L.ev x=some (pB b off)):OpV P n L w ⟨d,.fieldAddr s x f,ty,pos,after,none⟩ (pB b (off+k)) w:=fun a ha=>by
 cases hi:P.info? fd.type with
 | none=>rw [hi]at hsz; cases hsz
 | some i=>
  have h0:¬i.size=0:=by rw [hi]at hsz; simpa using hsz
  simp [execOp,Instr.fieldAt,ha.ev hx,run_underlying hs,hf,Instr.sureAddr,fieldPlace,sizeOf,typeInfo,hi,h0,km,hk]
theorem zA {T E:TypeId} {m:Nat} {x y:Operand} {b off:Nat} {k:IntKind} {i:Int} {sz:Nat} (hT:P.underlying T=some (.array m E)) (hE:(P.info? E).map (·.size)=some sz)
  (hx:L.ev x=some (pB b off)) (hy:L.ev y=some (.int k i)) (h0:0≤i) (h1:i<(m:Int)):OpV P n L w ⟨d,.indexAddr T x y,ty,pos,after,none⟩ (pB b (off+i.toNat*sz)) w:=fun a ha=>by
 cases hi:P.info? E with
 | none=>rw [hi]at hE; cases hE
 | some inf=>
  have hs:inf.size=sz:=by rw [hi]at hE; simpa using hE
  simp [execOp,Instr.indexAt,ha.ev hx,ha.ev hy,asIntOf,run_underlying hT,Instr.sureAddr,h0,h1,sizeOf,typeInfo,hi,hs,km]
theorem aO {x:Operand} {b off:Nat} (hx:L.ev x=some (pB b off)):OpV P n L w ⟨d,.nilCheck x,ty,pos,after,none⟩ (pB b off) w:=fun a ha=>by
 simp [execOp,ha.ev hx]
theorem St.bxc (h:St S w0 w os) (i:Nat) {b:Nat} {cs:List Value} (hi:os[i]? = some (.bx b cs)) (k:Nat):w.cell? ⟨b,k,none⟩=cs[k]?:=by
 obtain ⟨_,T,cur,hg,hcs⟩:=h.ok _ (List.mem_of_getElem? hi)
 rw [cell_of_row w b k cur T (0,0) hg,←hcs]; simp
theorem aH {T:TypeId} {D:TypeDesc} {x:Operand} {b off:Nat} {u:Value} (hT:P.underlying T=some D) (hD:(match D with | .struct _ | .array _ _=>true | _=>false)=false)
  (hx:L.ev x=some (pB b off)) (hc:w.cell? ⟨b,off,none⟩=some u):OpV P n L w ⟨d,.load T x,ty,pos,after,none⟩ u w:=fun a ha=>by
 have hagg:(isAgg T).run P w=.ok false w:=by
  unfold isAgg
  rw [Sem.run_bind,run_underlying hT w]
  cases D <;> simp_all
 simp [execOp,Instr.loadAt,ha.ev hx,Instr.sureAddr,loadVar,hagg,hc]
theorem bO {T:TypeId} {D:TypeDesc} {x:Operand} {b off:Nat} {us:List Value} (hT:P.underlying T=some D) (hD:(match D with | .struct _ | .array _ _=>true | _=>false)=true)
  (hi:(P.info? T).map (·.size)=some us.length) (hx:L.ev x=some (pB b off)) (hc:∀j u,us[j]? = some u→w.cell? ⟨b,off+j,none⟩=some u) :
  OpV P n L w ⟨d,.load T x,ty,pos,after,none⟩ (.agg us.toArray) w:=fun a ha=>by
 have hagg:(isAgg T).run P w=.ok true w:=by
  unfold isAgg
  rw [Sem.run_bind,run_underlying hT w]
  cases D <;> simp_all
 cases hq:P.info? T with
 | none=>simp [hq]at hi
 | some i=>
  have hs:i.size=us.length:=by simpa [hq] using hi
  have hl:(loadCells ⟨b,off,none⟩ us.length).run P w=.ok us.toArray w:=
   run_loadCells_list (P:=P) w ⟨b,off,none⟩ us (fun j v hv=>by rw [km]; exact hc j v hv)
  simp [execOp,Instr.loadAt,ha.ev hx,Instr.sureAddr,loadVar,hagg,sizeOf,typeInfo,hq,hs,hl]
theorem St.bxs (h:St S w0 w os) (i:Nat) {b:Nat} {cs us:List Value} {off:Nat} (hi:os[i]? = some (.bx b cs)) (hu:(cs.drop off).take us.length=us):∀j u,us[j]? = some u→w.cell? ⟨b,off+j,none⟩=some u:=by
 intro j u hj
 rw [h.bxc i hi]
 rw [←hu,List.getElem?_take]at hj
 split at hj
 ·simpa using hj
 ·cases hj
def xx:List Value→Prop
 | []=>True
 | v :: r=>v.oneCell'=true∧xx r
theorem sm:∀{l:List Value},xx l→∀v∈l,v.oneCell'=true
 | [],_,v,hv=>by cases hv
 | u :: r,h,v,hv=>by
  rcases List.mem_cons.1 hv with rfl | hv
  ·exact h.1
  ·exact sm h.2 v hv
def spl (cs:List Value) (off:Nat) (us:List Value):List Value:=cs.take off++us++cs.drop (off+us.length)
theorem St.setB (h:St S w0 w os) {i b off:Nat} {cs us:List Value} (hi:os[i]? = some (.bx b cs)) :
  ∃T cur,w.heap[b]? = some (.cells cur T (0,0))∧cur.toList=cs∧St S w0 (w.setRow b (cur.toList.take off++us++cur.toList.drop (off+us.length)).toArray) (os.set i (.bx b (spl cs off us))):=by
 have hok:=h.ok _ (List.mem_of_getElem? hi)
 obtain ⟨hf,T,cur,hg,hcs⟩:=hok
 refine ⟨T,cur,hg,hcs,?_⟩
 refine h.set hi (o':=.bx b (spl cs off us)) (Fr.setRow w b _) ⟨hf,T,_,setRow_heap w b cur _ T (0,0) hg,?_⟩ fun k hk=>.inl hk
 subst hcs
 simp [spl]
theorem bA {T:TypeId} {x y:Operand} {b off i:Nat} {v:Value} {cs us:List Value} (hi:os[i]? = some (.bx b cs)) (hsz:(P.info? T).map (·.size)=some us.length)
  (hx:L.ev x=some (pB b off)) (hy:L.ev y=some v) (hv:v.cells.toList=us) (h1:xx us) (hl:Nat.ble (off+us.length) cs.length=true) (hS:St S w0 w os) :
  OpY P n L w ⟨none,.store T x y,ty,pos,after,none⟩ (fun w'=>St S w0 w' (os.set i (.bx b (spl cs off us)))):=by
 obtain ⟨T',cur,hg,hcs,hS'⟩:=hS.setB (off:=off) (us:=us) hi
 refine oX _ (fun a ha=>?_) hS'
 cases hq:P.info? T with
 | none=>simp [hq]at hsz
 | some inf=>
  have hs:inf.size=us.length:=by simpa [hq] using hsz
  have hle:off+0+us.length≤cur.size:=by
   have:=Nat.le_of_ble_eq_true hl
   rw [←hcs]at this; simpa using this
  have hst:=run_storeCells_at P b off T' us 0 cur w hg hle (sm h1)
  have hvl:v.cells.size=us.length:=by rw [←hv]; simp
  simp only [Nat.add_zero]at hst
  simp [execOp,Instr.storeAt,ha.ev hx,ha.ev hy,Instr.sureAddr,storeVar,sizeOf,typeInfo,hq,hs,hv,hvl,hst]
theorem _root_.Go.Gk.RO.one {τ:Type} {e:Enc τ} {v:Value} {l:List τ} (h:RO w e v l):v.oneCell'=true:=by
 obtain ⟨a,c,rfl,_⟩:=h; rfl
theorem fo {v:Value} (h:v.oneCell'=true):v.cells.toList=[v]:=by cases v <;> simp_all [Value.cells,Value.oneCell']
def iL (P:Program) (T:TypeId):Option (List (Nat×Nat)×List Value):=
 match P.info? T,P.underlying T with
 | some it,some (.array m e)=>
  match it.zero,P.info? e with
  | some z,some ie=>some ((List.range m).map fun i=>(i*ie.size,ie.size),z.cells.toList)
  | _,_=>none
 | some it,some (.struct fields)=>
  match it.zero,fields.toList.mapM (fun f=>(P.info? f.type).map fun i=>(f.offset,i.size)) with
  | some z,some places=>some (places,z.cells.toList)
  | _,_=>none
 | _,_=>none
def mh (pl:List (Nat×Nat)):List Value→List (Nat×Value×List Value)→Option (List Value)
 | cs,[]=>some cs
 | cs,(i,_,us) :: r=>match pl[i]? with
  | some (off,sz)=>if Nat.beq us.length sz&&Nat.ble (off+us.length) cs.length then mh pl (spl cs off us) r else none
  | none=>none
theorem pK:∀(us:List Value) (off k:Nat) (cs:Array Value),off+k+us.length≤cs.size →
  (us.zipIdx k).foldl (fun cs (x:Value×Nat)=>cs.setIfInBounds (off+x.2) x.1) cs=(spl cs.toList (off+k) us).toArray
 | [],off,k,cs,_=>by simp [spl]
 | u :: r,off,k,cs,h=>by
  have ih:=pK r off (k+1) (cs.setIfInBounds (off+k) u) (by simp at h ⊢; omega)
  rw [List.zipIdx_cons,List.foldl_cons,ih]
  congr 1
  unfold spl
  have e:=list_seg_step cs.toList (off+k) u r (by simp at h ⊢; omega)
  simpa [Array.toList_setIfInBounds,Nat.add_assoc] using e
theorem qx {place:Nat→Option (Nat×Nat)} {pl:List (Nat×Nat)} (hpl:∀i x,pl[i]? = some x→place i=some x):∀(ps:List (Nat×Value×List Value)) (cs cs':List Value),
  (∀p∈ps,p.2.1.cells.toList=p.2.2)→mh pl cs ps=some cs'→Instr.fill place cs.toArray (ps.map fun p=>(p.1,p.2.1))=some cs'.toArray
 | [],cs,cs',_,h=>by simp [mh]at h; simp [Instr.fill,h]
 | (i,v,us) :: r,cs,cs',hc,h=>by
  simp only [mh]at h
  cases hi:pl[i]? with
  | none=>rw [hi]at h; cases h
  | some x=>
   obtain ⟨off,sz⟩:=x
   rw [hi]at h
   simp only at h
   split at h
   ·rename_i hb
    simp only [Bool.and_eq_true]at hb
    have h1:=Nat.eq_of_beq_eq_true hb.1
    have h2:=Nat.le_of_ble_eq_true hb.2
    have hv:v.cells.toList=us:=hc (i,v,us) (by simp)
    have hvs:v.cells.size=us.length:=by rw [←hv]; simp
    have ih:=qx hpl r (spl cs off us) cs' (fun p hp=>hc p (by simp [hp])) h
    simp only [List.map_cons,Instr.fill,hpl i _ hi]
    rw [if_neg (by simp; omega)]
    have hf:v.cells.zipIdx.foldl (fun cs (x:Value×Nat)=>cs.setIfInBounds (off+x.2) x.1) cs.toArray=(spl cs off us).toArray:=by
     have:=pK us off 0 cs.toArray (by simpa using h2)
     simp only [Nat.add_zero]at this
     rw [←this,←Array.foldl_toList]
     simp [Array.toList_zipIdx,hv]
    rw [hf]
    exact ih
   ·cases h
theorem zv {T:TypeId} {pl:List (Nat×Nat)} {z cs':List Value} {ps:List (Nat×Value×List Value)} (hlay:iL P T=some (pl,z)) (hc:∀p∈ps,p.2.1.cells.toList=p.2.2) (hf:mh pl z ps=some cs') :
  P.built T (ps.map fun p=>(p.1,p.2.1))=some cs'.toArray:=by
 unfold iL at hlay
 unfold Program.built
 cases hi:P.info? T with
 | none=>rw [hi]at hlay; cases hlay
 | some it=>
  cases hu:P.underlying T with
  | none=>rw [hi,hu]at hlay; cases hlay
  | some D=>
   rw [hi,hu]at hlay
   cases D with
   | array m e=>
    simp only at hlay ⊢
    cases hz:it.zero with
    | none=>rw [hz]at hlay; cases hlay
    | some z0=>
     cases he:P.info? e with
     | none=>rw [hz,he]at hlay; cases hlay
     | some ie=>
      rw [hz,he]at hlay
      simp only [Option.some.injEq,Prod.mk.injEq]at hlay
      obtain ⟨rfl,rfl⟩:=hlay
      simp only
      have:=qx (place:=fun i=>some (i*ie.size,ie.size)) (fun i x hx=>by
       rw [List.getElem?_map]at hx
       by_cases hm:i<m
       ·rw [List.getElem?_range hm]at hx; simpa using hx
       ·rw [List.getElem?_eq_none (by simp; omega)]at hx; cases hx) ps _ cs' hc hf
      simpa using this
   | struct fields=>
    simp only at hlay ⊢
    cases hz:it.zero with
    | none=>rw [hz]at hlay; cases hlay
    | some z0=>
     cases hp:fields.toList.mapM (fun f=>(P.info? f.type).map fun i=>(f.offset,i.size)) with
     | none=>rw [hz,hp]at hlay; cases hlay
     | some places=>
      rw [hz,hp]at hlay
      simp only [Option.some.injEq,Prod.mk.injEq]at hlay
      obtain ⟨rfl,rfl⟩:=hlay
      simp only
      have:=qx (place:=fun i=>places.toArray[i]?) (fun i x hx=>by simpa using hx) ps _ cs' hc hf
      simpa using this
   | _=>cases hlay
def oP:List (Nat×Value×List Value)→Prop
 | []=>True
 | p :: r=>p.2.1.cells.toList=p.2.2∧oP r
theorem mK:∀{l:List (Nat×Value×List Value)},oP l→∀p∈l,p.2.1.cells.toList=p.2.2
 | [],_,v,hv=>by cases hv
 | u :: r,h,v,hv=>by
  rcases List.mem_cons.1 hv with rfl | hv
  ·exact h.1
  ·exact mK h.2 v hv
theorem cl {T:TypeId} {ps:List (Nat×Operand)} {vs:List (Nat×Value×List Value)} {pl:List (Nat×Nat)} {z cells:List Value} (hps:(ps.map fun p=>(L.ev p.2).map fun v=>(p.1,v))=vs.map (fun p=>some (p.1,p.2.1)))
  (hlay:iL P T=some (pl,z)) (hc:oP vs) (hf:mh pl z vs=some cells) :
  OpV P n L w ⟨d,.build T ps.toArray,ty,pos,after,none⟩ (.agg cells.toArray) w:=fun a ha=>by
 have he:ps.map (fun p=>(p.1,a.eval p.2))=vs.map (fun p=>(p.1,p.2.1)):=by
  clear hc hf
  induction ps generalizing vs with
  | nil=>cases vs <;> simp_all
  | cons p r ih=>
   cases vs with
   | nil=>simp at hps
   | cons v s=>
    simp only [List.map_cons,List.cons.injEq]at hps
    obtain ⟨h1,h2⟩:=hps
    cases hp:L.ev p.2 with
    | none=>rw [hp]at h1; cases h1
    | some u=>
     rw [hp]at h1
     simp only [Option.map_some,Option.some.injEq]at h1
     simp [ha.ev hp,h1,ih h2]
 have hr:=run_build (P:=P) w T (ps.toArray.map fun x=>(x.1,a.eval x.2)) cells.toArray (by
  have:=zv hlay (mK hc) hf
  simpa [he] using this)
 simp only [execOp,Sem.run_bind,hr,Result.andThen_ok]; rfl
theorem zI {T E:TypeId} {m:Nat} {x y:Operand} {cs:Array Value} {k:IntKind} {i:Int} {sz:Nat} {u:Value} {D:TypeDesc} (hT:P.underlying T=some (.array m E)) (hE:P.underlying E=some D)
  (hD:(match D with | .struct _ | .array _ _=>true | _=>false)=false) (hsz:(P.info? E).map (·.size)=some sz)
  (hx:L.ev x=some (.agg cs)) (hy:L.ev y=some (.int k i)) (h0:0≤i) (h1:i<(m:Int)) (hu:cs[i.toNat*sz]? = some u):OpV P n L w ⟨d,.index T x y,ty,pos,after,none⟩ u w:=fun a ha=>by
 have hagg:(isAgg E).run P w=.ok false w:=by
  unfold isAgg
  rw [Sem.run_bind,run_underlying hE w]
  cases D <;> simp_all
 cases hi:P.info? E with
 | none=>rw [hi]at hsz; cases hsz
 | some inf=>
  have hs:inf.size=sz:=by rw [hi]at hsz; simpa using hsz
  simp [execOp,Instr.index,ha.ev hx,ha.ev hy,asIntOf,run_underlying hT,h0,h1,sizeOf,typeInfo,hi,hs,part,hagg,hu]
end
end Go.Gk
end

section
namespace Go.Gk
open Go Go.RowKit
section
variable {P:Program} {n:Nat} {L:Env} {w w0:World} {Q:Exit→Act→World→Prop} {S:List Nat} {os:List OE}
variable {d:Option Tmp} {ty:TypeId} {pos:String} {after:Array Edge}
theorem St.trunc {τ:Type} {e:Enc τ} {v:Value} {l:List τ} {i k:Nat} (h:St S w0 w os) (hi:os[i]? = some (own e v l)) (hk:k≤l.length):St S w0 w (os.set i (own e (slV v e.sz 0 k) (l.take k))):=by
 have hok:=h.ok _ (List.mem_of_getElem? hi)
 have hlen:(l.take k).length=k:=by simp; omega
 refine h.set hi (o':=own e _ _) (Fr.refl _ _) ⟨e.fl_length _,?_⟩ ?_
 ·rcases hok.2 with ⟨rfl,hn⟩ | ⟨g,cap,cur,T,rfl,hfr,hg,hnc,hcm,hcs,htake⟩
  ·left
   have:k=0:=by omega
   subst this
   simp [slV]
  ·right
   refine ⟨g,cap,cur,T,?_,hfr,hg,by omega,hcm,hcs,?_⟩
   ·rw [hlen]
    by_cases hc:cap=0
    ·simp [slV,hc]
    ·simp [slV,hc,Addr.add]
   ·rw [hlen,e.fl_take,←htake,List.take_take]
    congr 1
    have:=Nat.mul_le_mul_right e.sz hk
    omega
 ·intro q hq
  left
  rcases hok.2 with ⟨rfl,hn⟩ | ⟨g,cap,cur,T,rfl,_⟩
  ·simp [OE.blk,slV,Value.ownBlock]at hq
  ·simp only [OE.blk]at hq ⊢
   by_cases hc:cap=0
   ·simpa [slV,hc,Value.ownBlock] using hq
   ·simpa [slV,hc,Value.ownBlock,Addr.add] using hq
end
end Go.Gk
end

section
namespace Go.Gk
open Go Go.RowKit Go.Lib
section
variable {P:Program} {n:Nat} {L:Env} {w w' w0:World} {Q:Exit→Act→World→Prop} {S:List Nat} {os os0 os1:List OE}
variable {d:Option Tmp} {ty:TypeId} {pos:String} {after:Array Edge}
def db (os:List OE):List Nat:=os.filterMap OE.blk
theorem cg {k:Nat}:k∈db os↔∃o∈os,o.blk=some k:=by simp [db,List.mem_filterMap]
theorem OE.ok.re {S S':List Nat} {B B':Nat} {o:OE} (h:o.ok S B w) (hb:∀k,o.blk=some k→fre S B k→fre S' B' k):o.ok S' B' w:=by
 cases o with
 | sl v sz n cs=>
  refine ⟨h.1,?_⟩
  rcases h.2 with hn | ⟨g,cap,cur,T,rfl,hf,rest⟩
  ·exact .inl hn
  ·exact .inr ⟨g,cap,cur,T,rfl,hb g rfl hf,rest⟩
 | rd v sz n cs=>
  obtain ⟨hl,a,c,rfl,hc,hx⟩:=h
  refine ⟨hl,a,c,rfl,hc,fun hn=>?_⟩
  obtain ⟨b,off,rfl,hlt,hf,hcell⟩:=hx hn
  exact ⟨b,off,rfl,hlt,hb b (by simp [OE.blk,hn,Value.ownBlock]) hf,hcell⟩
 | bx b cs=>exact ⟨hb b rfl h.1,h.2⟩
theorem St.give (h:St S w0 w (os0++os)):St (db os0) w w os0:=
 ⟨Fr.refl _ _,fun o ho=>(h.ok o (List.mem_append_left _ ho)).re fun k hk _=>.inr (cg.2 ⟨o,ho,hk⟩),(List.pairwise_append.1 h.dj).1⟩
theorem St.back (h:St S w0 w (os0++os)) (h':St (db os0) w w' os1):St S w0 w' (os1++os):=by
 have hfre:∀k,fre (db os0) w.heap.size k→fre S w0.heap.size k:=by
  intro k hk
  rcases hk with hk | hk
  ·exact .inl (Nat.le_trans h.fr.size hk)
  ·obtain ⟨o,ho,hb⟩:=cg.1 hk
   exact ((h.ok o (List.mem_append_left _ ho)).lt hb).2
 have hx:=(List.pairwise_append.1 h.dj).2
 refine ⟨h.fr.step h'.fr fun k hk=>hfre k (.inr hk),?_,?_⟩
 ·intro o ho
  rcases List.mem_append.1 ho with ho | ho
  ·exact (h'.ok o ho).re fun k _ hf=>hfre k hf
  ·refine (h.ok o (List.mem_append_right _ ho)).fr h'.fr fun k hk hb=>?_
   obtain ⟨p,hp,hpb⟩:=cg.1 hk
   exact hx.2 p hp o ho k hpb hb
 ·refine List.pairwise_append.2 ⟨h'.dj,hx.1,fun o ho p hp k hk hk'=>?_⟩
  have h1:=((h.ok p (List.mem_append_right _ hp)).lt hk').1
  rcases ((h'.ok o ho).lt hk).2 with h2 | h2
  ·omega
  ·obtain ⟨q,hq,hqb⟩:=cg.1 h2
   exact hx.2 q hq p hp k hqb hk'
theorem RP.give {τ:Type} {e:Enc τ} {v:Value} {l:List τ} (h:RP S w0 e v l) (hz:0<e.sz) (hS:St S w0 w (os0++os)):RP (db os0) w e v l:=by
 refine ⟨h.now hS.fr,fun hl k hk hb=>?_⟩
 obtain ⟨o,ho,hob⟩:=cg.1 hk
 have h1:=((hS.ok o (List.mem_append_left _ ho)).lt hob).2
 obtain ⟨a,c,rfl,hc,hr⟩:=h.1
 obtain ⟨b,off,rfl,hcell⟩:=hr hl
 have hbk:b=k:=by simpa [Value.ownBlock] using hb
 subst hbk
 rcases h1 with h1 | h1
 ·have hne:0<(e.fl l).length:=by
   rw [e.fl_length]
   exact Nat.mul_pos (List.length_pos_iff.2 hl) hz
  have:=gV (hcell 0 _ (List.getElem?_eq_getElem hne))
  simp only at this
  omega
 ·exact h.2 hl b h1 rfl
theorem St.giveO {τ:Type} {e:Enc τ} {v:Value} {l:List τ} (hS:St S w0 w (os0++os)) (i:Nat) (hi:os[i]? = some (own e v l)):RP (db os0) w e v l:=by
 have hm:=List.mem_of_getElem? hi
 refine ⟨(hS.ok _ (List.mem_append_right _ hm)).ro,fun hl k hk hb=>?_⟩
 obtain ⟨o,ho,hob⟩:=cg.1 hk
 exact (List.pairwise_append.1 hS.dj).2.2 o ho _ hm k hob hb
theorem RP.tk {τ:Type} {e:Enc τ} {v:Value} {l:List τ} (h:RP S w e v l) {k:Nat} (hk:k≤l.length):RP S w e (slV v e.sz 0 k) (l.take k):=h.subh hk
theorem OE.ok.red {S:List Nat} {B:Nat} {τ:Type} {e:Enc τ} {v:Value} {l:List τ} (h:(own e v l).ok S B w):(red e v l).ok S B w:=by
 refine ⟨h.1,?_⟩
 rcases h.2 with ⟨rfl,hn⟩ | ⟨g,cap,cur,T,rfl,hf,hg,hnc,hcm,hcs,htake⟩
 ·exact ⟨none,0,by rw [hn],by rw [hn]; exact Nat.le_refl _,fun h=>absurd hn h⟩
 ·refine ⟨_,cap,rfl,hnc,fun _=>⟨g,0,rfl,hg.lt,hf,fun j u hj=>?_⟩⟩
  rw [←htake,List.getElem?_take]at hj
  split at hj
  ·rw [Nat.zero_add,hg.cell j]
   simpa using hj
  ·cases hj
theorem St.freeze {τ:Type} {e:Enc τ} {v:Value} {l:List τ} {i:Nat} (h:St S w0 w os) (hi:os[i]? = some (own e v l)):St S w0 w (os.set i (red e v l)):=by
 refine h.set hi (o':=red e v l) (Fr.refl _ _) (h.ok _ (List.mem_of_getElem? hi)).red fun k hk=>.inl ?_
 simp only [OE.blk]at hk ⊢
 split at hk
 ·cases hk
 ·exact hk
theorem St.rnil {τ:Type} (e:Enc τ) (h:St S w0 w os):St S w0 w (red e (.slice none 0 0) ([]:List τ) :: os):=
 h.push (Fr.refl _ _) ⟨by simp,none,0,rfl,Nat.le_refl _,fun h=>absurd rfl h⟩ (by simp [OE.blk])
def xa (u:Value) (o:Option (List Value)):Prop:=match o with
 | none=>u=.pointer none
 | some _=>∃b,u=pB b 0
def yl (u:Value) (o:Option (List Value)):List OE:=match o,u with
 | some cs,.pointer (some a)=>[.bx a.block cs]
 | _,_=>[]
theorem uC {T E:TypeId} (hT:P.underlying T=some (.pointer E)) (b off k:Nat) (w:World):(Op.equalIn (k+1) T (pB b off) (.pointer none)).run P w=.ok false w:=by
 simp [Op.equalIn,run_underlying hT]
theorem xf {T E:TypeId} (hT:P.underlying T=some (.pointer E)) (k:Nat) (w:World):(Op.equalIn (k+1) T (.pointer none) (.pointer none)).run P w=.ok true w:=by
 simp [Op.equalIn,run_underlying hT]
theorem rn {T E:TypeId} (hT:P.underlying T=some (.pointer E)) (b off:Nat) (w:World):(Op.equal T (pB b off) (.pointer none)).run P w=.ok false w:=uC hT b off 9999 w
theorem u7 {T E:TypeId} (hT:P.underlying T=some (.pointer E)) (w:World):(Op.equal T (.pointer none) (.pointer none)).run P w=.ok true w:=xf hT 9999 w
theorem j5 {T E:TypeId} (hT:P.underlying T=some (.pointer E)) (b off:Nat):bW P .neq T (pB b off) (.pointer none) (vB true):=fun _ _ w=>by
 simp [eqGuard,binOp,rn hT]
theorem lI {T E:TypeId} (hT:P.underlying T=some (.pointer E)):bW P .neq T (.pointer none) (.pointer none) (vB false):=fun _ _ w=>by
 simp [eqGuard,binOp,u7 hT]
theorem qw {T E:TypeId} (hT:P.underlying T=some (.pointer E)) (b off:Nat):bW P .eql T (pB b off) (.pointer none) (vB false):=fun _ _ w=>by
 simp [eqGuard,binOp,rn hT]
theorem qs {T E:TypeId} (hT:P.underlying T=some (.pointer E)):bW P .eql T (.pointer none) (.pointer none) (vB true):=fun _ _ w=>by
 simp [eqGuard,binOp,u7 hT]
theorem bY {T:TypeId} {D:TypeDesc} {b:Nat} {us:List Value} (hT:P.underlying T=some D) (hD:(match D with | .struct _ | .array _ _=>true | _=>false)=true)
  (hi:(P.info? T).map (·.size)=some us.length) (hc:∀j u,us[j]? = some u→w.cell? ⟨b,0+j,none⟩=some u):(loadVar T ⟨b,0,none⟩).run P w=.ok (.agg us.toArray) w:=by
 have hagg:(isAgg T).run P w=.ok true w:=by
  unfold isAgg
  rw [Sem.run_bind,run_underlying hT w]
  cases D <;> simp_all
 cases hq:P.info? T with
 | none=>simp [hq]at hi
 | some i=>
  have hs:i.size=us.length:=by simpa [hq] using hi
  have hl:(loadCells ⟨b,0,none⟩ us.length).run P w=.ok us.toArray w:=
   run_loadCells_list (P:=P) w ⟨b,0,none⟩ us (fun j v hv=>by rw [km]; exact hc j v hv)
  simp [loadVar,hagg,sizeOf,typeInfo,hq,hs,hl]
def RV (P:Program) (L:Env) (w:World):ResultVar→Value→Prop
 | .tmp t,v=>L.get t=some v
 | .cell t T,v=>∃b,L.get t=some (pB b 0)∧(loadVar T ⟨b,0,none⟩).run P w=.ok v w
theorem du (b off:Nat) (w:World):(asAddr (pB b off)).run P w=.ok ⟨b,off,none⟩ w:=rfl
theorem eK {fn:Func} {r1:ResultVar} {v1:Value} {φ:Value→World→Prop} (hres:fn.results=#[r1]) (h1:RV P L w r1 v1) (h:φ v1 w):QE n (bodyPost P fn (Ret φ)) .ret L w:=fun a ha=>by
 refine ⟨ha.defers,v1,?_,h⟩
 cases r1
 ·have g1:=ha.get _ _ h1
  simp [results,hres,g1]
 ·obtain ⟨b1,g1,k1⟩:=h1
  have g1:=ha.get _ _ g1
  simp [results,hres,g1,k1,du]
theorem fk {fn:Func} {r1 r2:ResultVar} {v1 v2:Value} {φ:Value→World→Prop} (hres:fn.results=#[r1,r2]) (h1:RV P L w r1 v1) (h2:RV P L w r2 v2) (h:φ (.tuple #[v1,v2]) w):QE n (bodyPost P fn (Ret φ)) .ret L w:=fun a ha=>by
 refine ⟨ha.defers,.tuple #[v1,v2],?_,h⟩
 cases r1 <;> cases r2
 ·have g1:=ha.get _ _ h1
  have g2:=ha.get _ _ h2
  simp [results,hres,g1,g2]
 ·have g1:=ha.get _ _ h1
  obtain ⟨b2,g2,k2⟩:=h2
  have g2:=ha.get _ _ g2
  simp [results,hres,g1,g2,k2,du]
 ·obtain ⟨b1,g1,k1⟩:=h1
  have g1:=ha.get _ _ g1
  have g2:=ha.get _ _ h2
  simp [results,hres,g1,g2,k1,du]
 ·obtain ⟨b1,g1,k1⟩:=h1
  have g1:=ha.get _ _ g1
  obtain ⟨b2,g2,k2⟩:=h2
  have g2:=ha.get _ _ g2
  simp [results,hres,g1,g2,k1,k2,du]
def SHP (v:Value) (m:Nat):Prop:=∃a c,v=.slice a m c∧m≤c∧(m≠0→∃b off,a=some ⟨b,off,none⟩)
theorem RO.shp {τ:Type} {e:Enc τ} {v:Value} {l:List τ} (h:RO w e v l):SHP v l.length:=by
 obtain ⟨a,c,rfl,hc,hr⟩:=h
 refine ⟨a,c,rfl,hc,fun hn=>?_⟩
 obtain ⟨b,off,h1,_⟩:=hr (by rintro rfl; simp at hn)
 exact ⟨b,off,h1⟩
theorem q5 {τ:Type} {l y:List τ} {i:Int} {x t:τ} (hy:l.set i.toNat t=y) (hx:aB l i=some x):aB y i=some t:=by
 obtain ⟨h0,h1,_⟩:=dz hx
 subst hy
 simp [aB,h0,h1]
theorem y4 {x y:Operand} {T:TypeId} {p q:Int} (hx:L.ev x=some (vI p)) (hy:L.ev y=some (vI q)):OpV P n L w ⟨d,.call ⟨.builtin .min,#[x,y],#[T,T]⟩,ty,pos,after,none⟩ (vI (min p q)) w:=fun a ha=>by
 have h1:(if q<p then q else p)=min p q:=by split <;> omega
 have h2:(Builtin.min2 (vI p) (vI q)).run P w=.ok (vI (min p q)) w:=by rw [←h1]; rfl
 simp [execOp,resolve,invoke,builtin,Builtin.min_,ha.ev hx,ha.ev hy,h2]
theorem sX {x y:Operand} {T:TypeId} {p q:Int} (hx:L.ev x=some (vI p)) (hy:L.ev y=some (vI q)):OpV P n L w ⟨d,.call ⟨.builtin .max,#[x,y],#[T,T]⟩,ty,pos,after,none⟩ (vI (max p q)) w:=fun a ha=>by
 have h1:(if p<q then q else p)=max p q:=by split <;> omega
 have h2:(Builtin.max2 (vI p) (vI q)).run P w=.ok (vI (max p q)) w:=by rw [←h1]; rfl
 simp [execOp,resolve,invoke,builtin,Builtin.max_,ha.ev hx,ha.ev hy,h2]
end
end Go.Gk
end

section
namespace Go.Gk
open Go Go.RowKit
section
variable {P:Program} {n:Nat} {L:Env} {w w' w0:World} {Q:Exit→Act→World→Prop} {S:List Nat} {os os0 os1:List OE}
variable {d:Option Tmp} {ty:TypeId} {pos:String} {after:Array Edge}
theorem xn {T E:TypeId} {τ:Type} {e:Enc τ} {z:Value} {bytes:Nat} (hT:P.underlying T=some (.slice E)) (hE:TI P E z e.sz bytes) (hS:St S w0 w os) :
  OpX P n L w ⟨d,.buildSlice T 0 #[],ty,pos,after,none⟩ (fun v w'=>St S w0 w' (own e v ([]:List τ) :: os)):=by
 obtain ⟨inf,hi,hz',hs,hb⟩:=hE.get
 refine dK (.slice (some ⟨w.heap.size,0,none⟩) 0 0) (w.alloc (.cells #[] E)) (fun a ha=>?_) ?_
 ·have h0:(Array.map (fun _:Nat=>(default:Value)) (Array.range 0))=#[]:=Array.eq_empty_of_size_eq_zero (by simp)
  simp [execOp,Instr.buildSlice,run_underlying hT,sizeOf,typeInfo,hi,Instr.fill,newRow,h0]
 ·refine hS.push (Fr.alloc _ _ _) (o:=own e _ _) ?_ ?_
  ·exact ⟨by simp,.inr ⟨w.heap.size,0,#[],E,rfl,hS.fresh,Row.new w _ _,Nat.le_refl _,by simp [maxLen],by simp,by simp⟩⟩
  ·intro k hk
   simp [OE.blk,Value.ownBlock]at hk
   omega
def SV.of (v:Value):SV:=match v with
 | .slice a n c=>⟨a,n,c⟩
 | _=>⟨none,0,0⟩
theorem RO.sv {τ:Type} {e:Enc τ} {v:Value} {l:List τ} (h:RO w e v l):(SV.of v).v=v:=by
 obtain ⟨a,c,rfl,_⟩:=h; rfl
theorem RO.svrp {τ:Type} {e:Enc τ} {v:Value} {l:List τ} (h:RO w e v l):RP [] w e (SV.of v).v l:=by rw [h.sv]; exact h.rp
theorem RP.sv {τ:Type} {e:Enc τ} {v:Value} {l:List τ} (h:RP S w e v l):RP S w e (SV.of v).v l:=by rw [h.1.sv]; exact h
theorem dG {v:Value} {r:List SV} {vs:List Value} (h:(SV.of v).v=v) (ht:eV.fl r=vs):eV.fl (SV.of v :: r)=v :: vs:=by
 rw [←ht]
 show [(SV.of v).v]++eV.fl r=v :: eV.fl r
 rw [h]; rfl
def gC (S:List Nat) (w:World) {τ:Type} (e:Enc τ):List SV→List (List τ)→Prop
 | [],[]=>True
 | s :: r,l :: m=>RP S w e s.v l∧gC S w e r m
 | _,_=>False
theorem gC.len {τ:Type} {e:Enc τ}:∀{s:List SV} {m:List (List τ)},gC S w e s m→s.length=m.length
 | [],[],_=>rfl
 | _ :: _,_ :: _,h=>by simp [gC.len h.2]
theorem gC.nth {τ:Type} {e:Enc τ}:∀{s:List SV} {m:List (List τ)},gC S w e s m→∀{i:Nat} {l:List τ},m[i]? = some l→∃v,s[i]? = some v∧RP S w e v.v l
 | [],[],_,i,l,hi=>by simp at hi
 | a :: r,b :: m,h,0,l,hi=>by simp at hi; subst hi; exact ⟨a,rfl,h.1⟩
 | a :: r,b :: m,h,i+1,l,hi=>by simpa using gC.nth h.2 (by simpa using hi)
theorem gC.get {τ:Type} {e:Enc τ} {s:List SV} {m:List (List τ)} (h:gC S w e s m) {i:Int} {l:List τ} (hi:aB m i=some l):∃v,aB s i=some v∧RP S w e v.v l:=by
 obtain ⟨h0,_,h2⟩:=dz hi
 obtain ⟨v,h3,h4⟩:=h.nth h2
 exact ⟨v,by simp [aB,h0,h3],h4⟩
theorem uj {x:Operand} {T E:TypeId} {τ:Type} {v:Value} {s:List SV} {m:List (List τ)} (hT:P.underlying T=some (.slice E)) (hx:L.ev x=some v) (h:RO w eV v s) (hl:s.length=m.length) :
  OpV P n L w ⟨d,.call ⟨.builtin .len,#[x],#[T]⟩,ty,pos,after,none⟩ (vI m.length) w:=by
 have:=aL (n:=n) (d:=d) (ty:=ty) (pos:=pos) (after:=after) hT hx h
 rwa [hl]at this
section
variable {T E:TypeId} {τ:Type} {e:Enc τ} {v:Value} {l r:List τ} {z0:Value} {bytes:Nat}
end
theorem Av (T:TypeId) (x y:Bool) {D:TypeDesc} (hT:P.underlying T=some D) (hD:D=.bool):bW P .eql T (vB x) (vB y) (vB (x == y)):=fun _ _ w=>by
 subst hD
 have h:∀k,(Op.equalIn (k+1) T (vB x) (vB y)).run P w=.ok (x == y) w:=fun k=>by simp [Op.equalIn,run_underlying hT]
 have h9:(Op.equal T (vB x) (vB y)).run P w=.ok (x == y) w:=h 9999
 simp [eqGuard,binOp,h9]
theorem k5 (T:TypeId) (x y:Bool) {D:TypeDesc} (hT:P.underlying T=some D) (hD:D=.bool):bW P .neq T (vB x) (vB y) (vB (x != y)):=fun _ _ w=>by
 subst hD
 have h:∀k,(Op.equalIn (k+1) T (vB x) (vB y)).run P w=.ok (x == y) w:=fun k=>by simp [Op.equalIn,run_underlying hT]
 have h9:(Op.equal T (vB x) (vB y)).run P w=.ok (x == y) w:=h 9999
 simp [eqGuard,binOp,h9,bne]
theorem nY {ops:Array Oper} {rest:List Oper} {d:Nat} {op:Op} {Φ:Value→World→Prop} {j:Nat} {want:Bool} {t:Tmp}
  (hj:(ops[j]?).bind (·.dst)=some t) (hb:L.get t=some (vB want))
  (hv:OpX P n L w ⟨some d,op,ty,pos,after,none⟩ Φ) (hd:Nat.blt d n=true)
  (h:∀v w',Φ v w'→wpR P n ops Q rest ((d,v) :: L) w'):wpR P n ops Q (⟨some d,op,ty,pos,after,some (j,want)⟩ :: rest) L w:=by
 obtain ⟨v,w',h1,h2⟩:=hv
 exact aF hj hb h1 hd (h v w' h2)
end
end Go.Gk
end

section
namespace Go.Gk
section
variable {P:Program} {n:Nat} {L:Env} {w w0:World} {Q:Exit→Act→World→Prop}
variable {d:Option Nat} {ty:TypeId} {pos:String} {after:Array Edge}
theorem wG {o:Oper} {x:Operand} {f:FuncId} {xs:List Operand} {ts:Array TypeId} {vs cap:List Value} {a:Act} (ho:o.op=.call ⟨.value x,xs.toArray,ts⟩)
  (hx:a.eval x=.func (.func f) #[] cap.toArray) (hf:jf P f=true) (hargs:xs.map a.eval=vs):(execOp a.eval o).run P w=.ok (.enter f (vs++cap).toArray) w:=by
 simp only [execOp,ho,resolve,hx,Deferred.ofValue,Sem.run_bind,Sem.run_pure,Result.andThen_ok,invoke]
 have:(#[]++Array.map a.eval xs.toArray++cap.toArray:Array Value)=(vs++cap).toArray:=by simp [hargs]
 rw [this]
 exact k6 hf
end
end Go.Gk
namespace Go.Gk
section
variable {P:Program} {n:Nat} {L:Env} {w w0:World} {Q:Exit→Act→World→Prop} {S:List Nat} {os:List OE}
variable {d:Option Nat} {ty:TypeId} {pos:String} {after:Array Edge}
theorem oa (a:Addr) (m k:Nat):(w.freeze a m).heap[k]? = (w.heap[k]?).map fun o=>if k=a.block∧m≠0 then (match o with
   | .cells c elem (lo,hi)=>.cells c elem (if lo == hi then (a.off,a.off+m) else (min lo a.off,max hi (a.off+m)))
   | o=>o) else o:=by
 unfold World.freeze
 by_cases hm:m=0
 ·simp [hm]
 ·rw [if_neg hm]
  simp only [Array.getElem?_modify]
  by_cases hk:a.block=k
  ·subst hk
   simp only [if_true]
   cases w.heap[a.block]? with
   | none=>rfl
   | some o=>simp [hm]; cases o <;> rfl
  ·rw [if_neg hk]
   have:¬(k=a.block∧m≠0):=fun h=>hk h.1.symm
   simp [this]
theorem sQ (a b:Addr) (m:Nat):(w.freeze a m).cell? b=w.cell? b:=by
 unfold World.cell?
 rw [oa]
 cases w.heap[b.block]? with
 | none=>rfl
 | some o=>
  simp only [Option.map_some]
  by_cases hc:b.block=a.block∧m≠0
  ·rw [if_pos hc]; cases o <;> rfl
  ·rw [if_neg hc]
theorem mH (a:Addr) (m:Nat):(w.freeze a m).heap.size=w.heap.size:=by
 unfold World.freeze; split
 ·rfl
 ·simp
theorem wx (a:Addr) (m:Nat):Fr [a.block] w (w.freeze a m):=by
 refine ⟨?_,?_,?_,by rw [mH]; exact Nat.le_refl _,fun k hk hn=>?_⟩
 ·unfold World.freeze; split <;> rfl
 ·unfold World.freeze; split <;> rfl
 ·unfold World.freeze; split <;> rfl
 ·rw [oa]
  have:¬(k=a.block∧m≠0):=fun h=>hn (by simp [h.1])
  cases w.heap[k]? with
  | none=>rfl
  | some o=>simp [this]
theorem kC {T E:TypeId} {x:Operand} {v:Value} {l:List UInt8} {i:Nat} (hT:P.underlying T=some (.slice E)) (hE:P.underlying E=some (.int .u8)) (hx:L.ev x=some v)
  (hS:St S w0 w os) (hi:os[i]? = some (own e8 v l)) (hl:l≠[]) :
  OpX P n L w ⟨d,.convert T T x,ty,pos,after,none⟩ (fun v' w'=>v'=v∧St S w0 w' (os.set i (red e8 v l))):=by
 have hok:=hS.ok _ (List.mem_of_getElem? hi)
 have hred:=hok.red
 obtain ⟨h1,h2⟩:=hok
 rcases h2 with ⟨_,hn⟩ | ⟨g,cap,cur,U,rfl,hf,hg,hnc,hcm,hcs,htake⟩
 ·exact absurd (List.eq_nil_of_length_eq_zero hn) hl
 ·have hst:St S w0 (w.freeze ⟨g,cur.size,none⟩ 1) (os.set i (red e8 (.slice (some ⟨g,0,none⟩) l.length cap) l)):=by
   refine hS.set hi (o':=red e8 _ l) (by simpa [OE.blk,Value.ownBlock] using wx (w:=w) ⟨g,cur.size,none⟩ 1) ?_ fun k hk=>.inl ?_
   ·obtain ⟨r1,a,c,hv,hc,hr⟩:=hred
    refine ⟨r1,a,c,hv,hc,fun hne=>?_⟩
    obtain ⟨b,off,ha,hb,hfr,hcell⟩:=hr hne
    exact ⟨b,off,ha,by rw [mH]; exact hb,hfr,fun j u hj=>by rw [sQ]; exact hcell j u hj⟩
   ·simp only [OE.blk]at hk ⊢
    split at hk
    ·cases hk
    ·exact hk
  refine dK _ _ (fun a ha=>?_) ⟨rfl,hst⟩
  have hsh:w.shape? g=some (U,cur.size):=by obtain ⟨mk,hg,_⟩:=hg; unfold World.shape?; rw [hg]
  simp [execOp,ha.ev hx,convert,run_underlying hT,run_underlying hE,markStringish,shape,freeze,Sem.run,hsh]
def um (w0 w:World) (r:Nat) (es:Array MapEntry) (c:Nat):Prop:=Fr [] w0 w∧w0.heap.size≤r∧w.heap[r]? = some (.map es c)
theorem um.put {r:Nat} {es es':Array MapEntry} {c c':Nat} (h:um w0 w r es c):um w0 { w with heap:=w.heap.setIfInBounds r (.map es' c') } r es' c':=by
 obtain ⟨hf,hr,hg⟩:=h
 have hlt:r<w.heap.size:=(Array.getElem?_eq_some_iff.1 hg).1
 refine ⟨⟨hf.os,hf.tape,hf.output,by simpa using hf.size,fun k hk hn=>?_⟩,hr,by simp [hlt]⟩
 rw [←hf.block k hk hn]
 simp [Array.getElem?_setIfInBounds]; omega
end
end Go.Gk
end

section
namespace Go.Gk
open Go Go.RowKit
theorem zg {a b:OE} (h:OE.dj a b):OE.dj b a:=by
 unfold OE.dj at *
 intro k hk hk2
 exact h k hk2 hk
theorem St.perm {S:List Nat} {w0 w:World} {os os':List OE} (h:St S w0 w os) (hp:os.Perm os'):St S w0 w os':=
 ⟨h.fr,fun o ho=>h.ok o (hp.mem_iff.2 ho),(hp.pairwise_iff (fun {a b} hab=>zg hab)).1 h.dj⟩
theorem St.tail {S:List Nat} {w0 w:World} {l os:List OE} (h:St S w0 w (l++os)):St S w0 w os:=
 ⟨h.fr,fun o ho=>h.ok o (List.mem_append_right _ ho),(List.pairwise_append.1 h.dj).2.1⟩
section
variable {P:Program} {ops:Array Oper} {Q:Exit→Act→World→Prop} {nw:Nat→Bool} {S:List Nat} {w0:World} {os:List OE} {ent:Nat→Value→OE} {news:List Nat}
def qd (P:Program) (ops:Array Oper) (S:List Nat) (w0:World) (ent:Nat→Value→OE) (o:Oper) (i:Nat) (a:Act):Prop:=
 Region.wanted o (yielded ops a.tmps)=true∧∀w os',St S w0 w os'→∃v w',(execOp a.eval o).run P w=.ok (.value v) w'∧St S w0 w' (ent i v :: os')
theorem qd.of_same {o:Oper} {i:Nat} {a a':Act} (hy:qd P ops S w0 ent o i a) (he:execOp a'.eval o=execOp a.eval o)
  (hw:Region.wanted o (yielded ops a'.tmps)=Region.wanted o (yielded ops a.tmps)):qd P ops S w0 ent o i a':=by
 unfold qd at *
 rw [he,hw]
 exact hy
variable {n:Nat} {L:Env}
end
end Go.Gk
end

section
namespace Go.Gk
open Go Go.RowKit
section
variable {P:Program} {n:Nat} {L:Env} {w w' w0:World} {Q:Exit→Act→World→Prop} {S:List Nat} {os os0 os1:List OE}
variable {d:Option Tmp} {ty:TypeId} {pos:String} {after:Array Edge}
def twE {τ:Type} (e:Enc τ) (va:Value) (la:List τ) (q:Nat):OE:=if q=0 then red e (.slice none 0 0) ([]:List τ) else red e va la
def Tw {τ:Type} (va:Value) (la:List τ) (v:Value) (l:List τ) (q:Nat):Prop:=
 q=0→∃a c c' t,va=.slice a la.length c∧la.length≤c∧v=.slice a l.length c'∧l=la++t
theorem Tw.ro {τ:Type} {e:Enc τ} {va v:Value} {la l:List τ} {q:Nat} {B:Nat} (h:Tw va la v l q) (he:(twE e va la q).ok S B w) (hv:RO w e v l):RO w e va la:=by
 by_cases hq:q=0
 ·obtain ⟨a,c,c',t,rfl,hc,rfl,rfl⟩:=h hq
  obtain ⟨a2,c2,h1,h2,h3⟩:=hv
  injection h1 with e1 e2 e3
  subst e1
  refine ⟨a,c,rfl,hc,fun hl=>?_⟩
  obtain ⟨b,off,hb,hcell⟩:=h3 (by simp [hl])
  refine ⟨b,off,hb,fun j u hj=>hcell j u ?_⟩
  rw [e.fl_append,List.getElem?_append_left (List.getElem?_eq_some_iff.1 hj).1]
  exact hj
 ·unfold twE at he
  rw [if_neg hq]at he
  exact he.rro
theorem St.twro {τ:Type} {e:Enc τ} {va v:Value} {la l:List τ} {q:Nat} (h:St S w0 w os) (hA:Tw va la v l q) (i j:Nat) (hi:os[i]? = some (own e v l)) (hj:os[j]? = some (twE e va la q)):RO w e va la:=
 hA.ro (h.ok _ (List.mem_of_getElem? hj)) (h.ro i hi)
theorem St.twin {τ:Type} {e:Enc τ} {v:Value} {l:List τ} (h:St S w0 w os) (i:Nat) (hi:os[i]? = some (own e v l)):St S w0 w (twE e v l 0 :: os):=by
 have:=h.rnil e
 simpa [twE] using this
theorem RO.tw {τ:Type} {e:Enc τ} {v:Value} {l:List τ} (h:RO w e v l):Tw v l v l 0:=fun _=>by
 obtain ⟨a,c,rfl,hc,_⟩:=h
 exact ⟨a,c,c,[],rfl,hc,rfl,by simp⟩
theorem rT {α:Type} {l:List α} {j:Nat} {x:α} (h:l[j]? = some x):l.set j x=l:=by
 apply List.ext_getElem?
 intro k
 rw [List.getElem?_set]
 split
 ·rename_i hk
  subst hk
  have:=(List.getElem?_eq_some_iff.1 h).1
  rw [if_pos this,h]
 ·rfl
theorem St.swap2 {A B:OE} {i j:Nat} (h:St S w0 w (A :: os.set i B)) (hij:i≠j) (hi:i<os.length) (hj:j<os.length):St S w0 w ((os.set i A).set j B):=by
 let f:Nat→Nat:=fun k=>if k=i then 0 else if k=j then i+1 else k+1
 refine h.pick ((List.range os.length).map f) ?_ ?_
 ·refine List.pairwise_map.2 (List.pairwise_lt_range.imp fun {a b} hab=>?_)
  show f a≠f b
  simp only [f]
  split <;> split <;> (try split) <;> (try split) <;> omega
 ·apply List.ext_getElem?
  intro k
  simp only [List.getElem?_map,List.map_map]
  by_cases hk:k<os.length
  ·rw [List.getElem?_range hk]
   simp only [Option.map_some,Function.comp,f]
   by_cases h1:k=i
   ·subst h1
    rw [List.getElem?_set]
    rw [if_neg (by omega),List.getElem?_set,if_pos rfl,if_pos hi]
    simp
   ·by_cases h2:k=j
    ·subst h2
     rw [List.getElem?_set,if_pos rfl,if_pos (by simpa using hj)]
     simp [h1,hi]
    ·rw [List.getElem?_set,if_neg (by omega),List.getElem?_set,if_neg (by omega)]
     simp only [h1,h2,if_false,List.getElem?_cons_succ]
     rw [List.getElem?_set,if_neg (by omega)]
     simp [hk]
  ·rw [List.getElem?_eq_none (by simp; omega),List.getElem?_eq_none (by simp; omega)]
   simp
theorem pR {T E ty:TypeId} {τ:Type} {e:Enc τ} {z:Value} {bytes:Nat} {v u:Value} {l m:List τ} {B:Nat} (hT:P.underlying T=some (.slice E)) (hE:TI P E z e.sz bytes) (hz:z.cells.size=e.sz) (hby:bytes≤65536) (hby0:0<bytes)
  (ho:(own e v l).ok S B w) (hu:RO w e u m) (hB:B≤w.heap.size) (hb:(l.length+m.length)*bytes≤225000000000000) :
  ∃v' w',(Builtin.append_ #[T,T] ty #[v,u]).run P w=.ok v' w'∧(own e v' (l++m)).ok S B w'∧((∃a c c',v=.slice a l.length c∧v'=.slice a (l++m).length c'∧Fr (own e v l).blk.toList w w'∧∀k,(own e v' (l++m)).blk=some k→(own e v l).blk=some k)∨(Fr [] w w'∧∀k,(own e v' (l++m)).blk=some k→w.heap.size≤k)):=by
 obtain ⟨inf,hi,hz',hs,hbb⟩:=hE.get
 obtain ⟨ua,c,rfl,hc,hr⟩:=hu
 by_cases hm:m=[]
 ·subst hm
  rcases ho.2 with ⟨rfl,hn⟩ | ⟨g,cap,cur,T',rfl,hfr,hg,hnc,hcm,hcs,htake⟩
  ·have hl:l=[]:=List.eq_nil_of_length_eq_zero hn
   subst hl
   refine ⟨_,w,fh T ty E inf hT hi _ none 0 0 c rfl (Nat.le_refl _) ua,?_,.inl ⟨none,0,0,rfl,by simp,Fr.refl _ _,fun k hk=>by simpa using hk⟩⟩
   simpa using ho
  ·refine ⟨_,w,fh T ty E inf hT hi _ (some ⟨g,0,none⟩) l.length cap c rfl hnc ua,?_,.inl ⟨_,cap,cap,rfl,by simp,Fr.refl _ _,fun k hk=>by simpa using hk⟩⟩
   simpa using ho
 ·obtain ⟨b,off,rfl,hcell⟩:=hr hm
  have hcell':∀j x,(e.fl m)[j]? = some x→w.cell? ((⟨b,off,none⟩:Addr).add j)=some x:=fun j x hj=>by rw [cc]; exact hcell j x hj
  have hml:(e.fl m).length=m.length*inf.size:=by rw [hs]; exact e.fl_length m
  have hm0:0<m.length:=List.length_pos_iff.2 hm
  have h63:l.length+m.length≤225000000000000:=Nat.le_trans (Nat.le_mul_of_pos_right _ hby0) hb
  rcases ho.2 with ⟨rfl,hn⟩ | ⟨g,cap,cur,T',rfl,hfr,hg,hnc,hcm,hcs,htake⟩
  ·have hl:l=[]:=List.eq_nil_of_length_eq_zero hn
   subst hl
   simp only [List.length_nil,Nat.zero_add]at hb h63
   have hrun:=run_append_nil (P:=P) w T ty E inf z hT hi hz' ⟨b,off,none⟩ m.length c (e.fl m) hml hcell' hm0 (by omega) (by rw [hbb]; omega)
   refine ⟨_,_,hrun,⟨e.fl_length _,.inr ⟨w.heap.size,grownCap w m.length 0 E,_,E,?_,?_,Row.new w.drew _ _,?_,?_,?_,?_⟩⟩,.inr ⟨?_,?_⟩⟩
   ·simp
   ·exact .inl hB
   ·simp; exact grownCap_ge w m.length 0 E
   ·exact grownCap_le_maxLen w m.length 0 E (by simp [maxLen]; omega)
   ·have:=grownCap_ge w m.length 0 E
    simp only [Array.size_append,List.size_toArray,size_zeroCells,hz,e.fl_length,←Nat.add_mul]
    exact Nat.mul_le_mul_right _ (by omega)
   ·simp only [List.nil_append,Array.toList_append,List.toList_toArray]
    rw [←e.fl_length]
    exact List.take_left
   ·exact (Fr.drew _ w).trans (Fr.alloc _ _ _)
   ·intro k hk
    simp [OE.blk,Value.ownBlock]at hk
    omega
  ·by_cases hroom:l.length+m.length≤cap
   ·have hfit:l.length*inf.size+(e.fl m).length≤cur.size:=by
     rw [hml,←Nat.add_mul]
     exact Nat.le_trans (Nat.mul_le_mul_right _ hroom) (by rw [hs]; exact hcs)
    have hrun:=jg (w:=w) T ty E inf hT hi g l.length cap cur T' hg ⟨b,off,none⟩ m.length c (e.fl m) hml hcell' (e.fl_one m) hroom hfit
    refine ⟨_,_,hrun,⟨e.fl_length _,.inr ⟨g,cap,_,T',?_,hfr,hg.set _ ?_,?_,hcm,?_,?_⟩⟩,.inl ⟨_,cap,cap,rfl,by simp,?_,?_⟩⟩
    ·simp
    ·simp only [List.size_toArray,List.length_append,List.length_take,List.length_drop,Array.length_toList]at hfit ⊢
     omega
    ·simpa using hroom
    ·simp only [List.size_toArray,List.length_append,List.length_take,List.length_drop,Array.length_toList]at hfit ⊢
     omega
    ·rw [hs,htake,List.length_append,Nat.add_mul]
     simp only [List.append_assoc]
     rw [←List.append_assoc,←e.fl_append]
     have:l.length*e.sz+m.length*e.sz=(e.fl (l++m)).length:=by rw [e.fl_length,List.length_append,Nat.add_mul]
     rw [this]
     exact List.take_left
    ·exact Fr.setRow w g _
    ·intro k hk
     simpa [OE.blk,Value.ownBlock] using hk
   ·have holds:∀j x,(e.fl l)[j]? = some x→w.cell? ((⟨g,0,none⟩:Addr).add j)=some x:=fun j x hj=>by
     rw [cc,Nat.zero_add,hg.cell j]
     rw [←htake,List.getElem?_take]at hj
     split at hj
     ·simpa using hj
     ·cases hj
    have hll:(e.fl l).length=l.length*inf.size:=by rw [hs]; exact e.fl_length l
    have hrun:=run_append_grow (P:=P) w T ty E inf z hT hi hz' ⟨g,0,none⟩ l.length cap (e.fl l) hll holds ⟨b,off,none⟩ m.length c (e.fl m) hml hcell' (by omega) (by omega)
     (by rw [hbb]; exact pI (by omega) hb hby)
    refine ⟨_,_,hrun,⟨e.fl_length _,.inr ⟨w.heap.size,grownCap w (l.length+m.length) cap E,_,E,?_,?_,Row.new w.drew _ _,?_,?_,?_,?_⟩⟩,.inr ⟨?_,?_⟩⟩
    ·simp
    ·exact .inl hB
    ·simp; exact grownCap_ge w (l.length+m.length) cap E
    ·exact grownCap_le_maxLen w (l.length+m.length) cap E (by simp [maxLen]; omega)
    ·have:=grownCap_ge w (l.length+m.length) cap E
     simp only [Array.size_append,List.size_toArray,size_zeroCells,hz,e.fl_length,←Nat.add_mul]
     exact Nat.mul_le_mul_right _ (by omega)
    ·simp only [Array.toList_append,List.append_assoc]
     rw [←List.append_assoc,←e.fl_append,←e.fl_length]
     exact List.take_left
    ·exact (Fr.drew _ w).trans (Fr.alloc _ _ _)
    ·intro k hk
     simp [OE.blk,Value.ownBlock]at hk
     omega
theorem pT {x y:Operand} {T E:TypeId} {τ:Type} {e:Enc τ} {z:Value} {bytes:Nat} {v u va:Value} {l m la:List τ} {i j q:Nat} (hT:P.underlying T=some (.slice E)) (hE:TI P E z e.sz bytes) (hz:z.cells.size=e.sz) (hby:bytes≤65536) (hby0:0<bytes)
  (hx:L.ev x=some v) (hy:L.ev y=some u) (hS:St S w0 w os) (hi:os[i]? = some (own e v l)) (hj:os[j]? = some (twE e va la q)) (hA:Tw va la v l q) (hu:RO w e u m) (hb:(l.length+m.length)*bytes≤225000000000000) :
  OpX P n L w ⟨d,.call ⟨.builtin .append,#[x,y],#[T,T]⟩,ty,pos,after,none⟩ (fun v' w'=>∃q',Tw va la v' (l++m) q'∧St S w0 w' ((os.set i (own e v' (l++m))).set j (twE e va la q'))):=by
 have hij:i≠j:=by
  rintro rfl
  rw [hi]at hj
  unfold twE at hj
  split at hj <;> cases hj
 obtain ⟨v',w',hr,h1,h2⟩:=pR (ty:=ty) hT hE hz hby hby0 (hS.ok _ (List.mem_of_getElem? hi)) hu hS.fr.size hb
 refine dK v' w' (fun a ha=>?_) ?_
 ·simp [execOp,resolve,invoke,builtin,ha.ev hx,ha.ev hy,hr]
 ·have same:St S w0 w' (os.set i (own e v' (l++m)))→St S w0 w' ((os.set i (own e v' (l++m))).set j (twE e va la q)):=fun h=>by
   rwa [rT]
   rw [List.getElem?_set,if_neg hij]
   exact hj
  by_cases hq:q=0
  ·rcases h2 with ⟨a,c,c',e1,e2,hf,hk⟩ | ⟨hf,hk⟩
   ·refine ⟨q,fun _=>?_,same (hS.set hi hf h1 fun k hk'=>.inl (hk k hk'))⟩
    obtain ⟨a',c1,c2,t,f1,f2,f3,f4⟩:=hA hq
    rw [e1]at f3
    injection f3 with g1 g2 g3
    subst g1
    exact ⟨a,c1,c',t++m,f1,f2,e2,by rw [f4,List.append_assoc]⟩
   ·refine ⟨1,fun h=>by omega,?_⟩
    have hP:=hS.push hf h1 hk
    obtain ⟨a',c1,c2,t,f1,f2,f3,f4⟩:=hA hq
    have hoi:=hP.ok (own e v l) (List.mem_cons_of_mem _ (List.mem_of_getElem? hi))
    have hro:RO w' e va la:=Tw.ro (S:=S) (B:=0) hA (by unfold twE; rw [if_pos hq]; exact ⟨by simp,none,0,rfl,Nat.le_refl _,fun h=>absurd rfl h⟩) hoi.ro
    have hblk:∀k,(red e va la).blk=some k→(own e v l).blk=some k:=by
     intro k hk
     simp only [OE.blk]at hk ⊢
     split at hk
     ·cases hk
     ·rw [f1]at hk; rw [f3]; cases a' <;> exact hk
    have hred:(red e va la).ok S w0.heap.size w':=by
     obtain ⟨a2,c3,g1,g2,g3⟩:=hro
     refine ⟨e.fl_length la,a2,c3,g1,g2,fun hn=>?_⟩
     obtain ⟨b,off,g4,g5⟩:=g3 (by intro h; rw [h]at hn; exact hn rfl)
     have:=hoi.lt (hblk b (by simp only [OE.blk]; rw [if_neg hn,g1,g4]; rfl))
     exact ⟨b,off,g4,this.1,this.2,g5⟩
    have hP2:=hP.set (i:=i+1) (by simpa using hi) (Fr.refl _ _) hred (fun k hk=>.inl (hblk k hk))
    rw [List.set_cons_succ]at hP2
    have:=hP2.swap2 hij (List.getElem?_eq_some_iff.1 hi).1 (List.getElem?_eq_some_iff.1 hj).1
    unfold twE
    rw [if_neg (by omega)]
    exact this
  ·refine ⟨q,fun h=>absurd h hq,same ?_⟩
   rcases h2 with ⟨a,c,c',e1,e2,hf,hk⟩ | ⟨hf,hk⟩
   ·exact hS.set hi hf h1 fun k hk'=>.inl (hk k hk')
   ·exact hS.set hi (hf.mono (by simp)) h1 fun k hk'=>.inr (hk k hk')
theorem hO {x y:Operand} {T E:TypeId} {τ:Type} {e:Enc τ} {z:Value} {bytes:Nat} {v u va:Value} {l m la r:List τ} {i j q:Nat} (hT:P.underlying T=some (.slice E)) (hE:TI P E z e.sz bytes) (hz:(Nat.beq z.cells.size e.sz&&Nat.ble bytes 65536&&Nat.blt 0 bytes)=true)
  (hx:L.ev x=some v) (hy:L.ev y=some u) (hS:St S w0 w os) (hi:os[i]? = some (own e v l)) (hj:os[j]? = some (twE e va la q)) (hA:Tw va la v l q) (hu:RO w e u m) (hg:apO bytes l m=some r) :
  OpX P n L w ⟨d,.call ⟨.builtin .append,#[x,y],#[T,T]⟩,ty,pos,after,none⟩ (fun v' w'=>∃q',Tw va la v' r q'∧St S w0 w' ((os.set i (own e v' r)).set j (twE e va la q'))):=by
 obtain ⟨rfl,hb⟩:=kK hg
 simp only [Bool.and_eq_true,Nat.blt_eq]at hz
 exact pT hT hE (Nat.eq_of_beq_eq_true hz.1.1) (Nat.le_of_ble_eq_true hz.1.2) hz.2 hx hy hS hi hj hA hu hb
theorem _root_.Eq.to {op:BinOp} {T:TypeId} {x y:Value} {b b':Bool} (h:b=b') (hb:bW P op T x y (vB b)):bW P op T x y (vB b'):=h ▸ hb
theorem eVc {v:Value} (h:(SV.of v).v=v):eV.cells (SV.of v)=[v]:=congrArg (fun z=>[z]) h
theorem p7 {l m:List SV} {bytes:Nat} (h:Nat.ble ((l.length+m.length)*bytes) 225000000000000=true):apO bytes l m=some (l++m):=if_pos (Nat.le_of_ble_eq_true h)
end
end Go.Gk
end

section
namespace Go.Gk
open Go Go.RowKit
def isB (want:Bool):Value→Bool
 | .bool b=>b == want
 | _=>false
def wO (op:BinOp) (x y:Int):Option Value:=match op with
 | .add=>some (vI (wI (x+y)))
 | .sub=>some (vI (wI (x - y)))
 | .eql=>some (vB (x == y))
 | .neq=>some (vB (x != y))
 | .lss=>some (vB (decide (x<y)))
 | .leq=>some (vB (decide (x≤y)))
 | .gtr=>some (vB (decide (y<x)))
 | .geq=>some (vB (decide (y≤x)))
 | _=>none
def o9 (L:Env):Op→Option Value
 | .move x=>L.ev x
 | .assign x=>L.ev x
 | .pick c x y=>match L.ev c with
  | some (.bool true)=>L.ev x
  | some (.bool false)=>L.ev y
  | _=>none
 | .extract x i=>match L.ev x with
  | some (.tuple vs)=>vs.toList[i]?
  | _=>none
 | .unOp op _ x=>match op,L.ev x with
  | .not,some (.bool b)=>some (vB (!b))
  | _,_=>none
 | .binOp op _ x y _=>match L.ev x,L.ev y with
  | some (.int .i64 a),some (.int .i64 b)=>wO op a b
  | _,_=>none
 | _=>none
def nv (ops:Array Oper) (n:Nat):Nat→Env→List Oper→Option (Env×List Oper)
 | 0,L,l=>some (L,l)
 | m+1,L,o :: l=>match o.dst with
  | none=>none
  | some d=>bif Nat.blt d n then
   match o.guard with
   | none=>match o9 L o.op with
    | some v=>nv ops n m ((d,v) :: L) l
    | none=>none
   | some (j,want)=>match (ops[j]?).bind (·.dst) with
    | none=>none
    | some t=>match L.get t with
     | none=>none
     | some v=>bif isB want v then (match o9 L o.op with
      | some u=>nv ops n m ((d,u) :: L) l
      | none=>none) else nv ops n m ((d,undef) :: L) l
   else none
 | _+1,_,[]=>none
section
variable {P:Program} {n:Nat} {L:Env} {w:World} {Q:Exit→Act→World→Prop}
theorem zf {op:BinOp} {T:TypeId} {x y:Int} {v:Value} (h:wO op x y=some v):bW P op T (vI x) (vI y) v:=by
 cases op <;> simp only [wO]at h <;> first | (cases h; fail) | (injection h with h; subst h; first | exact bS _ _ _ | exact dI _ _ _ | exact AI _ _ _ | exact Ae _ _ _ | exact dQ _ _ _ | exact Ay _ _ _ | exact AQ _ _ _ | exact At _ _ _) | cases h
theorem tL {d:Option Tmp} {op:Op} {v:Value} {ty:TypeId} {pos:String} {after:Array Edge} (h:o9 L op=some v):OpV P n L w ⟨d,op,ty,pos,after,none⟩ v w:=by
 unfold o9 at h
 split at h
 ·exact au h
 ·exact aD h
 ·split at h
  ·rename_i e; exact pe e h
  ·rename_i e; exact pi e h
  ·cases h
 ·split at h
  ·rename_i e
   refine ct e ?_
   rw [←Array.getElem?_toList]; exact h
  ·cases h
 ·split at h
  ·rename_i e; cases h; exact ij e (pY _)
  ·cases h
 ·split at h
  ·rename_i e1 e2; exact aq e1 e2 (zf h)
  ·cases h
 ·cases h
theorem aa {ops:Array Oper}:∀(m:Nat) {L L':Env} {rest rest':List Oper},nv ops n m L rest=some (L',rest')→wpR P n ops Q rest' L' w→wpR P n ops Q rest L w
 | 0,L,L',rest,rest',h,k=>by simp only [nv]at h; cases h; exact k
 | m+1,L,L',[],rest',h,k=>by simp [nv]at h
 | m+1,L,L',o :: l,rest',h,k=>by
  obtain ⟨dst,op,ty,pos,after,guard⟩:=o
  simp only [nv]at h
  cases dst with
  | none=>cases h
  | some d=>
   simp only at h
   cases hd:Nat.blt d n with
   | false=>rw [hd]at h; cases h
   | true=>
    rw [hd]at h
    simp only [cond_true]at h
    cases guard with
    | none=>
     simp only at h
     cases hv:o9 L op with
     | none=>rw [hv]at h; cases h
     | some v=>rw [hv]at h; exact al (tL hv) hd (aa m h k)
    | some g=>
     obtain ⟨j,want⟩:=g
     simp only at h
     cases hj:(ops[j]?).bind (·.dst) with
     | none=>rw [hj]at h; cases h
     | some t=>
      rw [hj]at h
      simp only at h
      cases hg:L.get t with
      | none=>rw [hg]at h; cases h
      | some v=>
       rw [hg]at h
       simp only at h
       cases hb:isB want v with
       | true=>
        rw [hb]at h
        simp only [cond_true]at h
        have hv2:v=vB want:=by
         cases v <;> simp [isB]at hb
         subst hb; rfl
        subst hv2
        cases hv:o9 L op with
        | none=>rw [hv]at h; cases h
        | some u=>rw [hv]at h; exact aF hj hg (tL hv) hd (aa m h k)
       | false=>
        rw [hb]at h
        simp only [cond_false]at h
        intro a ha
        unfold wpList
        rw [if_neg (by
         have:=ha.get t _ hg
         simp only [Region.wanted,yielded,hj,Option.bind_some,this]
         cases v <;> simp_all [isB])]
        exact aa m h k _ (ha.put hd)
end
end Go.Gk
end
