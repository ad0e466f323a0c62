import Derived.Test.YtahgjafdhjbkeaaGreatDoorGkS
import Derived.Laws.CopyOwn
import Derived.Laws.MakeOwn
import Derived.Laws.AppendOwn
import Derived.Great.BuildSlice
import Derived.Deep.Draws
import Derived.Laws.BytesArg
import Derived.Lib.Strings
import Derived.Laws.Slices
import Derived.Deep.Quiet
import Derived.KernelRfl
import Derived.Lib.ConvBytes
import Derived.Lib.Bytealg
set_option linter.unusedVariables false
set_option linter.unusedSimpArgs false
set_option linter.unusedSectionVars false

section
namespace Go.Gk
open Go Go.RowKit
structure Enc (τ:Type) where
 sz:Nat
 cells:τ->List Value
 len:∀t,(cells t).length=sz
 one:∀t,∀u∈cells t,u.oneCell'=true
def e8:Enc UInt8:=⟨1,fun x=>[v8 x],fun _=>rfl,fun _ u h=>by simp at h; subst h; rfl⟩
def e32:Enc UInt32:=⟨1,fun x=>[v32 x],fun _=>rfl,fun _ u h=>by simp at h; subst h; rfl⟩
def e64:Enc UInt64:=⟨1,fun x=>[v64 x],fun _=>rfl,fun _ u h=>by simp at h; subst h; rfl⟩
def eS:Enc (List UInt8):=⟨1,fun x=>[vS x],fun _=>rfl,fun _ u h=>by simp at h; subst h; rfl⟩
structure SV where
 a:Option Addr
 n:Nat
 c:Nat
abbrev SV.v (s:SV):Value:=.slice s.a s.n s.c
def eV:Enc SV:=⟨1,fun x=>[x.v],fun _=>rfl,fun _ u h=>by simp at h; subst h; rfl⟩
abbrev Enc.fl {τ:Type} (e:Enc τ) (l:List τ):List Value:=l.flatMap e.cells
theorem Enc.fl_length {τ:Type} (e:Enc τ) (l:List τ):(e.fl l).length=l.length*e.sz:=by
 induction l with
 | nil=>simp[Enc.fl]
 | cons a r ih=>
  simp only[Enc.fl,List.flatMap_cons,List.length_append,List.length_cons,e.len,Nat.add_mul]at ih ⊢
  omega
theorem Enc.fl_append {τ:Type} (e:Enc τ) (l m:List τ):e.fl (l++m)=e.fl l++e.fl m:=by simp[Enc.fl]
theorem Enc.fl_one {τ:Type} (e:Enc τ) (l:List τ):∀u∈e.fl l,u.oneCell'=true:=by
 intro u f
 simp only[Enc.fl,List.mem_flatMap]at f
 obtain⟨t,_,g⟩:=f
 exact e.one t u g
theorem Enc.fl_drop {τ:Type} (e:Enc τ) (l:List τ) (k:Nat):e.fl (l.drop k)=(e.fl l).drop (k*e.sz):=by
 induction k generalizing l with
 | zero=>simp
 | succ k ih=>
  cases l with
  | nil=>simp[Enc.fl]
  | cons a r=>
   rw[List.drop_succ_cons,ih]
   simp only[Enc.fl,List.flatMap_cons,Nat.add_mul,Nat.one_mul]
   rw[Nat.add_comm,<-List.drop_drop,<-e.len a,List.drop_left]
theorem Enc.fl_take {τ:Type} (e:Enc τ) (l:List τ) (k:Nat):e.fl (l.take k)=(e.fl l).take (k*e.sz):=by
 induction k generalizing l with
 | zero=>simp[Enc.fl]
 | succ k ih=>
  cases l with
  | nil=>simp[Enc.fl]
  | cons a r=>
   rw[List.take_succ_cons]
   simp only[Enc.fl,List.flatMap_cons,Nat.add_mul,Nat.one_mul]at ih ⊢
   rw[ih,Nat.add_comm (k*e.sz),List.take_append]
   simp[e.len,List.take_of_length_le]
theorem Enc.fl_get {τ:Type} (e:Enc τ) (l:List τ) (i:Nat) (t:τ) (h:l[i]? = some t) (j:Nat) (f:j<e.sz):(e.fl l)[i*e.sz+j]? = (e.cells t)[j]?:=by
 have g:(e.fl l)[i*e.sz+j]? = ((e.fl l).drop (i*e.sz))[j]?:=by rw[List.getElem?_drop]
 rw[g,<-e.fl_drop]
 have k:l.drop i=t :: l.drop (i+1):=by
  obtain⟨hi,m⟩:=List.getElem?_eq_some_iff.1 h
  rw[List.drop_eq_getElem_cons hi,m]
 rw[k]
 simp only[Enc.fl,List.flatMap_cons]
 rw[List.getElem?_append_left (by rw[e.len]; exact f)]
def RO (w:World) {τ:Type} (e:Enc τ) (v:Value) (l:List τ):Prop:=
 ∃a c,v=.slice a l.length c/\l.length<=c/\(l≠[]->∃b off,a=some ⟨b,off,none⟩/\∀j u,(e.fl l)[j]? = some u->w.cell? ⟨b,off+j,none⟩=some u)
structure Fr (S:List Nat) (w w':World):Prop where
 os:w'.os=w.os
 tape:w'.tape=w.tape
 output:w'.output=w.output
 size:w.heap.size<=w'.heap.size
 block:∀k,k<w.heap.size->k ∉ S->w'.heap[k]? = w.heap[k]?
theorem Fr.refl (S:List Nat) (w:World):Fr S w w:=⟨rfl,rfl,rfl,Nat.le_refl _,fun _ _ _=>rfl⟩
theorem Fr.trans {S:List Nat} {a b c:World} (h:Fr S a b) (k:Fr S b c):Fr S a c:=
 ⟨k.os.trans h.os,k.tape.trans h.tape,k.output.trans h.output,Nat.le_trans h.size k.size,fun i hi f=>(k.block i (Nat.lt_of_lt_of_le hi h.size) f).trans (h.block i hi f)⟩
theorem Fr.step {S R:List Nat} {a b c:World} (h:Fr S a b) (k:Fr R b c) (j:∀x∈R,a.heap.size<=x\/x∈S):Fr S a c:=
 ⟨k.os.trans h.os,k.tape.trans h.tape,k.output.trans h.output,Nat.le_trans h.size k.size,fun i hi f=>by
  refine (k.block i (Nat.lt_of_lt_of_le hi h.size) fun m=>?_).trans (h.block i hi f)
  rcases j i m with g | g
  ·omega
  ·exact f g⟩
theorem Fr.mono {S R:List Nat} {a b:World} (h:Fr S a b) (f:∀x∈S,x∈R):Fr R a b:=
 ⟨h.os,h.tape,h.output,h.size,fun k g i=>h.block k g fun j=>i (f k j)⟩
theorem Fr.below {w w':World} (h:Fr [] w w'):Below w.heap.size w w':=⟨h.os,h.tape,h.output,h.size,fun k f=>h.block k f (by simp)⟩
theorem Fr.alloc (S:List Nat) (w:World) (o:Obj):Fr S w (w.alloc o):=⟨rfl,rfl,rfl,by simp,fun k f _=>heap_alloc_old w o k f⟩
theorem Fr.drew (S:List Nat) (w:World):Fr S w w.drew:=⟨rfl,rfl,rfl,Nat.le_refl _,fun _ _ _=>rfl⟩
theorem Fr.setRow (w:World) (g:Nat) (cs:Array Value):Fr [g] w (w.setRow g cs):=by
 refine⟨rfl,rfl,rfl,by simp[World.setRow],fun k _ f=>setRow_other w g k cs (by simpa using f)⟩
theorem Fr.cell {S:List Nat} {w w':World} (h:Fr S w w') {p:Addr} (f:p.block<w.heap.size) (g:p.block ∉ S):w'.cell? p=w.cell? p:=
 World.cell?_of_block (h.block p.block f g)
theorem i7 {w:World} {p:Addr} {u:Value} (h:w.cell? p=some u):p.block<w.heap.size:=World.block_lt_of_cell? w p h
abbrev sE (v:Value):Option Nat:=v.ownBlock
theorem RO.fr {S:List Nat} {w w':World} {τ:Type} {e:Enc τ} {v:Value} {l:List τ} (h:RO w e v l) (m:Fr S w w') (o:l≠[]->∀k∈S,sE v≠some k):RO w' e v l:=by
 obtain⟨a,c,rfl,hc,q⟩:=h
 refine⟨a,c,rfl,hc,fun g=>?_⟩
 obtain⟨b,off,rfl,f⟩:=q g
 refine⟨b,off,rfl,fun j u t=>?_⟩
 have i:=f j u t
 rw[m.cell (i7 i) (fun x=>o g _ x rfl)]
 exact i
def RP (S:List Nat) (w:World) {τ:Type} (e:Enc τ) (v:Value) (l:List τ):Prop:=RO w e v l/\(l≠[]->∀k∈S,sE v≠some k)
theorem RP.now {S:List Nat} {w w':World} {τ:Type} {e:Enc τ} {v:Value} {l:List τ} (h:RP S w e v l) (f:Fr S w w'):RO w' e v l:=h.1.fr f h.2
theorem RO.rp {w:World} {τ:Type} {e:Enc τ} {v:Value} {l:List τ} (h:RO w e v l):RP [] w e v l:=⟨h,by simp⟩
theorem RO.nil (w:World) {τ:Type} (e:Enc τ):RO w e (.slice none 0 0) ([]:List τ):=⟨none,0,rfl,Nat.le_refl _,fun h=>absurd rfl h⟩
def slV (v:Value) (sz lo hi:Nat):Value:=match v with
 | .slice a _ c=>.slice (if c=lo then a else a.map (·.add (lo*sz))) (hi - lo) (c - lo)
 | v=>v
def slV3 (v:Value) (sz lo hi m:Nat):Value:=match v with
 | .slice a _ _=>.slice (if m=lo then a else a.map (·.add (lo*sz))) (hi - lo) (m - lo)
 | v=>v
theorem d6 (b off k:Nat):(⟨b,off,none⟩:Addr).add k=⟨b,off+k,none⟩:=by
 unfold Addr.add; split <;> simp_all
theorem RO.sub {w:World} {τ:Type} {e:Enc τ} {v:Value} {l:List τ} (h:RO w e v l) {lo hi:Nat} (y:lo<=hi) (z:hi<=l.length) :
  RO w e (slV v e.sz lo hi) ((l.drop lo).take (hi - lo)):=by
 obtain⟨a,c,rfl,hc,q⟩:=h
 have f:((l.drop lo).take (hi - lo)).length=hi - lo:=by simp; omega
 refine⟨if c=lo then a else a.map (·.add (lo*e.sz)),c - lo,by rw[f]; rfl,by rw[f]; omega,fun g=>?_⟩
 have t:l≠[]:=by rintro rfl; simp at g
 have x:0<hi - lo:=by
  rcases Nat.eq_zero_or_pos (hi - lo) with m | m
  ·rw[m]at g; simp at g
  ·exact m
 obtain⟨b,off,rfl,k⟩:=q t
 have o:¬c=lo:=by omega
 refine⟨b,off+lo*e.sz,by simp[o,d6],fun j u i=>?_⟩
 rw[e.fl_take,e.fl_drop,List.getElem?_take]at i
 split at i
 ·rw[List.getElem?_drop]at i
  have:=k _ _ i
  rw[Nat.add_assoc]
  exact this
 ·cases i
theorem RO.sub3 {w:World} {τ:Type} {e:Enc τ} {v:Value} {l:List τ} (h:RO w e v l) {lo hi m:Nat} (z:lo<=hi) (A:hi<=l.length) (B:hi<=m) :
  RO w e (slV3 v e.sz lo hi m) ((l.drop lo).take (hi - lo)):=by
 obtain⟨a,c,rfl,hc,t⟩:=h
 have f:((l.drop lo).take (hi - lo)).length=hi - lo:=by simp; omega
 refine⟨if m=lo then a else a.map (·.add (lo*e.sz)),m - lo,by rw[f]; rfl,by rw[f]; omega,fun g=>?_⟩
 have x:l≠[]:=by rintro rfl; simp at g
 have y:0<hi - lo:=by
  rcases Nat.eq_zero_or_pos (hi - lo) with o | o
  ·rw[o]at g; simp at g
  ·exact o
 obtain⟨b,off,rfl,k⟩:=t x
 have q:¬m=lo:=by omega
 refine⟨b,off+lo*e.sz,by simp[q,d6],fun j u i=>?_⟩
 rw[e.fl_take,e.fl_drop,List.getElem?_take]at i
 split at i
 ·rw[List.getElem?_drop]at i
  have:=k _ _ i
  rw[Nat.add_assoc]
  exact this
 ·cases i
def ixA (v:Value) (sz i:Nat):Addr:=match v with
 | .slice (some a) _ _=>a.add (i*sz)
 | _=>default
theorem RO.cellAt {w:World} {τ:Type} {e:Enc τ} {v:Value} {l:List τ} (h:RO w e v l) {i:Nat} {t:τ} (hi:l[i]? = some t) {j:Nat} (g:j<e.sz) {u:Value} (k:(e.cells t)[j]? = some u) :
  w.cell? ((ixA v e.sz i).add j)=some u:=by
 obtain⟨a,c,rfl,hc,m⟩:=h
 have o:l≠[]:=by rintro rfl; simp at hi
 obtain⟨b,off,rfl,f⟩:=m o
 have:=f (i*e.sz+j) u (by rw[e.fl_get l i t hi j g]; exact k)
 simp only[ixA,d6]
 rw[Nat.add_assoc]
 exact this
theorem RO.cellAt0 {w:World} {τ:Type} {e:Enc τ} {v:Value} {l:List τ} (h:RO w e v l) {i:Nat} {t:τ} (hi:l[i]? = some t) {u:Value} (f:e.cells t=[u]) :
  w.cell? (ixA v e.sz i)=some u:=by
 have g:e.sz=1:=by rw[<-e.len t,f]; rfl
 have:=h.cellAt hi (j:=0) (by omega) (u:=u) (by rw[f]; rfl)
 simpa [Addr.add] using this
def Row (w:World) (g:Nat) (cur:Array Value) (T:TypeId):Prop:=∃mk:Nat×Nat,w.heap[g]? = some (.cells cur T mk)/\(mk=(0,0)\/cur.size<=mk.1)
theorem Row.of {w:World} {g:Nat} {f:Array Value} {T:TypeId} (h:w.heap[g]? = some (.cells f T (0,0))):Row w g f T:=⟨_,h,.inl rfl⟩
theorem Row.new (w:World) (cs:Array Value) (T:TypeId):Row (w.alloc (.cells cs T)) w.heap.size cs T:=.of (heap_alloc_new w _)
theorem Row.lt {w:World} {g:Nat} {f:Array Value} {T:TypeId} (h:Row w g f T):g<w.heap.size:=by
 obtain⟨mk,h,_⟩:=h
 exact (Array.getElem?_eq_some_iff.1 h).1
theorem Row.cell {w:World} {g:Nat} {f:Array Value} {T:TypeId} (h:Row w g f T) (j:Nat):w.cell? ⟨g,j,none⟩=f[j]?:=by
 obtain⟨mk,h,_⟩:=h
 exact cell_of_row w g j f T mk h
theorem Row.mv {w w':World} {g:Nat} {f:Array Value} {T:TypeId} (h:Row w g f T) (i:w'.heap[g]? = w.heap[g]?):Row w' g f T:=by
 obtain⟨mk,h,j⟩:=h
 exact⟨mk,i.trans h,j⟩
theorem Row.set {w:World} {g:Nat} {f:Array Value} {T:TypeId} (h:Row w g f T) (cs:Array Value) (hc:cs.size=f.size):Row (w.setRow g cs) g cs T:=by
 obtain⟨mk,h,i⟩:=h
 exact⟨mk,setRow_heap w g f cs T mk h,by rw[hc]; exact i⟩
theorem eL (P:Program) (g o:Nat) (t:TypeId):∀(vs:List Value) (i:Nat) (f:Array Value) (w:World),Row w g f t->o+i+vs.length<=f.size->(∀v∈vs,v.oneCell'=true) ->
  (storeCells ⟨g,o,none⟩ vs i).run P w=.ok () (w.setRow g (f.toList.take (o+i)++vs++f.toList.drop (o+i+vs.length)).toArray)
 | [],i,f,w,hr,_,_=>by
  obtain⟨fz,h,_⟩:=hr
  simp only[storeCells,List.append_nil,List.length_nil,Nat.add_zero,List.take_append_drop,Array.toArray_toList]
  rw[setRow_self w g f t fz h]
  rfl
 | v :: rest,i,f,w,hr,hl,h1=>by
  have hi:o+i<f.size:=by simp at hl; omega
  have m:(⟨g,o,none⟩:Addr).add i=⟨g,o+i,none⟩:=by unfold Addr.add; split <;> simp_all
  have y:=hr.set (f.setIfInBounds (o+i) v) (by simp)
  obtain⟨fz,h,j⟩:=hr
  have k:w.cell? ⟨g,o+i,none⟩=some f[o+i]:=by simp[World.cell?,h,hi]
  have q:w.frozen? ⟨g,o+i,none⟩=false:=by
   rcases j with rfl | j
   ·simp[World.frozen?,h]
   ·obtain⟨lo,F⟩:=fz
    simp only[World.frozen?,h,Bool.and_eq_false_iff,decide_eq_false_iff_not]
    left
    simp only at j
    omega
  have z:(store ((⟨g,o,none⟩:Addr).add i) v).run P w=.ok () (w.setRow g (f.setIfInBounds (o+i) v)):=by
   rw[m,run_store P w _ v _ (h1 v (by simp)),k]
   simp[q,setCell_eq_setRow w g (o+i) f t fz v h]
  have A:=eL P g o t rest (i+1) (f.setIfInBounds (o+i) v) (w.setRow g (f.setIfInBounds (o+i) v)) y (by simp at hl ⊢; omega) (fun x B=>h1 x (by simp[B]))
  simp only[storeCells,Sem.run_bind,z,Result.andThen_ok,A,setRow_setRow]
  congr 3
  have e:=list_seg_step f.toList (o+i) v rest (by simp at hl ⊢; omega)
  simpa [Array.toList_setIfInBounds,Nat.add_assoc] using e
inductive OE where
 | sl (v:Value) (sz n:Nat) (cs:List Value)
 | rd (v:Value) (sz n:Nat) (cs:List Value)
 | bx (b:Nat) (cs:List Value)
def OE.blk:OE->Option Nat
 | .sl v _ _ _=>sE v
 | .rd v _ n _=>if n=0 then none else sE v
 | .bx b _=>some b
def fre (S:List Nat) (B b:Nat):Prop:=B<=b\/b∈S
def OE.ok (S:List Nat) (B:Nat) (w:World):OE->Prop
 | .sl v sz n cs=>cs.length=n*sz/\((v=.slice none 0 0/\n=0) \/
   ∃g cap cur T,v=.slice (some ⟨g,0,none⟩) n cap/\fre S B g/\Row w g cur T/\n<=cap/\cap<=maxLen/\cap*sz<=cur.size/\cur.toList.take (n*sz)=cs)
 | .rd v sz n cs=>cs.length=n*sz/\∃a c,v=.slice a n c/\n<=c /\
   (n≠0->∃b off,a=some ⟨b,off,none⟩/\b<w.heap.size/\fre S B b/\∀j u,cs[j]? = some u->w.cell? ⟨b,off+j,none⟩=some u)
 | .bx b cs=>fre S B b/\∃T cur,w.heap[b]? = some (.cells cur T (0,0))/\cur.toList=cs
theorem OE.ok.lt {S:List Nat} {B:Nat} {w:World} {o:OE} (h:o.ok S B w) {k:Nat} (f:o.blk=some k):k<w.heap.size/\fre S B k:=by
 cases o with
 | sl v sz n cs=>
  rcases h.2 with⟨rfl,_⟩ | ⟨g,y,m,T,rfl,i,j,_⟩
  ·simp[OE.blk,Value.ownBlock]at f
  ·simp[OE.blk,Value.ownBlock]at f
   subst f
   exact⟨j.lt,i⟩
 | rd v sz n cs=>
  obtain⟨_,a,c,rfl,_,q⟩:=h
  simp only[OE.blk]at f
  split at f
  ·cases f
  ·rename_i t
   obtain⟨b,off,rfl,x,i,_⟩:=q t
   simp[Value.ownBlock]at f
   subst f
   exact⟨x,i⟩
 | bx b cs=>
  obtain⟨i,T,m,j,_⟩:=h
  simp[OE.blk]at f
  subst f
  exact⟨(Array.getElem?_eq_some_iff.1 j).1,i⟩
theorem OE.ok.fr {S R:List Nat} {B:Nat} {w w':World} {o:OE} (h:o.ok S B w) (t:Fr R w w') (z:∀k∈R,o.blk≠some k):o.ok S B w':=by
 cases o with
 | sl v sz n cs=>
  refine⟨h.1,?_⟩
  rcases h.2 with K | ⟨g,F,f,T,rfl,i,m,rest⟩
  ·exact .inl K
  ·exact .inr ⟨g,F,f,T,rfl,i,m.mv (t.block g m.lt (fun q=>z g q rfl)),rest⟩
 | rd v sz n cs=>
  obtain⟨M,a,c,rfl,hc,x⟩:=h
  refine⟨M,a,c,rfl,hc,fun y=>?_⟩
  obtain⟨b,off,rfl,G,A,N⟩:=x y
  refine⟨b,off,rfl,Nat.lt_of_lt_of_le G t.size,A,fun j u O=>?_⟩
  have I:=N j u O
  rw[t.cell (i7 I) (fun q=>z _ q (by simp[OE.blk,y,Value.ownBlock]))]
  exact I
 | bx b cs=>
  obtain⟨i,T,f,m,J⟩:=h
  refine⟨i,T,f,?_,J⟩
  rw[t.block b (Array.getElem?_eq_some_iff.1 m).1 (fun q=>z b q rfl)]
  exact m
def OE.dj (o p:OE):Prop:=∀k,o.blk=some k->p.blk≠some k
theorem OE.dj.symm {o p:OE} (h:o.dj p):p.dj o:=fun k f g=>h k g f
structure St (S:List Nat) (w0 w:World) (os:List OE):Prop where
 fr:Fr S w0 w
 ok:∀o∈os,o.ok S w0.heap.size w
 dj:os.Pairwise OE.dj
theorem St.start (w:World):St [] w w []:=⟨Fr.refl _ _,by simp,List.Pairwise.nil⟩
theorem St.step {S:List Nat} {w0 w w':World} {os:List OE} (h:St S w0 w os) (f:Fr [] w w'):St S w0 w' os:=
 ⟨h.fr.step f (by simp),fun o g=>(h.ok o g).fr f (by simp),h.dj⟩
theorem St.push {S:List Nat} {w0 w w':World} {os:List OE} (h:St S w0 w os) (g:Fr [] w w') {o:OE} (j:o.ok S w0.heap.size w') (m:∀k,o.blk=some k->w.heap.size<=k):St S w0 w' (o :: os):=by
 refine⟨h.fr.step g (by simp),?_,?_⟩
 ·intro p f
  rcases List.mem_cons.1 f with rfl | f
  ·exact j
  ·exact (h.ok p f).fr g (by simp)
 ·refine List.Pairwise.cons (fun p f k q i=>?_) h.dj
  have:=(h.ok p f).lt i
  have:=m k q
  omega
theorem St.set {S:List Nat} {w0 w w':World} {os:List OE} (h:St S w0 w os) {i:Nat} {o o':OE} (hi:os[i]? = some o) (R:Fr o.blk.toList w w') (ho:o'.ok S w0.heap.size w')
  (U:∀k,o'.blk=some k->o.blk=some k\/w.heap.size<=k):St S w0 w' (os.set i o'):=by
 have V:=List.mem_of_getElem? hi
 refine⟨h.fr.step R fun x f=>?_,?_,?_⟩
 ·cases B:o.blk with
  | none=>rw[B]at f; simp at f
  | some k=>
   rw[B]at f
   simp at f
   subst f
   exact ((h.ok o V).lt B).2
 ·intro p hp
  obtain⟨j,m⟩:=List.getElem?_of_mem hp
  rw[List.getElem?_set]at m
  split at m
  ·split at m
   ·simp at m; subst m; exact ho
   ·cases m
  ·rename_i X
   refine (h.ok p (List.mem_of_getElem? m)).fr R fun k g B=>?_
   have F:∀x y (f:x<os.length) (z:y<os.length),x<y->(os[x]).dj (os[y]):=List.pairwise_iff_getElem.1 h.dj
   obtain⟨G,t⟩:=List.getElem?_eq_some_iff.1 hi
   obtain⟨M,N⟩:=List.getElem?_eq_some_iff.1 m
   have O:o.blk=some k:=by
    cases hbk:o.blk with
    | none=>rw[hbk]at g; simp at g
    | some q=>rw[hbk]at g; simp at g; rw[g]
   rcases Nat.lt_or_gt_of_ne X with I | I
   ·have:=F i j G M I; rw[t,N]at this; exact this k O B
   ·have:=F j i M G I; rw[t,N]at this; exact this k B O
 ·rw[List.pairwise_iff_getElem]
  intro x y f z J
  have F:∀x y (f:x<os.length) (z:y<os.length),x<y->(os[x]).dj (os[y]):=List.pairwise_iff_getElem.1 h.dj
  obtain⟨G,t⟩:=List.getElem?_eq_some_iff.1 hi
  simp only[List.length_set]at f z
  rw[List.getElem_set,List.getElem_set]
  split
  ·split
   ·omega
   ·rename_i Y Z
    subst Y
    intro k g A
    rcases U k g with K | K
    ·have:=F i y f z J; rw[t]at this; exact this k K A
    ·have:=((h.ok _ (List.getElem_mem z)).lt A).1; omega
  ·split
   ·rename_i Y Z
    subst Z
    intro k g A
    rcases U k A with K | K
    ·have:=F x i f z J; rw[t]at this; exact this k g K
    ·have:=((h.ok _ (List.getElem_mem f)).lt g).1; omega
   ·exact F x y f z J
theorem St.sub {S:List Nat} {w0 w:World} {os os':List OE} (h:St S w0 w os) (f:os'.Sublist os):St S w0 w os':=
 ⟨h.fr,fun o g=>h.ok o (f.subset g),h.dj.sublist f⟩
abbrev own {τ:Type} (e:Enc τ) (v:Value) (l:List τ):OE:=.sl v e.sz l.length (e.fl l)
abbrev red {τ:Type} (e:Enc τ) (v:Value) (l:List τ):OE:=.rd v e.sz l.length (e.fl l)
theorem OE.ok.ro {S:List Nat} {B:Nat} {w:World} {τ:Type} {e:Enc τ} {v:Value} {l:List τ} (h:(own e v l).ok S B w):RO w e v l:=by
 rcases h.2 with⟨rfl,o⟩ | ⟨g,k,t,T,rfl,x,q,m,y,z,f⟩
 ·have:l=[]:=List.eq_nil_of_length_eq_zero o
  subst this
  exact RO.nil w e
 ·refine⟨_,k,rfl,m,fun _=>⟨g,0,rfl,fun j u i=>?_⟩⟩
  rw[<-f,List.getElem?_take]at i
  split at i
  ·rw[Nat.zero_add,q.cell j]
   simpa using i
  ·cases i
theorem OE.ok.rro {S:List Nat} {B:Nat} {w:World} {τ:Type} {e:Enc τ} {v:Value} {l:List τ} (h:(red e v l).ok S B w):RO w e v l:=by
 obtain⟨_,a,c,rfl,hc,f⟩:=h
 refine⟨a,c,rfl,hc,fun g=>?_⟩
 obtain⟨b,off,i,_,_,j⟩:=f (by simpa using g)
 exact⟨b,off,i,j⟩
theorem St.ro {S:List Nat} {w0 w:World} {os:List OE} (h:St S w0 w os) (i:Nat) {τ:Type} {e:Enc τ} {v:Value} {l:List τ} (hi:os[i]? = some (own e v l)):RO w e v l:=
 (h.ok _ (List.mem_of_getElem? hi)).ro
theorem St.rro {S:List Nat} {w0 w:World} {os:List OE} (h:St S w0 w os) (i:Nat) {τ:Type} {e:Enc τ} {v:Value} {l:List τ} (hi:os[i]? = some (red e v l)):RO w e v l:=
 (h.ok _ (List.mem_of_getElem? hi)).rro
end Go.Gk
end

section
namespace Go.Gk
open Go Go.RowKit
section
variable {P:Program} {n:Nat} {L:Env} {w:World} {Q:Exit->Act->World->Prop}
variable {d:Option Tmp} {ty:TypeId} {pos:String} {after:Array Edge}
theorem nU (l:List UInt8):(⟨⟨l⟩⟩:ByteArray).size=l.length:=rfl
def TI (P:Program) (E:TypeId) (z:Value) (sz bytes:Nat):Prop:=(P.info? E).map (fun i=>(i.zero,i.size,i.bytes))=some (some z,sz,bytes)
theorem TI.get {E:TypeId} {z:Value} {f bytes:Nat} (h:TI P E z f bytes):∃i,P.info? E=some i/\i.zero=some z/\i.size=f/\i.bytes=bytes:=by
 unfold TI at h
 cases hi:P.info? E with
 | none=>rw[hi]at h; cases h
 | some i=>
  rw[hi]at h
  simp only[Option.map_some,Option.some.injEq,Prod.mk.injEq]at h
  exact⟨i,rfl,h.1,h.2.1,h.2.2⟩
def OpX (P:Program) (n:Nat) (L:Env) (w:World) (o:Oper) (Φ:Value->World->Prop):Prop:=∃v w',OpV P n L w o v w'/\Φ v w'
theorem bC {ops:Array Oper} {rest:List Oper} {d:Nat} {f:Op} {Φ:Value->World->Prop}
  (g:OpX P n L w ⟨some d,f,ty,pos,after,none⟩ Φ) (i:Nat.blt d n=true)
  (h:∀v w',Φ v w'->wpR P n ops Q rest ((d,v) :: L) w'):wpR P n ops Q (⟨some d,f,ty,pos,after,none⟩ :: rest) L w:=by
 obtain⟨v,w',j,k⟩:=g
 exact ag j i (h v w' k)
theorem bg {ops:Array Oper} {rest:List Oper} {d:Nat} {f:Op} {α:Type} {V:α->Value} {R:α->World->Prop}
  (g:OpX P n L w ⟨some d,f,ty,pos,after,none⟩ fun v w'=>∃a,v=V a/\R a w') (i:Nat.blt d n=true)
  (h:∀a w',R a w'->wpR P n ops Q rest ((d,V a) :: L) w'):wpR P n ops Q (⟨some d,f,ty,pos,after,none⟩ :: rest) L w:=
 bC g i fun v w' ⟨a,e,j⟩=>by subst e; exact h a w' j
def OpY (P:Program) (n:Nat) (L:Env) (w:World) (o:Oper) (Φ:World->Prop):Prop:=∃w',OpS P n L w o w'/\Φ w'
theorem bo {ops:Array Oper} {rest:List Oper} {f:Op} {Φ:World->Prop}
  (g:OpY P n L w ⟨none,f,ty,pos,after,none⟩ Φ)
  (h:∀w',Φ w'->wpR P n ops Q rest L w'):wpR P n ops Q (⟨none,f,ty,pos,after,none⟩ :: rest) L w:=by
 obtain⟨w',i,j⟩:=g
 exact C0 i (h w' j)
theorem aC {x:Operand} {T E:TypeId} {τ:Type} {e:Enc τ} {v:Value} {l:List τ} (f:P.underlying T=some (.slice E)) (g:L.ev x=some v) (h:RO w e v l) :
  OpV P n L w ⟨d,.call ⟨.builtin .len,#[x],#[T]⟩,ty,pos,after,none⟩ (vI l.length) w:=fun a i=>by
 obtain⟨b,c,rfl,_⟩:=h
 simp[execOp,resolve,invoke,builtin,Builtin.len_,i.ev g,run_underlying f,goInt]
theorem kf {x:Operand} {T:TypeId} {l:List UInt8} (f:P.underlying T=some .string) (g:L.ev x=some (vS l)) :
  OpV P n L w ⟨d,.call ⟨.builtin .len,#[x],#[T]⟩,ty,pos,after,none⟩ (vI l.length) w:=fun a h=>by
 simp[execOp,resolve,invoke,builtin,Builtin.len_,h.ev g,run_underlying f,goInt,nU]
theorem uw {T E:TypeId} {k:IntKind} {i:Int} {τ:Type} {e:Enc τ} {v:Value} {l:List τ} {z:Value} {bytes:Nat} (f:P.underlying T=some (.slice E)) (g:TI P E z e.sz bytes)
  (h:RO w e v l) (j:0<=i) (m:i.toNat<l.length):(Instr.indexAt T v (.int k i)).run P w=.ok (pP (ixA v e.sz i.toNat)) w:=by
 obtain⟨a,c,rfl,hc,o⟩:=h
 obtain⟨b,off,rfl,_⟩:=o (by rintro rfl; simp at m)
 obtain⟨x,hi,_,q,_⟩:=g.get
 have t:i<l.length:=by omega
 simp[Instr.indexAt,asIntOf,run_underlying f,j,t,sizeOf,typeInfo,hi,q,ixA]
theorem Ch {x y:Operand} {T E:TypeId} {k:IntKind} {i:Int} {τ:Type} {e:Enc τ} {v:Value} {l:List τ} {z:Value} {bytes:Nat} (g:P.underlying T=some (.slice E)) (j:TI P E z e.sz bytes)
  (m:L.ev x=some v) (o:L.ev y=some (.int k i)) (h:RO w e v l) (q:0<=i) (t:i.toNat<l.length) :
  OpV P n L w ⟨d,.indexAddr T x y,ty,pos,after,none⟩ (pP (ixA v e.sz i.toNat)) w:=fun a f=>by
 simp[execOp,f.ev m,f.ev o,uw (k:=k) g j h q t]
theorem zE {x:Operand} {T:TypeId} {D:TypeDesc} {p:Addr} {u:Value} (f:P.underlying T=some D) (j:(match D with | .struct _ | .array _ _=>true | _=>false)=false)
  (g:L.ev x=some (pP p)) (h:w.cell? p=some u) :
  OpV P n L w ⟨d,.load T x,ty,pos,after,none⟩ u w:=fun a i=>by
 have:(isAgg T).run P w=.ok false w:=by
  simp only[isAgg,Sem.run_bind,run_underlying f,Result.andThen_ok]
  cases D <;> simp_all
 simp[execOp,i.ev g,Instr.loadAt,Instr.sureAddr,loadVar,this,load,Sem.run,h]
theorem xy {x:Operand} {T:TypeId} {D:TypeDesc} {τ:Type} {e:Enc τ} {v:Value} {l:List τ} {i:Nat} {t:τ} {u:Value} (f:P.underlying T=some D) (g:(match D with | .struct _ | .array _ _=>true | _=>false)=false)
  (j:L.ev x=some (pP (ixA v e.sz i))) (h:RO w e v l) (hi:l[i]? = some t) (k:e.cells t=[u]) :
  OpV P n L w ⟨d,.load T x,ty,pos,after,none⟩ u w:=zE f g j (h.cellAt0 hi k)
theorem A2 {x y:Operand} {T:TypeId} {k:IntKind} {i:Int} {l:List UInt8} {t:UInt8} (g:P.underlying T=some .string)
  (h:L.ev x=some (vS l)) (j:L.ev y=some (.int k i)) (m:0<=i) (o:l[i.toNat]? = some t) :
  OpV P n L w ⟨d,.index T x y,ty,pos,after,none⟩ (v8 t) w:=fun a f=>by
 have q:(⟨⟨l⟩⟩:ByteArray)[i.toNat]? = some t:=by
  obtain⟨z,A⟩:=List.getElem?_eq_some_iff.1 o
  rw[ByteArray.getElem?_lt' _ _ (by simpa [nU] using z)]
  rw[<-A]; rfl
 simp[execOp,f.ev h,f.ev j,Instr.index,asIntOf,run_underlying g,m,q]
def g8 (l:List UInt8) (lo hi:Nat):List UInt8:=(l.drop lo).take (hi - lo)
theorem sj (l:List UInt8) (lo hi:Nat):(⟨⟨l⟩⟩:ByteArray).extract lo hi=⟨⟨g8 l lo hi⟩⟩:=by
 rw[ByteArray.extract_mk]; simp[g8]
theorem zV {x y:Operand} {T:TypeId} {k:IntKind} {lo:Int} {l:List UInt8} (g:P.underlying T=some .string)
  (h:L.ev x=some (vS l)) (i:L.ev y=some (.int k lo)) (j:0<=lo) (q:lo.toNat<=l.length) :
  OpV P n L w ⟨d,.slice T x (some y) none none,ty,pos,after,none⟩ (vS (l.drop lo.toNat)) w:=fun a f=>by
 have m:lo<=((⟨⟨l⟩⟩:ByteArray).size:Int):=by rw[nU]; omega
 have o:g8 l lo.toNat (⟨⟨l⟩⟩:ByteArray).size=l.drop lo.toNat:=by
  unfold g8; rw[List.take_of_length_le]; simp[nU]
 simp[execOp,f.ev h,f.ev i,Instr.sliceAt,Instr.slice,run_underlying g,Instr.sliceBounds,run_sliceBound,j,m,sj,o]
section
variable {T E:TypeId} {τ:Type} {e:Enc τ} {v:Value} {l:List τ} {z0:Value} {bytes:Nat}
theorem B3 {x y z:Operand} {k i:IntKind} {lo hi:Int} (j:P.underlying T=some (.slice E)) (m:TI P E z0 e.sz bytes)
  (o:L.ev x=some v) (q:L.ev y=some (.int k lo)) (t:L.ev z=some (.int i hi)) (h:RO w e v l) (A:0<=lo) (B:lo<=hi) (K:hi.toNat<=l.length) :
  OpV P n L w ⟨d,.slice T x (some y) (some z) none,ty,pos,after,none⟩ (slV v e.sz lo.toNat hi.toNat) w:=fun a f=>by
 obtain⟨b,c,rfl,hc,_⟩:=h
 obtain⟨J,g,_,F,_⟩:=m.get
 have G:hi<=(c:Int):=by omega
 have I:(hi.toNat:Int)=hi:=Int.toNat_of_nonneg (by omega)
 simp[execOp,f.ev o,f.ev q,f.ev t,Instr.sliceAt,Instr.slice,run_underlying j,Instr.sliceBounds,run_sliceBound,A,G,I,B,(by omega:0<=hi),sizeOf,typeInfo,g,F,slV]
theorem BA {x y:Operand} {k:IntKind} {lo:Int} (i:P.underlying T=some (.slice E)) (j:TI P E z0 e.sz bytes)
  (m:L.ev x=some v) (o:L.ev y=some (.int k lo)) (h:RO w e v l) (q:0<=lo) (B:lo.toNat<=l.length) :
  OpV P n L w ⟨d,.slice T x (some y) none none,ty,pos,after,none⟩ (slV v e.sz lo.toNat l.length) w:=fun a f=>by
 obtain⟨b,c,rfl,hc,_⟩:=h
 obtain⟨A,g,_,t,_⟩:=j.get
 have z:lo<=(l.length:Int):=by omega
 simp[execOp,f.ev m,f.ev o,Instr.sliceAt,Instr.slice,run_underlying i,Instr.sliceBounds,run_sliceBound,q,z,sizeOf,typeInfo,g,t,slV]
theorem AQ {x z:Operand} {i:IntKind} {hi:Int} (j:P.underlying T=some (.slice E)) (k:TI P E z0 e.sz bytes)
  (m:L.ev x=some v) (o:L.ev z=some (.int i hi)) (h:RO w e v l) (q:0<=hi) (B:hi.toNat<=l.length) :
  OpV P n L w ⟨d,.slice T x none (some z) none,ty,pos,after,none⟩ (slV v e.sz 0 hi.toNat) w:=fun a f=>by
 obtain⟨b,c,rfl,hc,_⟩:=h
 obtain⟨A,g,_,t,_⟩:=k.get
 have y:hi<=(c:Int):=by omega
 simp[execOp,f.ev m,f.ev o,Instr.sliceAt,Instr.slice,run_underlying j,Instr.sliceBounds,run_sliceBound,q,y,sizeOf,typeInfo,g,t,slV]
theorem RO.subl (h:RO w e v l) {lo:Nat} (f:lo<=l.length):RO w e (slV v e.sz lo l.length) (l.drop lo):=by
 have:=h.sub (lo:=lo) (hi:=l.length) f (Nat.le_refl _)
 rwa [List.take_of_length_le (by simp)]at this
theorem RO.subh (h:RO w e v l) {hi:Nat} (f:hi<=l.length):RO w e (slV v e.sz 0 hi) (l.take hi):=by
 have:=h.sub (lo:=0) (hi:=hi) (Nat.zero_le _) f
 simpa using this
theorem RP.sub {S:List Nat} (h:RP S w e v l) {lo hi:Nat} (i:lo<=hi) (j:hi<=l.length):RP S w e (slV v e.sz lo hi) ((l.drop lo).take (hi - lo)):=by
 refine⟨h.1.sub i j,fun g k m f=>h.2 (fun e=>g (by rw[e]; simp)) k m ?_⟩
 obtain⟨a,c,rfl,_⟩:=h.1
 cases a with
 | none=>simp[slV,Value.ownBlock]at f
 | some x=>
  by_cases hc:c=lo
  ·simpa [slV,hc,Value.ownBlock] using f
  ·simp[slV,hc,Value.ownBlock]at f ⊢
   rw[<-f]; unfold Addr.add; split <;> rfl
theorem RP.subl {S:List Nat} (h:RP S w e v l) {lo:Nat} (f:lo<=l.length):RP S w e (slV v e.sz lo l.length) (l.drop lo):=by
 have:=h.sub (lo:=lo) (hi:=l.length) f (Nat.le_refl _)
 rwa [List.take_of_length_le (by simp)]at this
theorem RP.subh {S:List Nat} (h:RP S w e v l) {hi:Nat} (f:hi<=l.length):RP S w e (slV v e.sz 0 hi) (l.take hi):=by
 have:=h.sub (lo:=0) (hi:=hi) (Nat.zero_le _) f
 simpa using this
end
end
end Go.Gk
end

section
namespace Go.Gk
open Go Go.RowKit
section
variable {P:Program} {ops:Array Oper} {C D:World->Prop} {Q:Exit->Act->World->Prop} {fl:Nat->Bool}
def Ins (P:Program) (ops:Array Oper) (C:World->Prop) (o:Oper) (v:Value) (a:Act):Prop:=
 (Region.wanted o (yielded ops a.tmps)=true/\∀w,C w->(execOp a.eval o).run P w=.ok (.value v) w) \/
 (Region.wanted o (yielded ops a.tmps)=false/\v=undef)
theorem Ins.of_same {o:Oper} {v:Value} {a f:Act} (g:Ins P ops C o v a) (h:execOp f.eval o=execOp a.eval o)
  (i:Region.wanted o (yielded ops f.tmps)=Region.wanted o (yielded ops a.tmps)):Ins P ops C o v f:=by
 unfold Ins at *
 rw[h,i]
 exact g
theorem Ins.unique {o:Oper} {u v:Value} {a:Act} {w:World} (i:C w) (h:Ins P ops C o u a) (j:Ins P ops C o v a):u=v:=by
 rcases h with⟨f,g⟩ | ⟨f,g⟩ <;> rcases j with⟨h3,h4⟩ | ⟨h3,h4⟩
 ·have e:=(g w i).symm.trans (h4 w i)
  simpa using e
 ·rw[f]at h3; cases h3
 ·rw[f]at h3; cases h3
 ·rw[g,h4]
def tD (P:Program) (ops:Array Oper) (o:Oper) (v:Value) (a:Act) (w:World):Prop:=Region.wanted o (yielded ops a.tmps)=true/\(execOp a.eval o).run P w=.ok (.value v) w
theorem tD.of_same {o:Oper} {v:Value} {a f:Act} {w:World} (g:tD P ops o v a w) (h:execOp f.eval o=execOp a.eval o)
  (i:Region.wanted o (yielded ops f.tmps)=Region.wanted o (yielded ops a.tmps)):tD P ops o v f w:=by
 unfold tD at *
 rw[h,i]
 exact g
def InR (P:Program) (ops:Array Oper) (C:World->Prop) (fl:Nat->Bool) (i:Nat) (o:Oper) (v:Value) (a:Act) (w:World):Prop:=Ins P ops C o v a\/(fl (i+1000)=false/\tD P ops o v a w)
theorem InR.of_same {i:Nat} {o:Oper} {v:Value} {a f:Act} {w:World} (k:InR P ops C fl i o v a w) (g:execOp f.eval o=execOp a.eval o)
  (j:Region.wanted o (yielded ops f.tmps)=Region.wanted o (yielded ops a.tmps)):InR P ops C fl i o v f w:=k.imp (fun h=>h.of_same g j) fun h=>⟨h.1,h.2.of_same g j⟩
theorem InR.ins {i:Nat} {o:Oper} {v:Value} {a:Act} {w:World} (f:InR P ops C fl i o v a w) (h:fl (i+1000)=true):Ins P ops C o v a:=by
 rcases f with f | ⟨f,_⟩
 ·exact f
 ·rw[h]at f; cases f
def ma (fl:Nat->Bool) (i j:Nat):Bool:=(fl i&&fl j) || (fl i&&fl (i+1000)) || (fl j&&fl (j+1000))
def lx (P:Program) (ops:Array Oper) (C D:World->Prop) (Q:Exit->Act->World->Prop) (fl:Nat->Bool):List Nat->Act->World->Prop
 | [],a,w=>D w/\Q .normal a w
 | i :: r,a,w=>C w/\match ops[i]? with
  | none=>lx P ops C D Q fl r a w
  | some o=>if fl i then ∃v,InR P ops C fl i o v a w/\lx P ops C D Q fl r (a.put o.dst v) w else wpOp P ops Q i (lx P ops C D Q fl r) a w
theorem BU {l:List Nat} {a:Act} {w:World} (h:lx P ops C D Q fl l a w) (f:l=[]->∀w,D w->C w):C w:=by
 cases l
 ·exact f rfl _ h.1
 ·exact h.1
def mi (ops:Array Oper):Prop:=∀(j:Nat) (o:Oper) cs b,ops[j]? = some o->o.op≠.select cs b
theorem yV (t:∀c a w,¬Q (.panic c) a w) {j:Nat} {i k:Oper} {v:Value} (M:ops[j]? = some k) (y:i.apart ops k=true)
  (z:∀cs b,i.op≠.select cs b) (A:∀cs b,k.op≠.select cs b) {K:Act->World->Prop} {a:Act} {w:World}
  (N:Ins P ops C i v a) (h:wpOp P ops Q j K (a.put i.dst v) w) :
  wpOp P ops Q j (fun B w'=>Ins P ops C i v B/\K (B.put i.dst v) w') a w:=by
 obtain⟨F,m,G⟩:=Oper.apart_spec y
 have g:∀u,Ins P ops C i v (a.put k.dst u):=fun u=>
  N.of_same (execOp_put i z a k.dst u G) (wanted_put i a k.dst u G)
 unfold wpOp at *
 simp only[M]at *
 rw[wanted_put k a i.dst v F]at h
 have I:=execOp_put k A a i.dst v F
 split
 ·rename_i q
  simp only[q,if_true]at h
  rcases h with h | h
  ·left
   unfold Oper.wp at *
   rw[I]at h
   generalize (execOp a.eval k).run P w=r at *
   cases r with
   | ok nx w'=>
    cases nx <;> simp only[Oper.upon]at h ⊢
    case value u=>exact⟨g u,by rw[<-Act.put_comm a v u m]; exact h⟩
    case skip=>exact⟨g undef,by rw[<-Act.put_comm a v undef m]; exact h⟩
    case defer dd=>
     refine⟨?_,?_⟩
     ·have:=g undef
      refine this.of_same ?_ ?_
      ·cases k.dst <;> rfl
      ·cases k.dst <;> rfl
     ·rw[Act.put_defers]at h
      rw[<-Act.put_comm _ v undef m]
      exact h
    case enter f args=>
     refine Calls.mono h fun e J o=>?_
     cases e with
     | returned u=>exact⟨g u,by rw[<-Act.put_comm a v u m]; exact o⟩
     | panicked c=>exact absurd o (t _ _ _)
     | outgrown=>exact o
    case row rw_ args=>
     exact Rows.mono h fun u J o=>⟨g u,by rw[<-Act.put_comm a v u m]; exact o⟩
   | halt x w'=>
    cases x <;> simp only[Oper.upon]at h ⊢
    exact absurd h (t _ _ _)
  ·right
   refine⟨?_,h.2⟩
   have:=h.1
   unfold Oper.asks at *
   rw[I]at this
   exact this
 ·rename_i q
  simp only[q]at h
  exact⟨g _,by rw[<-Act.put_comm a v undef m]; exact h⟩
theorem xk (k:∀c a w,¬Q (.panic c) a w) (m:∀a w,¬Q .outgrown a w) {i:Nat} {j:Oper} (hi:ops[i]? = some j) {K:Act->World->Prop} {a:Act} {w:World}
  (h:wpOp P ops Q i K a w):∃o w' u t,K o w'/\o=({ a with defers:=t }:Act).put j.dst u:=by
 unfold wpOp at h
 simp only[hi]at h
 split at h
 ·rcases h with h | ⟨_,y,z,h⟩
  ·unfold Oper.wp at h
   generalize (execOp a.eval j).run P w=r at *
   cases r with
   | ok nx w'=>
    cases nx <;> simp only[Oper.upon]at h
    case value u=>exact⟨_,_,u,a.defers,h,rfl⟩
    case skip=>exact⟨_,_,undef,a.defers,h,rfl⟩
    case defer dd=>exact⟨_,_,undef,dd :: a.defers,h,rfl⟩
    case enter f args=>
     obtain⟨e,q,fr,g,_⟩:=h []
     cases e with
     | returned u=>exact⟨_,_,u,a.defers,g,rfl⟩
     | panicked c=>exact absurd g (k _ _ _)
     | outgrown=>obtain⟨y,z,A⟩:=g; exact absurd A (m _ _)
    case row rw_ args=>
     obtain⟨u,q,g,_⟩:=h default []
     exact⟨_,_,u,a.defers,g,rfl⟩
   | halt x w'=>
    cases x <;> simp only[Oper.upon]at h
    exact absurd h (k _ _ _)
  ·exact absurd h (m _ _)
 ·exact⟨_,_,undef,a.defers,h,rfl⟩
theorem AL (X:∀c a w,¬Q (.panic c) a w) (ho:∀a w,¬Q .outgrown a w) (hs:mi ops) {i j:Nat} {r:List Nat} {a:Act} {w:World}
  (a6:∀k g,ops[i]? = some k->ops[j]? = some g->k.apart ops g=true/\ma fl i j=true) (_hne:i≠j) (hE:r=[]->∀w,D w->C w)
  (h:lx P ops C D Q fl (i :: j :: r) a w):lx P ops C D Q fl (j :: i :: r) a w:=by
 obtain⟨J,h⟩:=h
 refine⟨J,?_⟩
 cases hi:ops[i]? with
 | none=>
  simp only[hi]at h
  obtain⟨_,h⟩:=h
  cases hj:ops[j]? with
  | none=>simp only[hj]at h; exact⟨J,by simp only[hi]; exact h⟩
  | some g=>
   simp only[hj]at h ⊢
   split
   ·rename_i B
    simp only[B,if_true]at h
    obtain⟨v,K,o⟩:=h
    exact⟨v,K,J,by simp only[hi]; exact o⟩
   ·rename_i B
    rw[if_neg B]at h
    exact wpOp_mono (fun t w' m=>⟨BU m hE,by simp only[hi]; exact m⟩) h
 | some k=>
  simp only[hi]at h
  cases hj:ops[j]? with
  | none=>
   simp only[]
   refine⟨J,?_⟩
   simp only[hi]
   split
   ·rename_i B
    simp only[B,if_true]at h
    obtain⟨v,K,_,o⟩:=h
    simp only[hj]at o
    exact⟨v,K,o⟩
   ·rename_i B
    simp only[B]at h
    exact wpOp_mono (fun t w' m=>by have:=m.2; simp only[hj]at this; exact this) h
  | some g=>
   obtain⟨ac,I⟩:=a6 k g hi hj
   obtain⟨z,p2,Y⟩:=Oper.apart_spec ac
   have M:=fun cs b=>hs i k cs b hi
   have A:=fun cs b=>hs j g cs b hj
   simp only[]
   by_cases hfi:fl i=true
   ·simp only[hfi,if_true]at h
    obtain⟨v,Z,_,o⟩:=h
    simp only[hj]at o
    by_cases q:fl j=true
    ·simp only[q,if_true]at o ⊢
     obtain⟨u,N,F⟩:=o
     refine⟨u,N.of_same (execOp_put g A a k.dst v z).symm (wanted_put g a k.dst v z).symm,J,?_⟩
     simp only[hi,hfi,if_true]
     refine⟨v,Z.of_same (execOp_put k M a g.dst u Y) (wanted_put k a g.dst u Y),?_⟩
     rw[<-Act.put_comm a v u p2]; exact F
    ·simp only[q]at o ⊢
     have Z:=Z.ins (by unfold ma at I; simpa [hfi,q] using I)
     refine wpOp_mono (fun t w' m=>?_) (yV X hj ac M A Z o)
     refine⟨BU m.2 hE,?_⟩
     simp only[hi,hfi,if_true]
     exact⟨v,.inl m.1,m.2⟩
   ·simp only[hfi]at h
    have a0:fl i=false:=by simpa using hfi
    have a1:fl j=true/\fl (j+1000)=true:=by unfold ma at I; simpa [a0] using I
    obtain⟨q,a2⟩:=a1
    simp only[q,if_true]
    have hK:∀t w',lx P ops C D Q fl (j :: r) t w'->C w'/\∃u,Ins P ops C g u t/\lx P ops C D Q fl r (t.put g.dst u) w':=fun t w' m=>by
     obtain⟨c,ad⟩:=m
     simp only[hj,q,if_true]at ad
     obtain⟨u,N,F⟩:=ad
     exact⟨c,u,N.ins a2,F⟩
    obtain⟨t,w',x,df,K,rfl⟩:=xk X ho hi h
    obtain⟨c',u,N,o⟩:=hK _ _ K
    have O:Ins P ops C g u a:=by
     refine N.of_same ?_ ?_
     ·have:=execOp_put g A ({ a with defers:=df }:Act) k.dst x z
      rw[this]; rfl
     ·have:=wanted_put (ops:=ops) g ({ a with defers:=df }:Act) k.dst x z
      rw[this]
    refine⟨u,.inl O,J,?_⟩
    simp only[hi,hfi]
    -- the operation,done with the other one's value in its place
    show wpOp P ops Q i (lx P ops C D Q fl r) (a.put g.dst u) w
    have he:=execOp_put k M a g.dst u Y
    have b4:=wanted_put (ops:=ops) k a g.dst u Y
    have next:∀(y:Value) w',lx P ops C D Q fl (j :: r) (a.put k.dst y) w'->lx P ops C D Q fl r ((a.put g.dst u).put k.dst y) w':=fun y w' m=>by
     obtain⟨c,G,R,F⟩:=hK _ _ m
     have:G=u:=by
      refine Ins.unique c (R.of_same ?_ ?_:Ins P ops C g G a) O
      ·rw[execOp_put g A a k.dst y z]
      ·rw[wanted_put g a k.dst y z]
     subst this
     rw[<-Act.put_comm a y G p2]; exact F
    have ab:∀(y:Value) (U:Deferred) w',lx P ops C D Q fl (j :: r) (({ a with defers:=U :: a.defers }:Act).put k.dst y) w' ->
      lx P ops C D Q fl r (({ (a.put g.dst u) with defers:=U :: (a.put g.dst u).defers }:Act).put k.dst y) w':=fun y U w' m=>by
     obtain⟨c,G,R,F⟩:=hK _ _ m
     have:G=u:=by
      refine Ins.unique c (R.of_same ?_ ?_:Ins P ops C g G a) O
      ·rw[execOp_put g A _ k.dst y z]; rfl
      ·rw[wanted_put g _ k.dst y z]
     subst this
     rw[Act.put_defers,<-Act.put_comm _ y G p2]; exact F
    unfold wpOp at h ⊢
    simp only[hi]at h ⊢
    rw[b4]
    split
    ·rename_i hw
     simp only[hw,if_true]at h
     rcases h with h | h
     ·left
      unfold Oper.wp at *
      rw[he]
      generalize (execOp a.eval k).run P w=rr at *
      cases rr with
      | ok nx w'=>
       cases nx <;> simp only[Oper.upon]at h ⊢
       case value y=>exact next y _ h
       case skip=>exact next undef _ h
       case defer U=>exact ab undef U _ h
       case enter f args=>
        refine Calls.mono h fun e b5 V=>?_
        cases e with
        | returned y=>exact next y _ V
        | panicked c=>exact absurd V (X _ _ _)
        | outgrown=>exact V
       case row rw_ args=>exact Rows.mono h fun y b5 V=>next y _ V
      | halt x w'=>
       cases x <;> simp only[Oper.upon]at h ⊢
       exact absurd h (X _ _ _)
     ·right
      refine⟨?_,h.2⟩
      have:=h.1
      unfold Oper.asks at *
      rw[he]
      exact this
    ·rename_i hw
     simp only[hw]at h
     exact next undef _ h
def dA (ops:Array Oper):Nat->Nat->Nat->Bool
 | 0,_,_=>false
 | f+1,j,i=>match ops[j]? with
  | none=>false
  | some o=>o.after.toList.any fun e=>Region.binds .any e&&(Nat.beq e.on i || dA ops f e.on i)
def uh (ops:Array Oper):Bool:=
 (List.range ops.size).all fun j=>match ops[j]? with
  | some o=>o.after.toList.all fun e=>!Region.binds .any e || Nat.blt e.on j
  | none=>true
def tj (ops:Array Oper) (fl:Nat->Bool):Bool:=
 (List.range ops.size).all fun j=>(List.range j).all fun i=>dA ops ops.size j i || (match ops[i]?,ops[j]? with
  | some oi,some oj=>oi.apart ops oj&&ma fl i j
  | _,_=>true)
def mT (ops:Array Oper):Bool:=ops.toList.all fun o=>match o.op with | .select ..=>false | _=>true
theorem oI (h:mT ops=true):mi ops:=by
 intro j o cs b f g
 have:=List.all_eq_true.1 h o (Array.mem_toList_iff.2 (Array.mem_of_getElem? f))
 rw[g]at this
 cases this
def closed (ops:Array Oper) (listed:Array Bool):Prop:=
 ∀j oj,ops[j]? = some oj->listed.getD j false=true->∀e∈oj.after,Region.binds .any e=true->listed.getD e.on false=true
theorem eo {listed:Array Bool} (hc:closed ops listed):∀(f j i:Nat) (g:Oper),ops[j]? = some g->(∀e∈g.after,Region.binds .any e=true->listed.getD e.on false=true) ->
  dA ops f j i=true->listed.getD i false=true
 | 0,_,_,_,_,_,h=>by simp[dA]at h
 | f+1,j,i,g,hj,hall,h=>by
  simp only[dA,hj,List.any_eq_true,Bool.and_eq_true,Bool.or_eq_true]at h
  obtain⟨e,k,m,h | h⟩:=h
  ·rw[<-Nat.eq_of_beq_eq_true h]; exact hall e (by simpa using k) m
  ·have t:=hall e (by simpa using k) m
   cases ho:ops[e.on]? with
   | none=>cases f <;> simp[dA,ho]at h
   | some oe=>exact eo hc f e.on i oe ho (fun x o q=>hc e.on oe ho t x o q) h
theorem sS (t:∀c a w,¬Q (.panic c) a w) (x:∀a w,¬Q .outgrown a w) (y:mi ops) {j:Nat} :
  ∀(f g:List Nat) (a:Act) (w:World),(∀i∈f,i≠j/\∀m z,ops[i]? = some m->ops[j]? = some z->m.apart ops z=true/\ma fl i j=true)->(f≠[]->g=[]->∀w,D w->C w) ->
   lx P ops C D Q fl (f++j :: g) a w->lx P ops C D Q fl (j :: (f++g)) a w
 | [],_,_,_,_,_,h=>h
 | i :: f,g,a,w,hall,hE,h=>by
  have o:∀a w,lx P ops C D Q fl (f++j :: g) a w->lx P ops C D Q fl (j :: (f++g)) a w:=fun a w h=>
   sS t x y f g a w (fun k A=>hall k (by simp[A])) (fun _ B=>hE (by simp) B) h
  have F:lx P ops C D Q fl (i :: j :: (f++g)) a w:=by
   obtain⟨G,h⟩:=h
   refine⟨G,?_⟩
   cases hi:ops[i]? with
   | none=>simp only[hi]at h ⊢; exact o _ _ h
   | some m=>
    simp only[hi]at h ⊢
    split
    ·rename_i q
     simp only[q,if_true]at h
     obtain⟨v,I,h⟩:=h
     exact⟨v,I,o _ _ h⟩
    ·rename_i q
     simp only[q]at h
     exact wpOp_mono (fun M w' J=>o _ _ J) h
  have hi:=hall i (by simp)
  exact AL t x y hi.2 hi.1 (fun K=>hE (by simp) (List.append_eq_nil_iff.1 K).2) F
theorem jz {listed:Array Bool} {i:Nat} (h:i<listed.size) (d:Bool):(listed.setIfInBounds i true).getD i d=true:=by
 simp[h]
theorem tw (hp:∀c a w,¬Q (.panic c) a w) (ho:∀a w,¬Q .outgrown a w) (hs:mi ops)
  (R:∀j I,ops[j]? = some I->∀e∈I.after,Region.binds .any e=true->e.on<j)
  (U:∀i j,i<j->j<ops.size->dA ops ops.size j i=false->∀Z I,ops[i]? = some Z->ops[j]? = some I->Z.apart ops I=true/\ma fl i j=true)
  :
  ∀(m:Nat) (l:List Nat) (listed:Array Bool) (a:Act) (w:World),l.length=m->l.Pairwise (·<·)->listed.size=ops.size->closed ops listed ->
   (∀i,i∈l↔i<ops.size/\listed.getD i true=false)->((∀w,D w->C w)\/((∀i,i<ops.size - 1->dA ops ops.size (ops.size - 1) i=true)/\(l≠[]->ops.size - 1∈l)))->lx P ops C D Q fl l a w->wpAny P .any ops Q m listed a w
 | 0,l,listed,a,w,hm,_,_,_,hmem,_,h=>by
  have J:l=[]:=List.eq_nil_of_length_eq_zero hm
  subst J
  refine⟨?_,h.2⟩
  refine List.eq_nil_iff_forall_not_mem.2 fun i hi=>?_
  obtain⟨z,o,b7,_⟩:=mem_ready.1 hi
  have:=(hmem i).2 ⟨(Array.getElem?_eq_some_iff.1 b7).1,z⟩
  cases this
 | m+1,l,listed,a,w,hm,hsort,hsz,hcl,hmem,F,h=>by
  refine⟨fun a2=>?_,fun j hj=>?_⟩
  ·-- the least one that is not listed is ready,or nothing can be
   exfalso
   cases l with
   | nil=>simp at hm
   | cons i r=>
    obtain⟨a0,z⟩:=(hmem i).1 (by simp)
    have hi:i∈Region.ready .any ops listed:=by
     refine mem_ready.2 ⟨z,ops[i],by simp[a0],fun e he hb=>?_⟩
     have A:=R i ops[i] (by simp[a0]) e he hb
     cases J:listed.getD e.on false with
     | true=>rfl
     | false=>
      have b8:e.on<listed.size:=by rw[hsz]; omega
      have b9:listed.getD e.on true=false:=by simp[b8]at J ⊢; exact J
      have cm:=(hmem e.on).2 ⟨by omega,b9⟩
      rcases List.mem_cons.1 cm with B | B
      ·omega
      ·have:=(List.pairwise_cons.1 hsort).1 e.on B
       omega
    rw[a2]at hi
    cases hi
  ·obtain⟨z,I,G,K⟩:=mem_ready.1 hj
   have M:j<ops.size:=(Array.getElem?_eq_some_iff.1 G).1
   have co:j∈l:=(hmem j).2 ⟨M,z⟩
   obtain⟨t,x,rfl⟩:=List.append_of_mem co
   have A:∀i∈t,i<j:=fun i hi=>(List.pairwise_append.1 hsort).2.2 i hi j (by simp)
   have z:∀i∈t++x,dA ops ops.size j i=false:=fun i hi=>by
    cases hr:dA ops ops.size j i with
    | false=>rfl
    | true=>
     have y:=eo hcl ops.size j i I G K hr
     have g:=(hmem i).1 (by rcases List.mem_append.1 hi with h | h <;> simp[h])
     rw[Array.getD_eq_getD_getElem?]at y
     have q:=g.2
     rw[Array.getD_eq_getD_getElem?]at q
     have:i<listed.size:=by rw[hsz]; exact g.1
     simp[this]at y q
     rw[y]at q; cases q
   have N:(∀i,i<ops.size - 1->dA ops ops.size (ops.size - 1) i=true)->ops.size - 1=j->t=[]:=fun g a1=>by
    cases J:t with
    | nil=>rfl
    | cons i r=>
     exfalso
     have hi:i∈t:=by rw[J]; simp
     have:=g i (by have:=A i hi; omega)
     rw[a1,z i (by simp[hi])]at this
     cases this
   have ct:ops.size - 1=j->x=[]:=fun a1=>by
    cases x with
    | nil=>rfl
    | cons k r=>
     have hk:=((hmem k).1 (by simp)).1
     have h5:=(List.pairwise_append.1 hsort).2.1
     have:=(List.pairwise_cons.1 h5).1 k (by simp)
     omega
   have cx:t≠[]->x=[]->∀w,D w->C w:=fun B y=>by
    rcases F with g | ⟨g,F⟩
    ·exact g
    ·exfalso
     subst y
     have hn:=F (by simp)
     refine B (N g ?_)
     rcases List.mem_append.1 hn with q | q
     ·have:=A _ q; omega
     ·simpa using q
   have a5:(∀w,D w->C w)\/((∀i,i<ops.size - 1->dA ops ops.size (ops.size - 1) i=true)/\(t++x≠[]->ops.size - 1∈t++x)):=by
    rcases F with g | ⟨g,F⟩
    ·exact .inl g
    ·refine .inr ⟨g,fun cy=>?_⟩
     have hn:=F (by simp)
     rcases List.mem_append.1 hn with q | q
     ·exact List.mem_append_left _ q
     ·rcases List.mem_cons.1 q with q | q
      ·exfalso
       exact cy (by rw[N g q,ct q]; rfl)
      ·exact List.mem_append_right _ q
   have B:=sS hp ho hs t x a w (fun i hi=>⟨Nat.ne_of_lt (A i hi),fun Z c0 c1 a6=>by
    refine U i j (A i hi) M ?_ Z c0 c1 a6
    cases hr:dA ops ops.size j i with
    | false=>rfl
    | true=>
     have y:=eo hcl ops.size j i I G K hr
     have g:=((hmem i).1 (by simp[hi])).2
     rw[Array.getD_eq_getD_getElem?]at y g
     have:i<listed.size:=by rw[hsz]; exact Nat.lt_trans (A i hi) M
     simp[this]at y g
     rw[y]at g; cases g⟩) cx h
   have V:(t++x).Pairwise (·<·):=by
    refine hsort.sublist ?_
    exact List.Sublist.append_left (List.sublist_cons_self j x) t
   have bx:(t++x).length=m:=by simp at hm ⊢; omega
   have b2:closed ops (listed.setIfInBounds j true):=by
    intro k ok hk J e he hb
    by_cases hkj:j=k
    ·subst hkj
     have:ok=I:=Option.some.inj (hk.symm.trans G)
     subst this
     exact getD_set_true (K e he hb)
    ·rw[getD_set_ne false hkj]at J
     exact getD_set_true (hcl k ok hk J e he hb)
   have c2:j ∉ t++x:=by
    intro f
    rcases List.mem_append.1 f with f | f
    ·exact absurd (A j f) (Nat.lt_irrefl _)
    ·have:=(List.pairwise_append.1 hsort).2.1
     have:=(List.pairwise_cons.1 this).1 j f
     exact absurd this (Nat.lt_irrefl _)
   have ad:∀i,i∈t++x↔i<ops.size/\(listed.setIfInBounds j true).getD i true=false:=by
    intro i
    by_cases hij:j=i
    ·subst hij
     constructor
     ·intro f; exact absurd f c2
     ·intro f
      have:=jz (listed:=listed) (i:=j) (by rw[hsz]; exact M) true
      rw[this]at f; cases f.2
    ·rw[getD_set_ne true hij,<-hmem i]
     simp only[List.mem_append,List.mem_cons]
     constructor
     ·rintro (f | f)
      ·exact .inl f
      ·exact .inr (.inr f)
     ·rintro (f | f | f)
      ·exact .inl f
      ·exact absurd f.symm hij
      ·exact .inr f
   have ih:∀O w',lx P ops C D Q fl (t++x) O w'->wpAny P .any ops Q m (listed.setIfInBounds j true) O w':=fun O w' h'=>
    tw hp ho hs R U m (t++x) _ O w' bx V (by simp[hsz]) b2 ad a5 h'
   obtain⟨hC,B⟩:=B
   simp only[G]at B
   split at B
   ·obtain⟨v,X,y⟩:=B
    unfold wpOp
    simp only[G]
    rcases X with (⟨Y,X⟩ | ⟨Y,rfl⟩) | ⟨_,Y,X⟩
    ·rw[if_pos Y]
     left
     unfold Oper.wp
     rw[X w hC]
     exact ih _ _ y
    ·rw[if_neg (by rw[Y]; simp)]
     exact ih _ _ y
    ·rw[if_pos Y]
     left
     unfold Oper.wp
     rw[X]
     exact ih _ _ y
   ·exact wpOp_mono (fun O w' h'=>ih O w' h') B
theorem ri (h:tj ops fl=true):∀i j,i<j->j<ops.size->dA ops ops.size j i=false->∀f g,ops[i]? = some f->ops[j]? = some g->f.apart ops g=true/\ma fl i j=true:=by
 intro i j k q t f g hi m
 have o:=List.all_eq_true.1 (List.all_eq_true.1 h j (List.mem_range.2 q)) i (List.mem_range.2 k)
 simp only[t,Bool.false_or,hi,m,Bool.and_eq_true]at o
 exact o
theorem rA (h:uh ops=true):∀j f,ops[j]? = some f->∀e∈f.after,Region.binds .any e=true->e.on<j:=by
 intro j f g e m o
 have i:=List.all_eq_true.1 h j (List.mem_range.2 (Array.getElem?_eq_some_iff.1 g).1)
 simp only[g]at i
 have k:=List.all_eq_true.1 i e (by simpa using m)
 simp only[o,Bool.not_true,Bool.false_or,Nat.blt_eq]at k
 exact k
def AE (ops:Array Oper):Bool:=(List.range (ops.size - 1)).all fun i=>dA ops ops.size (ops.size - 1) i
theorem qc {id:Nat} {l:List Oper} {a:Act} {w:World} (m:P.follows .mixedOrders=true) (o:∀c a w,¬Q (.panic c) a w) (q:∀a w,¬Q .outgrown a w)
  (k:(mT l.toArray&&uh l.toArray&&tj l.toArray fl)=true) (f:(∀w,D w->C w)\/(AE l.toArray=true/\l≠[])) (h:lx P l.toArray C D Q fl (List.range l.length) a w.drew):(Code.region id l.toArray true).wp P Q a w:=by
 simp only[Bool.and_eq_true]at k
 refine wp_region_any m ?_
 refine tw o q (oI k.1.1) (rA k.1.2) (ri k.2) _ (List.range l.length) _ a _ (by simp) List.pairwise_lt_range (by simp) (fun j t x g=>?_) (fun i=>?_) ?_ h
 ·rw[Array.getD_eq_getD_getElem?,Array.getElem?_replicate]at g
  split at g <;> simp at g
 ·rw[Array.getD_eq_getD_getElem?,Array.getElem?_replicate]
  by_cases h1:i<l.length
  ·simp[h1]
  ·simp[h1]
 ·rcases f with f | ⟨f,g⟩
  ·exact .inl f
  ·refine .inr ⟨fun i hi=>?_,fun _=>?_⟩
   ·exact List.all_eq_true.1 f i (List.mem_range.2 hi)
   ·have:=List.length_pos_iff.2 g
    simp; omega
variable {n:Nat} {L:Env} {w:World}
def lxE (P:Program) (n:Nat) (ops:Array Oper) (C D:World->Prop) (Q:Exit->Act->World->Prop) (fl:Nat->Bool) (l:List Nat) (L:Env) (w:World):Prop:=∀a,Rep n L a->lx P ops C D Q fl l a w
theorem aX {id:Nat} {l:List Oper} (C:World->Prop) (fl:Nat->Bool) (f:P.follows .mixedOrders=true) (g:∀c a w,¬Q (.panic c) a w) (i:∀a w,¬Q .outgrown a w)
  (j:(mT l.toArray&&uh l.toArray&&tj l.toArray fl)=true) (h:lxE P n l.toArray C C Q fl (List.range l.length) L w.drew):wpC P n (.region id l.toArray true) Q L w:=
 fun a k=>qc f g i j (.inl fun _ h=>h) (h a k)
theorem dk {id:Nat} {l:List Oper} (C:World->Prop) (fl:Nat->Bool) (g:P.follows .mixedOrders=true) (i:∀c a w,¬Q (.panic c) a w) (j:∀a w,¬Q .outgrown a w)
  (f:(mT l.toArray&&uh l.toArray&&tj l.toArray fl&&AE l.toArray&&!l.isEmpty)=true) (h:lxE P n l.toArray C (fun _=>True) Q fl (List.range l.length) L w.drew):wpC P n (.region id l.toArray true) Q L w:=
 fun a k=>by
  simp only[Bool.and_eq_true]at f
  refine qc g i j (by simp only[Bool.and_eq_true]; exact f.1.1) (.inr ⟨f.1.2,fun m=>?_⟩) (h a k)
  have:=f.2
  rw[m]at this
  cases this
theorem bp (f:D w) (h:QE n Q .normal L w):lxE P n ops C D Q fl [] L w:=fun a g=>⟨f,h a g⟩
theorem ai {i:Nat} {r:List Nat} {d:Nat} {f:Op} {ty:TypeId} {pos:String} {after:Array Edge} {v:Value} (k:C w) (m:ops[i]? = some ⟨some d,f,ty,pos,after,none⟩) (o:fl i=true)
  (q:∀w,C w->OpV P n L w ⟨some d,f,ty,pos,after,none⟩ v w) (t:Nat.blt d n=true) (h:lxE P n ops C D Q fl r ((d,v) :: L) w):lxE P n ops C D Q fl (i :: r) L w:=fun a g=>by
 refine⟨k,?_⟩
 simp only[m,o,if_true]
 exact⟨v,.inl (.inl ⟨by simp[Region.wanted],fun w' j=>q w' j a g⟩),h _ (g.put t)⟩
theorem n8 {i:Nat} {r:List Nat} {d:Nat} {f:Op} {ty:TypeId} {pos:String} {after:Array Edge} {v:Value} (j:C w) (k:ops[i]? = some ⟨some d,f,ty,pos,after,none⟩) (m:fl i=true) (o:fl (i+1000)=false)
  (q:OpV P n L w ⟨some d,f,ty,pos,after,none⟩ v w) (t:Nat.blt d n=true) (h:lxE P n ops C D Q fl r ((d,v) :: L) w):lxE P n ops C D Q fl (i :: r) L w:=fun a g=>by
 refine⟨j,?_⟩
 simp only[k,m,if_true]
 exact⟨v,.inr ⟨o,by simp[Region.wanted],q a g⟩,h _ (g.put t)⟩
theorem wJ {i:Nat} {r:List Nat} {d:Nat} {f:Op} {ty:TypeId} {pos:String} {after:Array Edge} {Φ:Value->World->Prop} (k:C w) (g:ops[i]? = some ⟨some d,f,ty,pos,after,none⟩) (m:fl i=false)
  (o:OpX P n L w ⟨some d,f,ty,pos,after,none⟩ Φ) (q:Nat.blt d n=true) (h:∀v w',Φ v w'->lxE P n ops C D Q fl r ((d,v) :: L) w'):lxE P n ops C D Q fl (i :: r) L w:=fun a j=>by
 refine⟨k,?_⟩
 simp only[g,m,Bool.false_eq_true,if_false]
 obtain⟨v,w',t,x⟩:=o
 unfold wpOp
 simp only[g]
 rw[if_pos (by simp[Region.wanted])]
 left
 unfold Oper.wp
 rw[t a j]
 exact h v w' x _ (j.put q)
theorem f9 {i:Nat} {r:List Nat} {f:Op} {ty:TypeId} {pos:String} {after:Array Edge} {Φ:World->Prop} (k:C w) (g:ops[i]? = some ⟨none,f,ty,pos,after,none⟩) (m:fl i=false)
  (o:OpY P n L w ⟨none,f,ty,pos,after,none⟩ Φ) (h:∀w',Φ w'->lxE P n ops C D Q fl r L w'):lxE P n ops C D Q fl (i :: r) L w:=fun a j=>by
 refine⟨k,?_⟩
 simp only[g,m,Bool.false_eq_true,if_false]
 obtain⟨w',q,t⟩:=o
 unfold wpOp
 simp only[g]
 rw[if_pos (by simp[Region.wanted])]
 left
 unfold Oper.wp
 rw[q a j]
 exact h w' t _ j
end
end Go.Gk
end

section
namespace Go.Gk
open Go Go.RowKit
section
variable {P:Program} {n:Nat} {L:Env} {w w0:World} {Q:Exit->Act->World->Prop} {S:List Nat} {os:List OE}
variable {d:Option Tmp} {ty:TypeId} {pos:String} {after:Array Edge}
theorem fx {o:Oper} {Φ:Value->World->Prop} (v:Value) (w':World) (f:OpV P n L w o v w') (h:Φ v w'):OpX P n L w o Φ:=⟨v,w',f,h⟩
theorem qR {o:Oper} {Φ:World->Prop} (w':World) (f:OpS P n L w o w') (h:Φ w'):OpY P n L w o Φ:=⟨w',f,h⟩
theorem St.fresh (h:St S w0 w os):fre S w0.heap.size w.heap.size:=.inl h.fr.size
theorem x9 (z:Array Value) (sz c l:Nat) {τ:Type} (e:Enc τ) (j:τ) (t:z.toList=e.cells j) (m:e.sz=sz) (A:l<=c) :
  (madeCells z (c*sz)).toList.take (l*sz)=e.fl (List.replicate l j):=by
 have g:z.size=sz:=by rw[<-Array.length_toList,t,e.len,m]
 apply List.ext_getElem?
 intro k
 rw[List.getElem?_take]
 split
 ·rename_i o
  have i:0<sz:=by
   rcases Nat.eq_zero_or_pos sz with h | h
   ·subst h; simp at o
   ·exact h
  have x:k<c*sz:=Nat.lt_of_lt_of_le o (Nat.mul_le_mul_right _ A)
  have f:k%sz<sz:=Nat.mod_lt _ i
  have q:k / sz<l:=(Nat.div_lt_iff_lt_mul i).2 o
  have B:k=k / sz*e.sz+k%sz:=by rw[m,Nat.mul_comm]; exact (Nat.div_add_mod k sz).symm
  have y:=e.fl_get (List.replicate l j) (k / sz) j (by simp[List.getElem?_replicate,q]) (k%sz) (by rw[m]; exact f)
  rw[<-B]at y
  rw[y,<-t]
  simp only[madeCells,Array.toList_map,Array.toList_range,List.getElem?_map,List.getElem?_range x,Option.map_some,g]
  rw[getElem!_pos z (k%sz) (by rw[g]; exact f)]
  simp[g,f]
 ·rename_i o
  rw[List.getElem?_eq_none]
  rw[e.fl_length,List.length_replicate,m]
  omega
theorem zA {T E:TypeId} {x y:Operand} {k h:IntKind} {l c:Int} {τ:Type} {e:Enc τ} {g:τ} {z:Value} {bytes:Nat} (t:P.underlying T=some (.slice E)) (A:TI P E z e.sz bytes) (B:z.cells.toList=e.cells g)
  (F:L.ev x=some (.int k l)) (G:L.ev y=some (.int h c)) (i:St S w0 w os) (I:0<=l) (J:l<=c) (K:(bytes:Int)*c<=281474976710656) (M:c<=9223372036854775807) :
  OpX P n L w ⟨d,.makeSlice T x y,ty,pos,after,none⟩ (fun v w'=>St S w0 w' (own e v (List.replicate l.toNat g) :: os)):=by
 obtain⟨f,hi,j,m,N⟩:=A.get
 have O:=run_make (P:=P) w T E f z t hi j k h l c I J (by rw[N]; exact K) M
 refine fx (.slice (some ⟨w.heap.size,0,none⟩) l.toNat c.toNat) (w.alloc (.cells (madeCells z.cells (c.toNat*f.size)) E)) (fun a q=>?_) ?_
 ·simp only[execOp,q.ev F,q.ev G,Sem.run_bind,O,Result.andThen_ok]; rfl
 ·refine i.push (Fr.alloc _ _ _) (o:=own e _ _) ?_ ?_
  ·refine⟨e.fl_length _,.inr ⟨w.heap.size,c.toNat,madeCells z.cells (c.toNat*f.size),E,?_,i.fresh,Row.new w _ _,?_,?_,?_,?_⟩⟩
   ·simp
   ·simp; omega
   ·simp[maxLen]; omega
   ·rw[size_madeCells,m]; exact Nat.le_refl _
   ·rw[m,List.length_replicate]
    exact x9 z.cells e.sz c.toNat l.toNat e g B rfl (by omega)
  ·intro k R
   simp[OE.blk,Value.ownBlock]at R
   omega
theorem sX (f:Nat) (g:f=1):∀(vs:List Value) (k:Nat) (cells:Array Value),(∀v∈vs,v.oneCell'=true)->k+vs.length<=cells.size ->
  Instr.fill (fun i=>some (i*f,f)) cells (vs.zipIdx k |>.map fun p=>(p.2,p.1))=some (cells.toList.take k++vs++cells.toList.drop (k+vs.length)).toArray
 | [],k,cells,_,_=>by simp[Instr.fill]
 | v :: r,k,cells,h1,hk=>by
  subst g
  have j:v.cells=#[v]:=by have:=h1 v (by simp); cases v <;> simp_all [Value.cells,Value.oneCell']
  have m:=sX 1 rfl r (k+1) (cells.setIfInBounds k v) (fun u o=>h1 u (by simp[o])) (by simp at hk ⊢; omega)
  simp only[List.zipIdx_cons,List.map_cons,Instr.fill,j]
  rw[if_neg (by simp at hk ⊢; omega)]
  have h:(#[v]:Array Value).zipIdx.foldl (fun cs (x:Value×Nat)=>cs.setIfInBounds (k*1+x.2) x.1) cells=cells.setIfInBounds k v:=by
   have:(#[v]:Array Value).zipIdx=#[(v,0)]:=rfl
   rw[this]; simp
  rw[h,m]
  congr 2
  have e:=list_seg_step cells.toList k v r (by simp at hk ⊢; omega)
  simpa [Array.toList_setIfInBounds,Nat.add_assoc] using e
def Env.parts (L:Env):List (Nat×Operand)->Nat->Option (List Value)
 | [],_=>some []
 | (i,x) :: r,k=>if i=k then match L.ev x,Env.parts L r (k+1) with
  | some v,some vs=>some (v :: vs)
  | _,_=>none
  else none
theorem Env.parts_eq {L:Env} {a:Act} (f:Rep n L a):∀{g:List (Nat×Operand)} {k:Nat} {vs:List Value},L.parts g k=some vs->g.map (fun p=>(p.1,a.eval p.2))=(vs.zipIdx k).map fun p=>(p.2,p.1)
 | [],k,vs,h=>by simp[Env.parts]at h; subst h; rfl
 | (i,x) :: r,k,vs,h=>by
  simp only[Env.parts]at h
  split at h
  ·rename_i j
   cases hx:L.ev x with
   | none=>simp[hx]at h
   | some v=>
    cases hr:L.parts r (k+1) with
    | none=>simp[hx,hr]at h
    | some us=>
     simp[hx,hr]at h
     subst h
     simp only[List.map_cons,List.zipIdx_cons,f.ev hx,Env.parts_eq f hr,j]
  ·cases h
theorem cq {T E:TypeId} {m:Nat} {j:List (Nat×Operand)} {vs:List Value} {τ:Type} {e:Enc τ} {l:List τ} {z:Value} {bytes:Nat} (I:P.underlying T=some (.slice E)) (J:TI P E z 1 bytes)
  (K:L.parts j 0=some vs) (q:vs.length=m) (f:e.sz=1) (t:e.fl l=vs) (R:0<m) (U:m<=16777216) (B:St S w0 w os) :
  OpX P n L w ⟨d,.buildSlice T m j.toArray,ty,pos,after,none⟩ (fun v w'=>St S w0 w' (own e v l :: os)):=by
 obtain⟨g,hi,F,h,V⟩:=J.get
 have i:l.length=m:=by have:=e.fl_length l; rw[t,q,f]at this; omega
 have y:∀v∈vs,v.oneCell'=true:=by rw[<-t]; exact e.fl_one l
 have A:=sX g.size h vs 0 ((Array.range (m*g.size)).map (z.cells[·%z.cells.size]!)) y (by simp[h,q])
 simp only[List.take_zero,List.nil_append,Nat.zero_add]at A
 rw[List.drop_eq_nil_of_le (by simp[h,q]),List.append_nil]at A
 refine fx (.slice (some ⟨w.heap.size,0,none⟩) m m) (w.alloc (.cells vs.toArray E)) (fun a M=>?_) ?_
 ·have G:(j.toArray.map fun x=>(x.1,a.eval x.2)).toList=(vs.zipIdx 0).map fun p=>(p.2,p.1):=by
   simp only[Array.toList_map]
   exact Env.parts_eq M K
  have N:=run_buildSlice (P:=P) w T E m (j.toArray.map fun x=>(x.1,a.eval x.2)) vs.toArray g z I hi F (by rw[h]; simp; omega) (by rw[h]; simp; omega) (by rw[G]; exact A)
  simp only[execOp,Sem.run_bind,N,Result.andThen_ok]; rfl
 ·refine B.push (Fr.alloc _ _ _) (o:=own e _ _) ?_ ?_
  ·refine⟨e.fl_length _,.inr ⟨w.heap.size,m,vs.toArray,E,?_,B.fresh,Row.new w _ _,?_,?_,?_,?_⟩⟩
   ·rw[i]
   ·omega
   ·simp[maxLen]; omega
   ·simp[f,q]
   ·rw[i,f,t]; simp; exact List.take_of_length_le (by omega)
  ·intro k O
   simp[OE.blk,Value.ownBlock]at O
   omega
theorem xr {f g bytes:Nat} (h:g<f) (k:f*bytes<=225000000000000) (j:bytes<=65536):Builtin.nextslicecap f g*bytes<=281474976710656:=by
 have i:Builtin.nextslicecap f g<=f+f / 4+512:=by
  unfold Builtin.nextslicecap
  split
  ·omega
  ·split
   ·omega
   ·rename_i m o
    rw[growBy_four]
    repeat' split
    all_goals omega
 calc Builtin.nextslicecap f g*bytes<=(f+f / 4+512)*bytes:=Nat.mul_le_mul_right _ i
  _=f*bytes+f / 4*bytes+512*bytes:=by rw[Nat.add_mul,Nat.add_mul]
  _<=281474976710656:=by
   have:f / 4*bytes<=f*bytes / 4:=by
    rw[Nat.le_div_iff_mul_le (by omega)]
    calc f / 4*bytes*4=f / 4*4*bytes:=by rw[Nat.mul_assoc,Nat.mul_comm bytes 4,<-Nat.mul_assoc]
     _<=f*bytes:=Nat.mul_le_mul_right _ (Nat.div_mul_le_self _ _)
   omega
theorem o9 (t ty e:TypeId) (i:TypeInfo) (z:P.underlying t=some (.slice e)) (hi:P.info? e=some i)
  (g f k:Nat) (h:Array Value) (T:TypeId) (A:Row w g h T)
  (a:Addr) (m c:Nat) (news:List Value) (B:news.length=m*i.size) (o:∀j u,news[j]? = some u->w.cell? (a.add j)=some u) (F:∀u∈news,u.oneCell'=true)
  (q:f+m<=k) (y:f*i.size+news.length<=h.size) :
  (Builtin.append_ #[t,t] ty #[.slice (some ⟨g,0,none⟩) f k,.slice (some a) m c]).run P w =
   .ok (.slice (some ⟨g,0,none⟩) (f+m) k) (w.setRow g (h.toList.take (f*i.size)++news++h.toList.drop (f*i.size+news.length)).toArray):=by
 have G:=run_firstCells_some (P:=P) w i.size m a m c news B o
 have x:=eL P g (f*i.size) T news 0 h w A (by simpa using y) F
 simp only[Nat.add_zero]at x
 simp[Builtin.append_,run_underlying z,sizeOf,typeInfo,hi,Builtin.lenOf,q,G,Addr.add_lit,x]
theorem ku (t ty e:TypeId) (i:TypeInfo) (j:P.underlying t=some (.slice e)) (hi:P.info? e=some i) (v:Value) (b:Option Addr) (f g c:Nat) (k:v=.slice b f g) (h:f<=g) (x:Option Addr) :
  (Builtin.append_ #[t,t] ty #[v,.slice x 0 c]).run P w=.ok v w:=by
 subst k
 cases b <;> cases x <;> simp[Builtin.append_,run_underlying j,sizeOf,typeInfo,hi,Builtin.lenOf,h,Builtin.firstCells,loadCells,loadCellsFrom,storeCells]
theorem jv {T E ty:TypeId} {τ:Type} {e:Enc τ} {z:Value} {bytes:Nat} {v u:Value} {l m:List τ} {B:Nat} (G:P.underlying T=some (.slice E)) (hE:TI P E z e.sz bytes) (hz:z.cells.size=e.sz) (a3:bytes<=65536) (ab:0<bytes)
  (J:(own e v l).ok S B w) (hu:RO w e u m) (hB:B<=w.heap.size) (hb:(l.length+m.length)*bytes<=225000000000000) :
  ∃v' w',(Builtin.append_ #[T,T] ty #[v,u]).run P w=.ok v' w'/\(own e v' (l++m)).ok S B w'/\Fr (own e v l).blk.toList w w'/\(∀k,(own e v' (l++m)).blk=some k->(own e v l).blk=some k\/w.heap.size<=k):=by
 obtain⟨h,hi,R,K,U⟩:=hE.get
 obtain⟨ua,c,rfl,hc,hr⟩:=hu
 by_cases hm:m=[]
 ·subst hm
  rcases J.2 with⟨rfl,hn⟩ | ⟨g,f,I,T',rfl,V,M,X,Y,Z,q⟩
  ·have hl:l=[]:=List.eq_nil_of_length_eq_zero hn
   subst hl
   refine⟨_,w,ku T ty E h G hi _ none 0 0 c rfl (Nat.le_refl _) ua,?_,Fr.refl _ _,fun k t=>.inl (by simpa using t)⟩
   simpa using J
  ·refine⟨_,w,ku T ty E h G hi _ (some ⟨g,0,none⟩) l.length f c rfl X ua,?_,Fr.refl _ _,fun k t=>.inl (by simpa using t)⟩
   simpa using J
 ·obtain⟨b,off,rfl,N⟩:=hr hm
  have i:∀j x,(e.fl m)[j]? = some x->w.cell? ((⟨b,off,none⟩:Addr).add j)=some x:=fun j x F=>by rw[d6]; exact N j x F
  have A:(e.fl m).length=m.length*h.size:=by rw[K]; exact e.fl_length m
  have a6:0<m.length:=List.length_pos_iff.2 hm
  have bx:l.length+m.length<=225000000000000:=Nat.le_trans (Nat.le_mul_of_pos_right _ ab) hb
  rcases J.2 with⟨rfl,hn⟩ | ⟨g,f,I,T',rfl,V,M,X,Y,Z,q⟩
  ·have hl:l=[]:=List.eq_nil_of_length_eq_zero hn
   subst hl
   simp only[List.length_nil,Nat.zero_add]at hb bx
   have o:=run_append_nil (P:=P) w T ty E h z G hi R ⟨b,off,none⟩ m.length c (e.fl m) A i a6 (by omega) (by rw[U]; omega)
   refine⟨_,_,o,⟨e.fl_length _,.inr ⟨w.heap.size,grownCap w m.length 0 E,_,E,?_,?_,Row.new w.drew _ _,?_,?_,?_,?_⟩⟩,?_,?_⟩
   ·simp
   ·exact .inl hB
   ·simp; exact grownCap_ge w m.length 0 E
   ·exact grownCap_le_maxLen w m.length 0 E (by simp[maxLen]; omega)
   ·have:=grownCap_ge w m.length 0 E
    simp only[Array.size_append,List.size_toArray,size_zeroCells,hz,e.fl_length,<-Nat.add_mul]
    exact Nat.mul_le_mul_right _ (by omega)
   ·simp only[List.nil_append,Array.toList_append,List.toList_toArray]
    rw[<-e.fl_length]
    exact List.take_left
   ·exact (Fr.drew _ w).trans (Fr.alloc _ _ _)
   ·intro k t
    simp[OE.blk,Value.ownBlock]at t
    right; omega
  ·by_cases hroom:l.length+m.length<=f
   ·have y:l.length*h.size+(e.fl m).length<=I.size:=by
     rw[A,<-Nat.add_mul]
     exact Nat.le_trans (Nat.mul_le_mul_right _ hroom) (by rw[K]; exact Z)
    have o:=o9 (w:=w) T ty E h G hi g l.length f I T' M ⟨b,off,none⟩ m.length c (e.fl m) A i (e.fl_one m) hroom y
    refine⟨_,_,o,⟨e.fl_length _,.inr ⟨g,f,_,T',?_,V,M.set _ ?_,?_,Y,?_,?_⟩⟩,?_,?_⟩
    ·simp
    ·simp only[List.size_toArray,List.length_append,List.length_take,List.length_drop,Array.length_toList]at y ⊢
     omega
    ·simpa using hroom
    ·simp only[List.size_toArray,List.length_append,List.length_take,List.length_drop,Array.length_toList]at y ⊢
     omega
    ·rw[K,q,List.length_append,Nat.add_mul]
     simp only[List.append_assoc]
     rw[<-List.append_assoc,<-e.fl_append]
     have:l.length*e.sz+m.length*e.sz=(e.fl (l++m)).length:=by rw[e.fl_length,List.length_append,Nat.add_mul]
     rw[this]
     exact List.take_left
    ·exact Fr.setRow w g _
    ·intro k t
     left
     simpa [OE.blk,Value.ownBlock] using t
   ·have O:∀j x,(e.fl l)[j]? = some x->w.cell? ((⟨g,0,none⟩:Addr).add j)=some x:=fun j x F=>by
     rw[d6,Nat.zero_add,M.cell j]
     rw[<-q,List.getElem?_take]at F
     split at F
     ·simpa using F
     ·cases F
    have b2:(e.fl l).length=l.length*h.size:=by rw[K]; exact e.fl_length l
    have o:=run_append_grow (P:=P) w T ty E h z G hi R ⟨g,0,none⟩ l.length f (e.fl l) b2 O ⟨b,off,none⟩ m.length c (e.fl m) A i (by omega) (by omega)
     (by rw[U]; exact xr (by omega) hb a3)
    refine⟨_,_,o,⟨e.fl_length _,.inr ⟨w.heap.size,grownCap w (l.length+m.length) f E,_,E,?_,?_,Row.new w.drew _ _,?_,?_,?_,?_⟩⟩,?_,?_⟩
    ·simp
    ·exact .inl hB
    ·simp; exact grownCap_ge w (l.length+m.length) f E
    ·exact grownCap_le_maxLen w (l.length+m.length) f E (by simp[maxLen]; omega)
    ·have:=grownCap_ge w (l.length+m.length) f E
     simp only[Array.size_append,List.size_toArray,size_zeroCells,hz,e.fl_length,<-Nat.add_mul]
     exact Nat.mul_le_mul_right _ (by omega)
    ·simp only[Array.toList_append,List.append_assoc]
     rw[<-List.append_assoc,<-e.fl_append,<-e.fl_length]
     exact List.take_left
    ·exact (Fr.drew _ w).trans (Fr.alloc _ _ _)
    ·intro k t
     simp[OE.blk,Value.ownBlock]at t
     right; omega
theorem wM {x y:Operand} {T E:TypeId} {τ:Type} {e:Enc τ} {z:Value} {bytes:Nat} {v u:Value} {l m:List τ} {i:Nat} (o:P.underlying T=some (.slice E)) (q:TI P E z e.sz bytes) (t:z.cells.size=e.sz) (j:bytes<=65536) (f:0<bytes)
  (A:L.ev x=some v) (B:L.ev y=some u) (g:St S w0 w os) (hi:os[i]? = some (own e v l)) (F:RO w e u m) (G:(l.length+m.length)*bytes<=225000000000000) :
  OpX P n L w ⟨d,.call ⟨.builtin .append,#[x,y],#[T,T]⟩,ty,pos,after,none⟩ (fun h w'=>St S w0 w' (os.set i (own e h (l++m)))):=by
 obtain⟨h,w',I,J,K,M⟩:=jv (ty:=ty) o q t j f (g.ok _ (List.mem_of_getElem? hi)) F g.fr.size G
 refine fx h w' (fun a k=>?_) (g.set hi K J M)
 simp[execOp,resolve,invoke,builtin,k.ev A,k.ev B,I]
theorem uN {x y:Operand} {T E:TypeId} {τ:Type} {e:Enc τ} {z:Value} {bytes:Nat} {u:Value} {m:List τ} (q:P.underlying T=some (.slice E)) (t:TI P E z e.sz bytes) (A:z.cells.size=e.sz) (i:bytes<=65536) (f:0<bytes)
  (B:L.ev x=some (.slice none 0 0)) (F:L.ev y=some u) (j:St S w0 w os) (G:RO w e u m) (I:m.length*bytes<=225000000000000) :
  OpX P n L w ⟨d,.call ⟨.builtin .append,#[x,y],#[T,T]⟩,ty,pos,after,none⟩ (fun g w'=>St S w0 w' (own e g m :: os)):=by
 have J:(own e (.slice none 0 0) ([]:List τ)).ok S w0.heap.size w:=⟨by simp,.inl ⟨rfl,rfl⟩⟩
 obtain⟨g,w',K,M,N,O⟩:=jv (ty:=ty) q t A i f J G j.fr.size (by simpa using I)
 refine fx g w' (fun a o=>?_) (j.push (by simpa [OE.blk,Value.ownBlock] using N) M fun k R=>?_)
 ·simp[execOp,resolve,invoke,builtin,o.ev B,o.ev F,K]
 ·rcases O k R with h | h
  ·simp[OE.blk,Value.ownBlock]at h
  ·exact h
theorem BL {τ:Type} (e:Enc τ) (l:List τ) (j:Nat) (t:τ) (u:Value) (h:e.cells t=[u]) (f:j<l.length):e.fl (l.set j t)=(e.fl l).set (j*e.sz) u:=by
 have g:e.sz=1:=by rw[<-e.len t,h]; rfl
 have i:∀(l:List τ) (j:Nat),j<l.length->e.fl (l.set j t)=(e.fl l).set j u:=by
  intro l
  induction l with
  | nil=>intro j f; simp at f
  | cons a r ih=>
   intro j f
   have m:∃b,e.cells a=[b]:=List.length_eq_one_iff.1 (by rw[e.len,g])
   obtain⟨b,k⟩:=m
   cases j with
   | zero=>simp[Enc.fl,h,k]
   | succ j=>
    have:=ih j (by simpa using f)
    simp only[Enc.fl,List.set_cons_succ,List.flatMap_cons,k,List.singleton_append]at this ⊢
    rw[this]
 rw[i l j f,g,Nat.mul_one]
theorem rP {T:TypeId} {z:Value} {bytes:Nat} (k:TI P T z 1 bytes) {g j:Nat} {f:Array Value} {i:TypeId} {u:Value} (m:Row w g f i) (o:j<f.size) (q:u.oneCell'=true) :
  (storeVar T ⟨g,j,none⟩ u).run P w=.ok () (w.setRow g (f.toList.set j u).toArray):=by
 obtain⟨y,hi,_,t,_⟩:=k.get
 have hc:u.cells=#[u]:=by cases u <;> simp_all [Value.cells,Value.oneCell']
 have h:=eL P g j i [u] 0 f w m (by simp; omega) (by simpa using q)
 have x:(f.toList.take (j+0)++[u]++f.toList.drop (j+0+[u].length))=f.toList.set j u:=by
  simp only[Nat.add_zero,List.length_singleton]
  rw[List.set_eq_take_append_cons_drop,if_pos (by simpa using o)]
  simp
 rw[x]at h
 simp[storeVar,sizeOf,typeInfo,hi,t,hc,h]
theorem pG {x y:Operand} {T:TypeId} {τ:Type} {e:Enc τ} {z:Value} {bytes:Nat} {v u:Value} {l:List τ} {i j:Nat} {t:τ} (V:TI P T z 1 bytes)
  (B:L.ev x=some (pP (ixA v e.sz j))) (X:L.ev y=some u) (A:e.cells t=[u]) (F:St S w0 w os) (hi:os[i]? = some (own e v l)) (Y:j<l.length) :
  OpY P n L w ⟨none,.store T x y,ty,pos,after,none⟩ (fun w'=>St S w0 w' (os.set i (own e v (l.set j t)))):=by
 have G:=F.ok _ (List.mem_of_getElem? hi)
 have f:e.sz=1:=by rw[<-e.len t,A]; rfl
 have I:u.oneCell'=true:=e.one t u (by rw[A]; simp)
 rcases G.2 with⟨rfl,hn⟩ | ⟨g,m,o,Z,rfl,J,K,M,N,q,h⟩
 ·omega
 ·have O:j<o.size:=by rw[f]at q; omega
  have R:ixA (.slice (some ⟨g,0,none⟩) l.length m) e.sz j=⟨g,j,none⟩:=by simp[ixA,d6,f]
  rw[R]at B
  have hr:=rP (P:=P) (T:=T) V K O I
  refine qR (w.setRow g (o.toList.set j u).toArray) (fun a U=>?_) (F.set hi (Fr.setRow w g _) (o':=own e _ _) ⟨e.fl_length _,.inr ⟨g,m,_,Z,by simp,J,K.set _ (by simp),by simpa using M,N,by simpa using q,?_⟩⟩ fun k hk=>.inl hk)
  ·simp[execOp,U.ev B,U.ev X,Instr.storeAt,Instr.sureAddr,hr]
  ·simp only[List.length_set]
   rw[BL e l j t u A Y,<-h,f,Nat.mul_one,Nat.mul_one,List.take_set]
def Ret (φ:Value->World->Prop):Ending->World->Prop:=fun e w=>match e with
 | .returned v=>φ v w
 | _=>False
def gE (P:Program) (f:FuncId):Bool:=match P.funcs[f]? with
 | some fn => fn.body.isSome && fn.name != "runtime.NumGoroutine"
 | none=>false
theorem mI {f:FuncId} {args:Array Value} (h:gE P f=true):(callFunc f args).run P w=.ok (.enter f args) w:=by
 unfold gE at h
 split at h
 ·rename_i g i
  simp only[Bool.and_eq_true]at h
  have j : ¬ (g.name == "runtime.NumGoroutine") = true := by simpa using h.2
  have k:g.body.isNone=false:=by cases hb:g.body <;> simp_all
  simp only[callFunc,Sem.run_bind,program,Sem.run,Result.andThen_ok,i,j,k]
  rfl
 ·cases h
theorem tt {o:Oper} {f:FuncId} {xs:List Operand} {h:Array TypeId} {vs:List Value} {a:Act} (i:o.op=.call ⟨.value (.func f),xs.toArray,h⟩)
  (j:gE P f=true) (g:xs.map a.eval=vs):(execOp a.eval o).run P w=.ok (.enter f vs.toArray) w:=by
 simp only[execOp,i,resolve,Act.eval,Deferred.ofValue,Sem.run_bind,Sem.run_pure,Result.andThen_ok,invoke]
 have:(#[]++Array.map a.eval xs.toArray++#[]:Array Value)=vs.toArray:=by simp[g]
 rw[this]
 exact mI j
theorem qC {o:Oper} {f:FuncId} {xs:List Operand} {i:Array TypeId} {vs:List Value} {φ:Value->World->Prop} {K:Act->World->Prop} {a:Act} (j:o.op=.call ⟨.value (.func f),xs.toArray,i⟩)
  (m:gE P f=true) (g:xs.map a.eval=vs) (hc:Calls P f vs.toArray w (Ret φ)) (k:∀v w',φ v w'->K (a.put o.dst v) w'):o.wp P a w K Q:=by
 unfold Oper.wp
 rw[tt j m g]
 refine Calls.mono hc fun e w' h=>?_
 cases e with
 | returned v=>exact k v w' h
 | panicked c=>exact h.elim
 | outgrown=>exact h.elim
theorem iU {ops:Array Oper} {rest:List Oper} {d:Nat} {f:FuncId} {xs:List Operand} {j:Array TypeId} {vs:List Value} {φ:Value->World->Prop}
  (m:gE P f=true) (g:L.evs xs=some vs) (hc:Calls P f vs.toArray w (Ret φ)) (o:Nat.blt d n=true)
  (k:∀v w',φ v w'->wpR P n ops Q rest ((d,v) :: L) w'):wpR P n ops Q (⟨some d,.call ⟨.value (.func f),xs.toArray,j⟩,ty,pos,after,none⟩ :: rest) L w:=fun a i=>by
 unfold wpList
 rw[if_pos (by simp[Region.wanted])]
 exact .inl (qC rfl m (i.evs g) hc fun v w' h=>k v w' h _ (i.put o))
theorem aH {ops:Array Oper} {rest:List Oper} {d:Nat} {f:FuncId} {xs:List Operand} {h:Array TypeId} {vs:List Value} {φ:Value->World->Prop}
  (g:L.evs xs=some vs) (hc:Calls P f vs.toArray w (Ret φ)) (i:Nat.blt d n=true)
  (k:∀v w',φ v w'->wpR P n ops Q rest ((d,v) :: L) w') (j:gE P f=true:=by kernel_rfl):wpR P n ops Q (⟨some d,.call ⟨.value (.func f),xs.toArray,h⟩,ty,pos,after,none⟩ :: rest) L w:=iU j g hc i k
theorem aY {ops:Array Oper} {C D:World->Prop} {fl:Nat->Bool} {i:Nat} {r:List Nat} {d:Nat} {f:FuncId} {xs:List Operand} {q:Array TypeId} {vs:List Value} {φ:Value->World->Prop} (t:C w)
  (j:ops[i]? = some ⟨some d,.call ⟨.value (.func f),xs.toArray,q⟩,ty,pos,after,none⟩) (m:fl i=false)
  (x:gE P f=true) (g:L.evs xs=some vs) (hc:Calls P f vs.toArray w (Ret φ)) (y:Nat.blt d n=true)
  (k:∀v w',φ v w'->lxE P n ops C D Q fl r ((d,v) :: L) w'):lxE P n ops C D Q fl (i :: r) L w:=fun a o=>by
 refine⟨t,?_⟩
 simp only[j,m,Bool.false_eq_true,if_false]
 unfold wpOp
 simp only[j]
 rw[if_pos (by simp[Region.wanted])]
 exact .inl (qC rfl x (o.evs g) hc fun v w' h=>k v w' h _ (o.put y))
theorem az {g:Func} {t:Tmp} {v:Value} {φ:Value->World->Prop} (f:g.results=#[.tmp t]) (j:L.get t=some v) (h:φ v w):QE n (bodyPost P g (Ret φ)) .ret L w:=fun a i=>by
 refine⟨i.defers,v,?_,h⟩
 have:=i.get t v j
 simp[results,f,this]
theorem ip {g:Func} {φ:Value->World->Prop} (f:g.results=#[]) (h:φ (.tuple #[]) w):QE n (bodyPost P g (Ret φ)) .normal L w:=fun a i=>by
 refine⟨i.defers,.tuple #[],?_,h⟩
 simp[results,f]
theorem bY {o:Func} {i j:Tmp} {f g:Value} {φ:Value->World->Prop} (k:o.results=#[.tmp i,.tmp j]) (q:L.get i=some f) (t:L.get j=some g) (h:φ (.tuple #[f,g]) w):QE n (bodyPost P o (Ret φ)) .ret L w:=fun a m=>by
 refine⟨m.defers,.tuple #[f,g],?_,h⟩
 have x:=m.get i f q
 have y:=m.get j g t
 simp[results,k,x,y]
theorem dH {t:Func} {k m o:Tmp} {f g i:Value} {φ:Value->World->Prop} (q:t.results=#[.tmp k,.tmp m,.tmp o]) (x:L.get k=some f) (y:L.get m=some g) (z:L.get o=some i) (h:φ (.tuple #[f,g,i]) w):QE n (bodyPost P t (Ret φ)) .ret L w:=fun a j=>by
 refine⟨j.defers,.tuple #[f,g,i],?_,h⟩
 have A:=j.get k f x
 have B:=j.get m g y
 have F:=j.get o i z
 simp[results,q,A,B,F]
def k6:Nat->List Value->Env
 | _,[]=>[]
 | k,v :: r=>(k,v) :: k6 (k+1) r
theorem pS:∀(vs:List Value) (k i:Nat) (v:Value),(k6 k vs).get i=some v->k<=i/\vs[i - k]? = some v
 | [],k,i,v,h=>by simp[k6,Env.get]at h
 | u :: r,k,i,v,h=>by
  simp only[k6,Env.get]at h
  by_cases hk:Nat.beq k i=true
  ·rw[hk]at h
   simp at h
   have:=Nat.eq_of_beq_eq_true hk
   subst this
   simp[h]
  ·simp only[hk]at h
   have:=pS r (k+1) i v (by simpa using h)
   refine⟨by omega,?_⟩
   rw[show i - k=(i - (k+1))+1 by omega]
   simpa using this.2
theorem z6 {f:FuncId} {g:Func} {c:Code} {vs:List Value} {φ:Value->World->Prop} (j:P.funcs[f]? = some g) (k:g.body=some c) (m:Nat.ble vs.length g.ntmps=true)
  (h:wpC P g.ntmps c (bodyPost P g (Ret φ)) (k6 0 vs) w):Calls P f vs.toArray w (Ret φ):=by
 refine calls_of_wp j k (h _ ⟨rfl,?_,fun i v hi=>?_⟩)
 ·have:=Nat.le_of_ble_eq_true m
  simp; omega
 ·have:=(pS vs 0 i v hi).2
  simp only[Nat.sub_zero]at this
  have o:i<vs.length:=(List.getElem?_eq_some_iff.1 this).1
  rw[Array.getElem?_append_left (by simpa using o)]
  simpa using this
end
end Go.Gk
end

section
namespace Go.Gk
open Go Go.RowKit
section
variable {P:Program} {n:Nat} {L:Env} {w w0:World} {Q:Exit->Act->World->Prop} {S:L2} {os:List OE}
variable {d:Option Tmp} {ty:TypeId} {pos:String} {after:Array Edge}
theorem bk {x y:Operand} {T E:TypeId} {k:IntKind} {i:Int} {τ:Type} {e:Enc τ} {v:Value} {l:List τ} {t:τ} {z:Value} {bytes:Nat} (g:P.underlying T=some (.slice E)) (j:TI P E z e.sz bytes)
  (m:L.ev x=some v) (o:L.ev y=some (.int k i)) (h:RO w e v l) (f:aA l i=some t) :
  OpV P n L w ⟨d,.indexAddr T x y,ty,pos,after,none⟩ (pP (ixA v e.sz i.toNat)) w:=
 Ch g j m o h (ew f).1 (ew f).2.1
theorem a9 {x:Operand} {T:TypeId} {D:TypeDesc} {τ:Type} {e:Enc τ} {v:Value} {l:List τ} {i:Int} {t:τ} {u:Value} (f:P.underlying T=some D) (g:(match D with | .struct _ | .array _ _=>true | _=>false)=false)
  (j:L.ev x=some (pP (ixA v e.sz i.toNat))) (h:RO w e v l) (k:aA l i=some t) (m:e.cells t=[u]) :
  OpV P n L w ⟨d,.load T x,ty,pos,after,none⟩ u w:=xy f g j h (ew k).2.2 m
theorem kG {x y:Operand} {T:TypeId} {k:IntKind} {i:Int} {l:L1} {t:UInt8} (g:P.underlying T=some .string)
  (h:L.ev x=some (vS l)) (j:L.ev y=some (.int k i)) (f:aA l i=some t) :
  OpV P n L w ⟨d,.index T x y,ty,pos,after,none⟩ (v8 t) w:=A2 g h j (ew f).1 (ew f).2.2
theorem bX {x y:Operand} {T:TypeId} {τ:Type} {e:Enc τ} {z:Value} {bytes:Nat} {v u:Value} {l:List τ} {i:Nat} {j:Int} {t t':τ} (f:TI P T z 1 bytes)
  (g:L.ev x=some (pP (ixA v e.sz j.toNat))) (h:L.ev y=some u) (k:St S w0 w os) (hi:os[i]? = some (own e v l)) (m:aA l j=some t') (o:e.cells t=[u]) :
  OpY P n L w ⟨none,.store T x y,ty,pos,after,none⟩ (fun w'=>St S w0 w' (os.set i (own e v (l.set j.toNat t)))):=
 pG f g h o k hi (ew m).2.1
theorem x8 {x y:Operand} {T:TypeId} {k:IntKind} {lo:Int} {l r:L1} (f:P.underlying T=some .string)
  (g:L.ev x=some (vS l)) (h:L.ev y=some (.int k lo)) (i:drO l lo=some r) :
  OpV P n L w ⟨d,.slice T x (some y) none none,ty,pos,after,none⟩ (vS r) w:=by
 obtain⟨⟨j,m⟩,rfl⟩:=ia i
 exact zV f g h j m
section
variable {T E:TypeId} {τ:Type} {e:Enc τ} {v:Value} {l r:List τ} {z0:Value} {bytes:Nat}
theorem z7 {x y z:Operand} {k g:IntKind} {lo hi:Int} (i:P.underlying T=some (.slice E)) (j:TI P E z0 e.sz bytes)
  (m:L.ev x=some v) (o:L.ev y=some (.int k lo)) (q:L.ev z=some (.int g hi)) (h:RO w e v l) (f:slO l lo hi=some r) :
  OpV P n L w ⟨d,.slice T x (some y) (some z) none,ty,pos,after,none⟩ (slV v e.sz lo.toNat hi.toNat) w:=
 B3 i j m o q h (dI f).1.1 (dI f).1.2.1 (dI f).1.2.2
theorem pr {x y:Operand} {k:IntKind} {lo:Int} (g:P.underlying T=some (.slice E)) (i:TI P E z0 e.sz bytes)
  (j:L.ev x=some v) (m:L.ev y=some (.int k lo)) (h:RO w e v l) (f:drO l lo=some r) :
  OpV P n L w ⟨d,.slice T x (some y) none none,ty,pos,after,none⟩ (slV v e.sz lo.toNat l.length) w:=
 BA g i j m h (ia f).1.1 (ia f).1.2
theorem jH {x z:Operand} {k:IntKind} {hi:Int} (g:P.underlying T=some (.slice E)) (i:TI P E z0 e.sz bytes)
  (j:L.ev x=some v) (m:L.ev z=some (.int k hi)) (h:RO w e v l) (f:tkO l hi=some r) :
  OpV P n L w ⟨d,.slice T x none (some z) none,ty,pos,after,none⟩ (slV v e.sz 0 hi.toNat) w:=
 AQ g i j m h (jW f).1.1 (jW f).1.2
theorem RO.g_sl {lo hi:Int} (h:RO w e v l) (f:slO l lo hi=some r):RO w e (slV v e.sz lo.toNat hi.toNat) r:=by
 obtain⟨⟨i,j,g⟩,rfl⟩:=dI f
 exact h.sub (by omega) g
theorem RO.g_sll {lo:Int} (h:RO w e v l) (f:drO l lo=some r):RO w e (slV v e.sz lo.toNat l.length) r:=by
 obtain⟨⟨i,g⟩,rfl⟩:=ia f
 exact h.subl g
theorem RO.g_slh {hi:Int} (h:RO w e v l) (f:tkO l hi=some r):RO w e (slV v e.sz 0 hi.toNat) r:=by
 obtain⟨⟨i,g⟩,rfl⟩:=jW f
 exact h.subh g
theorem RP.g_sl {lo hi:Int} (h:RP S w e v l) (f:slO l lo hi=some r):RP S w e (slV v e.sz lo.toNat hi.toNat) r:=by
 obtain⟨⟨i,j,g⟩,rfl⟩:=dI f
 exact h.sub (by omega) g
theorem RP.g_sll {lo:Int} (h:RP S w e v l) (f:drO l lo=some r):RP S w e (slV v e.sz lo.toNat l.length) r:=by
 obtain⟨⟨i,g⟩,rfl⟩:=ia f
 exact h.subl g
theorem RP.g_slh {hi:Int} (h:RP S w e v l) (f:tkO l hi=some r):RP S w e (slV v e.sz 0 hi.toNat) r:=by
 obtain⟨⟨i,g⟩,rfl⟩:=jW f
 exact h.subh g
theorem RP.nil (S:L2) (w:World):RP S w e (.slice none 0 0) ([]:List τ):=⟨RO.nil w e,by simp[Value.ownBlock]⟩
end
theorem c9 {T E:TypeId} {x y:Operand} {k g:IntKind} {l c:Int} {τ:Type} {e:Enc τ} {f:τ} {r:List τ} {z:Value} {bytes:Nat} (h:P.underlying T=some (.slice E)) (i:TI P E z e.sz bytes) (j:z.cells.toList=e.cells f)
  (m:L.ev x=some (.int k l)) (o:L.ev y=some (.int g c)) (q:St S w0 w os) (t:mkO bytes l c f=some r) :
  OpX P n L w ⟨d,.makeSlice T x y,ty,pos,after,none⟩ (fun v w'=>St S w0 w' (own e v r :: os)):=by
 obtain⟨rfl,A,B,F,G⟩:=zw t
 exact zA h i j m o q A B F G
theorem dN {x y:Operand} {T E:TypeId} {τ:Type} {e:Enc τ} {z:Value} {bytes:Nat} {v u:Value} {l m r:List τ} {i:Nat} (g:P.underlying T=some (.slice E)) (h:TI P E z e.sz bytes) (f:(Nat.beq z.cells.size e.sz&&Nat.ble bytes 65536&&Nat.blt 0 bytes)=true)
  (j:L.ev x=some v) (k:L.ev y=some u) (o:St S w0 w os) (hi:os[i]? = some (own e v l)) (q:RO w e u m) (t:apO bytes l m=some r) :
  OpX P n L w ⟨d,.call ⟨.builtin .append,#[x,y],#[T,T]⟩,ty,pos,after,none⟩ (fun A w'=>St S w0 w' (os.set i (own e A r))):=by
 obtain⟨rfl,B⟩:=o3 t
 simp only[Bool.and_eq_true,Nat.blt_eq]at f
 exact wM g h (Nat.eq_of_beq_eq_true f.1.1) (Nat.le_of_ble_eq_true f.1.2) f.2 j k o hi q B
theorem jm {x y:Operand} {T E:TypeId} {τ:Type} {e:Enc τ} {z:Value} {bytes:Nat} {u:Value} {m r:List τ} (g:P.underlying T=some (.slice E)) (h:TI P E z e.sz bytes) (f:(Nat.beq z.cells.size e.sz&&Nat.ble bytes 65536&&Nat.blt 0 bytes)=true)
  (i:L.ev x=some (.slice none 0 0)) (j:L.ev y=some u) (k:St S w0 w os) (o:RO w e u m) (q:apO bytes [] m=some r) :
  OpX P n L w ⟨d,.call ⟨.builtin .append,#[x,y],#[T,T]⟩,ty,pos,after,none⟩ (fun t w'=>St S w0 w' (own e t r :: os)):=by
 obtain⟨rfl,A⟩:=o3 q
 simp only[Bool.and_eq_true,Nat.blt_eq]at f
 exact uN g h (Nat.eq_of_beq_eq_true f.1.1) (Nat.le_of_ble_eq_true f.1.2) f.2 i j k o (by simpa using A)
theorem St.call {w':World} {os':List OE} (h:St S w0 w os) (t:St [] w w' os'):St S w0 w' (os'++os):=by
 have F:Fr [] w w':=t.fr
 have y:∀o∈os',∀k,o.blk=some k->w.heap.size<=k:=fun o i k z=>by
  rcases ((t.ok o i).lt z).2 with f | f
  ·exact f
  ·simp at f
 refine⟨h.fr.step F (by simp),fun o i=>?_,?_⟩
 ·rcases List.mem_append.1 i with i | i
  ·have j:=t.ok o i
   have V:=h.fr.size
   cases o with
   | sl v sz m cs=>
    refine⟨j.1,?_⟩
    rcases j.2 with A | ⟨g,G,I,T,B,q,rest⟩
    ·exact .inl A
    ·refine .inr ⟨g,G,I,T,B,.inl ?_,rest⟩
     rcases q with f | f
     ·omega
     ·simp at f
   | rd v sz m cs=>
    obtain⟨M,a,c,B,hc,N⟩:=j
    refine⟨M,a,c,B,hc,fun A=>?_⟩
    obtain⟨b,off,f,J,x,O⟩:=N A
    refine⟨b,off,f,J,.inl ?_,O⟩
    rcases x with x | x
    ·omega
    ·simp at x
   | bx b cs=>
    obtain⟨q,R⟩:=j
    refine⟨.inl ?_,R⟩
    rcases q with f | f
    ·omega
    ·simp at f
  ·exact (h.ok o i).fr F (by simp)
 ·rw[List.pairwise_append]
  refine⟨t.dj,h.dj,fun o i p U k z K=>?_⟩
  have f:=y o i k z
  have J:=((h.ok p U).lt K).1
  omega
theorem St.pick {os':List OE} (h:St S w0 w os) (f:L2) (O:f.Nodup) (z:os'.map some=f.map (fun i=>os[i]?)):St S w0 w os':=by
 have R:os'.length=f.length:=by have:=congrArg List.length z; simpa using this
 have g:∀k (t:k<os'.length),∃(j:k<f.length),os[f[k]]? = some os'[k]:=fun k t=>by
  have m:(os'.map some)[k]? = (f.map (fun i=>os[i]?))[k]?:=by rw[z]
  have j:k<f.length:=by omega
  simp[t,j]at m
  exact⟨j,m.symm⟩
 refine⟨h.fr,fun o U=>?_,?_⟩
 ·obtain⟨k,t,rfl⟩:=List.getElem_of_mem U
  obtain⟨j,m⟩:=g k t
  exact h.ok _ (List.mem_of_getElem? m)
 ·rw[List.pairwise_iff_getElem]
  intro a b V X A
  obtain⟨B,m⟩:=g a V
  obtain⟨F,Y⟩:=g b X
  have G:f[a]≠f[b]:=by
   have:=List.pairwise_iff_getElem.1 O a b B F A
   exact this
  have I:∀x y (Z:x<os.length) (hy:y<os.length),x<y->(os[x]).dj (os[y]):=List.pairwise_iff_getElem.1 h.dj
  obtain⟨J,K⟩:=List.getElem?_eq_some_iff.1 m
  obtain⟨M,N⟩:=List.getElem?_eq_some_iff.1 Y
  rcases Nat.lt_or_gt_of_ne G with q | q
  ·have:=I _ _ J M q; rw[K,N]at this; exact this
  ·have:=I _ _ M J q; rw[K,N]at this; exact this.symm
def ndB:L2->Bool
 | []=>true
 | x :: l=>!(l.any (Nat.beq x))&&ndB l
theorem rF:∀l:L2,ndB l=true->l.Nodup
 | [],_=>List.nodup_nil
 | x :: l,h=>by
  unfold ndB at h
  rw[Bool.and_eq_true]at h
  refine List.nodup_cons.2 ⟨fun g=>?_,rF l h.2⟩
  have f:=h.1
  rw[List.any_eq_true.2 ⟨x,g,Nat.beq_refl x⟩]at f
  cases f
theorem St.pk {os':List OE} (h:St S w0 w os) (f:L2) (g:ndB f=true) (j:os'.map some=f.map (fun i=>os[i]?)):St S w0 w os':=h.pick f (rF f g) j
theorem St.drew (h:St S w0 w os):St S w0 w.drew os:=h.step (Fr.drew [] w)
theorem St.nil {τ:Type} (e:Enc τ) (h:St S w0 w os):St S w0 w (own e (.slice none 0 0) ([]:List τ) :: os):=
 ⟨h.fr,fun o f=>by
  rcases List.mem_cons.1 f with rfl | f
  ·exact⟨by simp,.inl ⟨rfl,rfl⟩⟩
  ·exact h.ok o f,List.Pairwise.cons (fun p _ k g=>by simp[OE.blk,Value.ownBlock]at g) h.dj⟩
theorem kr {ops:Array Oper} {o:Oper} {a:Act} {j:Nat} {f b:Bool} {t:Tmp} (g:Rep n L a) (h:o.guard=some (j,f)) (i:(ops[j]?).bind (·.dst)=some t) (k:L.get t=some (vB b)) :
  Region.wanted o (yielded ops a.tmps)=(b == f):=by
 have:=g.get t _ k
 simp[Region.wanted,h,yielded,i,this]
theorem bB {ops:Array Oper} {rest:List Oper} {d:Nat} {g:Op} {v:Value} {w':World} {j:Nat} {f:Bool} {t:Tmp}
  (k:(ops[j]?).bind (·.dst)=some t) (m:L.get t=some (vB f))
  (o:OpV P n L w ⟨some d,g,ty,pos,after,none⟩ v w') (q:Nat.blt d n=true)
  (h:wpR P n ops Q rest ((d,v) :: L) w'):wpR P n ops Q (⟨some d,g,ty,pos,after,some (j,f)⟩ :: rest) L w:=fun a i=>by
 unfold wpList
 rw[if_pos (by rw[kr i rfl k m]; simp)]
 refine .inl ?_
 have:=o a i
 unfold Oper.wp
 have x:execOp a.eval ⟨some d,g,ty,pos,after,some (j,f)⟩=execOp a.eval ⟨some d,g,ty,pos,after,none⟩:=by cases g <;> rfl
 rw[x,this]
 exact h _ (i.put q)
theorem cw {ops:Array Oper} {rest:List Oper} {d:Nat} {f:FuncId} {xs:List Operand} {o:Array TypeId} {vs:List Value} {φ:Value->World->Prop} {j:Nat} {g:Bool} {t:Tmp}
  (q:(ops[j]?).bind (·.dst)=some t) (x:L.get t=some (vB g))
  (y:gE P f=true) (i:L.evs xs=some vs) (hc:Calls P f vs.toArray w (Ret φ)) (z:Nat.blt d n=true)
  (k:∀v w',φ v w'->wpR P n ops Q rest ((d,v) :: L) w'):wpR P n ops Q (⟨some d,.call ⟨.value (.func f),xs.toArray,o⟩,ty,pos,after,some (j,g)⟩ :: rest) L w:=fun a m=>by
 unfold wpList
 rw[if_pos (by rw[kr m rfl q x]; simp)]
 exact .inl (qC rfl y (m.evs i) hc fun v w' h=>k v w' h _ (m.put z))
theorem bf {ops:Array Oper} {rest:List Oper} {d:Nat} {f:FuncId} {xs:List Operand} {i:Array TypeId} {vs:List Value} {V:Value} {os':List OE}
  (j:St S w0 w os) (g:L.evs xs=some vs) (hc:Calls P f vs.toArray w (Ret fun v w'=>v=V/\St [] w w' os')) (m:Nat.blt d n=true)
  (k:∀w',St S w0 w' (os'++os)->wpR P n ops Q rest ((d,V) :: L) w') (o:gE P f=true:=by kernel_rfl):wpR P n ops Q (⟨some d,.call ⟨.value (.func f),xs.toArray,i⟩,ty,pos,after,none⟩ :: rest) L w:=
 iU o g hc m fun v w' ⟨e,h⟩=>by subst e; exact k w' (j.call h)
theorem eI {ops:Array Oper} {rest:List Oper} {d:Nat} {f:FuncId} {xs:List Operand} {i:Array TypeId} {vs:List Value} {α:Type} {V:α->Value} {os':α->List OE}
  (j:St S w0 w os) (g:L.evs xs=some vs) (hc:Calls P f vs.toArray w (Ret fun v w'=>∃a,v=V a/\St [] w w' (os' a))) (m:Nat.blt d n=true)
  (k:∀a w',St S w0 w' (os' a++os)->wpR P n ops Q rest ((d,V a) :: L) w') (o:gE P f=true:=by kernel_rfl):wpR P n ops Q (⟨some d,.call ⟨.value (.func f),xs.toArray,i⟩,ty,pos,after,none⟩ :: rest) L w:=
 iU o g hc m fun v w' ⟨a,e,h⟩=>by subst e; exact k a w' (j.call h)
theorem bE {ops:Array Oper} {rest:List Oper} {d:Nat} {f:FuncId} {xs:List Operand} {i:Array TypeId} {vs:List Value} {α β:Type} {V:α->β->Value} {os':α->β->List OE}
  (j:St S w0 w os) (g:L.evs xs=some vs) (hc:Calls P f vs.toArray w (Ret fun v w'=>∃a,∃b,v=V a b/\St [] w w' (os' a b))) (m:Nat.blt d n=true)
  (k:∀a b w',St S w0 w' (os' a b++os)->wpR P n ops Q rest ((d,V a b) :: L) w') (o:gE P f=true:=by kernel_rfl):wpR P n ops Q (⟨some d,.call ⟨.value (.func f),xs.toArray,i⟩,ty,pos,after,none⟩ :: rest) L w:=
 iU o g hc m fun v w' ⟨a,b,e,h⟩=>by subst e; exact k a b w' (j.call h)
theorem aV {ops:Array Oper} {rest:List Oper} {d:Nat} {f:FuncId} {xs:List Operand} {i:Array TypeId} {vs:List Value} {os':Value->List OE}
  (j:St S w0 w os) (g:L.evs xs=some vs) (hc:Calls P f vs.toArray w (Ret fun v w'=>St [] w w' (os' v))) (m:Nat.blt d n=true)
  (k:∀v w',St S w0 w' (os' v++os)->wpR P n ops Q rest ((d,v) :: L) w') (o:gE P f=true:=by kernel_rfl):wpR P n ops Q (⟨some d,.call ⟨.value (.func f),xs.toArray,i⟩,ty,pos,after,none⟩ :: rest) L w:=
 iU o g hc m fun v w' h=>k v w' (j.call h)
theorem dQ {ops:Array Oper} {rest:List Oper} {d:Nat} {f:FuncId} {xs:List Operand} {i:Array TypeId} {vs:List Value} {V:Value} {A:Prop} {os':List OE}
  (j:St S w0 w os) (g:L.evs xs=some vs) (hc:Calls P f vs.toArray w (Ret fun v w'=>v=V/\A/\St [] w w' os')) (m:Nat.blt d n=true)
  (k:A->∀w',St S w0 w' (os'++os)->wpR P n ops Q rest ((d,V) :: L) w') (o:gE P f=true:=by kernel_rfl):wpR P n ops Q (⟨some d,.call ⟨.value (.func f),xs.toArray,i⟩,ty,pos,after,none⟩ :: rest) L w:=
 iU o g hc m fun v w' ⟨e,q,h⟩=>by subst e; exact k q w' (j.call h)
theorem eA {ops:Array Oper} {C D:World->Prop} {fl:Nat->Bool} {i:Nat} {r:L2} {d:Nat} {g:Op} {v:Value} {j:Nat} {f:Bool} {t:Tmp} (o:C w) (q:ops[i]? = some ⟨some d,g,ty,pos,after,some (j,f)⟩) (x:fl i=true)
  (y:(ops[j]?).bind (·.dst)=some t) (z:L.get t=some (vB f))
  (A:∀w,C w->OpV P n L w ⟨some d,g,ty,pos,after,none⟩ v w) (B:Nat.blt d n=true) (h:lxE P n ops C D Q fl r ((d,v) :: L) w):lxE P n ops C D Q fl (i :: r) L w:=fun a k=>by
 refine⟨o,?_⟩
 simp only[q,x,if_true]
 have F:execOp a.eval ⟨some d,g,ty,pos,after,some (j,f)⟩=execOp a.eval ⟨some d,g,ty,pos,after,none⟩:=by cases g <;> rfl
 exact⟨v,.inl (.inl ⟨by rw[kr k rfl y z]; simp,fun w' m=>by rw[F]; exact A w' m a k⟩),h _ (k.put B)⟩
theorem dc {ops:Array Oper} {C D:World->Prop} {fl:Nat->Bool} {i:Nat} {r:L2} {d:Nat} {m:Op} {j:Nat} {f b:Bool} {t:Tmp} (o:C w) (q:ops[i]? = some ⟨some d,m,ty,pos,after,some (j,f)⟩) (x:fl i=true)
  (y:(ops[j]?).bind (·.dst)=some t) (z:L.get t=some (vB b)) (g:(b == f)=false) (A:Nat.blt d n=true) (h:lxE P n ops C D Q fl r ((d,undef) :: L) w):lxE P n ops C D Q fl (i :: r) L w:=fun a k=>by
 refine⟨o,?_⟩
 simp only[q,x,if_true]
 exact⟨undef,.inl (.inr ⟨by rw[kr k rfl y z,g],rfl⟩),h _ (k.put A)⟩
theorem aB {f:FuncId} {g:Func} {c:Code} {vs:List Value} {φ:Value->World->Prop} (n:Nat) (i:P.funcs[f]? = some g) (j:g.body=some c) (k:g.ntmps=n) (m:Nat.ble vs.length n=true)
  (h:wpC P n c (bodyPost P g (Ret φ)) (k6 0 vs) w):Calls P f vs.toArray w (Ret φ):=by
 subst k
 exact z6 i j m h
theorem aT {σ ρ:Type} {c:Code} {r:ρ} (f:σ->Option (σ⊕ρ)) (I:σ->Env->World->Prop)
  (g:∀k s L w x,I s L w->(∀s' j w',I s' j w'->fk f k s'=some r->wpN P n c Q k j w')->f s=some x->lk f k r x->wpC P n c (Exit.then (Code.rounds P c Q k) Q) L w)
  (s:σ) (i:I s L w) (h:loop f s=some r):wpC P n (.loop c) Q L w:=by
 obtain⟨k,o⟩:=km h
 refine yQ k ?_
 have m:∀k s L w,I s L w->fk f k s=some r->wpN P n c Q k L w:=by
  intro k
  induction k with
  | zero=>intro s L w _ h; simp[fk]at h
  | succ k ih=>
   intro s L w i h
   obtain⟨x,q,t⟩:=AW h
   exact zH (g k s L w x i ih q t)
 exact m k s L w i o
theorem a8 {γ ρ:Type} {x y:Code} {r:ρ} (J:γ->Env->World->Prop) (f:γ->Option ρ)
  (h:∀g L w,J g L w->f g=some r->wpC P n y Q L w)
  (i:(∀g L w,J g L w->f g=some r->wpC P n y Q L w)->wpC P n x (Exit.then (y.wp P Q) Q) L w):wpC P n (.seq x y) Q L w:=
 aw (i h)
end
end Go.Gk
end

section
namespace Go.Gk
open Go Go.RowKit
section
variable {P:Program} {n:Nat} {L:Env} {w w0:World} {Q:Exit->Act->World->Prop} {S:L2} {os:List OE}
variable {d:Option Tmp} {ty:TypeId} {pos:String} {after:Array Edge}
structure ExtF (P:Program) (f:FuncId) (e:Array Value->Sem Value):Prop where
 fn : ∃ fn, P.funcs[f]? = some fn /\ fn.body.isNone = true /\ (fn.name == "runtime.NumGoroutine") = false /\ (Extern.findNext fn).isNone = true /\ Extern.find fn = some e
end
end Go.Gk
end

section
namespace Go.Gk
open Go Go.RowKit
section
variable {P:Program} {n:Nat} {L:Env} {w w0:World} {Q:Exit->Act->World->Prop} {S:L2} {os:List OE}
variable {d:Option Tmp} {ty:TypeId} {pos:String} {after:Array Edge}
theorem jD {τ:Type} {e:Enc τ} {v:Value} {l:List τ} (h:RO w e v l) (k:Nat) (q:k<=l.length) :
  (Builtin.firstCells e.sz k v).run P w=.ok (e.fl (l.take k)).toArray w:=by
 obtain⟨a,c,rfl,hc,o⟩:=h
 cases a with
 | none=>
  have f:l=[]:=by
   cases l with
   | nil=>rfl
   | cons x r=>obtain⟨b,off,h,_⟩:=o (by simp); cases h
  subst f
  simp[Builtin.firstCells,Enc.fl]
 | some p=>
  by_cases f:l=[]
  ·subst f
   have:k=0:=by simpa using q
   subst this
   simp[Builtin.firstCells,loadCells,loadCellsFrom,Enc.fl]
  ·obtain⟨b,off,t,g⟩:=o f
   cases t
   have m:(e.fl (l.take k)).length=k*e.sz:=by rw[e.fl_length,List.length_take]; congr 1; omega
   have:=run_loadCells_list (P:=P) w ⟨b,off,none⟩ (e.fl (l.take k)) (fun j u i=>by
    rw[d6]
    rw[e.fl_take,List.getElem?_take]at i
    split at i
    ·exact g j u i
    ·cases i)
   rw[m]at this
   exact this
theorem uL {T T2 E ty:TypeId} {τ:Type} {e:Enc τ} {z:Value} {bytes:Nat} {v u:Value} {l m:List τ} {B lo hi:Nat} (K:P.underlying T=some (.slice E)) (hE:TI P E z e.sz bytes) (f:e.sz=1)
  (M:(own e v l).ok S B w) (R:RO w e u m) (N:lo<=hi) (G:hi<=l.length) :
  ∃w',(Builtin.copy_ #[T,T2] ty #[slV v e.sz lo hi,u]).run P w=.ok (vI (min m.length (hi - lo):Nat)) w'/\(own e v (cpL l m lo hi)).ok S B w'/\Fr (own e v l).blk.toList w w':=by
 obtain⟨a6,x,_,O,_⟩:=hE.get
 have y:=jD (P:=P) R (min m.length (hi - lo)) (Nat.min_le_left _ _)
 obtain⟨ua,uc,rfl,bx,b2⟩:=R
 have A:cpL l m lo hi=l.take lo++m.take (min m.length (hi - lo))++l.drop (lo+min m.length (hi - lo)):=by
  unfold cpL
  congr 2
  by_cases h:m.length<=hi - lo
  ·rw[Nat.min_eq_left h,List.take_of_length_le h,List.take_of_length_le (Nat.le_refl _)]
  ·rw[Nat.min_eq_right (by omega)]
 rcases M.2 with⟨rfl,hn⟩ | ⟨g,j,k,U,rfl,V,X,Y,Z,J,q⟩
 ·have hl:l=[]:=List.eq_nil_of_length_eq_zero hn
  subst hl
  have e1:hi=0:=by simpa using G
  have e2:lo=0:=by omega
  subst e1 e2
  have o:slV (.slice none 0 0) e.sz 0 0=.slice none 0 0:=rfl
  refine⟨w,?_,?_,Fr.refl _ _⟩
  ·rw[o]
   simp at y
   simp[Builtin.copy_,run_underlying K,Builtin.lenOf,sizeOf,typeInfo,x,O,y,goInt]
  ·rw[A]; simpa using M
 ·have ab:e.fl (m.take (min m.length (hi - lo)))=(e.fl m).take (min m.length (hi - lo)):=by rw[e.fl_take,f,Nat.mul_one]
  have i:(e.fl (m.take (min m.length (hi - lo)))).length=min m.length (hi - lo):=by rw[e.fl_length,f]; simp
  have a4:lo+min m.length (hi - lo)<=k.size:=by rw[f]at J; omega
  by_cases hcl:j=lo
  ·-- nothing can be laid
   have hz:hi - lo=0:=by omega
   refine⟨w,?_,?_,Fr.refl _ _⟩
   ·have o:slV (.slice (some ⟨g,0,none⟩) l.length j) e.sz lo hi=.slice (some ⟨g,0,none⟩) (hi - lo) (j - lo):=by simp[slV,hcl]
    rw[o]
    simp only[hz,Nat.min_zero]at y ⊢
    simp[Builtin.copy_,run_underlying K,Builtin.lenOf,sizeOf,typeInfo,x,O,y,goInt,Enc.fl,storeCells]
   ·rw[A,hz]; simpa using M
  ·have o:slV (.slice (some ⟨g,0,none⟩) l.length j) e.sz lo hi=.slice (some ⟨g,lo,none⟩) (hi - lo) (j - lo):=by simp[slV,hcl,d6,f]
   have F:=eL P g lo U (e.fl (m.take (min m.length (hi - lo)))) 0 k w X (by rw[i]; omega) (e.fl_one _)
   simp only[Nat.add_zero]at F
   obtain⟨I,t⟩:∃I,I=(k.toList.take lo++e.fl (m.take (min m.length (hi - lo)))++k.toList.drop (lo+(e.fl (m.take (min m.length (hi - lo)))).length)).toArray:=⟨_,rfl⟩
   rw[<-t]at F
   refine⟨w.setRow g I,?_,⟨e.fl_length _,.inr ⟨g,j,I,U,?_,V,X.set _ ?_,?_,Z,?_,?_⟩⟩,Fr.setRow w g _⟩
   ·rw[o]
    simp[Builtin.copy_,run_underlying K,Builtin.lenOf,sizeOf,typeInfo,x,O,y,F,goInt]
   ·rw[fD l m lo hi N G]
   ·rw[t]
    simp only[List.size_toArray,List.length_append,List.length_take,List.length_drop,Array.length_toList,i]
    omega
   ·rw[fD l m lo hi N G]; exact Y
   ·rw[t]
    simp only[List.size_toArray,List.length_append,List.length_take,List.length_drop,Array.length_toList,i,f]at J ⊢
    omega
   ·rw[fD l m lo hi N G,A,e.fl_append,e.fl_append]
    have e3:k.toList.take lo=e.fl (l.take lo):=by
     rw[e.fl_take,<-q,List.take_take,f]; congr 1; omega
    rw[t,e3,i]
    simp only[List.toList_toArray]
    rw[List.take_append]
    have e4:(e.fl (l.take lo)++e.fl (m.take (min m.length (hi - lo)))).length=lo+min m.length (hi - lo):=by
     rw[List.length_append,i,e.fl_length,f,List.length_take]; omega
    rw[List.take_of_length_le (by rw[e4,f]; omega),e4]
    congr 1
    rw[e.fl_drop,<-q,f,List.take_drop]
    simp only[Nat.mul_one]
    congr 1
    congr 1
    omega
theorem Ae {v:Value} {τ:Type} {e:Enc τ} {l:List τ} (h:RO w e v l):slV v e.sz 0 l.length=v:=by
 obtain⟨a,c,rfl,hc,f⟩:=h
 simp only[slV,Nat.sub_zero,Nat.zero_mul]
 congr 1
 split
 ·rfl
 ·cases a <;> simp[Addr.add]
theorem ul {x y:Operand} {T T2 E:TypeId} {τ:Type} {e:Enc τ} {z:Value} {bytes:Nat} {v u:Value} {l m:List τ} {i lo hi:Nat} (o:P.underlying T=some (.slice E)) (q:TI P E z e.sz bytes) (g:e.sz=1)
  (t:L.ev x=some (slV v e.sz lo hi)) (A:L.ev y=some u) (h:St S w0 w os) (f:os[i]? = some (own e v l)) (B:RO w e u m) (F:lo<=hi) (G:hi<=l.length) :
  OpX P n L w ⟨d,.call ⟨.builtin .copy,#[x,y],#[T,T2]⟩,ty,pos,after,none⟩ (fun r w'=>r=vI (min m.length (hi - lo):Nat)/\St S w0 w' (os.set i (own e v (cpL l m lo hi)))):=by
 obtain⟨w',I,J,K⟩:=uL (T2:=T2) (ty:=ty) o q g (h.ok _ (List.mem_of_getElem? f)) B F G
 refine fx _ w' (fun a j=>?_) ⟨rfl,h.set f K J fun k M=>.inl M⟩
 simp[execOp,resolve,invoke,builtin,j.ev t,j.ev A,I]
theorem ql {x y:Operand} {T T2 E:TypeId} {τ:Type} {e:Enc τ} {z:Value} {bytes:Nat} {v u:Value} {l m:List τ} {i:Nat} (k:P.underlying T=some (.slice E)) (o:TI P E z e.sz bytes) (g:e.sz=1)
  (q:L.ev x=some v) (t:L.ev y=some u) (j:St S w0 w os) (f:os[i]? = some (own e v l)) (A:RO w e u m) :
  OpX P n L w ⟨d,.call ⟨.builtin .copy,#[x,y],#[T,T2]⟩,ty,pos,after,none⟩ (fun r w'=>r=vI (min m.length l.length:Nat)/\St S w0 w' (os.set i (own e v (cpL l m 0 l.length)))):=by
 have h:=ul (P:=P) (n:=n) (d:=d) (ty:=ty) (pos:=pos) (after:=after) (T2:=T2) (lo:=0) (hi:=l.length) k o g (by rw[Ae (j.ro i f)]; exact q) t j f A (Nat.zero_le _) (Nat.le_refl _)
 exact h
theorem yX {τ:Type} {e:Enc τ} {v:Value} {l:List τ} (h:RO w e v l) (k i:Nat):ixA (slV v e.sz 0 k) e.sz i=ixA v e.sz i:=by
 obtain⟨a,c,rfl,hc,f⟩:=h
 simp only[slV,Nat.zero_mul]
 cases a with
 | none=>split <;> rfl
 | some p=>
  have:p.add 0=p:=by simp[Addr.add]
  split <;> simp[ixA,this]
theorem RO.tk {τ:Type} {e:Enc τ} {v:Value} {l:List τ} (h:RO w e v l) {k:Nat} (f:k<=l.length):RO w e (slV v e.sz 0 k) (l.take k):=h.subh f
section
variable {T E:TypeId} {τ:Type} {e:Enc τ} {v:Value} {l r:List τ} {z0:Value} {bytes:Nat}
theorem mn {x z:Operand} {j:IntKind} {hi:Int} {k:Nat} (m:P.underlying T=some (.slice E)) (o:TI P E z0 e.sz bytes)
  (q:L.ev x=some (slV v e.sz 0 k)) (t:L.ev z=some (.int j hi)) (h:RO w e v l) (y:tkO l hi=some r) :
  OpV P n L w ⟨d,.slice T x none (some z) none,ty,pos,after,none⟩ (slV v e.sz 0 hi.toNat) w:=fun a g=>by
 obtain⟨⟨A,J⟩,_⟩:=jW y
 obtain⟨b,c,rfl,hc,_⟩:=h
 obtain⟨I,i,_,B,_⟩:=o.get
 have F:hi<=(c:Int):=by omega
 have f:L.ev x=some (.slice (if c=0 then b else b.map (·.add (0*e.sz))) (k - 0) (c - 0)):=q
 have G:(if c=0 then b else b.map (·.add (0*e.sz)))=b:=by
  split
  ·rfl
  ·cases b <;> simp[Addr.add]
 rw[G]at f
 simp[execOp,g.ev f,g.ev t,Instr.sliceAt,Instr.slice,run_underlying m,Instr.sliceBounds,run_sliceBound,A,F,sizeOf,typeInfo,i,B,slV]
theorem jl {x y:Operand} {f:IntKind} {i:Int} {t:τ} {k:Nat} (g:P.underlying T=some (.slice E)) (j:TI P E z0 e.sz bytes)
  (m:L.ev x=some (slV v e.sz 0 k)) (o:L.ev y=some (.int f i)) (h:RO w e v l) (q:k<=l.length) (z:aA (l.take k) i=some t) :
  OpV P n L w ⟨d,.indexAddr T x y,ty,pos,after,none⟩ (pP (ixA v e.sz i.toNat)) w:=by
 rw[<-yX h k]
 exact bk g j m o (h.tk q) z
end
theorem jp {τ:Type} {l:List τ} {k:Nat} {i:Int} {t:τ} (h:aA (l.take k) i=some t):aA l i=some t:=by
 unfold aA at h ⊢
 split at h
 ·rw[if_pos ‹_›]
  rw[List.getElem?_take]at h
  split at h
  ·exact h
  ·cases h
 ·cases h
end
end Go.Gk
end
