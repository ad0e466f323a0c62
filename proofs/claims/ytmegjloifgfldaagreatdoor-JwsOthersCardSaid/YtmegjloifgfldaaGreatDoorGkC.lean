import Derived.Test.YtmegjloifgfldaaGreatDoorGkS
import Derived.Laws.CopyOwn
import Derived.Laws.MakeOwn
import Derived.Laws.AppendOwn
import Derived.Great.BuildSlice
import Derived.Deep.Draws
import Derived.Laws.BytesArg
import Derived.Lib.Strings
import Derived.Laws.Slices
import Derived.Deep.Quiet
import Derived.KernelRfl
import Derived.Lib.ConvBytes
import Derived.Lib.Bytealg
set_option linter.unusedVariables false
set_option linter.unusedSimpArgs false
set_option linter.unusedSectionVars false

section
namespace Go.Gk
open Go Go.RowKit
structure Enc (τ:Type) where
 sz:Nat
 cells:τ->List Value
 len:∀t,(cells t).length=sz
 one:∀t,∀u∈cells t,u.oneCell'=true
def e8:Enc UInt8:=⟨1,fun x=>[v8 x],fun _=>rfl,fun _ u h=>by simp at h; subst h; rfl⟩
def e32:Enc UInt32:=⟨1,fun x=>[v32 x],fun _=>rfl,fun _ u h=>by simp at h; subst h; rfl⟩
def e64:Enc UInt64:=⟨1,fun x=>[v64 x],fun _=>rfl,fun _ u h=>by simp at h; subst h; rfl⟩
def eS:Enc (List UInt8):=⟨1,fun x=>[vS x],fun _=>rfl,fun _ u h=>by simp at h; subst h; rfl⟩
structure SV where
 a:Option Addr
 n:Nat
 c:Nat
abbrev SV.v (s:SV):Value:=.slice s.a s.n s.c
def eV:Enc SV:=⟨1,fun x=>[x.v],fun _=>rfl,fun _ u h=>by simp at h; subst h; rfl⟩
abbrev Enc.fl {τ:Type} (e:Enc τ) (l:List τ):List Value:=l.flatMap e.cells
theorem Enc.fl_length {τ:Type} (e:Enc τ) (l:List τ):(e.fl l).length=l.length*e.sz:=by
 induction l with
 | nil=>simp[Enc.fl]
 | cons a r ih=>
  simp only[Enc.fl,List.flatMap_cons,List.length_append,List.length_cons,e.len,Nat.add_mul]at ih ⊢
  omega
theorem Enc.fl_append {τ:Type} (e:Enc τ) (l m:List τ):e.fl (l++m)=e.fl l++e.fl m:=by simp[Enc.fl]
theorem Enc.fl_one {τ:Type} (e:Enc τ) (l:List τ):∀u∈e.fl l,u.oneCell'=true:=by
 intro u f
 simp only[Enc.fl,List.mem_flatMap]at f
 obtain⟨t,_,g⟩:=f
 exact e.one t u g
theorem Enc.fl_drop {τ:Type} (e:Enc τ) (l:List τ) (k:Nat):e.fl (l.drop k)=(e.fl l).drop (k*e.sz):=by
 induction k generalizing l with
 | zero=>simp
 | succ k ih=>
  cases l with
  | nil=>simp[Enc.fl]
  | cons a r=>
   rw[List.drop_succ_cons,ih]
   simp only[Enc.fl,List.flatMap_cons,Nat.add_mul,Nat.one_mul]
   rw[Nat.add_comm,<-List.drop_drop,<-e.len a,List.drop_left]
theorem Enc.fl_take {τ:Type} (e:Enc τ) (l:List τ) (k:Nat):e.fl (l.take k)=(e.fl l).take (k*e.sz):=by
 induction k generalizing l with
 | zero=>simp[Enc.fl]
 | succ k ih=>
  cases l with
  | nil=>simp[Enc.fl]
  | cons a r=>
   rw[List.take_succ_cons]
   simp only[Enc.fl,List.flatMap_cons,Nat.add_mul,Nat.one_mul]at ih ⊢
   rw[ih,Nat.add_comm (k*e.sz),List.take_append]
   simp[e.len,List.take_of_length_le]
theorem Enc.fl_get {τ:Type} (e:Enc τ) (l:List τ) (i:Nat) (t:τ) (h:l[i]? = some t) (j:Nat) (f:j<e.sz):(e.fl l)[i*e.sz+j]? = (e.cells t)[j]?:=by
 have g:(e.fl l)[i*e.sz+j]? = ((e.fl l).drop (i*e.sz))[j]?:=by rw[List.getElem?_drop]
 rw[g,<-e.fl_drop]
 have k:l.drop i=t :: l.drop (i+1):=by
  obtain⟨hi,he⟩:=List.getElem?_eq_some_iff.1 h
  rw[List.drop_eq_getElem_cons hi,he]
 rw[k]
 simp only[Enc.fl,List.flatMap_cons]
 rw[List.getElem?_append_left (by rw[e.len]; exact f)]
def RO (w:World) {τ:Type} (e:Enc τ) (v:Value) (l:List τ):Prop:=
 ∃a c,v=.slice a l.length c/\l.length<=c/\(l≠[]->∃b off,a=some ⟨b,off,none⟩/\∀j u,(e.fl l)[j]? = some u->w.cell? ⟨b,off+j,none⟩=some u)
structure Fr (S:List Nat) (w w':World):Prop where
 os:w'.os=w.os
 tape:w'.tape=w.tape
 output:w'.output=w.output
 size:w.heap.size<=w'.heap.size
 block:∀k,k<w.heap.size->k ∉ S->w'.heap[k]? = w.heap[k]?
theorem Fr.refl (S:List Nat) (w:World):Fr S w w:=⟨rfl,rfl,rfl,Nat.le_refl _,fun _ _ _=>rfl⟩
theorem Fr.trans {S:List Nat} {a b c:World} (h:Fr S a b) (k:Fr S b c):Fr S a c:=
 ⟨k.os.trans h.os,k.tape.trans h.tape,k.output.trans h.output,Nat.le_trans h.size k.size,fun i hi hn=>(k.block i (Nat.lt_of_lt_of_le hi h.size) hn).trans (h.block i hi hn)⟩
theorem Fr.step {S R:List Nat} {a b c:World} (h:Fr S a b) (k:Fr R b c) (g:∀x∈R,a.heap.size<=x\/x∈S):Fr S a c:=
 ⟨k.os.trans h.os,k.tape.trans h.tape,k.output.trans h.output,Nat.le_trans h.size k.size,fun i hi hn=>by
  refine (k.block i (Nat.lt_of_lt_of_le hi h.size) fun hx=>?_).trans (h.block i hi hn)
  rcases g i hx with f | f
  ·omega
  ·exact hn f⟩
theorem Fr.mono {S R:List Nat} {a b:World} (h:Fr S a b) (hs:∀x∈S,x∈R):Fr R a b:=
 ⟨h.os,h.tape,h.output,h.size,fun k f hn=>h.block k f fun hx=>hn (hs k hx)⟩
theorem Fr.below {w w':World} (h:Fr [] w w'):Below w.heap.size w w':=⟨h.os,h.tape,h.output,h.size,fun k f=>h.block k f (by simp)⟩
theorem Fr.alloc (S:List Nat) (w:World) (o:Obj):Fr S w (w.alloc o):=⟨rfl,rfl,rfl,by simp,fun k f _=>heap_alloc_old w o k f⟩
theorem Fr.drew (S:List Nat) (w:World):Fr S w w.drew:=⟨rfl,rfl,rfl,Nat.le_refl _,fun _ _ _=>rfl⟩
theorem Fr.setRow (w:World) (g:Nat) (cs:Array Value):Fr [g] w (w.setRow g cs):=by
 refine⟨rfl,rfl,rfl,by simp[World.setRow],fun k _ hn=>setRow_other w g k cs (by simpa using hn)⟩
theorem Fr.cell {S:List Nat} {w w':World} (h:Fr S w w') {p:Addr} (f:p.block<w.heap.size) (hs:p.block ∉ S):w'.cell? p=w.cell? p:=
 World.cell?_of_block (h.block p.block f hs)
theorem jw {w:World} {p:Addr} {u:Value} (h:w.cell? p=some u):p.block<w.heap.size:=World.block_lt_of_cell? w p h
abbrev uo (v:Value):Option Nat:=v.ownBlock
theorem RO.fr {S:List Nat} {w w':World} {τ:Type} {e:Enc τ} {v:Value} {l:List τ} (h:RO w e v l) (i:Fr S w w') (hs:l≠[]->∀k∈S,uo v≠some k):RO w' e v l:=by
 obtain⟨a,c,rfl,hc,o⟩:=h
 refine⟨a,c,rfl,hc,fun hl=>?_⟩
 obtain⟨b,off,rfl,f⟩:=o hl
 refine⟨b,off,rfl,fun j u t=>?_⟩
 have g:=f j u t
 rw[i.cell (jw g) (fun hx=>hs hl _ hx rfl)]
 exact g
def RP (S:List Nat) (w:World) {τ:Type} (e:Enc τ) (v:Value) (l:List τ):Prop:=RO w e v l/\(l≠[]->∀k∈S,uo v≠some k)
theorem RP.now {S:List Nat} {w w':World} {τ:Type} {e:Enc τ} {v:Value} {l:List τ} (h:RP S w e v l) (f:Fr S w w'):RO w' e v l:=h.1.fr f h.2
theorem RO.rp {w:World} {τ:Type} {e:Enc τ} {v:Value} {l:List τ} (h:RO w e v l):RP [] w e v l:=⟨h,by simp⟩
theorem RO.nil (w:World) {τ:Type} (e:Enc τ):RO w e (.slice none 0 0) ([]:List τ):=⟨none,0,rfl,Nat.le_refl _,fun h=>absurd rfl h⟩
def slV (v:Value) (sz lo hi:Nat):Value:=match v with
 | .slice a _ c=>.slice (if c=lo then a else a.map (·.add (lo*sz))) (hi - lo) (c - lo)
 | v=>v
def slV3 (v:Value) (sz lo hi m:Nat):Value:=match v with
 | .slice a _ _=>.slice (if m=lo then a else a.map (·.add (lo*sz))) (hi - lo) (m - lo)
 | v=>v
theorem dC (b off k:Nat):(⟨b,off,none⟩:Addr).add k=⟨b,off+k,none⟩:=by
 unfold Addr.add; split <;> simp_all
theorem RO.sub {w:World} {τ:Type} {e:Enc τ} {v:Value} {l:List τ} (h:RO w e v l) {lo hi:Nat} (B:lo<=hi) (F:hi<=l.length) :
  RO w e (slV v e.sz lo hi) ((l.drop lo).take (hi - lo)):=by
 obtain⟨a,c,rfl,hc,z⟩:=h
 have f:((l.drop lo).take (hi - lo)).length=hi - lo:=by simp; omega
 refine⟨if c=lo then a else a.map (·.add (lo*e.sz)),c - lo,by rw[f]; rfl,by rw[f]; omega,fun g=>?_⟩
 have hl:l≠[]:=by rintro rfl; simp at g
 have A:0<hi - lo:=by
  rcases Nat.eq_zero_or_pos (hi - lo) with o | o
  ·rw[o]at g; simp at g
  ·exact o
 obtain⟨b,off,rfl,k⟩:=z hl
 have t:¬c=lo:=by omega
 refine⟨b,off+lo*e.sz,by simp[t,dC],fun j u i=>?_⟩
 rw[e.fl_take,e.fl_drop,List.getElem?_take]at i
 split at i
 ·rw[List.getElem?_drop]at i
  have:=k _ _ i
  rw[Nat.add_assoc]
  exact this
 ·cases i
theorem RO.sub3 {w:World} {τ:Type} {e:Enc τ} {v:Value} {l:List τ} (h:RO w e v l) {lo hi m:Nat} (B:lo<=hi) (F:hi<=l.length) (G:hi<=m) :
  RO w e (slV3 v e.sz lo hi m) ((l.drop lo).take (hi - lo)):=by
 obtain⟨a,c,rfl,hc,z⟩:=h
 have f:((l.drop lo).take (hi - lo)).length=hi - lo:=by simp; omega
 refine⟨if m=lo then a else a.map (·.add (lo*e.sz)),m - lo,by rw[f]; rfl,by rw[f]; omega,fun g=>?_⟩
 have hl:l≠[]:=by rintro rfl; simp at g
 have A:0<hi - lo:=by
  rcases Nat.eq_zero_or_pos (hi - lo) with o | o
  ·rw[o]at g; simp at g
  ·exact o
 obtain⟨b,off,rfl,k⟩:=z hl
 have t:¬m=lo:=by omega
 refine⟨b,off+lo*e.sz,by simp[t,dC],fun j u i=>?_⟩
 rw[e.fl_take,e.fl_drop,List.getElem?_take]at i
 split at i
 ·rw[List.getElem?_drop]at i
  have:=k _ _ i
  rw[Nat.add_assoc]
  exact this
 ·cases i
def ixA (v:Value) (sz i:Nat):Addr:=match v with
 | .slice (some a) _ _=>a.add (i*sz)
 | _=>default
theorem RO.cellAt {w:World} {τ:Type} {e:Enc τ} {v:Value} {l:List τ} (h:RO w e v l) {i:Nat} {t:τ} (hi:l[i]? = some t) {j:Nat} (g:j<e.sz) {u:Value} (k:(e.cells t)[j]? = some u) :
  w.cell? ((ixA v e.sz i).add j)=some u:=by
 obtain⟨a,c,rfl,hc,o⟩:=h
 have hl:l≠[]:=by rintro rfl; simp at hi
 obtain⟨b,off,rfl,f⟩:=o hl
 have:=f (i*e.sz+j) u (by rw[e.fl_get l i t hi j g]; exact k)
 simp only[ixA,dC]
 rw[Nat.add_assoc]
 exact this
theorem RO.cellAt0 {w:World} {τ:Type} {e:Enc τ} {v:Value} {l:List τ} (h:RO w e v l) {i:Nat} {t:τ} (hi:l[i]? = some t) {u:Value} (f:e.cells t=[u]) :
  w.cell? (ixA v e.sz i)=some u:=by
 have g:e.sz=1:=by rw[<-e.len t,f]; rfl
 have:=h.cellAt hi (j:=0) (by omega) (u:=u) (by rw[f]; rfl)
 simpa [Addr.add] using this
def Row (w:World) (g:Nat) (cur:Array Value) (T:TypeId):Prop:=∃mk:Nat×Nat,w.heap[g]? = some (.cells cur T mk)/\(mk=(0,0)\/cur.size<=mk.1)
theorem Row.of {w:World} {g:Nat} {f:Array Value} {T:TypeId} (h:w.heap[g]? = some (.cells f T (0,0))):Row w g f T:=⟨_,h,.inl rfl⟩
theorem Row.new (w:World) (cs:Array Value) (T:TypeId):Row (w.alloc (.cells cs T)) w.heap.size cs T:=.of (heap_alloc_new w _)
theorem Row.lt {w:World} {g:Nat} {f:Array Value} {T:TypeId} (h:Row w g f T):g<w.heap.size:=by
 obtain⟨mk,h,_⟩:=h
 exact (Array.getElem?_eq_some_iff.1 h).1
theorem Row.cell {w:World} {g:Nat} {f:Array Value} {T:TypeId} (h:Row w g f T) (j:Nat):w.cell? ⟨g,j,none⟩=f[j]?:=by
 obtain⟨mk,h,_⟩:=h
 exact cell_of_row w g j f T mk h
theorem Row.mv {w w':World} {g:Nat} {f:Array Value} {T:TypeId} (h:Row w g f T) (he:w'.heap[g]? = w.heap[g]?):Row w' g f T:=by
 obtain⟨mk,h,hm⟩:=h
 exact⟨mk,he.trans h,hm⟩
theorem Row.set {w:World} {g:Nat} {f:Array Value} {T:TypeId} (h:Row w g f T) (cs:Array Value) (hc:cs.size=f.size):Row (w.setRow g cs) g cs T:=by
 obtain⟨mk,h,hm⟩:=h
 exact⟨mk,setRow_heap w g f cs T mk h,by rw[hc]; exact hm⟩
theorem ep (P:Program) (g o:Nat) (t:TypeId):∀(vs:List Value) (i:Nat) (f:Array Value) (w:World),Row w g f t->o+i+vs.length<=f.size->(∀v∈vs,v.oneCell'=true) ->
  (storeCells ⟨g,o,none⟩ vs i).run P w=.ok () (w.setRow g (f.toList.take (o+i)++vs++f.toList.drop (o+i+vs.length)).toArray)
 | [],i,f,w,hr,_,_=>by
  obtain⟨fz,hg,_⟩:=hr
  simp only[storeCells,List.append_nil,List.length_nil,Nat.add_zero,List.take_append_drop,Array.toArray_toList]
  rw[setRow_self w g f t fz hg]
  rfl
 | v :: rest,i,f,w,hr,hl,h1=>by
  have hi:o+i<f.size:=by simp at hl; omega
  have k:(⟨g,o,none⟩:Addr).add i=⟨g,o+i,none⟩:=by unfold Addr.add; split <;> simp_all
  have A:=hr.set (f.setIfInBounds (o+i) v) (by simp)
  obtain⟨fz,hg,h⟩:=hr
  have j:w.cell? ⟨g,o+i,none⟩=some f[o+i]:=by simp[World.cell?,hg,hi]
  have z:w.frozen? ⟨g,o+i,none⟩=false:=by
   rcases h with rfl | h
   ·simp[World.frozen?,hg]
   ·obtain⟨lo,G⟩:=fz
    simp only[World.frozen?,hg,Bool.and_eq_false_iff,decide_eq_false_iff_not]
    left
    simp only at h
    omega
  have B:(store ((⟨g,o,none⟩:Addr).add i) v).run P w=.ok () (w.setRow g (f.setIfInBounds (o+i) v)):=by
   rw[k,run_store P w _ v _ (h1 v (by simp)),j]
   simp[z,setCell_eq_setRow w g (o+i) f t fz v hg]
  have F:=ep P g o t rest (i+1) (f.setIfInBounds (o+i) v) (w.setRow g (f.setIfInBounds (o+i) v)) A (by simp at hl ⊢; omega) (fun x hx=>h1 x (by simp[hx]))
  simp only[storeCells,Sem.run_bind,B,Result.andThen_ok,F,setRow_setRow]
  congr 3
  have e:=list_seg_step f.toList (o+i) v rest (by simp at hl ⊢; omega)
  simpa [Array.toList_setIfInBounds,Nat.add_assoc] using e
inductive OE where
 | sl (v:Value) (sz n:Nat) (cs:List Value)
 | rd (v:Value) (sz n:Nat) (cs:List Value)
 | bx (b:Nat) (cs:List Value)
def OE.blk:OE->Option Nat
 | .sl v _ _ _=>uo v
 | .rd v _ n _=>if n=0 then none else uo v
 | .bx b _=>some b
def fre (S:List Nat) (B b:Nat):Prop:=B<=b\/b∈S
def OE.ok (S:List Nat) (B:Nat) (w:World):OE->Prop
 | .sl v sz n cs=>cs.length=n*sz/\((v=.slice none 0 0/\n=0) \/
   ∃g cap cur T,v=.slice (some ⟨g,0,none⟩) n cap/\fre S B g/\Row w g cur T/\n<=cap/\cap<=maxLen/\cap*sz<=cur.size/\cur.toList.take (n*sz)=cs)
 | .rd v sz n cs=>cs.length=n*sz/\∃a c,v=.slice a n c/\n<=c /\
   (n≠0->∃b off,a=some ⟨b,off,none⟩/\b<w.heap.size/\fre S B b/\∀j u,cs[j]? = some u->w.cell? ⟨b,off+j,none⟩=some u)
 | .bx b cs=>fre S B b/\∃T cur,w.heap[b]? = some (.cells cur T (0,0))/\cur.toList=cs
theorem OE.ok.lt {S:List Nat} {B:Nat} {w:World} {o:OE} (h:o.ok S B w) {k:Nat} (f:o.blk=some k):k<w.heap.size/\fre S B k:=by
 cases o with
 | sl v sz n cs=>
  rcases h.2 with⟨rfl,_⟩ | ⟨g,t,j,T,rfl,i,hg,_⟩
  ·simp[OE.blk,Value.ownBlock]at f
  ·simp[OE.blk,Value.ownBlock]at f
   subst f
   exact⟨hg.lt,i⟩
 | rd v sz n cs=>
  obtain⟨_,a,c,rfl,_,hx⟩:=h
  simp only[OE.blk]at f
  split at f
  ·cases f
  ·rename_i hn
   obtain⟨b,off,rfl,hb,i,_⟩:=hx hn
   simp[Value.ownBlock]at f
   subst f
   exact⟨hb,i⟩
 | bx b cs=>
  obtain⟨i,T,j,hg,_⟩:=h
  simp[OE.blk]at f
  subst f
  exact⟨(Array.getElem?_eq_some_iff.1 hg).1,i⟩
theorem OE.ok.fr {S R:List Nat} {B:Nat} {w w':World} {o:OE} (h:o.ok S B w) (t:Fr R w w') (F:∀k∈R,o.blk≠some k):o.ok S B w':=by
 cases o with
 | sl v sz n cs=>
  refine⟨h.1,?_⟩
  rcases h.2 with hn | ⟨g,I,f,T,rfl,i,hg,rest⟩
  ·exact .inl hn
  ·exact .inr ⟨g,I,f,T,rfl,i,hg.mv (t.block g hg.lt (fun hx=>F g hx rfl)),rest⟩
 | rd v sz n cs=>
  obtain⟨hl,a,c,rfl,hc,z⟩:=h
  refine⟨hl,a,c,rfl,hc,fun A=>?_⟩
  obtain⟨b,off,rfl,J,G,N⟩:=z A
  refine⟨b,off,rfl,Nat.lt_of_lt_of_le J t.size,G,fun j u O=>?_⟩
  have K:=N j u O
  rw[t.cell (jw K) (fun hx=>F _ hx (by simp[OE.blk,A,Value.ownBlock]))]
  exact K
 | bx b cs=>
  obtain⟨i,T,f,hg,M⟩:=h
  refine⟨i,T,f,?_,M⟩
  rw[t.block b (Array.getElem?_eq_some_iff.1 hg).1 (fun hx=>F b hx rfl)]
  exact hg
def OE.dj (o p:OE):Prop:=∀k,o.blk=some k->p.blk≠some k
theorem OE.dj.symm {o p:OE} (h:o.dj p):p.dj o:=fun k f g=>h k g f
structure St (S:List Nat) (w0 w:World) (os:List OE):Prop where
 fr:Fr S w0 w
 ok:∀o∈os,o.ok S w0.heap.size w
 dj:os.Pairwise OE.dj
theorem St.start (w:World):St [] w w []:=⟨Fr.refl _ _,by simp,List.Pairwise.nil⟩
theorem St.step {S:List Nat} {w0 w w':World} {os:List OE} (h:St S w0 w os) (f:Fr [] w w'):St S w0 w' os:=
 ⟨h.fr.step f (by simp),fun o g=>(h.ok o g).fr f (by simp),h.dj⟩
theorem St.push {S:List Nat} {w0 w w':World} {os:List OE} (h:St S w0 w os) (g:Fr [] w w') {o:OE} (j:o.ok S w0.heap.size w') (hn:∀k,o.blk=some k->w.heap.size<=k):St S w0 w' (o :: os):=by
 refine⟨h.fr.step g (by simp),?_,?_⟩
 ·intro p f
  rcases List.mem_cons.1 f with rfl | f
  ·exact j
  ·exact (h.ok p f).fr g (by simp)
 ·refine List.Pairwise.cons (fun p f k t i=>?_) h.dj
  have:=(h.ok p f).lt i
  have:=hn k t
  omega
theorem St.set {S:List Nat} {w0 w w':World} {os:List OE} (h:St S w0 w os) {i:Nat} {o o':OE} (hi:os[i]? = some o) (N:Fr o.blk.toList w w') (X:o'.ok S w0.heap.size w')
  (hn:∀k,o'.blk=some k->o.blk=some k\/w.heap.size<=k):St S w0 w' (os.set i o'):=by
 have O:=List.mem_of_getElem? hi
 refine⟨h.fr.step N fun x hx=>?_,?_,?_⟩
 ·cases hb:o.blk with
  | none=>rw[hb]at hx; simp at hx
  | some k=>
   rw[hb]at hx
   simp at hx
   subst hx
   exact ((h.ok o O).lt hb).2
 ·intro p Y
  obtain⟨j,g⟩:=List.getElem?_of_mem Y
  rw[List.getElem?_set]at g
  split at g
  ·split at g
   ·simp at g; subst g; exact X
   ·cases g
  ·rename_i R
   refine (h.ok p (List.mem_of_getElem? g)).fr N fun k f hb=>?_
   have A:∀x y (hx:x<os.length) (hy:y<os.length),x<y->(os[x]).dj (os[y]):=List.pairwise_iff_getElem.1 h.dj
   obtain⟨B,t⟩:=List.getElem?_eq_some_iff.1 hi
   obtain⟨J,K⟩:=List.getElem?_eq_some_iff.1 g
   have M:o.blk=some k:=by
    cases hbk:o.blk with
    | none=>rw[hbk]at f; simp at f
    | some q=>rw[hbk]at f; simp at f; rw[f]
   rcases Nat.lt_or_gt_of_ne R with F | F
   ·have:=A i j B J F; rw[t,K]at this; exact this k M hb
   ·have:=A j i J B F; rw[t,K]at this; exact this k hb M
 ·rw[List.pairwise_iff_getElem]
  intro x y hx hy G
  have A:∀x y (hx:x<os.length) (hy:y<os.length),x<y->(os[x]).dj (os[y]):=List.pairwise_iff_getElem.1 h.dj
  obtain⟨B,t⟩:=List.getElem?_eq_some_iff.1 hi
  simp only[List.length_set]at hx hy
  rw[List.getElem_set,List.getElem_set]
  split
  ·split
   ·omega
   ·rename_i U V
    subst U
    intro k f z
    rcases hn k f with I | I
    ·have:=A i y hx hy G; rw[t]at this; exact this k I z
    ·have:=((h.ok _ (List.getElem_mem hy)).lt z).1; omega
  ·split
   ·rename_i U V
    subst V
    intro k f z
    rcases hn k z with I | I
    ·have:=A x i hx hy G; rw[t]at this; exact this k f I
    ·have:=((h.ok _ (List.getElem_mem hx)).lt f).1; omega
   ·exact A x y hx hy G
theorem St.sub {S:List Nat} {w0 w:World} {os os':List OE} (h:St S w0 w os) (hs:os'.Sublist os):St S w0 w os':=
 ⟨h.fr,fun o f=>h.ok o (hs.subset f),h.dj.sublist hs⟩
abbrev own {τ:Type} (e:Enc τ) (v:Value) (l:List τ):OE:=.sl v e.sz l.length (e.fl l)
abbrev red {τ:Type} (e:Enc τ) (v:Value) (l:List τ):OE:=.rd v e.sz l.length (e.fl l)
theorem OE.ok.ro {S:List Nat} {B:Nat} {w:World} {τ:Type} {e:Enc τ} {v:Value} {l:List τ} (h:(own e v l).ok S B w):RO w e v l:=by
 rcases h.2 with⟨rfl,hn⟩ | ⟨g,k,t,T,rfl,z,hg,o,A,F,f⟩
 ·have:l=[]:=List.eq_nil_of_length_eq_zero hn
  subst this
  exact RO.nil w e
 ·refine⟨_,k,rfl,o,fun _=>⟨g,0,rfl,fun j u i=>?_⟩⟩
  rw[<-f,List.getElem?_take]at i
  split at i
  ·rw[Nat.zero_add,hg.cell j]
   simpa using i
  ·cases i
theorem OE.ok.rro {S:List Nat} {B:Nat} {w:World} {τ:Type} {e:Enc τ} {v:Value} {l:List τ} (h:(red e v l).ok S B w):RO w e v l:=by
 obtain⟨_,a,c,rfl,hc,f⟩:=h
 refine⟨a,c,rfl,hc,fun hl=>?_⟩
 obtain⟨b,off,g,_,_,i⟩:=f (by simpa using hl)
 exact⟨b,off,g,i⟩
theorem St.ro {S:List Nat} {w0 w:World} {os:List OE} (h:St S w0 w os) (i:Nat) {τ:Type} {e:Enc τ} {v:Value} {l:List τ} (hi:os[i]? = some (own e v l)):RO w e v l:=
 (h.ok _ (List.mem_of_getElem? hi)).ro
theorem St.rro {S:List Nat} {w0 w:World} {os:List OE} (h:St S w0 w os) (i:Nat) {τ:Type} {e:Enc τ} {v:Value} {l:List τ} (hi:os[i]? = some (red e v l)):RO w e v l:=
 (h.ok _ (List.mem_of_getElem? hi)).rro
end Go.Gk
end

section
namespace Go.Gk
open Go Go.RowKit
section
variable {P:Program} {n:Nat} {L:Env} {w:World} {Q:Exit->Act->World->Prop}
variable {d:Option Tmp} {ty:TypeId} {pos:String} {after:Array Edge}
theorem jg (l:List UInt8):(⟨⟨l⟩⟩:ByteArray).size=l.length:=rfl
def TI (P:Program) (E:TypeId) (z:Value) (sz bytes:Nat):Prop:=(P.info? E).map (fun i=>(i.zero,i.size,i.bytes))=some (some z,sz,bytes)
theorem TI.get {E:TypeId} {z:Value} {f bytes:Nat} (h:TI P E z f bytes):∃i,P.info? E=some i/\i.zero=some z/\i.size=f/\i.bytes=bytes:=by
 unfold TI at h
 cases hi:P.info? E with
 | none=>rw[hi]at h; cases h
 | some i=>
  rw[hi]at h
  simp only[Option.map_some,Option.some.injEq,Prod.mk.injEq]at h
  exact⟨i,rfl,h.1,h.2.1,h.2.2⟩
def OpX (P:Program) (n:Nat) (L:Env) (w:World) (o:Oper) (Φ:Value->World->Prop):Prop:=∃v w',OpV P n L w o v w'/\Φ v w'
theorem bn {ops:Array Oper} {rest:List Oper} {d:Nat} {f:Op} {Φ:Value->World->Prop}
  (g:OpX P n L w ⟨some d,f,ty,pos,after,none⟩ Φ) (i:Nat.blt d n=true)
  (h:∀v w',Φ v w'->wpR P n ops Q rest ((d,v) :: L) w'):wpR P n ops Q (⟨some d,f,ty,pos,after,none⟩ :: rest) L w:=by
 obtain⟨v,w',j,k⟩:=g
 exact ag j i (h v w' k)
theorem bl {ops:Array Oper} {rest:List Oper} {d:Nat} {f:Op} {α:Type} {V:α->Value} {R:α->World->Prop}
  (g:OpX P n L w ⟨some d,f,ty,pos,after,none⟩ fun v w'=>∃a,v=V a/\R a w') (i:Nat.blt d n=true)
  (h:∀a w',R a w'->wpR P n ops Q rest ((d,V a) :: L) w'):wpR P n ops Q (⟨some d,f,ty,pos,after,none⟩ :: rest) L w:=
 bn g i fun v w' ⟨a,e,j⟩=>by subst e; exact h a w' j
def OpY (P:Program) (n:Nat) (L:Env) (w:World) (o:Oper) (Φ:World->Prop):Prop:=∃w',OpS P n L w o w'/\Φ w'
theorem bm {ops:Array Oper} {rest:List Oper} {f:Op} {Φ:World->Prop}
  (g:OpY P n L w ⟨none,f,ty,pos,after,none⟩ Φ)
  (h:∀w',Φ w'->wpR P n ops Q rest L w'):wpR P n ops Q (⟨none,f,ty,pos,after,none⟩ :: rest) L w:=by
 obtain⟨w',i,j⟩:=g
 exact FO i (h w' j)
theorem aD {x:Operand} {T E:TypeId} {τ:Type} {e:Enc τ} {v:Value} {l:List τ} (f:P.underlying T=some (.slice E)) (hx:L.ev x=some v) (h:RO w e v l) :
  OpV P n L w ⟨d,.call ⟨.builtin .len,#[x],#[T]⟩,ty,pos,after,none⟩ (vI l.length) w:=fun a ha=>by
 obtain⟨b,c,rfl,_⟩:=h
 simp[execOp,resolve,invoke,builtin,Builtin.len_,ha.ev hx,run_underlying f,goInt]
theorem di {x:Operand} {T:TypeId} {l:List UInt8} (f:P.underlying T=some .string) (hx:L.ev x=some (vS l)) :
  OpV P n L w ⟨d,.call ⟨.builtin .len,#[x],#[T]⟩,ty,pos,after,none⟩ (vI l.length) w:=fun a ha=>by
 simp[execOp,resolve,invoke,builtin,Builtin.len_,ha.ev hx,run_underlying f,goInt,jg]
theorem wv {T E:TypeId} {k:IntKind} {i:Int} {τ:Type} {e:Enc τ} {v:Value} {l:List τ} {z:Value} {bytes:Nat} (f:P.underlying T=some (.slice E)) (g:TI P E z e.sz bytes)
  (h:RO w e v l) (j:0<=i) (o:i.toNat<l.length):(Instr.indexAt T v (.int k i)).run P w=.ok (pP (ixA v e.sz i.toNat)) w:=by
 obtain⟨a,c,rfl,hc,t⟩:=h
 obtain⟨b,off,rfl,_⟩:=t (by rintro rfl; simp at o)
 obtain⟨B,hi,_,hs,_⟩:=g.get
 have A:i<l.length:=by omega
 simp[Instr.indexAt,asIntOf,run_underlying f,j,A,sizeOf,typeInfo,hi,hs,ixA]
theorem E2 {x y:Operand} {T E:TypeId} {k:IntKind} {i:Int} {τ:Type} {e:Enc τ} {v:Value} {l:List τ} {z:Value} {bytes:Nat} (f:P.underlying T=some (.slice E)) (g:TI P E z e.sz bytes)
  (hx:L.ev x=some v) (hy:L.ev y=some (.int k i)) (h:RO w e v l) (j:0<=i) (o:i.toNat<l.length) :
  OpV P n L w ⟨d,.indexAddr T x y,ty,pos,after,none⟩ (pP (ixA v e.sz i.toNat)) w:=fun a ha=>by
 simp[execOp,ha.ev hx,ha.ev hy,wv (k:=k) f g h j o]
theorem B7 {x:Operand} {T:TypeId} {D:TypeDesc} {p:Addr} {u:Value} (f:P.underlying T=some D) (g:(match D with | .struct _ | .array _ _=>true | _=>false)=false)
  (hx:L.ev x=some (pP p)) (h:w.cell? p=some u) :
  OpV P n L w ⟨d,.load T x,ty,pos,after,none⟩ u w:=fun a ha=>by
 have:(isAgg T).run P w=.ok false w:=by
  simp only[isAgg,Sem.run_bind,run_underlying f,Result.andThen_ok]
  cases D <;> simp_all
 simp[execOp,ha.ev hx,Instr.loadAt,Instr.sureAddr,loadVar,this,load,Sem.run,h]
theorem z5 {x:Operand} {T:TypeId} {D:TypeDesc} {τ:Type} {e:Enc τ} {v:Value} {l:List τ} {i:Nat} {t:τ} {u:Value} (f:P.underlying T=some D) (g:(match D with | .struct _ | .array _ _=>true | _=>false)=false)
  (hx:L.ev x=some (pP (ixA v e.sz i))) (h:RO w e v l) (hi:l[i]? = some t) (j:e.cells t=[u]) :
  OpV P n L w ⟨d,.load T x,ty,pos,after,none⟩ u w:=B7 f g hx (h.cellAt0 hi j)
theorem DF {x y:Operand} {T:TypeId} {k:IntKind} {i:Int} {l:List UInt8} {t:UInt8} (f:P.underlying T=some .string)
  (hx:L.ev x=some (vS l)) (hy:L.ev y=some (.int k i)) (g:0<=i) (h:l[i.toNat]? = some t) :
  OpV P n L w ⟨d,.index T x y,ty,pos,after,none⟩ (v8 t) w:=fun a ha=>by
 have hg:(⟨⟨l⟩⟩:ByteArray)[i.toNat]? = some t:=by
  obtain⟨hl,he⟩:=List.getElem?_eq_some_iff.1 h
  rw[ByteArray.getElem?_lt' _ _ (by simpa [jg] using hl)]
  rw[<-he]; rfl
 simp[execOp,ha.ev hx,ha.ev hy,Instr.index,asIntOf,run_underlying f,g,hg]
def gB (l:List UInt8) (lo hi:Nat):List UInt8:=(l.drop lo).take (hi - lo)
theorem nD (l:List UInt8) (lo hi:Nat):(⟨⟨l⟩⟩:ByteArray).extract lo hi=⟨⟨gB l lo hi⟩⟩:=by
 rw[ByteArray.extract_mk]; simp[gB]
theorem Cq {x y:Operand} {T:TypeId} {k:IntKind} {lo:Int} {l:List UInt8} (f:P.underlying T=some .string)
  (hx:L.ev x=some (vS l)) (hy:L.ev y=some (.int k lo)) (g:0<=lo) (j:lo.toNat<=l.length) :
  OpV P n L w ⟨d,.slice T x (some y) none none,ty,pos,after,none⟩ (vS (l.drop lo.toNat)) w:=fun a ha=>by
 have h:lo<=((⟨⟨l⟩⟩:ByteArray).size:Int):=by rw[jg]; omega
 have i:gB l lo.toNat (⟨⟨l⟩⟩:ByteArray).size=l.drop lo.toNat:=by
  unfold gB; rw[List.take_of_length_le]; simp[jg]
 simp[execOp,ha.ev hx,ha.ev hy,Instr.sliceAt,Instr.slice,run_underlying f,Instr.sliceBounds,run_sliceBound,g,h,nD,i]
theorem BF {x z:Operand} {T:TypeId} {f:IntKind} {hi:Int} {l:List UInt8} (g:P.underlying T=some .string)
  (hx:L.ev x=some (vS l)) (h:L.ev z=some (.int f hi)) (i:0<=hi) (o:hi.toNat<=l.length) :
  OpV P n L w ⟨d,.slice T x none (some z) none,ty,pos,after,none⟩ (vS (l.take hi.toNat)) w:=fun a ha=>by
 have j:hi<=((⟨⟨l⟩⟩:ByteArray).size:Int):=by rw[jg]; omega
 have k:gB l 0 hi.toNat=l.take hi.toNat:=by simp[gB]
 simp[execOp,ha.ev hx,ha.ev h,Instr.sliceAt,Instr.slice,run_underlying g,Instr.sliceBounds,run_sliceBound,i,j,nD,k]
theorem EF (T:TypeId) (x y:List UInt8) (h:x.length+y.length<=9223372036854775807):bL P .add T (vS x) (vS y) (vS (x++y)):=fun _ _ w=>by
 have f:¬9223372036854775807<((⟨⟨x⟩⟩:ByteArray).size:Int)+((⟨⟨y⟩⟩:ByteArray).size:Int):=by rw[jg,jg]; omega
 have g:(⟨⟨x⟩⟩:ByteArray)++(⟨⟨y⟩⟩:ByteArray)=⟨⟨x++y⟩⟩:=by apply ByteArray.ext; simp
 simp[eqGuard,binOp,Op.stringOp,IntKind.max,IntKind.signed,IntKind.bits,f,g]
theorem jH (T:TypeId) (x y:List UInt8):bL P .eql T (vS x) (vS y) (vB (x == y)):=fun _ _ w=>by
 simp[eqGuard,binOp,Op.stringOp,Ai]
section
variable {T E:TypeId} {τ:Type} {e:Enc τ} {v:Value} {l:List τ} {z0:Value} {bytes:Nat}
theorem EK {x y z:Operand} {k g:IntKind} {lo hi:Int} (i:P.underlying T=some (.slice E)) (j:TI P E z0 e.sz bytes)
  (hx:L.ev x=some v) (hy:L.ev y=some (.int k lo)) (o:L.ev z=some (.int g hi)) (h:RO w e v l) (t:0<=lo) (A:lo<=hi) (I:hi.toNat<=l.length) :
  OpV P n L w ⟨d,.slice T x (some y) (some z) none,ty,pos,after,none⟩ (slV v e.sz lo.toNat hi.toNat) w:=fun a ha=>by
 obtain⟨b,c,rfl,hc,_⟩:=h
 obtain⟨G,f,_,hs,_⟩:=j.get
 have B:hi<=(c:Int):=by omega
 have F:(hi.toNat:Int)=hi:=Int.toNat_of_nonneg (by omega)
 simp[execOp,ha.ev hx,ha.ev hy,ha.ev o,Instr.sliceAt,Instr.slice,run_underlying i,Instr.sliceBounds,run_sliceBound,t,B,F,A,(by omega:0<=hi),sizeOf,typeInfo,f,hs,slV]
theorem Eg {x y:Operand} {k:IntKind} {lo:Int} (g:P.underlying T=some (.slice E)) (i:TI P E z0 e.sz bytes)
  (hx:L.ev x=some v) (hy:L.ev y=some (.int k lo)) (h:RO w e v l) (j:0<=lo) (z:lo.toNat<=l.length) :
  OpV P n L w ⟨d,.slice T x (some y) none none,ty,pos,after,none⟩ (slV v e.sz lo.toNat l.length) w:=fun a ha=>by
 obtain⟨b,c,rfl,hc,_⟩:=h
 obtain⟨t,f,_,hs,_⟩:=i.get
 have o:lo<=(l.length:Int):=by omega
 simp[execOp,ha.ev hx,ha.ev hy,Instr.sliceAt,Instr.slice,run_underlying g,Instr.sliceBounds,run_sliceBound,j,o,sizeOf,typeInfo,f,hs,slV]
theorem Dy {x z:Operand} {g:IntKind} {hi:Int} (i:P.underlying T=some (.slice E)) (j:TI P E z0 e.sz bytes)
  (hx:L.ev x=some v) (k:L.ev z=some (.int g hi)) (h:RO w e v l) (o:0<=hi) (B:hi.toNat<=l.length) :
  OpV P n L w ⟨d,.slice T x none (some z) none,ty,pos,after,none⟩ (slV v e.sz 0 hi.toNat) w:=fun a ha=>by
 obtain⟨b,c,rfl,hc,_⟩:=h
 obtain⟨A,f,_,hs,_⟩:=j.get
 have t:hi<=(c:Int):=by omega
 simp[execOp,ha.ev hx,ha.ev k,Instr.sliceAt,Instr.slice,run_underlying i,Instr.sliceBounds,run_sliceBound,o,t,sizeOf,typeInfo,f,hs,slV]
theorem RO.subl (h:RO w e v l) {lo:Nat} (f:lo<=l.length):RO w e (slV v e.sz lo l.length) (l.drop lo):=by
 have:=h.sub (lo:=lo) (hi:=l.length) f (Nat.le_refl _)
 rwa [List.take_of_length_le (by simp)]at this
theorem RO.subh (h:RO w e v l) {hi:Nat} (f:hi<=l.length):RO w e (slV v e.sz 0 hi) (l.take hi):=by
 have:=h.sub (lo:=0) (hi:=hi) (Nat.zero_le _) f
 simpa using this
theorem RP.sub {S:List Nat} (h:RP S w e v l) {lo hi:Nat} (g:lo<=hi) (i:hi<=l.length):RP S w e (slV v e.sz lo hi) ((l.drop lo).take (hi - lo)):=by
 refine⟨h.1.sub g i,fun f k j hb=>h.2 (fun e=>f (by rw[e]; simp)) k j ?_⟩
 obtain⟨a,c,rfl,_⟩:=h.1
 cases a with
 | none=>simp[slV,Value.ownBlock]at hb
 | some x=>
  by_cases hc:c=lo
  ·simpa [slV,hc,Value.ownBlock] using hb
  ·simp[slV,hc,Value.ownBlock]at hb ⊢
   rw[<-hb]; unfold Addr.add; split <;> rfl
theorem RP.subl {S:List Nat} (h:RP S w e v l) {lo:Nat} (f:lo<=l.length):RP S w e (slV v e.sz lo l.length) (l.drop lo):=by
 have:=h.sub (lo:=lo) (hi:=l.length) f (Nat.le_refl _)
 rwa [List.take_of_length_le (by simp)]at this
theorem RP.subh {S:List Nat} (h:RP S w e v l) {hi:Nat} (f:hi<=l.length):RP S w e (slV v e.sz 0 hi) (l.take hi):=by
 have:=h.sub (lo:=0) (hi:=hi) (Nat.zero_le _) f
 simpa using this
end
theorem yL (l:List UInt8):strOfNums (l.map fun x=>(x.toNat:Int))=⟨⟨l⟩⟩:=by
 have:(strOfNums (l.map fun x=>(x.toNat:Int))).data.toList=l:=by
  rw[strOfNums_data,List.map_map]
  conv=>rhs; rw[<-List.map_id l]
  apply List.map_congr_left
  intro x _
  simp
 cases h:strOfNums (l.map fun x=>(x.toNat:Int)) with
 | mk data=>rw[h]at this; simp only at this; rw[<-this]
theorem tO (l:List UInt8):e8.fl l=l.map v8:=by
 induction l with
 | nil=>rfl
 | cons a r ih=>simp only[Enc.fl,List.flatMap_cons,List.map_cons]at ih ⊢; rw[ih]; rfl
theorem FR {S D E:TypeId} {v:Value} {l:List UInt8} (g:P.underlying S=some (.slice E)) (j:P.underlying E=some (.int .u8)) (k:P.underlying D=some .string) (h:RO w e8 v l) :
  (convert S D v).run P w=.ok (vS l) w:=by
 obtain⟨a,c,rfl,hc,o⟩:=h
 cases a with
 | none=>
  have hl:l=[]:=by
   cases l with
   | nil=>rfl
   | cons x r=>obtain⟨b,off,h,_⟩:=o (by simp); cases h
  subst hl
  exact run_convert_bytes_nil w S E g j _ _ D k
 | some p=>
  by_cases hl:l=[]
  ·subst hl
   rw[run_convert_bytes_string w S D E _ _ c g j k]
   simp[Conv.bytesToString,loadCells,loadCellsFrom,vS]
   rfl
  ·obtain⟨b,off,t,f⟩:=o hl
   cases t
   rw[run_convert_bytes_arg w S E g j b off l.length c (l.map fun x=>(x.toNat:Int)) (by simp) (fun i hi=>?_) D k]
   ·rw[yL]
   ·have:=f i (v8 l[i]) (by rw[tO]; simp[hi])
    rw[this]
    simp[List.getD,hi]
theorem lV {S D E:TypeId} {x:Operand} {v:Value} {l:List UInt8} (f:P.underlying S=some (.slice E)) (g:P.underlying E=some (.int .u8)) (i:P.underlying D=some .string)
  (hx:L.ev x=some v) (h:RO w e8 v l):OpV P n L w ⟨d,.convert S D x,ty,pos,after,none⟩ (vS l) w:=fun a ha=>by
 simp[execOp,ha.ev hx,FR f g i h]
end
end Go.Gk
end

section
namespace Go.Gk
open Go Go.RowKit
section
variable {P:Program} {ops:Array Oper} {C D:World->Prop} {Q:Exit->Act->World->Prop} {fl:Nat->Bool}
def Ins (P:Program) (ops:Array Oper) (C:World->Prop) (o:Oper) (v:Value) (a:Act):Prop:=
 (Region.wanted o (yielded ops a.tmps)=true/\∀w,C w->(execOp a.eval o).run P w=.ok (.value v) w) \/
 (Region.wanted o (yielded ops a.tmps)=false/\v=undef)
theorem Ins.of_same {o:Oper} {v:Value} {a f:Act} (hy:Ins P ops C o v a) (he:execOp f.eval o=execOp a.eval o)
  (g:Region.wanted o (yielded ops f.tmps)=Region.wanted o (yielded ops a.tmps)):Ins P ops C o v f:=by
 unfold Ins at *
 rw[he,g]
 exact hy
theorem Ins.unique {o:Oper} {u v:Value} {a:Act} {w:World} (i:C w) (h:Ins P ops C o u a) (j:Ins P ops C o v a):u=v:=by
 rcases h with⟨f,g⟩ | ⟨f,g⟩ <;> rcases j with⟨h3,h4⟩ | ⟨h3,h4⟩
 ·have e:=(g w i).symm.trans (h4 w i)
  simpa using e
 ·rw[f]at h3; cases h3
 ·rw[f]at h3; cases h3
 ·rw[g,h4]
def vg (P:Program) (ops:Array Oper) (o:Oper) (v:Value) (a:Act) (w:World):Prop:=Region.wanted o (yielded ops a.tmps)=true/\(execOp a.eval o).run P w=.ok (.value v) w
theorem vg.of_same {o:Oper} {v:Value} {a f:Act} {w:World} (hy:vg P ops o v a w) (he:execOp f.eval o=execOp a.eval o)
  (g:Region.wanted o (yielded ops f.tmps)=Region.wanted o (yielded ops a.tmps)):vg P ops o v f w:=by
 unfold vg at *
 rw[he,g]
 exact hy
def InR (P:Program) (ops:Array Oper) (C:World->Prop) (fl:Nat->Bool) (i:Nat) (o:Oper) (v:Value) (a:Act) (w:World):Prop:=Ins P ops C o v a\/(fl (i+1000)=false/\vg P ops o v a w)
theorem InR.of_same {i:Nat} {o:Oper} {v:Value} {a f:Act} {w:World} (hy:InR P ops C fl i o v a w) (he:execOp f.eval o=execOp a.eval o)
  (g:Region.wanted o (yielded ops f.tmps)=Region.wanted o (yielded ops a.tmps)):InR P ops C fl i o v f w:=hy.imp (fun h=>h.of_same he g) fun h=>⟨h.1,h.2.of_same he g⟩
theorem InR.ins {i:Nat} {o:Oper} {v:Value} {a:Act} {w:World} (hy:InR P ops C fl i o v a w) (h:fl (i+1000)=true):Ins P ops C o v a:=by
 rcases hy with hy | ⟨hy,_⟩
 ·exact hy
 ·rw[h]at hy; cases hy
def mH (fl:Nat->Bool) (i j:Nat):Bool:=(fl i&&fl j) || (fl i&&fl (i+1000)) || (fl j&&fl (j+1000))
def lx (P:Program) (ops:Array Oper) (C D:World->Prop) (Q:Exit->Act->World->Prop) (fl:Nat->Bool):List Nat->Act->World->Prop
 | [],a,w=>D w/\Q .normal a w
 | i :: r,a,w=>C w/\match ops[i]? with
  | none=>lx P ops C D Q fl r a w
  | some o=>if fl i then ∃v,InR P ops C fl i o v a w/\lx P ops C D Q fl r (a.put o.dst v) w else wpOp P ops Q i (lx P ops C D Q fl r) a w
theorem Ez {l:List Nat} {a:Act} {w:World} (h:lx P ops C D Q fl l a w) (hl:l=[]->∀w,D w->C w):C w:=by
 cases l
 ·exact hl rfl _ h.1
 ·exact h.1
def mR (ops:Array Oper):Prop:=∀(j:Nat) (o:Oper) cs b,ops[j]? = some o->o.op≠.select cs b
theorem Bf (A:∀c a w,¬Q (.panic c) a w) {j:Nat} {i k:Oper} {v:Value} (O:ops[j]? = some k) (B:i.apart ops k=true)
  (F:∀cs b,i.op≠.select cs b) (G:∀cs b,k.op≠.select cs b) {K:Act->World->Prop} {a:Act} {w:World}
  (hy:Ins P ops C i v a) (h:wpOp P ops Q j K (a.put i.dst v) w) :
  wpOp P ops Q j (fun I w'=>Ins P ops C i v I/\K (I.put i.dst v) w') a w:=by
 obtain⟨J,o,M⟩:=Oper.apart_spec B
 have g:∀u,Ins P ops C i v (a.put k.dst u):=fun u=>
  hy.of_same (execOp_put i F a k.dst u M) (wanted_put i a k.dst u M)
 unfold wpOp at *
 simp only[O]at *
 rw[wanted_put k a i.dst v J]at h
 have he:=execOp_put k G a i.dst v J
 split
 ·rename_i z
  simp only[z,if_true]at h
  rcases h with h | h
  ·left
   unfold Oper.wp at *
   rw[he]at h
   generalize (execOp a.eval k).run P w=r at *
   cases r with
   | ok nx w'=>
    cases nx <;> simp only[Oper.upon]at h ⊢
    case value u=>exact⟨g u,by rw[<-Act.put_comm a v u o]; exact h⟩
    case skip=>exact⟨g undef,by rw[<-Act.put_comm a v undef o]; exact h⟩
    case defer dd=>
     refine⟨?_,?_⟩
     ·have:=g undef
      refine this.of_same ?_ ?_
      ·cases k.dst <;> rfl
      ·cases k.dst <;> rfl
     ·rw[Act.put_defers]at h
      rw[<-Act.put_comm _ v undef o]
      exact h
    case enter f args=>
     refine Calls.mono h fun e N t=>?_
     cases e with
     | returned u=>exact⟨g u,by rw[<-Act.put_comm a v u o]; exact t⟩
     | panicked c=>exact absurd t (A _ _ _)
     | outgrown=>exact t
    case row rw_ args=>
     exact Rows.mono h fun u N t=>⟨g u,by rw[<-Act.put_comm a v u o]; exact t⟩
   | halt x w'=>
    cases x <;> simp only[Oper.upon]at h ⊢
    exact absurd h (A _ _ _)
  ·right
   refine⟨?_,h.2⟩
   have:=h.1
   unfold Oper.asks at *
   rw[he]at this
   exact this
 ·rename_i z
  simp only[z]at h
  exact⟨g _,by rw[<-Act.put_comm a v undef o]; exact h⟩
theorem zC (k:∀c a w,¬Q (.panic c) a w) (o:∀a w,¬Q .outgrown a w) {i:Nat} {j:Oper} (hi:ops[i]? = some j) {K:Act->World->Prop} {a:Act} {w:World}
  (h:wpOp P ops Q i K a w):∃t w' u A,K t w'/\t=({ a with defers:=A }:Act).put j.dst u:=by
 unfold wpOp at h
 simp only[hi]at h
 split at h
 ·rcases h with h | ⟨_,B,F,h⟩
  ·unfold Oper.wp at h
   generalize (execOp a.eval j).run P w=r at *
   cases r with
   | ok nx w'=>
    cases nx <;> simp only[Oper.upon]at h
    case value u=>exact⟨_,_,u,a.defers,h,rfl⟩
    case skip=>exact⟨_,_,undef,a.defers,h,rfl⟩
    case defer dd=>exact⟨_,_,undef,dd :: a.defers,h,rfl⟩
    case enter f args=>
     obtain⟨e,z,fr,g,_⟩:=h []
     cases e with
     | returned u=>exact⟨_,_,u,a.defers,g,rfl⟩
     | panicked c=>exact absurd g (k _ _ _)
     | outgrown=>obtain⟨B,F,G⟩:=g; exact absurd G (o _ _)
    case row rw_ args=>
     obtain⟨u,z,g,_⟩:=h default []
     exact⟨_,_,u,a.defers,g,rfl⟩
   | halt x w'=>
    cases x <;> simp only[Oper.upon]at h
    exact absurd h (k _ _ _)
  ·exact absurd h (o _ _)
 ·exact⟨_,_,undef,a.defers,h,rfl⟩
theorem Ds (Z:∀c a w,¬Q (.panic c) a w) (ho:∀a w,¬Q .outgrown a w) (hs:mR ops) {i j:Nat} {r:List Nat} {a:Act} {w:World}
  (bx:∀k g,ops[i]? = some k->ops[j]? = some g->k.apart ops g=true/\mH fl i j=true) (_hne:i≠j) (hE:r=[]->∀w,D w->C w)
  (h:lx P ops C D Q fl (i :: j :: r) a w):lx P ops C D Q fl (j :: i :: r) a w:=by
 obtain⟨M,h⟩:=h
 refine⟨M,?_⟩
 cases hi:ops[i]? with
 | none=>
  simp only[hi]at h
  obtain⟨_,h⟩:=h
  cases hj:ops[j]? with
  | none=>simp only[hj]at h; exact⟨M,by simp only[hi]; exact h⟩
  | some g=>
   simp only[hj]at h ⊢
   split
   ·rename_i G
    simp only[G,if_true]at h
    obtain⟨v,N,t⟩:=h
    exact⟨v,N,M,by simp only[hi]; exact t⟩
   ·rename_i G
    rw[if_neg G]at h
    exact wpOp_mono (fun A w' o=>⟨Ez o hE,by simp only[hi]; exact o⟩) h
 | some k=>
  simp only[hi]at h
  cases hj:ops[j]? with
  | none=>
   simp only[]
   refine⟨M,?_⟩
   simp only[hi]
   split
   ·rename_i G
    simp only[G,if_true]at h
    obtain⟨v,N,_,t⟩:=h
    simp only[hj]at t
    exact⟨v,N,t⟩
   ·rename_i G
    simp only[G]at h
    exact wpOp_mono (fun A w' o=>by have:=o.2; simp only[hj]at this; exact this) h
  | some g=>
   obtain⟨ap,K⟩:=bx k g hi hj
   obtain⟨B,p2,p3⟩:=Oper.apart_spec ap
   have O:=fun cs b=>hs i k cs b hi
   have F:=fun cs b=>hs j g cs b hj
   simp only[]
   by_cases hfi:fl i=true
   ·simp only[hfi,if_true]at h
    obtain⟨v,hv,_,t⟩:=h
    simp only[hj]at t
    by_cases z:fl j=true
    ·simp only[z,if_true]at t ⊢
     obtain⟨u,R,I⟩:=t
     refine⟨u,R.of_same (execOp_put g F a k.dst v B).symm (wanted_put g a k.dst v B).symm,M,?_⟩
     simp only[hi,hfi,if_true]
     refine⟨v,hv.of_same (execOp_put k O a g.dst u p3) (wanted_put k a g.dst u p3),?_⟩
     rw[<-Act.put_comm a v u p2]; exact I
    ·simp only[z]at t ⊢
     have hv:=hv.ins (by unfold mH at K; simpa [hfi,z] using K)
     refine wpOp_mono (fun A w' o=>?_) (Bf Z hj ap O F hv t)
     refine⟨Ez o.2 hE,?_⟩
     simp only[hi,hfi,if_true]
     exact⟨v,.inl o.1,o.2⟩
   ·simp only[hfi]at h
    have a2:fl i=false:=by simpa using hfi
    have a3:fl j=true/\fl (j+1000)=true:=by unfold mH at K; simpa [a2] using K
    obtain⟨z,a4⟩:=a3
    simp only[z,if_true]
    have hK:∀A w',lx P ops C D Q fl (j :: r) A w'->C w'/\∃u,Ins P ops C g u A/\lx P ops C D Q fl r (A.put g.dst u) w':=fun A w' o=>by
     obtain⟨c,a0⟩:=o
     simp only[hj,z,if_true]at a0
     obtain⟨u,R,I⟩:=a0
     exact⟨c,u,R.ins a4,I⟩
    obtain⟨A,w',x,df,N,rfl⟩:=zC Z ho hi h
    obtain⟨c',u,R,t⟩:=hK _ _ N
    have U:Ins P ops C g u a:=by
     refine R.of_same ?_ ?_
     ·have:=execOp_put g F ({ a with defers:=df }:Act) k.dst x B
      rw[this]; rfl
     ·have:=wanted_put (ops:=ops) g ({ a with defers:=df }:Act) k.dst x B
      rw[this]
    refine⟨u,.inl U,M,?_⟩
    simp only[hi,hfi]
    -- the operation,done with the other one's value in its place
    show wpOp P ops Q i (lx P ops C D Q fl r) (a.put g.dst u) w
    have he:=execOp_put k O a g.dst u p3
    have b4:=wanted_put (ops:=ops) k a g.dst u p3
    have next:∀(y:Value) w',lx P ops C D Q fl (j :: r) (a.put k.dst y) w'->lx P ops C D Q fl r ((a.put g.dst u).put k.dst y) w':=fun y w' o=>by
     obtain⟨c,J,V,I⟩:=hK _ _ o
     have:J=u:=by
      refine Ins.unique c (V.of_same ?_ ?_:Ins P ops C g J a) U
      ·rw[execOp_put g F a k.dst y B]
      ·rw[wanted_put g a k.dst y B]
     subst this
     rw[<-Act.put_comm a y J p2]; exact I
    have ad:∀(y:Value) (X:Deferred) w',lx P ops C D Q fl (j :: r) (({ a with defers:=X :: a.defers }:Act).put k.dst y) w' ->
      lx P ops C D Q fl r (({ (a.put g.dst u) with defers:=X :: (a.put g.dst u).defers }:Act).put k.dst y) w':=fun y X w' o=>by
     obtain⟨c,J,V,I⟩:=hK _ _ o
     have:J=u:=by
      refine Ins.unique c (V.of_same ?_ ?_:Ins P ops C g J a) U
      ·rw[execOp_put g F _ k.dst y B]; rfl
      ·rw[wanted_put g _ k.dst y B]
     subst this
     rw[Act.put_defers,<-Act.put_comm _ y J p2]; exact I
    unfold wpOp at h ⊢
    simp only[hi]at h ⊢
    rw[b4]
    split
    ·rename_i hw
     simp only[hw,if_true]at h
     rcases h with h | h
     ·left
      unfold Oper.wp at *
      rw[he]
      generalize (execOp a.eval k).run P w=rr at *
      cases rr with
      | ok nx w'=>
       cases nx <;> simp only[Oper.upon]at h ⊢
       case value y=>exact next y _ h
       case skip=>exact next undef _ h
       case defer X=>exact ad undef X _ h
       case enter f args=>
        refine Calls.mono h fun e b5 Y=>?_
        cases e with
        | returned y=>exact next y _ Y
        | panicked c=>exact absurd Y (Z _ _ _)
        | outgrown=>exact Y
       case row rw_ args=>exact Rows.mono h fun y b5 Y=>next y _ Y
      | halt x w'=>
       cases x <;> simp only[Oper.upon]at h ⊢
       exact absurd h (Z _ _ _)
     ·right
      refine⟨?_,h.2⟩
      have:=h.1
      unfold Oper.asks at *
      rw[he]
      exact this
    ·rename_i hw
     simp only[hw]at h
     exact next undef _ h
def dh (ops:Array Oper):Nat->Nat->Nat->Bool
 | 0,_,_=>false
 | f+1,j,i=>match ops[j]? with
  | none=>false
  | some o=>o.after.toList.any fun e=>Region.binds .any e&&(Nat.beq e.on i || dh ops f e.on i)
def vY (ops:Array Oper):Bool:=
 (List.range ops.size).all fun j=>match ops[j]? with
  | some o=>o.after.toList.all fun e=>!Region.binds .any e || Nat.blt e.on j
  | none=>true
def uS (ops:Array Oper) (fl:Nat->Bool):Bool:=
 (List.range ops.size).all fun j=>(List.range j).all fun i=>dh ops ops.size j i || (match ops[i]?,ops[j]? with
  | some oi,some oj=>oi.apart ops oj&&mH fl i j
  | _,_=>true)
def nG (ops:Array Oper):Bool:=ops.toList.all fun o=>match o.op with | .select ..=>false | _=>true
theorem pv (h:nG ops=true):mR ops:=by
 intro j o cs b f he
 have:=List.all_eq_true.1 h o (Array.mem_toList_iff.2 (Array.mem_of_getElem? f))
 rw[he]at this
 cases this
def closed (ops:Array Oper) (listed:Array Bool):Prop:=
 ∀j oj,ops[j]? = some oj->listed.getD j false=true->∀e∈oj.after,Region.binds .any e=true->listed.getD e.on false=true
theorem d9 {listed:Array Bool} (hc:closed ops listed):∀(f j i:Nat) (g:Oper),ops[j]? = some g->(∀e∈g.after,Region.binds .any e=true->listed.getD e.on false=true) ->
  dh ops f j i=true->listed.getD i false=true
 | 0,_,_,_,_,_,h=>by simp[dh]at h
 | f+1,j,i,g,hj,hall,h=>by
  simp only[dh,hj,List.any_eq_true,Bool.and_eq_true,Bool.or_eq_true]at h
  obtain⟨e,he,hb,h | h⟩:=h
  ·rw[<-Nat.eq_of_beq_eq_true h]; exact hall e (by simpa using he) hb
  ·have hl:=hall e (by simpa using he) hb
   cases ho:ops[e.on]? with
   | none=>cases f <;> simp[dh,ho]at h
   | some oe=>exact d9 hc f e.on i oe ho (fun t k o=>hc e.on oe ho hl t k o) h
theorem uA (z:∀c a w,¬Q (.panic c) a w) (A:∀a w,¬Q .outgrown a w) (hs:mR ops) {j:Nat} :
  ∀(l1 f:List Nat) (a:Act) (w:World),(∀i∈l1,i≠j/\∀g B,ops[i]? = some g->ops[j]? = some B->g.apart ops B=true/\mH fl i j=true)->(l1≠[]->f=[]->∀w,D w->C w) ->
   lx P ops C D Q fl (l1++j :: f) a w->lx P ops C D Q fl (j :: (l1++f)) a w
 | [],_,_,_,_,_,h=>h
 | i :: l1,f,a,w,hall,hE,h=>by
  have o:∀a w,lx P ops C D Q fl (l1++j :: f) a w->lx P ops C D Q fl (j :: (l1++f)) a w:=fun a w h=>
   uA z A hs l1 f a w (fun k F=>hall k (by simp[F])) (fun _ G=>hE (by simp) G) h
  have I:lx P ops C D Q fl (i :: j :: (l1++f)) a w:=by
   obtain⟨J,h⟩:=h
   refine⟨J,?_⟩
   cases hi:ops[i]? with
   | none=>simp only[hi]at h ⊢; exact o _ _ h
   | some g=>
    simp only[hi]at h ⊢
    split
    ·rename_i t
     simp only[t,if_true]at h
     obtain⟨v,K,h⟩:=h
     exact⟨v,K,o _ _ h⟩
    ·rename_i t
     simp only[t]at h
     exact wpOp_mono (fun O w' M=>o _ _ M) h
  have hi:=hall i (by simp)
  exact Ds z A hs hi.2 hi.1 (fun N=>hE (by simp) (List.append_eq_nil_iff.1 N).2) I
theorem jZ {listed:Array Bool} {i:Nat} (h:i<listed.size) (d:Bool):(listed.setIfInBounds i true).getD i d=true:=by
 simp[h]
theorem u7 (hp:∀c a w,¬Q (.panic c) a w) (ho:∀a w,¬Q .outgrown a w) (hs:mR ops)
  (R:∀j J,ops[j]? = some J->∀e∈J.after,Region.binds .any e=true->e.on<j)
  (U:∀i j,i<j->j<ops.size->dh ops ops.size j i=false->∀Z J,ops[i]? = some Z->ops[j]? = some J->Z.apart ops J=true/\mH fl i j=true)
  :
  ∀(m:Nat) (l:List Nat) (listed:Array Bool) (a:Act) (w:World),l.length=m->l.Pairwise (·<·)->listed.size=ops.size->closed ops listed ->
   (∀i,i∈l↔i<ops.size/\listed.getD i true=false)->((∀w,D w->C w)\/((∀i,i<ops.size - 1->dh ops ops.size (ops.size - 1) i=true)/\(l≠[]->ops.size - 1∈l)))->lx P ops C D Q fl l a w->wpAny P .any ops Q m listed a w
 | 0,l,listed,a,w,hm,_,_,_,hmem,_,h=>by
  have hl:l=[]:=List.eq_nil_of_length_eq_zero hm
  subst hl
  refine⟨?_,h.2⟩
  refine List.eq_nil_iff_forall_not_mem.2 fun i hi=>?_
  obtain⟨A,o,b3,_⟩:=mem_ready.1 hi
  have:=(hmem i).2 ⟨(Array.getElem?_eq_some_iff.1 b3).1,A⟩
  cases this
 | m+1,l,listed,a,w,hm,hsort,hsz,hcl,hmem,G,h=>by
  refine⟨fun a0=>?_,fun j hj=>?_⟩
  ·-- the least one that is not listed is ready,or nothing can be
   exfalso
   cases l with
   | nil=>simp at hm
   | cons i r=>
    obtain⟨ad,A⟩:=(hmem i).1 (by simp)
    have hi:i∈Region.ready .any ops listed:=by
     refine mem_ready.2 ⟨A,ops[i],by simp[ad],fun e he hb=>?_⟩
     have B:=R i ops[i] (by simp[ad]) e he hb
     cases hl:listed.getD e.on false with
     | true=>rfl
     | false=>
      have b4:e.on<listed.size:=by rw[hsz]; omega
      have b5:listed.getD e.on true=false:=by simp[b4]at hl ⊢; exact hl
      have b6:=(hmem e.on).2 ⟨by omega,b5⟩
      rcases List.mem_cons.1 b6 with F | F
      ·omega
      ·have:=(List.pairwise_cons.1 hsort).1 e.on F
       omega
    rw[a0]at hi
    cases hi
  ·obtain⟨A,J,I,K⟩:=mem_ready.1 hj
   have M:j<ops.size:=(Array.getElem?_eq_some_iff.1 I).1
   have b7:j∈l:=(hmem j).2 ⟨M,A⟩
   obtain⟨l1,t,rfl⟩:=List.append_of_mem b7
   have B:∀i∈l1,i<j:=fun i hi=>(List.pairwise_append.1 hsort).2.2 i hi j (by simp)
   have A:∀i∈l1++t,dh ops ops.size j i=false:=fun i hi=>by
    cases hr:dh ops ops.size j i with
    | false=>rfl
    | true=>
     have z:=d9 hcl ops.size j i J I K hr
     have f:=(hmem i).1 (by rcases List.mem_append.1 hi with h | h <;> simp[h])
     rw[Array.getD_eq_getD_getElem?]at z
     have g:=f.2
     rw[Array.getD_eq_getD_getElem?]at g
     have:i<listed.size:=by rw[hsz]; exact f.1
     simp[this]at z g
     rw[z]at g; cases g
   have N:(∀i,i<ops.size - 1->dh ops ops.size (ops.size - 1) i=true)->ops.size - 1=j->l1=[]:=fun f ap=>by
    cases hl:l1 with
    | nil=>rfl
    | cons i r=>
     exfalso
     have hi:i∈l1:=by rw[hl]; simp
     have:=f i (by have:=B i hi; omega)
     rw[ap,A i (by simp[hi])]at this
     cases this
   have b8:ops.size - 1=j->t=[]:=fun ap=>by
    cases t with
    | nil=>rfl
    | cons k r=>
     have hk:=((hmem k).1 (by simp)).1
     have h5:=(List.pairwise_append.1 hsort).2.1
     have:=(List.pairwise_cons.1 h5).1 k (by simp)
     omega
   have b9:l1≠[]->t=[]->∀w,D w->C w:=fun F z=>by
    rcases G with f | ⟨f,G⟩
    ·exact f
    ·exfalso
     subst z
     have hn:=G (by simp)
     refine F (N f ?_)
     rcases List.mem_append.1 hn with g | g
     ·have:=B _ g; omega
     ·simpa using g
   have a2:(∀w,D w->C w)\/((∀i,i<ops.size - 1->dh ops ops.size (ops.size - 1) i=true)/\(l1++t≠[]->ops.size - 1∈l1++t)):=by
    rcases G with f | ⟨f,G⟩
    ·exact .inl f
    ·refine .inr ⟨f,fun cm=>?_⟩
     have hn:=G (by simp)
     rcases List.mem_append.1 hn with g | g
     ·exact List.mem_append_left _ g
     ·rcases List.mem_cons.1 g with g | g
      ·exfalso
       exact cm (by rw[N f g,b8 g]; rfl)
      ·exact List.mem_append_right _ g
   have F:=uA hp ho hs l1 t a w (fun i hi=>⟨Nat.ne_of_lt (B i hi),fun Z co cr a3=>by
    refine U i j (B i hi) M ?_ Z co cr a3
    cases hr:dh ops ops.size j i with
    | false=>rfl
    | true=>
     have z:=d9 hcl ops.size j i J I K hr
     have f:=((hmem i).1 (by simp[hi])).2
     rw[Array.getD_eq_getD_getElem?]at z f
     have:i<listed.size:=by rw[hsz]; exact Nat.lt_trans (B i hi) M
     simp[this]at z f
     rw[z]at f; cases f⟩) b9 h
   have V:(l1++t).Pairwise (·<·):=by
    refine hsort.sublist ?_
    exact List.Sublist.append_left (List.sublist_cons_self j t) l1
   have a4:(l1++t).length=m:=by simp at hm ⊢; omega
   have a5:closed ops (listed.setIfInBounds j true):=by
    intro k ok hk hl e he hb
    by_cases hkj:j=k
    ·subst hkj
     have:ok=J:=Option.some.inj (hk.symm.trans I)
     subst this
     exact getD_set_true (K e he hb)
    ·rw[getD_set_ne false hkj]at hl
     exact getD_set_true (hcl k ok hk hl e he hb)
   have ct:j ∉ l1++t:=by
    intro hx
    rcases List.mem_append.1 hx with hx | hx
    ·exact absurd (B j hx) (Nat.lt_irrefl _)
    ·have:=(List.pairwise_append.1 hsort).2.1
     have:=(List.pairwise_cons.1 this).1 j hx
     exact absurd this (Nat.lt_irrefl _)
   have ab:∀i,i∈l1++t↔i<ops.size/\(listed.setIfInBounds j true).getD i true=false:=by
    intro i
    by_cases hij:j=i
    ·subst hij
     constructor
     ·intro hx; exact absurd hx ct
     ·intro hx
      have:=jZ (listed:=listed) (i:=j) (by rw[hsz]; exact M) true
      rw[this]at hx; cases hx.2
    ·rw[getD_set_ne true hij,<-hmem i]
     simp only[List.mem_append,List.mem_cons]
     constructor
     ·rintro (hx | hx)
      ·exact .inl hx
      ·exact .inr (.inr hx)
     ·rintro (hx | hx | hx)
      ·exact .inl hx
      ·exact absurd hx.symm hij
      ·exact .inr hx
   have ih:∀O w',lx P ops C D Q fl (l1++t) O w'->wpAny P .any ops Q m (listed.setIfInBounds j true) O w':=fun O w' h'=>
    u7 hp ho hs R U m (l1++t) _ O w' a4 V (by simp[hsz]) a5 ab a2 h'
   obtain⟨hC,F⟩:=F
   simp only[I]at F
   split at F
   ·obtain⟨v,X,z⟩:=F
    unfold wpOp
    simp only[I]
    rcases X with (⟨Y,X⟩ | ⟨Y,rfl⟩) | ⟨_,Y,X⟩
    ·rw[if_pos Y]
     left
     unfold Oper.wp
     rw[X w hC]
     exact ih _ _ z
    ·rw[if_neg (by rw[Y]; simp)]
     exact ih _ _ z
    ·rw[if_pos Y]
     left
     unfold Oper.wp
     rw[X]
     exact ih _ _ z
   ·exact wpOp_mono (fun O w' h'=>ih O w' h') F
theorem sB (h:uS ops fl=true):∀i j,i<j->j<ops.size->dh ops ops.size j i=false->∀f g,ops[i]? = some f->ops[j]? = some g->f.apart ops g=true/\mH fl i j=true:=by
 intro i j k z A f g hi o
 have t:=List.all_eq_true.1 (List.all_eq_true.1 h j (List.mem_range.2 z)) i (List.mem_range.2 k)
 simp only[A,Bool.false_or,hi,o,Bool.and_eq_true]at t
 exact t
theorem sT (h:vY ops=true):∀j f,ops[j]? = some f->∀e∈f.after,Region.binds .any e=true->e.on<j:=by
 intro j f g e he hb
 have i:=List.all_eq_true.1 h j (List.mem_range.2 (Array.getElem?_eq_some_iff.1 g).1)
 simp only[g]at i
 have k:=List.all_eq_true.1 i e (by simpa using he)
 simp only[hb,Bool.not_true,Bool.false_or,Nat.blt_eq]at k
 exact k
def Dh (ops:Array Oper):Bool:=(List.range (ops.size - 1)).all fun i=>dh ops ops.size (ops.size - 1) i
theorem q9 {id:Nat} {l:List Oper} {a:Act} {w:World} (hm:P.follows .mixedOrders=true) (k:∀c a w,¬Q (.panic c) a w) (o:∀a w,¬Q .outgrown a w)
  (g:(nG l.toArray&&vY l.toArray&&uS l.toArray fl)=true) (f:(∀w,D w->C w)\/(Dh l.toArray=true/\l≠[])) (h:lx P l.toArray C D Q fl (List.range l.length) a w.drew):(Code.region id l.toArray true).wp P Q a w:=by
 simp only[Bool.and_eq_true]at g
 refine wp_region_any hm ?_
 refine u7 k o (pv g.1.1) (sT g.1.2) (sB g.2) _ (List.range l.length) _ a _ (by simp) List.pairwise_lt_range (by simp) (fun j t z hl=>?_) (fun i=>?_) ?_ h
 ·rw[Array.getD_eq_getD_getElem?,Array.getElem?_replicate]at hl
  split at hl <;> simp at hl
 ·rw[Array.getD_eq_getD_getElem?,Array.getElem?_replicate]
  by_cases h1:i<l.length
  ·simp[h1]
  ·simp[h1]
 ·rcases f with f | ⟨f,hl⟩
  ·exact .inl f
  ·refine .inr ⟨fun i hi=>?_,fun _=>?_⟩
   ·exact List.all_eq_true.1 f i (List.mem_range.2 hi)
   ·have:=List.length_pos_iff.2 hl
    simp; omega
variable {n:Nat} {L:Env} {w:World}
def lxE (P:Program) (n:Nat) (ops:Array Oper) (C D:World->Prop) (Q:Exit->Act->World->Prop) (fl:Nat->Bool) (l:List Nat) (L:Env) (w:World):Prop:=∀a,Rep n L a->lx P ops C D Q fl l a w
theorem aQ {id:Nat} {l:List Oper} (C:World->Prop) (fl:Nat->Bool) (hm:P.follows .mixedOrders=true) (f:∀c a w,¬Q (.panic c) a w) (g:∀a w,¬Q .outgrown a w)
  (i:(nG l.toArray&&vY l.toArray&&uS l.toArray fl)=true) (h:lxE P n l.toArray C C Q fl (List.range l.length) L w.drew):wpC P n (.region id l.toArray true) Q L w:=
 fun a ha=>q9 hm f g i (.inl fun _ h=>h) (h a ha)
theorem dy {id:Nat} {l:List Oper} (C:World->Prop) (fl:Nat->Bool) (hm:P.follows .mixedOrders=true) (g:∀c a w,¬Q (.panic c) a w) (i:∀a w,¬Q .outgrown a w)
  (f:(nG l.toArray&&vY l.toArray&&uS l.toArray fl&&Dh l.toArray&&!l.isEmpty)=true) (h:lxE P n l.toArray C (fun _=>True) Q fl (List.range l.length) L w.drew):wpC P n (.region id l.toArray true) Q L w:=
 fun a ha=>by
  simp only[Bool.and_eq_true]at f
  refine q9 hm g i (by simp only[Bool.and_eq_true]; exact f.1.1) (.inr ⟨f.1.2,fun j=>?_⟩) (h a ha)
  have:=f.2
  rw[j]at this
  cases this
theorem a8 (f:D w) (h:QE n Q .normal L w):lxE P n ops C D Q fl [] L w:=fun a ha=>⟨f,h a ha⟩
theorem ai {i:Nat} {r:List Nat} {d:Nat} {f:Op} {ty:TypeId} {pos:String} {after:Array Edge} {v:Value} (j:C w) (k:ops[i]? = some ⟨some d,f,ty,pos,after,none⟩) (o:fl i=true)
  (t:∀w,C w->OpV P n L w ⟨some d,f,ty,pos,after,none⟩ v w) (z:Nat.blt d n=true) (h:lxE P n ops C D Q fl r ((d,v) :: L) w):lxE P n ops C D Q fl (i :: r) L w:=fun a ha=>by
 refine⟨j,?_⟩
 simp only[k,o,if_true]
 exact⟨v,.inl (.inl ⟨by simp[Region.wanted],fun w' g=>t w' g a ha⟩),h _ (ha.put z)⟩
theorem k7 {i:Nat} {r:List Nat} {d:Nat} {f:Op} {ty:TypeId} {pos:String} {after:Array Edge} {v:Value} (g:C w) (j:ops[i]? = some ⟨some d,f,ty,pos,after,none⟩) (k:fl i=true) (o:fl (i+1000)=false)
  (t:OpV P n L w ⟨some d,f,ty,pos,after,none⟩ v w) (z:Nat.blt d n=true) (h:lxE P n ops C D Q fl r ((d,v) :: L) w):lxE P n ops C D Q fl (i :: r) L w:=fun a ha=>by
 refine⟨g,?_⟩
 simp only[j,k,if_true]
 exact⟨v,.inr ⟨o,by simp[Region.wanted],t a ha⟩,h _ (ha.put z)⟩
theorem mV {i:Nat} {r:List Nat} {d:Nat} {f:Op} {ty:TypeId} {pos:String} {after:Array Edge} {Φ:Value->World->Prop} (j:C w) (g:ops[i]? = some ⟨some d,f,ty,pos,after,none⟩) (k:fl i=false)
  (o:OpX P n L w ⟨some d,f,ty,pos,after,none⟩ Φ) (t:Nat.blt d n=true) (h:∀v w',Φ v w'->lxE P n ops C D Q fl r ((d,v) :: L) w'):lxE P n ops C D Q fl (i :: r) L w:=fun a ha=>by
 refine⟨j,?_⟩
 simp only[g,k,Bool.false_eq_true,if_false]
 obtain⟨v,w',z,A⟩:=o
 unfold wpOp
 simp only[g]
 rw[if_pos (by simp[Region.wanted])]
 left
 unfold Oper.wp
 rw[z a ha]
 exact h v w' A _ (ha.put t)
theorem gu {i:Nat} {r:List Nat} {f:Op} {ty:TypeId} {pos:String} {after:Array Edge} {Φ:World->Prop} (j:C w) (g:ops[i]? = some ⟨none,f,ty,pos,after,none⟩) (k:fl i=false)
  (o:OpY P n L w ⟨none,f,ty,pos,after,none⟩ Φ) (h:∀w',Φ w'->lxE P n ops C D Q fl r L w'):lxE P n ops C D Q fl (i :: r) L w:=fun a ha=>by
 refine⟨j,?_⟩
 simp only[g,k,Bool.false_eq_true,if_false]
 obtain⟨w',t,z⟩:=o
 unfold wpOp
 simp only[g]
 rw[if_pos (by simp[Region.wanted])]
 left
 unfold Oper.wp
 rw[t a ha]
 exact h w' z _ ha
end
end Go.Gk
end

section
namespace Go.Gk
open Go Go.RowKit
section
variable {P:Program} {n:Nat} {L:Env} {w w0:World} {Q:Exit->Act->World->Prop} {S:List Nat} {os:List OE}
variable {d:Option Tmp} {ty:TypeId} {pos:String} {after:Array Edge}
theorem ez {o:Oper} {Φ:Value->World->Prop} (v:Value) (w':World) (f:OpV P n L w o v w') (h:Φ v w'):OpX P n L w o Φ:=⟨v,w',f,h⟩
theorem sc {o:Oper} {Φ:World->Prop} (w':World) (f:OpS P n L w o w') (h:Φ w'):OpY P n L w o Φ:=⟨w',f,h⟩
theorem St.fresh (h:St S w0 w os):fre S w0.heap.size w.heap.size:=.inl h.fr.size
theorem Ax (z:Array Value) (sz c l:Nat) {τ:Type} (e:Enc τ) (j:τ) (A:z.toList=e.cells j) (hs:e.sz=sz) (hl:l<=c) :
  (madeCells z (c*sz)).toList.take (l*sz)=e.fl (List.replicate l j):=by
 have g:z.size=sz:=by rw[<-Array.length_toList,A,e.len,hs]
 apply List.ext_getElem?
 intro k
 rw[List.getElem?_take]
 split
 ·rename_i o
  have i:0<sz:=by
   rcases Nat.eq_zero_or_pos sz with h | h
   ·subst h; simp at o
   ·exact h
  have B:k<c*sz:=Nat.lt_of_lt_of_le o (Nat.mul_le_mul_right _ hl)
  have f:k%sz<sz:=Nat.mod_lt _ i
  have t:k / sz<l:=(Nat.div_lt_iff_lt_mul i).2 o
  have G:k=k / sz*e.sz+k%sz:=by rw[hs,Nat.mul_comm]; exact (Nat.div_add_mod k sz).symm
  have F:=e.fl_get (List.replicate l j) (k / sz) j (by simp[List.getElem?_replicate,t]) (k%sz) (by rw[hs]; exact f)
  rw[<-G]at F
  rw[F,<-A]
  simp only[madeCells,Array.toList_map,Array.toList_range,List.getElem?_map,List.getElem?_range B,Option.map_some,g]
  rw[getElem!_pos z (k%sz) (by rw[g]; exact f)]
  simp[g,f]
 ·rename_i o
  rw[List.getElem?_eq_none]
  rw[e.fl_length,List.length_replicate,hs]
  omega
theorem B3 {T E:TypeId} {x y:Operand} {k h:IntKind} {l c:Int} {τ:Type} {e:Enc τ} {g:τ} {z:Value} {bytes:Nat} (t:P.underlying T=some (.slice E)) (A:TI P E z e.sz bytes) (B:z.cells.toList=e.cells g)
  (hx:L.ev x=some (.int k l)) (hy:L.ev y=some (.int h c)) (i:St S w0 w os) (F:0<=l) (G:l<=c) (I:(bytes:Int)*c<=281474976710656) (J:c<=9223372036854775807) :
  OpX P n L w ⟨d,.makeSlice T x y,ty,pos,after,none⟩ (fun v w'=>St S w0 w' (own e v (List.replicate l.toNat g) :: os)):=by
 obtain⟨f,hi,j,hs,hb⟩:=A.get
 have K:=run_make (P:=P) w T E f z t hi j k h l c F G (by rw[hb]; exact I) J
 refine ez (.slice (some ⟨w.heap.size,0,none⟩) l.toNat c.toNat) (w.alloc (.cells (madeCells z.cells (c.toNat*f.size)) E)) (fun a ha=>?_) ?_
 ·simp only[execOp,ha.ev hx,ha.ev hy,Sem.run_bind,K,Result.andThen_ok]; rfl
 ·refine i.push (Fr.alloc _ _ _) (o:=own e _ _) ?_ ?_
  ·refine⟨e.fl_length _,.inr ⟨w.heap.size,c.toNat,madeCells z.cells (c.toNat*f.size),E,?_,i.fresh,Row.new w _ _,?_,?_,?_,?_⟩⟩
   ·simp
   ·simp; omega
   ·simp[maxLen]; omega
   ·rw[size_madeCells,hs]; exact Nat.le_refl _
   ·rw[hs,List.length_replicate]
    exact Ax z.cells e.sz c.toNat l.toNat e g B rfl (by omega)
  ·intro k M
   simp[OE.blk,Value.ownBlock]at M
   omega
theorem uF (f:Nat) (g:f=1):∀(vs:List Value) (k:Nat) (cells:Array Value),(∀v∈vs,v.oneCell'=true)->k+vs.length<=cells.size ->
  Instr.fill (fun i=>some (i*f,f)) cells (vs.zipIdx k |>.map fun p=>(p.2,p.1))=some (cells.toList.take k++vs++cells.toList.drop (k+vs.length)).toArray
 | [],k,cells,_,_=>by simp[Instr.fill]
 | v :: r,k,cells,h1,hk=>by
  subst g
  have j:v.cells=#[v]:=by have:=h1 v (by simp); cases v <;> simp_all [Value.cells,Value.oneCell']
  have o:=uF 1 rfl r (k+1) (cells.setIfInBounds k v) (fun u t=>h1 u (by simp[t])) (by simp at hk ⊢; omega)
  simp only[List.zipIdx_cons,List.map_cons,Instr.fill,j]
  rw[if_neg (by simp at hk ⊢; omega)]
  have h:(#[v]:Array Value).zipIdx.foldl (fun cs (x:Value×Nat)=>cs.setIfInBounds (k*1+x.2) x.1) cells=cells.setIfInBounds k v:=by
   have:(#[v]:Array Value).zipIdx=#[(v,0)]:=rfl
   rw[this]; simp
  rw[h,o]
  congr 2
  have e:=list_seg_step cells.toList k v r (by simp at hk ⊢; omega)
  simpa [Array.toList_setIfInBounds,Nat.add_assoc] using e
def Env.parts (L:Env):List (Nat×Operand)->Nat->Option (List Value)
 | [],_=>some []
 | (i,x) :: r,k=>if i=k then match L.ev x,Env.parts L r (k+1) with
  | some v,some vs=>some (v :: vs)
  | _,_=>none
  else none
theorem Env.parts_eq {L:Env} {a:Act} (ha:Rep n L a):∀{f:List (Nat×Operand)} {k:Nat} {vs:List Value},L.parts f k=some vs->f.map (fun p=>(p.1,a.eval p.2))=(vs.zipIdx k).map fun p=>(p.2,p.1)
 | [],k,vs,h=>by simp[Env.parts]at h; subst h; rfl
 | (i,x) :: r,k,vs,h=>by
  simp only[Env.parts]at h
  split at h
  ·rename_i g
   cases hx:L.ev x with
   | none=>simp[hx]at h
   | some v=>
    cases hr:L.parts r (k+1) with
    | none=>simp[hx,hr]at h
    | some us=>
     simp[hx,hr]at h
     subst h
     simp only[List.map_cons,List.zipIdx_cons,ha.ev hx,Env.parts_eq ha hr,g]
  ·cases h
theorem bJ {T E:TypeId} {m:Nat} {i:List (Nat×Operand)} {vs:List Value} {τ:Type} {e:Enc τ} {l:List τ} {z:Value} {bytes:Nat} (G:P.underlying T=some (.slice E)) (I:TI P E z 1 bytes)
  (J:L.parts i 0=some vs) (hm:vs.length=m) (f:e.sz=1) (hl:e.fl l=vs) (N:0<m) (O:m<=16777216) (A:St S w0 w os) :
  OpX P n L w ⟨d,.buildSlice T m i.toArray,ty,pos,after,none⟩ (fun v w'=>St S w0 w' (own e v l :: os)):=by
 obtain⟨g,hi,B,hs,hb⟩:=I.get
 have h:l.length=m:=by have:=e.fl_length l; rw[hl,hm,f]at this; omega
 have j:∀v∈vs,v.oneCell'=true:=by rw[<-hl]; exact e.fl_one l
 have t:=uF g.size hs vs 0 ((Array.range (m*g.size)).map (z.cells[·%z.cells.size]!)) j (by simp[hs,hm])
 simp only[List.take_zero,List.nil_append,Nat.zero_add]at t
 rw[List.drop_eq_nil_of_le (by simp[hs,hm]),List.append_nil]at t
 refine ez (.slice (some ⟨w.heap.size,0,none⟩) m m) (w.alloc (.cells vs.toArray E)) (fun a ha=>?_) ?_
 ·have F:(i.toArray.map fun x=>(x.1,a.eval x.2)).toList=(vs.zipIdx 0).map fun p=>(p.2,p.1):=by
   simp only[Array.toList_map]
   exact Env.parts_eq ha J
  have K:=run_buildSlice (P:=P) w T E m (i.toArray.map fun x=>(x.1,a.eval x.2)) vs.toArray g z G hi B (by rw[hs]; simp; omega) (by rw[hs]; simp; omega) (by rw[F]; exact t)
  simp only[execOp,Sem.run_bind,K,Result.andThen_ok]; rfl
 ·refine A.push (Fr.alloc _ _ _) (o:=own e _ _) ?_ ?_
  ·refine⟨e.fl_length _,.inr ⟨w.heap.size,m,vs.toArray,E,?_,A.fresh,Row.new w _ _,?_,?_,?_,?_⟩⟩
   ·rw[h]
   ·omega
   ·simp[maxLen]; omega
   ·simp[f,hm]
   ·rw[h,f,hl]; simp; exact List.take_of_length_le (by omega)
  ·intro k M
   simp[OE.blk,Value.ownBlock]at M
   omega
theorem sD {f g bytes:Nat} (h:g<f) (hb:f*bytes<=225000000000000) (j:bytes<=65536):Builtin.nextslicecap f g*bytes<=281474976710656:=by
 have i:Builtin.nextslicecap f g<=f+f / 4+512:=by
  unfold Builtin.nextslicecap
  split
  ·omega
  ·split
   ·omega
   ·rename_i k o
    rw[growBy_four]
    repeat' split
    all_goals omega
 calc Builtin.nextslicecap f g*bytes<=(f+f / 4+512)*bytes:=Nat.mul_le_mul_right _ i
  _=f*bytes+f / 4*bytes+512*bytes:=by rw[Nat.add_mul,Nat.add_mul]
  _<=281474976710656:=by
   have:f / 4*bytes<=f*bytes / 4:=by
    rw[Nat.le_div_iff_mul_le (by omega)]
    calc f / 4*bytes*4=f / 4*4*bytes:=by rw[Nat.mul_assoc,Nat.mul_comm bytes 4,<-Nat.mul_assoc]
     _<=f*bytes:=Nat.mul_le_mul_right _ (Nat.div_mul_le_self _ _)
   omega
theorem p8 (t ty e:TypeId) (i:TypeInfo) (F:P.underlying t=some (.slice e)) (hi:P.info? e=some i)
  (g f k:Nat) (h:Array Value) (T:TypeId) (hg:Row w g h T)
  (a:Addr) (m c:Nat) (news:List Value) (hl:news.length=m*i.size) (o:∀j u,news[j]? = some u->w.cell? (a.add j)=some u) (G:∀u∈news,u.oneCell'=true)
  (z:f+m<=k) (B:f*i.size+news.length<=h.size) :
  (Builtin.append_ #[t,t] ty #[.slice (some ⟨g,0,none⟩) f k,.slice (some a) m c]).run P w =
   .ok (.slice (some ⟨g,0,none⟩) (f+m) k) (w.setRow g (h.toList.take (f*i.size)++news++h.toList.drop (f*i.size+news.length)).toArray):=by
 have I:=run_firstCells_some (P:=P) w i.size m a m c news hl o
 have A:=ep P g (f*i.size) T news 0 h w hg (by simpa using B) G
 simp only[Nat.add_zero]at A
 simp[Builtin.append_,run_underlying F,sizeOf,typeInfo,hi,Builtin.lenOf,z,I,Addr.add_lit,A]
theorem kX (t ty e:TypeId) (i:TypeInfo) (j:P.underlying t=some (.slice e)) (hi:P.info? e=some i) (v:Value) (b:Option Addr) (f g c:Nat) (k:v=.slice b f g) (h:f<=g) (x:Option Addr) :
  (Builtin.append_ #[t,t] ty #[v,.slice x 0 c]).run P w=.ok v w:=by
 subst k
 cases b <;> cases x <;> simp[Builtin.append_,run_underlying j,sizeOf,typeInfo,hi,Builtin.lenOf,h,Builtin.firstCells,loadCells,loadCellsFrom,storeCells]
theorem jU {T E ty:TypeId} {τ:Type} {e:Enc τ} {z:Value} {bytes:Nat} {v u:Value} {l m:List τ} {B:Nat} (J:P.underlying T=some (.slice E)) (hE:TI P E z e.sz bytes) (hz:z.cells.size=e.sz) (a0:bytes<=65536) (ab:0<bytes)
  (M:(own e v l).ok S B w) (hu:RO w e u m) (hB:B<=w.heap.size) (hb:(l.length+m.length)*bytes<=225000000000000) :
  ∃v' w',(Builtin.append_ #[T,T] ty #[v,u]).run P w=.ok v' w'/\(own e v' (l++m)).ok S B w'/\Fr (own e v l).blk.toList w w'/\(∀k,(own e v' (l++m)).blk=some k->(own e v l).blk=some k\/w.heap.size<=k):=by
 obtain⟨h,hi,R,hs,U⟩:=hE.get
 obtain⟨ua,c,rfl,hc,hr⟩:=hu
 by_cases hm:m=[]
 ·subst hm
  rcases M.2 with⟨rfl,hn⟩ | ⟨g,f,K,T',rfl,V,hg,X,Y,Z,t⟩
  ·have hl:l=[]:=List.eq_nil_of_length_eq_zero hn
   subst hl
   refine⟨_,w,kX T ty E h J hi _ none 0 0 c rfl (Nat.le_refl _) ua,?_,Fr.refl _ _,fun k A=>.inl (by simpa using A)⟩
   simpa using M
  ·refine⟨_,w,kX T ty E h J hi _ (some ⟨g,0,none⟩) l.length f c rfl X ua,?_,Fr.refl _ _,fun k A=>.inl (by simpa using A)⟩
   simpa using M
 ·obtain⟨b,off,rfl,N⟩:=hr hm
  have i:∀j x,(e.fl m)[j]? = some x->w.cell? ((⟨b,off,none⟩:Addr).add j)=some x:=fun j x I=>by rw[dC]; exact N j x I
  have G:(e.fl m).length=m.length*h.size:=by rw[hs]; exact e.fl_length m
  have a3:0<m.length:=List.length_pos_iff.2 hm
  have a4:l.length+m.length<=225000000000000:=Nat.le_trans (Nat.le_mul_of_pos_right _ ab) hb
  rcases M.2 with⟨rfl,hn⟩ | ⟨g,f,K,T',rfl,V,hg,X,Y,Z,t⟩
  ·have hl:l=[]:=List.eq_nil_of_length_eq_zero hn
   subst hl
   simp only[List.length_nil,Nat.zero_add]at hb a4
   have o:=run_append_nil (P:=P) w T ty E h z J hi R ⟨b,off,none⟩ m.length c (e.fl m) G i a3 (by omega) (by rw[U]; omega)
   refine⟨_,_,o,⟨e.fl_length _,.inr ⟨w.heap.size,grownCap w m.length 0 E,_,E,?_,?_,Row.new w.drew _ _,?_,?_,?_,?_⟩⟩,?_,?_⟩
   ·simp
   ·exact .inl hB
   ·simp; exact grownCap_ge w m.length 0 E
   ·exact grownCap_le_maxLen w m.length 0 E (by simp[maxLen]; omega)
   ·have:=grownCap_ge w m.length 0 E
    simp only[Array.size_append,List.size_toArray,size_zeroCells,hz,e.fl_length,<-Nat.add_mul]
    exact Nat.mul_le_mul_right _ (by omega)
   ·simp only[List.nil_append,Array.toList_append,List.toList_toArray]
    rw[<-e.fl_length]
    exact List.take_left
   ·exact (Fr.drew _ w).trans (Fr.alloc _ _ _)
   ·intro k A
    simp[OE.blk,Value.ownBlock]at A
    right; omega
  ·by_cases hroom:l.length+m.length<=f
   ·have F:l.length*h.size+(e.fl m).length<=K.size:=by
     rw[G,<-Nat.add_mul]
     exact Nat.le_trans (Nat.mul_le_mul_right _ hroom) (by rw[hs]; exact Z)
    have o:=p8 (w:=w) T ty E h J hi g l.length f K T' hg ⟨b,off,none⟩ m.length c (e.fl m) G i (e.fl_one m) hroom F
    refine⟨_,_,o,⟨e.fl_length _,.inr ⟨g,f,_,T',?_,V,hg.set _ ?_,?_,Y,?_,?_⟩⟩,?_,?_⟩
    ·simp
    ·simp only[List.size_toArray,List.length_append,List.length_take,List.length_drop,Array.length_toList]at F ⊢
     omega
    ·simpa using hroom
    ·simp only[List.size_toArray,List.length_append,List.length_take,List.length_drop,Array.length_toList]at F ⊢
     omega
    ·rw[hs,t,List.length_append,Nat.add_mul]
     simp only[List.append_assoc]
     rw[<-List.append_assoc,<-e.fl_append]
     have:l.length*e.sz+m.length*e.sz=(e.fl (l++m)).length:=by rw[e.fl_length,List.length_append,Nat.add_mul]
     rw[this]
     exact List.take_left
    ·exact Fr.setRow w g _
    ·intro k A
     left
     simpa [OE.blk,Value.ownBlock] using A
   ·have O:∀j x,(e.fl l)[j]? = some x->w.cell? ((⟨g,0,none⟩:Addr).add j)=some x:=fun j x I=>by
     rw[dC,Nat.zero_add,hg.cell j]
     rw[<-t,List.getElem?_take]at I
     split at I
     ·simpa using I
     ·cases I
    have a5:(e.fl l).length=l.length*h.size:=by rw[hs]; exact e.fl_length l
    have o:=run_append_grow (P:=P) w T ty E h z J hi R ⟨g,0,none⟩ l.length f (e.fl l) a5 O ⟨b,off,none⟩ m.length c (e.fl m) G i (by omega) (by omega)
     (by rw[U]; exact sD (by omega) hb a0)
    refine⟨_,_,o,⟨e.fl_length _,.inr ⟨w.heap.size,grownCap w (l.length+m.length) f E,_,E,?_,?_,Row.new w.drew _ _,?_,?_,?_,?_⟩⟩,?_,?_⟩
    ·simp
    ·exact .inl hB
    ·simp; exact grownCap_ge w (l.length+m.length) f E
    ·exact grownCap_le_maxLen w (l.length+m.length) f E (by simp[maxLen]; omega)
    ·have:=grownCap_ge w (l.length+m.length) f E
     simp only[Array.size_append,List.size_toArray,size_zeroCells,hz,e.fl_length,<-Nat.add_mul]
     exact Nat.mul_le_mul_right _ (by omega)
    ·simp only[Array.toList_append,List.append_assoc]
     rw[<-List.append_assoc,<-e.fl_append,<-e.fl_length]
     exact List.take_left
    ·exact (Fr.drew _ w).trans (Fr.alloc _ _ _)
    ·intro k A
     simp[OE.blk,Value.ownBlock]at A
     right; omega
theorem zb {x y:Operand} {T E:TypeId} {τ:Type} {e:Enc τ} {z:Value} {bytes:Nat} {v u:Value} {l m:List τ} {i:Nat} (k:P.underlying T=some (.slice E)) (o:TI P E z e.sz bytes) (t:z.cells.size=e.sz) (j:bytes<=65536) (f:0<bytes)
  (hx:L.ev x=some v) (hy:L.ev y=some u) (g:St S w0 w os) (hi:os[i]? = some (own e v l)) (A:RO w e u m) (hb:(l.length+m.length)*bytes<=225000000000000) :
  OpX P n L w ⟨d,.call ⟨.builtin .append,#[x,y],#[T,T]⟩,ty,pos,after,none⟩ (fun h w'=>St S w0 w' (os.set i (own e h (l++m)))):=by
 obtain⟨h,w',B,F,G,I⟩:=jU (ty:=ty) k o t j f (g.ok _ (List.mem_of_getElem? hi)) A g.fr.size hb
 refine ez h w' (fun a ha=>?_) (g.set hi G F I)
 simp[execOp,resolve,invoke,builtin,ha.ev hx,ha.ev hy,B]
theorem wK {x y:Operand} {T E:TypeId} {τ:Type} {e:Enc τ} {z:Value} {bytes:Nat} {u:Value} {m:List τ} (o:P.underlying T=some (.slice E)) (t:TI P E z e.sz bytes) (A:z.cells.size=e.sz) (i:bytes<=65536) (f:0<bytes)
  (hx:L.ev x=some (.slice none 0 0)) (hy:L.ev y=some u) (j:St S w0 w os) (B:RO w e u m) (hb:m.length*bytes<=225000000000000) :
  OpX P n L w ⟨d,.call ⟨.builtin .append,#[x,y],#[T,T]⟩,ty,pos,after,none⟩ (fun g w'=>St S w0 w' (own e g m :: os)):=by
 have hn:(own e (.slice none 0 0) ([]:List τ)).ok S w0.heap.size w:=⟨by simp,.inl ⟨rfl,rfl⟩⟩
 obtain⟨g,w',F,G,I,J⟩:=jU (ty:=ty) o t A i f hn B j.fr.size (by simpa using hb)
 refine ez g w' (fun a ha=>?_) (j.push (by simpa [OE.blk,Value.ownBlock] using I) G fun k K=>?_)
 ·simp[execOp,resolve,invoke,builtin,ha.ev hx,ha.ev hy,F]
 ·rcases J k K with h | h
  ·simp[OE.blk,Value.ownBlock]at h
  ·exact h
theorem Eo {τ:Type} (e:Enc τ) (l:List τ) (j:Nat) (t:τ) (u:Value) (h:e.cells t=[u]) (f:j<l.length):e.fl (l.set j t)=(e.fl l).set (j*e.sz) u:=by
 have g:e.sz=1:=by rw[<-e.len t,h]; rfl
 have i:∀(l:List τ) (j:Nat),j<l.length->e.fl (l.set j t)=(e.fl l).set j u:=by
  intro l
  induction l with
  | nil=>intro j f; simp at f
  | cons a r ih=>
   intro j f
   have ha:∃b,e.cells a=[b]:=List.length_eq_one_iff.1 (by rw[e.len,g])
   obtain⟨b,hb⟩:=ha
   cases j with
   | zero=>simp[Enc.fl,h,hb]
   | succ j=>
    have:=ih j (by simpa using f)
    simp only[Enc.fl,List.set_cons_succ,List.flatMap_cons,hb,List.singleton_append]at this ⊢
    rw[this]
 rw[i l j f,g,Nat.mul_one]
theorem ti {T:TypeId} {z:Value} {bytes:Nat} (k:TI P T z 1 bytes) {g j:Nat} {f:Array Value} {i:TypeId} {u:Value} (hg:Row w g f i) (o:j<f.size) (t:u.oneCell'=true) :
  (storeVar T ⟨g,j,none⟩ u).run P w=.ok () (w.setRow g (f.toList.set j u).toArray):=by
 obtain⟨A,hi,_,hs,_⟩:=k.get
 have hc:u.cells=#[u]:=by cases u <;> simp_all [Value.cells,Value.oneCell']
 have h:=ep P g j i [u] 0 f w hg (by simp; omega) (by simpa using t)
 have he:(f.toList.take (j+0)++[u]++f.toList.drop (j+0+[u].length))=f.toList.set j u:=by
  simp only[Nat.add_zero,List.length_singleton]
  rw[List.set_eq_take_append_cons_drop,if_pos (by simpa using o)]
  simp
 rw[he]at h
 simp[storeVar,sizeOf,typeInfo,hi,hs,hc,h]
theorem qC {x y:Operand} {T:TypeId} {τ:Type} {e:Enc τ} {z:Value} {bytes:Nat} {v u:Value} {l:List τ} {i j:Nat} {t:τ} (U:TI P T z 1 bytes)
  (hx:L.ev x=some (pP (ixA v e.sz j))) (hy:L.ev y=some u) (F:e.cells t=[u]) (G:St S w0 w os) (hi:os[i]? = some (own e v l)) (V:j<l.length) :
  OpY P n L w ⟨none,.store T x y,ty,pos,after,none⟩ (fun w'=>St S w0 w' (os.set i (own e v (l.set j t)))):=by
 have I:=G.ok _ (List.mem_of_getElem? hi)
 have f:e.sz=1:=by rw[<-e.len t,F]; rfl
 have J:u.oneCell'=true:=e.one t u (by rw[F]; simp)
 rcases I.2 with⟨rfl,hn⟩ | ⟨g,o,A,X,rfl,K,hg,M,N,B,h⟩
 ·omega
 ·have O:j<A.size:=by rw[f]at B; omega
  have R:ixA (.slice (some ⟨g,0,none⟩) l.length o) e.sz j=⟨g,j,none⟩:=by simp[ixA,dC,f]
  rw[R]at hx
  have Y:=ti (P:=P) (T:=T) U hg O J
  refine sc (w.setRow g (A.toList.set j u).toArray) (fun a ha=>?_) (G.set hi (Fr.setRow w g _) (o':=own e _ _) ⟨e.fl_length _,.inr ⟨g,o,_,X,by simp,K,hg.set _ (by simp),by simpa using M,N,by simpa using B,?_⟩⟩ fun k Z=>.inl Z)
  ·simp[execOp,ha.ev hx,ha.ev hy,Instr.storeAt,Instr.sureAddr,Y]
  ·simp only[List.length_set]
   rw[Eo e l j t u F V,<-h,f,Nat.mul_one,Nat.mul_one,List.take_set]
theorem sO {D T E:TypeId} {x:Operand} {l:List UInt8} (A:P.underlying D=some .string) (B:P.underlying T=some (.slice E)) (F:P.underlying E=some (.int .u8))
  (hx:L.ev x=some (vS l)) (i:St S w0 w os) :
  OpX P n L w ⟨d,.convert D T x,ty,pos,after,none⟩ (fun v w'=>St S w0 w' (red e8 v l :: os)):=by
 have G:=Lib.run_convert_string_bytes (P:=P) w D T E ⟨⟨l⟩⟩ A B F
 have o:Fr [] w (Lib.bytesWorld w E ⟨⟨l⟩⟩):=⟨rfl,rfl,rfl,by rw[Lib.bytesWorld_size]; omega,fun k f _=>Lib.bytesWorld_at_old w E ⟨⟨l⟩⟩ k f⟩
 have t:(red e8 (.slice (some ⟨w.heap.size,0,none⟩) l.length (grownCap w (⟨⟨l⟩⟩:ByteArray).size 0 E)) l).ok S w0.heap.size (Lib.bytesWorld w E ⟨⟨l⟩⟩):=by
  refine⟨e8.fl_length l,_,_,rfl,grownCap_ge w _ 0 E,fun _=>⟨w.heap.size,0,rfl,?_,i.fresh,fun j u h=>?_⟩⟩
  ·rw[Lib.bytesWorld_size]; exact Nat.lt_succ_self _
  ·rw[tO]at h
   have g:j<l.length:=by
    have:=(List.getElem?_eq_some_iff.1 h).1
    simpa using this
   rw[Nat.zero_add,Lib.bytesWorld_cell w E ⟨⟨l⟩⟩ j g]
   simp[g]at h
   subst h
   simp[List.getD,g]
 have z:St S w0 (Lib.bytesWorld w E ⟨⟨l⟩⟩) (red e8 (.slice (some ⟨w.heap.size,0,none⟩) l.length (grownCap w (⟨⟨l⟩⟩:ByteArray).size 0 E)) l :: os):=i.push o t fun k f=>by
  simp only[OE.blk]at f
  split at f
  ·cases f
  ·simp[Value.ownBlock]at f; omega
 refine ez _ _ (fun a ha=>?_) z
 simp only[execOp,ha.ev hx,Sem.run_bind,G,Result.andThen_ok]; rfl
def Ret (φ:Value->World->Prop):Ending->World->Prop:=fun e w=>match e with
 | .returned v=>φ v w
 | _=>False
def gr (P:Program) (f:FuncId):Bool:=match P.funcs[f]? with
 | some fn => fn.body.isSome && fn.name != "runtime.NumGoroutine"
 | none=>false
theorem nu {f:FuncId} {args:Array Value} (h:gr P f=true):(callFunc f args).run P w=.ok (.enter f args) w:=by
 unfold gr at h
 split at h
 ·rename_i g i
  simp only[Bool.and_eq_true]at h
  have j : ¬ (g.name == "runtime.NumGoroutine") = true := by simpa using h.2
  have k:g.body.isNone=false:=by cases hb:g.body <;> simp_all
  simp only[callFunc,Sem.run_bind,program,Sem.run,Result.andThen_ok,i,j,k]
  rfl
 ·cases h
theorem pW {o:Oper} {f:FuncId} {xs:List Operand} {h:Array TypeId} {vs:List Value} {a:Act} (i:o.op=.call ⟨.value (.func f),xs.toArray,h⟩)
  (j:gr P f=true) (g:xs.map a.eval=vs):(execOp a.eval o).run P w=.ok (.enter f vs.toArray) w:=by
 simp only[execOp,i,resolve,Act.eval,Deferred.ofValue,Sem.run_bind,Sem.run_pure,Result.andThen_ok,invoke]
 have:(#[]++Array.map a.eval xs.toArray++#[]:Array Value)=vs.toArray:=by simp[g]
 rw[this]
 exact nu j
theorem oM {o:Oper} {f:FuncId} {xs:List Operand} {h:Array TypeId} {vs:List Value} {φ:Value->World->Prop} {K:Act->World->Prop} {a:Act} (i:o.op=.call ⟨.value (.func f),xs.toArray,h⟩)
  (j:gr P f=true) (g:xs.map a.eval=vs) (hc:Calls P f vs.toArray w (Ret φ)) (k:∀v w',φ v w'->K (a.put o.dst v) w'):o.wp P a w K Q:=by
 unfold Oper.wp
 rw[pW i j g]
 refine Calls.mono hc fun e w' he=>?_
 cases e with
 | returned v=>exact k v w' he
 | panicked c=>exact he.elim
 | outgrown=>exact he.elim
theorem jf {ops:Array Oper} {rest:List Oper} {d:Nat} {f:FuncId} {xs:List Operand} {i:Array TypeId} {vs:List Value} {φ:Value->World->Prop}
  (j:gr P f=true) (g:L.evs xs=some vs) (hc:Calls P f vs.toArray w (Ret φ)) (o:Nat.blt d n=true)
  (k:∀v w',φ v w'->wpR P n ops Q rest ((d,v) :: L) w'):wpR P n ops Q (⟨some d,.call ⟨.value (.func f),xs.toArray,i⟩,ty,pos,after,none⟩ :: rest) L w:=fun a ha=>by
 unfold wpList
 rw[if_pos (by simp[Region.wanted])]
 exact .inl (oM rfl j (ha.evs g) hc fun v w' h=>k v w' h _ (ha.put o))
theorem aJ {ops:Array Oper} {rest:List Oper} {d:Nat} {f:FuncId} {xs:List Operand} {h:Array TypeId} {vs:List Value} {φ:Value->World->Prop}
  (g:L.evs xs=some vs) (hc:Calls P f vs.toArray w (Ret φ)) (i:Nat.blt d n=true)
  (k:∀v w',φ v w'->wpR P n ops Q rest ((d,v) :: L) w') (j:gr P f=true:=by kernel_rfl):wpR P n ops Q (⟨some d,.call ⟨.value (.func f),xs.toArray,h⟩,ty,pos,after,none⟩ :: rest) L w:=jf j g hc i k
theorem aY {ops:Array Oper} {C D:World->Prop} {fl:Nat->Bool} {i:Nat} {r:List Nat} {d:Nat} {f:FuncId} {xs:List Operand} {t:Array TypeId} {vs:List Value} {φ:Value->World->Prop} (z:C w)
  (j:ops[i]? = some ⟨some d,.call ⟨.value (.func f),xs.toArray,t⟩,ty,pos,after,none⟩) (o:fl i=false)
  (A:gr P f=true) (g:L.evs xs=some vs) (hc:Calls P f vs.toArray w (Ret φ)) (B:Nat.blt d n=true)
  (k:∀v w',φ v w'->lxE P n ops C D Q fl r ((d,v) :: L) w'):lxE P n ops C D Q fl (i :: r) L w:=fun a ha=>by
 refine⟨z,?_⟩
 simp only[j,o,Bool.false_eq_true,if_false]
 unfold wpOp
 simp only[j]
 rw[if_pos (by simp[Region.wanted])]
 exact .inl (oM rfl A (ha.evs g) hc fun v w' h=>k v w' h _ (ha.put B))
theorem au {g:Func} {t:Tmp} {v:Value} {φ:Value->World->Prop} (f:g.results=#[.tmp t]) (i:L.get t=some v) (h:φ v w):QE n (bodyPost P g (Ret φ)) .ret L w:=fun a ha=>by
 refine⟨ha.defers,v,?_,h⟩
 have:=ha.get t v i
 simp[results,f,this]
theorem gp {g:Func} {φ:Value->World->Prop} (f:g.results=#[]) (h:φ (.tuple #[]) w):QE n (bodyPost P g (Ret φ)) .normal L w:=fun a ha=>by
 refine⟨ha.defers,.tuple #[],?_,h⟩
 simp[results,f]
theorem bE {o:Func} {i j:Tmp} {f g:Value} {φ:Value->World->Prop} (k:o.results=#[.tmp i,.tmp j]) (t:L.get i=some f) (z:L.get j=some g) (h:φ (.tuple #[f,g]) w):QE n (bodyPost P o (Ret φ)) .ret L w:=fun a ha=>by
 refine⟨ha.defers,.tuple #[f,g],?_,h⟩
 have A:=ha.get i f t
 have B:=ha.get j g z
 simp[results,k,A,B]
theorem dH {z:Func} {j k o:Tmp} {f g i:Value} {φ:Value->World->Prop} (t:z.results=#[.tmp j,.tmp k,.tmp o]) (A:L.get j=some f) (B:L.get k=some g) (F:L.get o=some i) (h:φ (.tuple #[f,g,i]) w):QE n (bodyPost P z (Ret φ)) .ret L w:=fun a ha=>by
 refine⟨ha.defers,.tuple #[f,g,i],?_,h⟩
 have G:=ha.get j f A
 have I:=ha.get k g B
 have J:=ha.get o i F
 simp[results,t,G,I,J]
theorem iD {B:Func} {k o t z:Tmp} {f g i j:Value} {φ:Value->World->Prop} (A:B.results=#[.tmp k,.tmp o,.tmp t,.tmp z]) (F:L.get k=some f) (G:L.get o=some g) (I:L.get t=some i) (J:L.get z=some j) (h:φ (.tuple #[f,g,i,j]) w):QE n (bodyPost P B (Ret φ)) .ret L w:=fun a ha=>by
 refine⟨ha.defers,.tuple #[f,g,i,j],?_,h⟩
 have K:=ha.get k f F
 have M:=ha.get o g G
 have N:=ha.get t i I
 have O:=ha.get z j J
 simp[results,A,K,M,N,O]
def lQ:Nat->List Value->Env
 | _,[]=>[]
 | k,v :: r=>(k,v) :: lQ (k+1) r
theorem qN:∀(vs:List Value) (k i:Nat) (v:Value),(lQ k vs).get i=some v->k<=i/\vs[i - k]? = some v
 | [],k,i,v,h=>by simp[lQ,Env.get]at h
 | u :: r,k,i,v,h=>by
  simp only[lQ,Env.get]at h
  by_cases hk:Nat.beq k i=true
  ·rw[hk]at h
   simp at h
   have:=Nat.eq_of_beq_eq_true hk
   subst this
   simp[h]
  ·simp only[hk]at h
   have:=qN r (k+1) i v (by simpa using h)
   refine⟨by omega,?_⟩
   rw[show i - k=(i - (k+1))+1 by omega]
   simpa using this.2
theorem CA {f:FuncId} {g:Func} {c:Code} {vs:List Value} {φ:Value->World->Prop} (j:P.funcs[f]? = some g) (hb:g.body=some c) (hn:Nat.ble vs.length g.ntmps=true)
  (h:wpC P g.ntmps c (bodyPost P g (Ret φ)) (lQ 0 vs) w):Calls P f vs.toArray w (Ret φ):=by
 refine calls_of_wp j hb (h _ ⟨rfl,?_,fun i v hi=>?_⟩)
 ·have:=Nat.le_of_ble_eq_true hn
  simp; omega
 ·have:=(qN vs 0 i v hi).2
  simp only[Nat.sub_zero]at this
  have hl:i<vs.length:=(List.getElem?_eq_some_iff.1 this).1
  rw[Array.getElem?_append_left (by simpa using hl)]
  simpa using this
end
end Go.Gk
end

section
namespace Go.Gk
open Go Go.RowKit
section
variable {P:Program} {n:Nat} {L:Env} {w w0:World} {Q:Exit->Act->World->Prop} {S:Q2} {os:List OE}
variable {d:Option Tmp} {ty:TypeId} {pos:String} {after:Array Edge}
theorem bh {x y:Operand} {T E:TypeId} {k:IntKind} {i:Int} {τ:Type} {e:Enc τ} {v:Value} {l:List τ} {t:τ} {z:Value} {bytes:Nat} (f:P.underlying T=some (.slice E)) (g:TI P E z e.sz bytes)
  (hx:L.ev x=some v) (hy:L.ev y=some (.int k i)) (h:RO w e v l) (hg:aC l i=some t) :
  OpV P n L w ⟨d,.indexAddr T x y,ty,pos,after,none⟩ (pP (ixA v e.sz i.toNat)) w:=
 E2 f g hx hy h (dR hg).1 (dR hg).2.1
theorem aX {x:Operand} {T:TypeId} {D:TypeDesc} {τ:Type} {e:Enc τ} {v:Value} {l:List τ} {i:Int} {t:τ} {u:Value} (f:P.underlying T=some D) (g:(match D with | .struct _ | .array _ _=>true | _=>false)=false)
  (hx:L.ev x=some (pP (ixA v e.sz i.toNat))) (h:RO w e v l) (hg:aC l i=some t) (j:e.cells t=[u]) :
  OpV P n L w ⟨d,.load T x,ty,pos,after,none⟩ u w:=z5 f g hx h (dR hg).2.2 j
theorem dF {x y:Operand} {T:TypeId} {k:IntKind} {i:Int} {l:Q1} {t:UInt8} (f:P.underlying T=some .string)
  (hx:L.ev x=some (vS l)) (hy:L.ev y=some (.int k i)) (hg:aC l i=some t) :
  OpV P n L w ⟨d,.index T x y,ty,pos,after,none⟩ (v8 t) w:=DF f hx hy (dR hg).1 (dR hg).2.2
theorem bX {x y:Operand} {T:TypeId} {τ:Type} {e:Enc τ} {z:Value} {bytes:Nat} {v u:Value} {l:List τ} {i:Nat} {j:Int} {t t':τ} (f:TI P T z 1 bytes)
  (hx:L.ev x=some (pP (ixA v e.sz j.toNat))) (hy:L.ev y=some u) (g:St S w0 w os) (hi:os[i]? = some (own e v l)) (hg:aC l j=some t') (h:e.cells t=[u]) :
  OpY P n L w ⟨none,.store T x y,ty,pos,after,none⟩ (fun w'=>St S w0 w' (os.set i (own e v (l.set j.toNat t)))):=
 qC f hx hy h g hi (dR hg).2.1
theorem qO {x y:Operand} {T:TypeId} {k:IntKind} {lo:Int} {l r:Q1} (f:P.underlying T=some .string)
  (hx:L.ev x=some (vS l)) (hy:L.ev y=some (.int k lo)) (hg:drO l lo=some r) :
  OpV P n L w ⟨d,.slice T x (some y) none none,ty,pos,after,none⟩ (vS r) w:=by
 obtain⟨⟨g,h⟩,rfl⟩:=iz hg
 exact Cq f hx hy g h
theorem EW {x z:Operand} {T:TypeId} {k:IntKind} {hi:Int} {l r:Q1} (f:P.underlying T=some .string)
  (hx:L.ev x=some (vS l)) (g:L.ev z=some (.int k hi)) (hg:tkO l hi=some r) :
  OpV P n L w ⟨d,.slice T x none (some z) none,ty,pos,after,none⟩ (vS r) w:=by
 obtain⟨⟨h,i⟩,rfl⟩:=je hg
 exact BF f hx g h i
section
variable {T E:TypeId} {τ:Type} {e:Enc τ} {v:Value} {l r:List τ} {z0:Value} {bytes:Nat}
theorem ze {x y z:Operand} {k f:IntKind} {lo hi:Int} (g:P.underlying T=some (.slice E)) (i:TI P E z0 e.sz bytes)
  (hx:L.ev x=some v) (hy:L.ev y=some (.int k lo)) (j:L.ev z=some (.int f hi)) (h:RO w e v l) (hg:slO l lo hi=some r) :
  OpV P n L w ⟨d,.slice T x (some y) (some z) none,ty,pos,after,none⟩ (slV v e.sz lo.toNat hi.toNat) w:=
 EK g i hx hy j h (cH hg).1.1 (cH hg).1.2.1 (cH hg).1.2.2
theorem oG {x y:Operand} {k:IntKind} {lo:Int} (f:P.underlying T=some (.slice E)) (g:TI P E z0 e.sz bytes)
  (hx:L.ev x=some v) (hy:L.ev y=some (.int k lo)) (h:RO w e v l) (hg:drO l lo=some r) :
  OpV P n L w ⟨d,.slice T x (some y) none none,ty,pos,after,none⟩ (slV v e.sz lo.toNat l.length) w:=
 Eg f g hx hy h (iz hg).1.1 (iz hg).1.2
theorem mz {x z:Operand} {k:IntKind} {hi:Int} (f:P.underlying T=some (.slice E)) (g:TI P E z0 e.sz bytes)
  (hx:L.ev x=some v) (i:L.ev z=some (.int k hi)) (h:RO w e v l) (hg:tkO l hi=some r) :
  OpV P n L w ⟨d,.slice T x none (some z) none,ty,pos,after,none⟩ (slV v e.sz 0 hi.toNat) w:=
 Dy f g hx i h (je hg).1.1 (je hg).1.2
theorem RO.g_sl {lo hi:Int} (h:RO w e v l) (hg:slO l lo hi=some r):RO w e (slV v e.sz lo.toNat hi.toNat) r:=by
 obtain⟨⟨g,i,f⟩,rfl⟩:=cH hg
 exact h.sub (by omega) f
theorem RO.g_sll {lo:Int} (h:RO w e v l) (hg:drO l lo=some r):RO w e (slV v e.sz lo.toNat l.length) r:=by
 obtain⟨⟨g,f⟩,rfl⟩:=iz hg
 exact h.subl f
theorem RO.g_slh {hi:Int} (h:RO w e v l) (hg:tkO l hi=some r):RO w e (slV v e.sz 0 hi.toNat) r:=by
 obtain⟨⟨g,f⟩,rfl⟩:=je hg
 exact h.subh f
theorem RP.g_sl {lo hi:Int} (h:RP S w e v l) (hg:slO l lo hi=some r):RP S w e (slV v e.sz lo.toNat hi.toNat) r:=by
 obtain⟨⟨g,i,f⟩,rfl⟩:=cH hg
 exact h.sub (by omega) f
theorem RP.g_sll {lo:Int} (h:RP S w e v l) (hg:drO l lo=some r):RP S w e (slV v e.sz lo.toNat l.length) r:=by
 obtain⟨⟨g,f⟩,rfl⟩:=iz hg
 exact h.subl f
theorem RP.g_slh {hi:Int} (h:RP S w e v l) (hg:tkO l hi=some r):RP S w e (slV v e.sz 0 hi.toNat) r:=by
 obtain⟨⟨g,f⟩,rfl⟩:=je hg
 exact h.subh f
theorem RP.nil (S:Q2) (w:World):RP S w e (.slice none 0 0) ([]:List τ):=⟨RO.nil w e,by simp[Value.ownBlock]⟩
end
theorem cV {T E:TypeId} {x y:Operand} {k g:IntKind} {l c:Int} {τ:Type} {e:Enc τ} {f:τ} {r:List τ} {z:Value} {bytes:Nat} (h:P.underlying T=some (.slice E)) (i:TI P E z e.sz bytes) (j:z.cells.toList=e.cells f)
  (hx:L.ev x=some (.int k l)) (hy:L.ev y=some (.int g c)) (o:St S w0 w os) (hg:mkO bytes l c f=some r) :
  OpX P n L w ⟨d,.makeSlice T x y,ty,pos,after,none⟩ (fun v w'=>St S w0 w' (own e v r :: os)):=by
 obtain⟨rfl,t,A,B,F⟩:=BY hg
 exact B3 h i j hx hy o t A B F
theorem dQ {x y:Operand} {T E:TypeId} {τ:Type} {e:Enc τ} {z:Value} {bytes:Nat} {v u:Value} {l m r:List τ} {i:Nat} (g:P.underlying T=some (.slice E)) (h:TI P E z e.sz bytes) (f:(Nat.beq z.cells.size e.sz&&Nat.ble bytes 65536&&Nat.blt 0 bytes)=true)
  (hx:L.ev x=some v) (hy:L.ev y=some u) (j:St S w0 w os) (hi:os[i]? = some (own e v l)) (k:RO w e u m) (hg:apO bytes l m=some r) :
  OpX P n L w ⟨d,.call ⟨.builtin .append,#[x,y],#[T,T]⟩,ty,pos,after,none⟩ (fun o w'=>St S w0 w' (os.set i (own e o r))):=by
 obtain⟨rfl,hb⟩:=mK hg
 simp only[Bool.and_eq_true,Nat.blt_eq]at f
 exact zb g h (Nat.eq_of_beq_eq_true f.1.1) (Nat.le_of_ble_eq_true f.1.2) f.2 hx hy j hi k hb
theorem sK {x y:Operand} {T E:TypeId} {τ:Type} {e:Enc τ} {z:Value} {bytes:Nat} {u:Value} {m r:List τ} (g:P.underlying T=some (.slice E)) (h:TI P E z e.sz bytes) (f:(Nat.beq z.cells.size e.sz&&Nat.ble bytes 65536&&Nat.blt 0 bytes)=true)
  (hx:L.ev x=some (.slice none 0 0)) (hy:L.ev y=some u) (i:St S w0 w os) (j:RO w e u m) (hg:apO bytes [] m=some r) :
  OpX P n L w ⟨d,.call ⟨.builtin .append,#[x,y],#[T,T]⟩,ty,pos,after,none⟩ (fun k w'=>St S w0 w' (own e k r :: os)):=by
 obtain⟨rfl,hb⟩:=mK hg
 simp only[Bool.and_eq_true,Nat.blt_eq]at f
 exact wK g h (Nat.eq_of_beq_eq_true f.1.1) (Nat.le_of_ble_eq_true f.1.2) f.2 hx hy i j (by simpa using hb)
theorem qr (T:TypeId) {x y r:Q1} (hg:oz x y=some r):bL P .add T (vS x) (vS y) (vS r):=by
 obtain⟨rfl,hb⟩:=AX hg
 exact EF T x y hb
theorem St.call {w':World} {os':List OE} (h:St S w0 w os) (z:St [] w w' os'):St S w0 w' (os'++os):=by
 have I:Fr [] w w':=z.fr
 have B:∀o∈os',∀k,o.blk=some k->w.heap.size<=k:=fun o i k F=>by
  rcases ((z.ok o i).lt F).2 with f | f
  ·exact f
  ·simp at f
 refine⟨h.fr.step I (by simp),fun o i=>?_,?_⟩
 ·rcases List.mem_append.1 i with i | i
  ·have j:=z.ok o i
   have V:=h.fr.size
   cases o with
   | sl v sz m cs=>
    refine⟨j.1,?_⟩
    rcases j.2 with hn | ⟨g,J,K,T,G,t,rest⟩
    ·exact .inl hn
    ·refine .inr ⟨g,J,K,T,G,.inl ?_,rest⟩
     rcases t with f | f
     ·omega
     ·simp at f
   | rd v sz m cs=>
    obtain⟨hl,a,c,G,hc,hx⟩:=j
    refine⟨hl,a,c,G,hc,fun hn=>?_⟩
    obtain⟨b,off,f,M,A,O⟩:=hx hn
    refine⟨b,off,f,M,.inl ?_,O⟩
    rcases A with A | A
    ·omega
    ·simp at A
   | bx b cs=>
    obtain⟨t,R⟩:=j
    refine⟨.inl ?_,R⟩
    rcases t with f | f
    ·omega
    ·simp at f
  ·exact (h.ok o i).fr I (by simp)
 ·rw[List.pairwise_append]
  refine⟨z.dj,h.dj,fun o i p U k F N=>?_⟩
  have f:=B o i k F
  have M:=((h.ok p U).lt N).1
  omega
theorem St.pick {os':List OE} (h:St S w0 w os) (f:Q2) (hn:f.Nodup) (he:os'.map some=f.map (fun i=>os[i]?)):St S w0 w os':=by
 have O:os'.length=f.length:=by have:=congrArg List.length he; simpa using this
 have g:∀k (A:k<os'.length),∃(j:k<f.length),os[f[k]]? = some os'[k]:=fun k A=>by
  have t:(os'.map some)[k]? = (f.map (fun i=>os[i]?))[k]?:=by rw[he]
  have j:k<f.length:=by omega
  simp[A,j]at t
  exact⟨j,t.symm⟩
 refine⟨h.fr,fun o R=>?_,?_⟩
 ·obtain⟨k,A,rfl⟩:=List.getElem_of_mem R
  obtain⟨j,t⟩:=g k A
  exact h.ok _ (List.mem_of_getElem? t)
 ·rw[List.pairwise_iff_getElem]
  intro a b ha hb B
  obtain⟨F,t⟩:=g a ha
  obtain⟨G,U⟩:=g b hb
  have I:f[a]≠f[b]:=by
   have:=List.pairwise_iff_getElem.1 hn a b F G B
   exact this
  have J:∀x y (hx:x<os.length) (hy:y<os.length),x<y->(os[x]).dj (os[y]):=List.pairwise_iff_getElem.1 h.dj
  obtain⟨l1,K⟩:=List.getElem?_eq_some_iff.1 t
  obtain⟨M,N⟩:=List.getElem?_eq_some_iff.1 U
  rcases Nat.lt_or_gt_of_ne I with z | z
  ·have:=J _ _ l1 M z; rw[K,N]at this; exact this
  ·have:=J _ _ M l1 z; rw[K,N]at this; exact this.symm
def ndB:Q2->Bool
 | []=>true
 | x :: l=>!(l.any (Nat.beq x))&&ndB l
theorem s8:∀l:Q2,ndB l=true->l.Nodup
 | [],_=>List.nodup_nil
 | x :: l,h=>by
  unfold ndB at h
  rw[Bool.and_eq_true]at h
  refine List.nodup_cons.2 ⟨fun hm=>?_,s8 l h.2⟩
  have f:=h.1
  rw[List.any_eq_true.2 ⟨x,hm,Nat.beq_refl x⟩]at f
  cases f
theorem St.pk {os':List OE} (h:St S w0 w os) (f:Q2) (hn:ndB f=true) (he:os'.map some=f.map (fun i=>os[i]?)):St S w0 w os':=h.pick f (s8 f hn) he
theorem St.drew (h:St S w0 w os):St S w0 w.drew os:=h.step (Fr.drew [] w)
theorem St.nil {τ:Type} (e:Enc τ) (h:St S w0 w os):St S w0 w (own e (.slice none 0 0) ([]:List τ) :: os):=
 ⟨h.fr,fun o f=>by
  rcases List.mem_cons.1 f with rfl | f
  ·exact⟨by simp,.inl ⟨rfl,rfl⟩⟩
  ·exact h.ok o f,List.Pairwise.cons (fun p _ k g=>by simp[OE.blk,Value.ownBlock]at g) h.dj⟩
theorem iF {ops:Array Oper} {o:Oper} {a:Act} {j:Nat} {f b:Bool} {t:Tmp} (ha:Rep n L a) (hg:o.guard=some (j,f)) (g:(ops[j]?).bind (·.dst)=some t) (hb:L.get t=some (vB b)) :
  Region.wanted o (yielded ops a.tmps)=(b == f):=by
 have:=ha.get t _ hb
 simp[Region.wanted,hg,yielded,g,this]
theorem aO {ops:Array Oper} {rest:List Oper} {d:Nat} {g:Op} {v:Value} {w':World} {j:Nat} {f:Bool} {t:Tmp}
  (i:(ops[j]?).bind (·.dst)=some t) (hb:L.get t=some (vB f))
  (k:OpV P n L w ⟨some d,g,ty,pos,after,none⟩ v w') (o:Nat.blt d n=true)
  (h:wpR P n ops Q rest ((d,v) :: L) w'):wpR P n ops Q (⟨some d,g,ty,pos,after,some (j,f)⟩ :: rest) L w:=fun a ha=>by
 unfold wpList
 rw[if_pos (by rw[iF ha rfl i hb]; simp)]
 refine .inl ?_
 have:=k a ha
 unfold Oper.wp
 have he:execOp a.eval ⟨some d,g,ty,pos,after,some (j,f)⟩=execOp a.eval ⟨some d,g,ty,pos,after,none⟩:=by cases g <;> rfl
 rw[he,this]
 exact h _ (ha.put o)
theorem bU {ops:Array Oper} {rest:List Oper} {d:Nat} {f:FuncId} {xs:List Operand} {o:Array TypeId} {vs:List Value} {φ:Value->World->Prop} {j:Nat} {g:Bool} {t:Tmp}
  (z:(ops[j]?).bind (·.dst)=some t) (hb:L.get t=some (vB g))
  (A:gr P f=true) (i:L.evs xs=some vs) (hc:Calls P f vs.toArray w (Ret φ)) (B:Nat.blt d n=true)
  (k:∀v w',φ v w'->wpR P n ops Q rest ((d,v) :: L) w'):wpR P n ops Q (⟨some d,.call ⟨.value (.func f),xs.toArray,o⟩,ty,pos,after,some (j,g)⟩ :: rest) L w:=fun a ha=>by
 unfold wpList
 rw[if_pos (by rw[iF ha rfl z hb]; simp)]
 exact .inl (oM rfl A (ha.evs i) hc fun v w' h=>k v w' h _ (ha.put B))
theorem aS {ops:Array Oper} {rest:List Oper} {d:Nat} {f:FuncId} {xs:List Operand} {i:Array TypeId} {vs:List Value} {V:Value} {os':List OE}
  (j:St S w0 w os) (g:L.evs xs=some vs) (hc:Calls P f vs.toArray w (Ret fun v w'=>v=V/\St [] w w' os')) (o:Nat.blt d n=true)
  (k:∀w',St S w0 w' (os'++os)->wpR P n ops Q rest ((d,V) :: L) w') (t:gr P f=true:=by kernel_rfl):wpR P n ops Q (⟨some d,.call ⟨.value (.func f),xs.toArray,i⟩,ty,pos,after,none⟩ :: rest) L w:=
 jf t g hc o fun v w' ⟨e,h⟩=>by subst e; exact k w' (j.call h)
theorem cU {ops:Array Oper} {rest:List Oper} {d:Nat} {f:FuncId} {xs:List Operand} {i:Array TypeId} {vs:List Value} {α:Type} {V:α->Value} {os':α->List OE}
  (j:St S w0 w os) (g:L.evs xs=some vs) (hc:Calls P f vs.toArray w (Ret fun v w'=>∃a,v=V a/\St [] w w' (os' a))) (o:Nat.blt d n=true)
  (k:∀a w',St S w0 w' (os' a++os)->wpR P n ops Q rest ((d,V a) :: L) w') (t:gr P f=true:=by kernel_rfl):wpR P n ops Q (⟨some d,.call ⟨.value (.func f),xs.toArray,i⟩,ty,pos,after,none⟩ :: rest) L w:=
 jf t g hc o fun v w' ⟨a,e,h⟩=>by subst e; exact k a w' (j.call h)
theorem bA {ops:Array Oper} {rest:List Oper} {d:Nat} {f:FuncId} {xs:List Operand} {i:Array TypeId} {vs:List Value} {α β:Type} {V:α->β->Value} {os':α->β->List OE}
  (j:St S w0 w os) (g:L.evs xs=some vs) (hc:Calls P f vs.toArray w (Ret fun v w'=>∃a,∃b,v=V a b/\St [] w w' (os' a b))) (o:Nat.blt d n=true)
  (k:∀a b w',St S w0 w' (os' a b++os)->wpR P n ops Q rest ((d,V a b) :: L) w') (t:gr P f=true:=by kernel_rfl):wpR P n ops Q (⟨some d,.call ⟨.value (.func f),xs.toArray,i⟩,ty,pos,after,none⟩ :: rest) L w:=
 jf t g hc o fun v w' ⟨a,b,e,h⟩=>by subst e; exact k a b w' (j.call h)
theorem aM {ops:Array Oper} {rest:List Oper} {d:Nat} {f:FuncId} {xs:List Operand} {i:Array TypeId} {vs:List Value} {os':Value->List OE}
  (j:St S w0 w os) (g:L.evs xs=some vs) (hc:Calls P f vs.toArray w (Ret fun v w'=>St [] w w' (os' v))) (o:Nat.blt d n=true)
  (k:∀v w',St S w0 w' (os' v++os)->wpR P n ops Q rest ((d,v) :: L) w') (t:gr P f=true:=by kernel_rfl):wpR P n ops Q (⟨some d,.call ⟨.value (.func f),xs.toArray,i⟩,ty,pos,after,none⟩ :: rest) L w:=
 jf t g hc o fun v w' h=>k v w' (j.call h)
theorem dm {ops:Array Oper} {rest:List Oper} {d:Nat} {f:FuncId} {xs:List Operand} {i:Array TypeId} {vs:List Value} {V:Value} {A:Prop} {os':List OE}
  (j:St S w0 w os) (g:L.evs xs=some vs) (hc:Calls P f vs.toArray w (Ret fun v w'=>v=V/\A/\St [] w w' os')) (o:Nat.blt d n=true)
  (k:A->∀w',St S w0 w' (os'++os)->wpR P n ops Q rest ((d,V) :: L) w') (t:gr P f=true:=by kernel_rfl):wpR P n ops Q (⟨some d,.call ⟨.value (.func f),xs.toArray,i⟩,ty,pos,after,none⟩ :: rest) L w:=
 jf t g hc o fun v w' ⟨e,z,h⟩=>by subst e; exact k z w' (j.call h)
theorem bW {ops:Array Oper} {C D:World->Prop} {fl:Nat->Bool} {i:Nat} {r:Q2} {d:Nat} {g:Op} {v:Value} {j:Nat} {f:Bool} {t:Tmp} (o:C w) (z:ops[i]? = some ⟨some d,g,ty,pos,after,some (j,f)⟩) (A:fl i=true)
  (B:(ops[j]?).bind (·.dst)=some t) (hb:L.get t=some (vB f))
  (F:∀w,C w->OpV P n L w ⟨some d,g,ty,pos,after,none⟩ v w) (G:Nat.blt d n=true) (h:lxE P n ops C D Q fl r ((d,v) :: L) w):lxE P n ops C D Q fl (i :: r) L w:=fun a ha=>by
 refine⟨o,?_⟩
 simp only[z,A,if_true]
 have he:execOp a.eval ⟨some d,g,ty,pos,after,some (j,f)⟩=execOp a.eval ⟨some d,g,ty,pos,after,none⟩:=by cases g <;> rfl
 exact⟨v,.inl (.inl ⟨by rw[iF ha rfl B hb]; simp,fun w' k=>by rw[he]; exact F w' k a ha⟩),h _ (ha.put G)⟩
theorem a9 {ops:Array Oper} {C D:World->Prop} {fl:Nat->Bool} {i:Nat} {r:Q2} {d:Nat} {k:Op} {j:Nat} {f b:Bool} {t:Tmp} (o:C w) (z:ops[i]? = some ⟨some d,k,ty,pos,after,some (j,f)⟩) (A:fl i=true)
  (B:(ops[j]?).bind (·.dst)=some t) (hb:L.get t=some (vB b)) (g:(b == f)=false) (F:Nat.blt d n=true) (h:lxE P n ops C D Q fl r ((d,undef) :: L) w):lxE P n ops C D Q fl (i :: r) L w:=fun a ha=>by
 refine⟨o,?_⟩
 simp only[z,A,if_true]
 exact⟨undef,.inl (.inr ⟨by rw[iF ha rfl B hb,g],rfl⟩),h _ (ha.put F)⟩
theorem iJ {ops:Array Oper} {C D:World->Prop} {fl:Nat->Bool} {i:Nat} {r:Q2} {d:Nat} {f:FuncId} {xs:List Operand} {B:Array TypeId} {vs:List Value} {φ:Value->World->Prop} {j:Nat} {g:Bool} {t:Tmp} (F:C w)
  (z:ops[i]? = some ⟨some d,.call ⟨.value (.func f),xs.toArray,B⟩,ty,pos,after,some (j,g)⟩) (A:fl i=false) (G:(ops[j]?).bind (·.dst)=some t) (hb:L.get t=some (vB g))
  (I:gr P f=true) (o:L.evs xs=some vs) (hc:Calls P f vs.toArray w (Ret φ)) (J:Nat.blt d n=true)
  (k:∀v w',φ v w'->lxE P n ops C D Q fl r ((d,v) :: L) w'):lxE P n ops C D Q fl (i :: r) L w:=fun a ha=>by
 refine⟨F,?_⟩
 simp only[z,A,Bool.false_eq_true,if_false]
 unfold wpOp
 simp only[z]
 rw[if_pos (by rw[iF ha rfl G hb]; simp)]
 exact .inl (oM rfl I (ha.evs o) hc fun v w' h=>k v w' h _ (ha.put J))
theorem en {ops:Array Oper} {C D:World->Prop} {fl:Nat->Bool} {i:Nat} {r:Q2} {d:Nat} {o:Op} {j:Nat} {f b:Bool} {t:Tmp} (z:C w) (g:ops[i]? = some ⟨some d,o,ty,pos,after,some (j,f)⟩) (A:fl i=false)
  (B:(ops[j]?).bind (·.dst)=some t) (hb:L.get t=some (vB b)) (k:(b == f)=false) (F:Nat.blt d n=true) (h:lxE P n ops C D Q fl r ((d,undef) :: L) w):lxE P n ops C D Q fl (i :: r) L w:=fun a ha=>by
 refine⟨z,?_⟩
 simp only[g,A,Bool.false_eq_true,if_false]
 unfold wpOp
 simp only[g]
 rw[if_neg (by rw[iF ha rfl B hb,k]; simp)]
 exact h _ (ha.put F)
theorem ay {f:FuncId} {g:Func} {c:Code} {vs:List Value} {φ:Value->World->Prop} (n:Nat) (i:P.funcs[f]? = some g) (hb:g.body=some c) (hn:g.ntmps=n) (hl:Nat.ble vs.length n=true)
  (h:wpC P n c (bodyPost P g (Ret φ)) (lQ 0 vs) w):Calls P f vs.toArray w (Ret φ):=by
 subst hn
 exact CA i hb hl h
theorem bf {σ ρ:Type} {c:Code} {r:ρ} (f:σ->Option (σ⊕ρ)) (I:σ->Env->World->Prop)
  (g:∀k s L w x,I s L w->(∀j o w',I j o w'->fa f k j=some r->wpN P n c Q k o w')->f s=some x->lk f k r x->wpC P n c (Exit.then (Code.rounds P c Q k) Q) L w)
  (s:σ) (i:I s L w) (h:loop f s=some r):wpC P n (.loop c) Q L w:=by
 obtain⟨k,z⟩:=nq h
 refine pG k ?_
 have t:∀k s L w,I s L w->fa f k s=some r->wpN P n c Q k L w:=by
  intro k
  induction k with
  | zero=>intro s L w _ h; simp[fa]at h
  | succ k ih=>
   intro s L w i h
   obtain⟨x,A,B⟩:=DC h
   exact gh (g k s L w x i ih A B)
 exact t k s L w i z
theorem aU {γ ρ:Type} {x y:Code} {r:ρ} (J:γ->Env->World->Prop) (f:γ->Option ρ)
  (hy:∀g L w,J g L w->f g=some r->wpC P n y Q L w)
  (hx:(∀g L w,J g L w->f g=some r->wpC P n y Q L w)->wpC P n x (Exit.then (y.wp P Q) Q) L w):wpC P n (.seq x y) Q L w:=
 az (hx hy)
end
end Go.Gk
end

section
namespace Go.Gk
open Go Go.RowKit
section
variable {P:Program} {n:Nat} {L:Env} {w w0:World} {Q:Exit->Act->World->Prop} {S:Q2} {os:List OE}
variable {d:Option Tmp} {ty:TypeId} {pos:String} {after:Array Edge}
structure ExtF (P:Program) (f:FuncId) (e:Array Value->Sem Value):Prop where
 fn : ∃ fn, P.funcs[f]? = some fn /\ fn.body.isNone = true /\ (fn.name == "runtime.NumGoroutine") = false /\ (Extern.findNext fn).isNone = true /\ Extern.find fn = some e
theorem wT {f:FuncId} {e:Array Value->Sem Value} {xs:List Operand} {j:Array TypeId} {vs:List Value} {v:Value} (h:ExtF P f e) (g:L.evs xs=some vs) (i:(e vs.toArray).run P w=.ok v w) :
  OpV P n L w ⟨d,.call ⟨.value (.func f),xs.toArray,j⟩,ty,pos,after,none⟩ v w:=fun a ha=>by
 obtain⟨fn,k,o,t,z,A⟩:=h.fn
 have B:=ha.evs g
 have F:Extern.findNext fn=none:=by simpa using z
 have G : ¬ fn.name = "runtime.NumGoroutine" := by simpa using t
 have I:fn.body=none:=by simpa using o
 simp only[execOp,resolve,Act.eval,Deferred.ofValue,Sem.run_bind,Sem.run_pure,Result.andThen_ok,invoke]
 have:(#[]++Array.map a.eval xs.toArray++#[]:Array Value)=vs.toArray:=by simp[B]
 rw[this]
 simp[callFunc,program,Sem.run,k,G,I,F,A,mark,i]
theorem t7 (l:Q1) (c:UInt8):Lib.indexByte l c=eE l c:=by
 induction l with
 | nil=>rfl
 | cons b l ih=>
  unfold Lib.indexByte
  rw[ih]
  unfold eE
  rw[List.findIdx?_cons]
  by_cases hb:(b == c)=true
  ·simp[hb]
  ·simp only[hb]
   cases h:List.findIdx? (fun x=>x == c) l with
   | none=>simp
   | some i=>simp
theorem wx (l:Q1) (c:UInt8) (w:World):(Extern.BytealgIndexByte.indexByte (([vS l,v8 c]:List Value).toArray)).run P w=.ok (vI (eE l c)) w:=by
 have:=Lib.run_indexByteString (P:=P) ⟨⟨l⟩⟩ c.toNat w
 rw[<-t7]
 simpa using this
theorem wS (l:Q1) (c:UInt8) (w:World):(Extern.BytealgCount.count (([vS l,v8 c]:List Value).toArray)).run P w=.ok (vI (uJ l c)) w:=by
 have:=Lib.run_countString (P:=P) ⟨⟨l⟩⟩ c.toNat w
 simpa [uJ,Lib.countByte] using this
end
end Go.Gk
end

section
namespace Go.Gk
open Go Go.RowKit
section
variable {P:Program} {n:Nat} {L:Env} {w w0:World} {Q:Exit->Act->World->Prop} {S:Q2} {os:List OE}
variable {d:Option Tmp} {ty:TypeId} {pos:String} {after:Array Edge}
theorem j7 {τ:Type} {e:Enc τ} {v:Value} {l:List τ} (h:RO w e v l) (k:Nat) (t:k<=l.length) :
  (Builtin.firstCells e.sz k v).run P w=.ok (e.fl (l.take k)).toArray w:=by
 obtain⟨a,c,rfl,hc,o⟩:=h
 cases a with
 | none=>
  have hl:l=[]:=by
   cases l with
   | nil=>rfl
   | cons x r=>obtain⟨b,off,h,_⟩:=o (by simp); cases h
  subst hl
  simp[Builtin.firstCells,Enc.fl]
 | some p=>
  by_cases hl:l=[]
  ·subst hl
   have:k=0:=by simpa using t
   subst this
   simp[Builtin.firstCells,loadCells,loadCellsFrom,Enc.fl]
  ·obtain⟨b,off,z,f⟩:=o hl
   cases z
   have i:(e.fl (l.take k)).length=k*e.sz:=by rw[e.fl_length,List.length_take]; congr 1; omega
   have:=run_loadCells_list (P:=P) w ⟨b,off,none⟩ (e.fl (l.take k)) (fun j u g=>by
    rw[dC]
    rw[e.fl_take,List.getElem?_take]at g
    split at g
    ·exact f j u g
    ·cases g)
   rw[i]at this
   exact this
theorem wH {T T2 E ty:TypeId} {τ:Type} {e:Enc τ} {z:Value} {bytes:Nat} {v u:Value} {l m:List τ} {B lo hi:Nat} (O:P.underlying T=some (.slice E)) (hE:TI P E z e.sz bytes) (f:e.sz=1)
  (R:(own e v l).ok S B w) (V:RO w e u m) (U:lo<=hi) (K:hi<=l.length) :
  ∃w',(Builtin.copy_ #[T,T2] ty #[slV v e.sz lo hi,u]).run P w=.ok (vI (min m.length (hi - lo):Nat)) w'/\(own e v (cpL l m lo hi)).ok S B w'/\Fr (own e v l).blk.toList w w':=by
 obtain⟨a5,F,_,hs,_⟩:=hE.get
 have G:=j7 (P:=P) V (min m.length (hi - lo)) (Nat.min_le_left _ _)
 obtain⟨ua,uc,rfl,a6,bx⟩:=V
 have I:cpL l m lo hi=l.take lo++m.take (min m.length (hi - lo))++l.drop (lo+min m.length (hi - lo)):=by
  unfold cpL
  congr 2
  by_cases h:m.length<=hi - lo
  ·rw[Nat.min_eq_left h,List.take_of_length_le h,List.take_of_length_le (Nat.le_refl _)]
  ·rw[Nat.min_eq_right (by omega)]
 rcases R.2 with⟨rfl,hn⟩ | ⟨g,j,k,X,rfl,Y,hg,Z,ab,N,t⟩
 ·have hl:l=[]:=List.eq_nil_of_length_eq_zero hn
  subst hl
  have e1:hi=0:=by simpa using K
  have e2:lo=0:=by omega
  subst e1 e2
  have o:slV (.slice none 0 0) e.sz 0 0=.slice none 0 0:=rfl
  refine⟨w,?_,?_,Fr.refl _ _⟩
  ·rw[o]
   simp at G
   simp[Builtin.copy_,run_underlying O,Builtin.lenOf,sizeOf,typeInfo,F,hs,G,goInt]
  ·rw[I]; simpa using R
 ·have ac:e.fl (m.take (min m.length (hi - lo)))=(e.fl m).take (min m.length (hi - lo)):=by rw[e.fl_take,f,Nat.mul_one]
  have i:(e.fl (m.take (min m.length (hi - lo)))).length=min m.length (hi - lo):=by rw[e.fl_length,f]; simp
  have a3:lo+min m.length (hi - lo)<=k.size:=by rw[f]at N; omega
  by_cases hcl:j=lo
  ·-- nothing can be laid
   have hz:hi - lo=0:=by omega
   refine⟨w,?_,?_,Fr.refl _ _⟩
   ·have o:slV (.slice (some ⟨g,0,none⟩) l.length j) e.sz lo hi=.slice (some ⟨g,0,none⟩) (hi - lo) (j - lo):=by simp[slV,hcl]
    rw[o]
    simp only[hz,Nat.min_zero]at G ⊢
    simp[Builtin.copy_,run_underlying O,Builtin.lenOf,sizeOf,typeInfo,F,hs,G,goInt,Enc.fl,storeCells]
   ·rw[I,hz]; simpa using R
  ·have o:slV (.slice (some ⟨g,0,none⟩) l.length j) e.sz lo hi=.slice (some ⟨g,lo,none⟩) (hi - lo) (j - lo):=by simp[slV,hcl,dC,f]
   have J:=ep P g lo X (e.fl (m.take (min m.length (hi - lo)))) 0 k w hg (by rw[i]; omega) (e.fl_one _)
   simp only[Nat.add_zero]at J
   obtain⟨M,A⟩:∃M,M=(k.toList.take lo++e.fl (m.take (min m.length (hi - lo)))++k.toList.drop (lo+(e.fl (m.take (min m.length (hi - lo)))).length)).toArray:=⟨_,rfl⟩
   rw[<-A]at J
   refine⟨w.setRow g M,?_,⟨e.fl_length _,.inr ⟨g,j,M,X,?_,Y,hg.set _ ?_,?_,ab,?_,?_⟩⟩,Fr.setRow w g _⟩
   ·rw[o]
    simp[Builtin.copy_,run_underlying O,Builtin.lenOf,sizeOf,typeInfo,F,hs,G,J,goInt]
   ·rw[ej l m lo hi U K]
   ·rw[A]
    simp only[List.size_toArray,List.length_append,List.length_take,List.length_drop,Array.length_toList,i]
    omega
   ·rw[ej l m lo hi U K]; exact Z
   ·rw[A]
    simp only[List.size_toArray,List.length_append,List.length_take,List.length_drop,Array.length_toList,i,f]at N ⊢
    omega
   ·rw[ej l m lo hi U K,I,e.fl_append,e.fl_append]
    have e3:k.toList.take lo=e.fl (l.take lo):=by
     rw[e.fl_take,<-t,List.take_take,f]; congr 1; omega
    rw[A,e3,i]
    simp only[List.toList_toArray]
    rw[List.take_append]
    have e4:(e.fl (l.take lo)++e.fl (m.take (min m.length (hi - lo)))).length=lo+min m.length (hi - lo):=by
     rw[List.length_append,i,e.fl_length,f,List.length_take]; omega
    rw[List.take_of_length_le (by rw[e4,f]; omega),e4]
    congr 1
    rw[e.fl_drop,<-t,f,List.take_drop]
    simp only[Nat.mul_one]
    congr 1
    congr 1
    omega
theorem CQ {v:Value} {τ:Type} {e:Enc τ} {l:List τ} (h:RO w e v l):slV v e.sz 0 l.length=v:=by
 obtain⟨a,c,rfl,hc,f⟩:=h
 simp only[slV,Nat.sub_zero,Nat.zero_mul]
 congr 1
 split
 ·rfl
 ·cases a <;> simp[Addr.add]
theorem CU {x y:Operand} {T T2 E:TypeId} {τ:Type} {e:Enc τ} {z:Value} {bytes:Nat} {v u:Value} {l m:List τ} {i lo hi:Nat} (j:P.underlying T=some (.slice E)) (o:TI P E z e.sz bytes) (g:e.sz=1)
  (hx:L.ev x=some (slV v e.sz lo hi)) (hy:L.ev y=some u) (h:St S w0 w os) (f:os[i]? = some (own e v l)) (t:RO w e u m) (A:lo<=hi) (B:hi<=l.length) :
  OpX P n L w ⟨d,.call ⟨.builtin .copy,#[x,y],#[T,T2]⟩,ty,pos,after,none⟩ (fun r w'=>r=vI (min m.length (hi - lo):Nat)/\St S w0 w' (os.set i (own e v (cpL l m lo hi)))):=by
 obtain⟨w',F,G,I⟩:=wH (T2:=T2) (ty:=ty) j o g (h.ok _ (List.mem_of_getElem? f)) t A B
 refine ez _ w' (fun a ha=>?_) ⟨rfl,h.set f I G fun k J=>.inl J⟩
 simp[execOp,resolve,invoke,builtin,ha.ev hx,ha.ev hy,F]
theorem ry {x y:Operand} {T T2 E:TypeId} {τ:Type} {e:Enc τ} {z:Value} {bytes:Nat} {v u:Value} {l m:List τ} {i:Nat} (k:P.underlying T=some (.slice E)) (o:TI P E z e.sz bytes) (g:e.sz=1)
  (hx:L.ev x=some v) (hy:L.ev y=some u) (j:St S w0 w os) (f:os[i]? = some (own e v l)) (t:RO w e u m) :
  OpX P n L w ⟨d,.call ⟨.builtin .copy,#[x,y],#[T,T2]⟩,ty,pos,after,none⟩ (fun r w'=>r=vI (min m.length l.length:Nat)/\St S w0 w' (os.set i (own e v (cpL l m 0 l.length)))):=by
 have h:=CU (P:=P) (n:=n) (d:=d) (ty:=ty) (pos:=pos) (after:=after) (T2:=T2) (lo:=0) (hi:=l.length) k o g (by rw[CQ (j.ro i f)]; exact hx) hy j f t (Nat.zero_le _) (Nat.le_refl _)
 exact h
theorem Bm {τ:Type} {e:Enc τ} {v:Value} {l:List τ} (h:RO w e v l) (k i:Nat):ixA (slV v e.sz 0 k) e.sz i=ixA v e.sz i:=by
 obtain⟨a,c,rfl,hc,f⟩:=h
 simp only[slV,Nat.zero_mul]
 cases a with
 | none=>split <;> rfl
 | some p=>
  have:p.add 0=p:=by simp[Addr.add]
  split <;> simp[ixA,this]
theorem RO.tk {τ:Type} {e:Enc τ} {v:Value} {l:List τ} (h:RO w e v l) {k:Nat} (f:k<=l.length):RO w e (slV v e.sz 0 k) (l.take k):=h.subh f
section
variable {T E:TypeId} {τ:Type} {e:Enc τ} {v:Value} {l r:List τ} {z0:Value} {bytes:Nat}
theorem zh {x z:Operand} {i:IntKind} {hi:Int} {k:Nat} (j:P.underlying T=some (.slice E)) (o:TI P E z0 e.sz bytes)
  (hx:L.ev x=some (slV v e.sz 0 k)) (t:L.ev z=some (.int i hi)) (h:RO w e v l) (hg:tkO l hi=some r) :
  OpV P n L w ⟨d,.slice T x none (some z) none,ty,pos,after,none⟩ (slV v e.sz 0 hi.toNat) w:=fun a ha=>by
 obtain⟨⟨A,G⟩,_⟩:=je hg
 obtain⟨b,c,rfl,hc,_⟩:=h
 obtain⟨F,g,_,hs,_⟩:=o.get
 have B:hi<=(c:Int):=by omega
 have f:L.ev x=some (.slice (if c=0 then b else b.map (·.add (0*e.sz))) (k - 0) (c - 0)):=hx
 have hb:(if c=0 then b else b.map (·.add (0*e.sz)))=b:=by
  split
  ·rfl
  ·cases b <;> simp[Addr.add]
 rw[hb]at f
 simp[execOp,ha.ev f,ha.ev t,Instr.sliceAt,Instr.slice,run_underlying j,Instr.sliceBounds,run_sliceBound,A,B,sizeOf,typeInfo,g,hs,slV]
theorem sI {x y:Operand} {f:IntKind} {i:Int} {t:τ} {k:Nat} (g:P.underlying T=some (.slice E)) (j:TI P E z0 e.sz bytes)
  (hx:L.ev x=some (slV v e.sz 0 k)) (hy:L.ev y=some (.int f i)) (h:RO w e v l) (o:k<=l.length) (hg:aC (l.take k) i=some t) :
  OpV P n L w ⟨d,.indexAddr T x y,ty,pos,after,none⟩ (pP (ixA v e.sz i.toNat)) w:=by
 rw[<-Bm h k]
 exact bh g j hx hy (h.tk o) hg
end
theorem sZ {τ:Type} {l:List τ} {k:Nat} {i:Int} {t:τ} (h:aC (l.take k) i=some t):aC l i=some t:=by
 unfold aC at h ⊢
 split at h
 ·rw[if_pos ‹_›]
  rw[List.getElem?_take]at h
  split at h
  ·exact h
  ·cases h
 ·cases h
end
end Go.Gk
end
