import Derived.Test.YtkickcbphbgldaaGreatDoorGkS
import Derived.Laws.CopyOwn
import Derived.Laws.MakeOwn
import Derived.Laws.AppendOwn
import Derived.Great.BuildSlice
import Derived.Deep.Draws
import Derived.Laws.BytesArg
import Derived.Lib.Strings
import Derived.Laws.Slices
import Derived.Deep.Quiet
import Derived.KernelRfl
import Derived.Lib.ConvBytes
import Derived.Lib.Bytealg
set_option linter.unusedVariables false
set_option linter.unusedSimpArgs false
set_option linter.unusedSectionVars false

section
namespace Go.Gk
open Go Go.RowKit
structure Enc (τ:Type) where
 sz:Nat
 cells:τ→List Value
 len:∀t,(cells t).length=sz
 one:∀t,∀u∈cells t,u.oneCell'=true
def e8:Enc UInt8:=⟨1,fun x=>[v8 x],fun _=>rfl,fun _ u h=>by simp at h; subst h; rfl⟩
def e32:Enc UInt32:=⟨1,fun x=>[v32 x],fun _=>rfl,fun _ u h=>by simp at h; subst h; rfl⟩
def e64:Enc UInt64:=⟨1,fun x=>[v64 x],fun _=>rfl,fun _ u h=>by simp at h; subst h; rfl⟩
def eS:Enc (List UInt8):=⟨1,fun x=>[vS x],fun _=>rfl,fun _ u h=>by simp at h; subst h; rfl⟩
structure SV where
 a:Option Addr
 n:Nat
 c:Nat
abbrev SV.v (s:SV):Value:=.slice s.a s.n s.c
def eV:Enc SV:=⟨1,fun x=>[x.v],fun _=>rfl,fun _ u h=>by simp at h; subst h; rfl⟩
abbrev Enc.fl {τ:Type} (e:Enc τ) (l:List τ):List Value:=l.flatMap e.cells
theorem Enc.fl_length {τ:Type} (e:Enc τ) (l:List τ):(e.fl l).length=l.length*e.sz:=by
 induction l with
 | nil=>simp [Enc.fl]
 | cons a r ih=>
  simp only [Enc.fl,List.flatMap_cons,List.length_append,List.length_cons,e.len,Nat.add_mul]at ih ⊢
  omega
theorem Enc.fl_append {τ:Type} (e:Enc τ) (l m:List τ):e.fl (l++m)=e.fl l++e.fl m:=by simp [Enc.fl]
theorem Enc.fl_one {τ:Type} (e:Enc τ) (l:List τ):∀u∈e.fl l,u.oneCell'=true:=by
 intro u hu
 simp only [Enc.fl,List.mem_flatMap]at hu
 obtain ⟨t,_,ht⟩:=hu
 exact e.one t u ht
theorem Enc.fl_drop {τ:Type} (e:Enc τ) (l:List τ) (k:Nat):e.fl (l.drop k)=(e.fl l).drop (k*e.sz):=by
 induction k generalizing l with
 | zero=>simp
 | succ k ih=>
  cases l with
  | nil=>simp [Enc.fl]
  | cons a r=>
   rw [List.drop_succ_cons,ih]
   simp only [Enc.fl,List.flatMap_cons,Nat.add_mul,Nat.one_mul]
   rw [Nat.add_comm,←List.drop_drop,←e.len a,List.drop_left]
theorem Enc.fl_take {τ:Type} (e:Enc τ) (l:List τ) (k:Nat):e.fl (l.take k)=(e.fl l).take (k*e.sz):=by
 induction k generalizing l with
 | zero=>simp [Enc.fl]
 | succ k ih=>
  cases l with
  | nil=>simp [Enc.fl]
  | cons a r=>
   rw [List.take_succ_cons]
   simp only [Enc.fl,List.flatMap_cons,Nat.add_mul,Nat.one_mul]at ih ⊢
   rw [ih,Nat.add_comm (k*e.sz),List.take_append]
   simp [e.len,List.take_of_length_le]
theorem Enc.fl_get {τ:Type} (e:Enc τ) (l:List τ) (i:Nat) (t:τ) (h:l[i]? = some t) (j:Nat) (hj:j<e.sz):(e.fl l)[i*e.sz+j]? = (e.cells t)[j]?:=by
 have h1:(e.fl l)[i*e.sz+j]? = ((e.fl l).drop (i*e.sz))[j]?:=by rw [List.getElem?_drop]
 rw [h1,←e.fl_drop]
 have h2:l.drop i=t :: l.drop (i+1):=by
  obtain ⟨hi,he⟩:=List.getElem?_eq_some_iff.1 h
  rw [List.drop_eq_getElem_cons hi,he]
 rw [h2]
 simp only [Enc.fl,List.flatMap_cons]
 rw [List.getElem?_append_left (by rw [e.len]; exact hj)]
def RO (w:World) {τ:Type} (e:Enc τ) (v:Value) (l:List τ):Prop:=
 ∃a c,v=.slice a l.length c∧l.length≤c∧(l≠[]→∃b off,a=some ⟨b,off,none⟩∧∀j u,(e.fl l)[j]? = some u→w.cell? ⟨b,off+j,none⟩=some u)
structure Fr (S:List Nat) (w w':World):Prop where
 os:w'.os=w.os
 tape:w'.tape=w.tape
 output:w'.output=w.output
 size:w.heap.size≤w'.heap.size
 block:∀k,k<w.heap.size→k ∉ S→w'.heap[k]? = w.heap[k]?
theorem Fr.refl (S:List Nat) (w:World):Fr S w w:=⟨rfl,rfl,rfl,Nat.le_refl _,fun _ _ _=>rfl⟩
theorem Fr.trans {S:List Nat} {a b c:World} (h:Fr S a b) (k:Fr S b c):Fr S a c:=
 ⟨k.os.trans h.os,k.tape.trans h.tape,k.output.trans h.output,Nat.le_trans h.size k.size,fun i hi hn=>(k.block i (Nat.lt_of_lt_of_le hi h.size) hn).trans (h.block i hi hn)⟩
theorem Fr.step {S R:List Nat} {a b c:World} (h:Fr S a b) (k:Fr R b c) (hr:∀x∈R,a.heap.size≤x∨x∈S):Fr S a c:=
 ⟨k.os.trans h.os,k.tape.trans h.tape,k.output.trans h.output,Nat.le_trans h.size k.size,fun i hi hn=>by
  refine (k.block i (Nat.lt_of_lt_of_le hi h.size) fun hx=>?_).trans (h.block i hi hn)
  rcases hr i hx with h1 | h1
  ·omega
  ·exact hn h1⟩
theorem Fr.mono {S R:List Nat} {a b:World} (h:Fr S a b) (hs:∀x∈S,x∈R):Fr R a b:=
 ⟨h.os,h.tape,h.output,h.size,fun k hk hn=>h.block k hk fun hx=>hn (hs k hx)⟩
theorem Fr.below {w w':World} (h:Fr [] w w'):Below w.heap.size w w':=⟨h.os,h.tape,h.output,h.size,fun k hk=>h.block k hk (by simp)⟩
theorem Fr.alloc (S:List Nat) (w:World) (o:Obj):Fr S w (w.alloc o):=⟨rfl,rfl,rfl,by simp,fun k hk _=>heap_alloc_old w o k hk⟩
theorem Fr.drew (S:List Nat) (w:World):Fr S w w.drew:=⟨rfl,rfl,rfl,Nat.le_refl _,fun _ _ _=>rfl⟩
theorem Fr.setRow (w:World) (g:Nat) (cs:Array Value):Fr [g] w (w.setRow g cs):=by
 refine ⟨rfl,rfl,rfl,by simp [World.setRow],fun k _ hn=>setRow_other w g k cs (by simpa using hn)⟩
theorem Fr.cell {S:List Nat} {w w':World} (h:Fr S w w') {p:Addr} (hp:p.block<w.heap.size) (hs:p.block ∉ S):w'.cell? p=w.cell? p:=
 World.cell?_of_block (h.block p.block hp hs)
theorem gV {w:World} {p:Addr} {u:Value} (h:w.cell? p=some u):p.block<w.heap.size:=World.block_lt_of_cell? w p h
abbrev rG (v:Value):Option Nat:=v.ownBlock
theorem RO.fr {S:List Nat} {w w':World} {τ:Type} {e:Enc τ} {v:Value} {l:List τ} (h:RO w e v l) (hf:Fr S w w') (hs:l≠[]→∀k∈S,rG v≠some k):RO w' e v l:=by
 obtain ⟨a,c,rfl,hc,hr⟩:=h
 refine ⟨a,c,rfl,hc,fun hl=>?_⟩
 obtain ⟨b,off,rfl,hcell⟩:=hr hl
 refine ⟨b,off,rfl,fun j u hj=>?_⟩
 have h1:=hcell j u hj
 rw [hf.cell (gV h1) (fun hx=>hs hl _ hx rfl)]
 exact h1
def RP (S:List Nat) (w:World) {τ:Type} (e:Enc τ) (v:Value) (l:List τ):Prop:=RO w e v l∧(l≠[]→∀k∈S,rG v≠some k)
theorem RP.now {S:List Nat} {w w':World} {τ:Type} {e:Enc τ} {v:Value} {l:List τ} (h:RP S w e v l) (hf:Fr S w w'):RO w' e v l:=h.1.fr hf h.2
theorem RO.rp {w:World} {τ:Type} {e:Enc τ} {v:Value} {l:List τ} (h:RO w e v l):RP [] w e v l:=⟨h,by simp⟩
theorem RO.nil (w:World) {τ:Type} (e:Enc τ):RO w e (.slice none 0 0) ([]:List τ):=⟨none,0,rfl,Nat.le_refl _,fun h=>absurd rfl h⟩
def slV (v:Value) (sz lo hi:Nat):Value:=match v with
 | .slice a _ c=>.slice (if c=lo then a else a.map (·.add (lo*sz))) (hi - lo) (c - lo)
 | v=>v
def slV3 (v:Value) (sz lo hi m:Nat):Value:=match v with
 | .slice a _ _=>.slice (if m=lo then a else a.map (·.add (lo*sz))) (hi - lo) (m - lo)
 | v=>v
theorem cc (b off k:Nat):(⟨b,off,none⟩:Addr).add k=⟨b,off+k,none⟩:=by
 unfold Addr.add; split <;> simp_all
theorem RO.sub {w:World} {τ:Type} {e:Enc τ} {v:Value} {l:List τ} (h:RO w e v l) {lo hi:Nat} (h1:lo≤hi) (h2:hi≤l.length) :
  RO w e (slV v e.sz lo hi) ((l.drop lo).take (hi - lo)):=by
 obtain ⟨a,c,rfl,hc,hr⟩:=h
 have hlen:((l.drop lo).take (hi - lo)).length=hi - lo:=by simp; omega
 refine ⟨if c=lo then a else a.map (·.add (lo*e.sz)),c - lo,by rw [hlen]; rfl,by rw [hlen]; omega,fun hne=>?_⟩
 have hl:l≠[]:=by rintro rfl; simp at hne
 have hpos:0<hi - lo:=by
  rcases Nat.eq_zero_or_pos (hi - lo) with h0 | h0
  ·rw [h0]at hne; simp at hne
  ·exact h0
 obtain ⟨b,off,rfl,hcell⟩:=hr hl
 have hcl:¬c=lo:=by omega
 refine ⟨b,off+lo*e.sz,by simp [hcl,cc],fun j u hj=>?_⟩
 rw [e.fl_take,e.fl_drop,List.getElem?_take]at hj
 split at hj
 ·rw [List.getElem?_drop]at hj
  have:=hcell _ _ hj
  rw [Nat.add_assoc]
  exact this
 ·cases hj
theorem RO.sub3 {w:World} {τ:Type} {e:Enc τ} {v:Value} {l:List τ} (h:RO w e v l) {lo hi m:Nat} (h1:lo≤hi) (h2:hi≤l.length) (h3:hi≤m) :
  RO w e (slV3 v e.sz lo hi m) ((l.drop lo).take (hi - lo)):=by
 obtain ⟨a,c,rfl,hc,hr⟩:=h
 have hlen:((l.drop lo).take (hi - lo)).length=hi - lo:=by simp; omega
 refine ⟨if m=lo then a else a.map (·.add (lo*e.sz)),m - lo,by rw [hlen]; rfl,by rw [hlen]; omega,fun hne=>?_⟩
 have hl:l≠[]:=by rintro rfl; simp at hne
 have hpos:0<hi - lo:=by
  rcases Nat.eq_zero_or_pos (hi - lo) with h0 | h0
  ·rw [h0]at hne; simp at hne
  ·exact h0
 obtain ⟨b,off,rfl,hcell⟩:=hr hl
 have hcl:¬m=lo:=by omega
 refine ⟨b,off+lo*e.sz,by simp [hcl,cc],fun j u hj=>?_⟩
 rw [e.fl_take,e.fl_drop,List.getElem?_take]at hj
 split at hj
 ·rw [List.getElem?_drop]at hj
  have:=hcell _ _ hj
  rw [Nat.add_assoc]
  exact this
 ·cases hj
def ixA (v:Value) (sz i:Nat):Addr:=match v with
 | .slice (some a) _ _=>a.add (i*sz)
 | _=>default
theorem RO.cellAt {w:World} {τ:Type} {e:Enc τ} {v:Value} {l:List τ} (h:RO w e v l) {i:Nat} {t:τ} (hi:l[i]? = some t) {j:Nat} (hj:j<e.sz) {u:Value} (hu:(e.cells t)[j]? = some u) :
  w.cell? ((ixA v e.sz i).add j)=some u:=by
 obtain ⟨a,c,rfl,hc,hr⟩:=h
 have hl:l≠[]:=by rintro rfl; simp at hi
 obtain ⟨b,off,rfl,hcell⟩:=hr hl
 have:=hcell (i*e.sz+j) u (by rw [e.fl_get l i t hi j hj]; exact hu)
 simp only [ixA,cc]
 rw [Nat.add_assoc]
 exact this
theorem RO.cellAt0 {w:World} {τ:Type} {e:Enc τ} {v:Value} {l:List τ} (h:RO w e v l) {i:Nat} {t:τ} (hi:l[i]? = some t) {u:Value} (hu:e.cells t=[u]) :
  w.cell? (ixA v e.sz i)=some u:=by
 have hsz:e.sz=1:=by rw [←e.len t,hu]; rfl
 have:=h.cellAt hi (j:=0) (by omega) (u:=u) (by rw [hu]; rfl)
 simpa [Addr.add] using this
def Row (w:World) (g:Nat) (cur:Array Value) (T:TypeId):Prop:=∃mk:Nat×Nat,w.heap[g]? = some (.cells cur T mk)∧(mk=(0,0)∨cur.size≤mk.1)
theorem Row.of {w:World} {g:Nat} {cur:Array Value} {T:TypeId} (h:w.heap[g]? = some (.cells cur T (0,0))):Row w g cur T:=⟨_,h,.inl rfl⟩
theorem Row.new (w:World) (cs:Array Value) (T:TypeId):Row (w.alloc (.cells cs T)) w.heap.size cs T:=.of (heap_alloc_new w _)
theorem Row.lt {w:World} {g:Nat} {cur:Array Value} {T:TypeId} (h:Row w g cur T):g<w.heap.size:=by
 obtain ⟨mk,h,_⟩:=h
 exact (Array.getElem?_eq_some_iff.1 h).1
theorem Row.cell {w:World} {g:Nat} {cur:Array Value} {T:TypeId} (h:Row w g cur T) (j:Nat):w.cell? ⟨g,j,none⟩=cur[j]?:=by
 obtain ⟨mk,h,_⟩:=h
 exact cell_of_row w g j cur T mk h
theorem Row.mv {w w':World} {g:Nat} {cur:Array Value} {T:TypeId} (h:Row w g cur T) (he:w'.heap[g]? = w.heap[g]?):Row w' g cur T:=by
 obtain ⟨mk,h,hm⟩:=h
 exact ⟨mk,he.trans h,hm⟩
theorem Row.set {w:World} {g:Nat} {cur:Array Value} {T:TypeId} (h:Row w g cur T) (cs:Array Value) (hc:cs.size=cur.size):Row (w.setRow g cs) g cs T:=by
 obtain ⟨mk,h,hm⟩:=h
 exact ⟨mk,setRow_heap w g cur cs T mk h,by rw [hc]; exact hm⟩
theorem dH (P:Program) (g o:Nat) (t:TypeId):∀(vs:List Value) (i:Nat) (cur:Array Value) (w:World),Row w g cur t→o+i+vs.length≤cur.size→(∀v∈vs,v.oneCell'=true) →
  (storeCells ⟨g,o,none⟩ vs i).run P w=.ok () (w.setRow g (cur.toList.take (o+i)++vs++cur.toList.drop (o+i+vs.length)).toArray)
 | [],i,cur,w,hr,_,_=>by
  obtain ⟨fz,hg,_⟩:=hr
  simp only [storeCells,List.append_nil,List.length_nil,Nat.add_zero,List.take_append_drop,Array.toArray_toList]
  rw [setRow_self w g cur t fz hg]
  rfl
 | v :: rest,i,cur,w,hr,hl,h1=>by
  have hi:o+i<cur.size:=by simp at hl; omega
  have hadd:(⟨g,o,none⟩:Addr).add i=⟨g,o+i,none⟩:=by unfold Addr.add; split <;> simp_all
  have hr2:=hr.set (cur.setIfInBounds (o+i) v) (by simp)
  obtain ⟨fz,hg,hfz⟩:=hr
  have hcell:w.cell? ⟨g,o+i,none⟩=some cur[o+i]:=by simp [World.cell?,hg,hi]
  have hfro:w.frozen? ⟨g,o+i,none⟩=false:=by
   rcases hfz with rfl | hfz
   ·simp [World.frozen?,hg]
   ·obtain ⟨lo,hi'⟩:=fz
    simp only [World.frozen?,hg,Bool.and_eq_false_iff,decide_eq_false_iff_not]
    left
    simp only at hfz
    omega
  have hst:(store ((⟨g,o,none⟩:Addr).add i) v).run P w=.ok () (w.setRow g (cur.setIfInBounds (o+i) v)):=by
   rw [hadd,run_store P w _ v _ (h1 v (by simp)),hcell]
   simp [hfro,setCell_eq_setRow w g (o+i) cur t fz v hg]
  have ih:=dH P g o t rest (i+1) (cur.setIfInBounds (o+i) v) (w.setRow g (cur.setIfInBounds (o+i) v)) hr2 (by simp at hl ⊢; omega) (fun x hx=>h1 x (by simp [hx]))
  simp only [storeCells,Sem.run_bind,hst,Result.andThen_ok,ih,setRow_setRow]
  congr 3
  have e:=list_seg_step cur.toList (o+i) v rest (by simp at hl ⊢; omega)
  simpa [Array.toList_setIfInBounds,Nat.add_assoc] using e
inductive OE where
 | sl (v:Value) (sz n:Nat) (cs:List Value)
 | rd (v:Value) (sz n:Nat) (cs:List Value)
 | bx (b:Nat) (cs:List Value)
def OE.blk:OE→Option Nat
 | .sl v _ _ _=>rG v
 | .rd v _ n _=>if n=0 then none else rG v
 | .bx b _=>some b
def fre (S:List Nat) (B b:Nat):Prop:=B≤b∨b∈S
def OE.ok (S:List Nat) (B:Nat) (w:World):OE→Prop
 | .sl v sz n cs=>cs.length=n*sz∧((v=.slice none 0 0∧n=0) ∨
   ∃g cap cur T,v=.slice (some ⟨g,0,none⟩) n cap∧fre S B g∧Row w g cur T∧n≤cap∧cap≤maxLen∧cap*sz≤cur.size∧cur.toList.take (n*sz)=cs)
 | .rd v sz n cs=>cs.length=n*sz∧∃a c,v=.slice a n c∧n≤c ∧
   (n≠0→∃b off,a=some ⟨b,off,none⟩∧b<w.heap.size∧fre S B b∧∀j u,cs[j]? = some u→w.cell? ⟨b,off+j,none⟩=some u)
 | .bx b cs=>fre S B b∧∃T cur,w.heap[b]? = some (.cells cur T (0,0))∧cur.toList=cs
theorem OE.ok.lt {S:List Nat} {B:Nat} {w:World} {o:OE} (h:o.ok S B w) {k:Nat} (hk:o.blk=some k):k<w.heap.size∧fre S B k:=by
 cases o with
 | sl v sz n cs=>
  rcases h.2 with ⟨rfl,_⟩ | ⟨g,cap,cur,T,rfl,hf,hg,_⟩
  ·simp [OE.blk,Value.ownBlock]at hk
  ·simp [OE.blk,Value.ownBlock]at hk
   subst hk
   exact ⟨hg.lt,hf⟩
 | rd v sz n cs=>
  obtain ⟨_,a,c,rfl,_,hx⟩:=h
  simp only [OE.blk]at hk
  split at hk
  ·cases hk
  ·rename_i hn
   obtain ⟨b,off,rfl,hb,hf,_⟩:=hx hn
   simp [Value.ownBlock]at hk
   subst hk
   exact ⟨hb,hf⟩
 | bx b cs=>
  obtain ⟨hf,T,cur,hg,_⟩:=h
  simp [OE.blk]at hk
  subst hk
  exact ⟨(Array.getElem?_eq_some_iff.1 hg).1,hf⟩
theorem OE.ok.fr {S R:List Nat} {B:Nat} {w w':World} {o:OE} (h:o.ok S B w) (hf:Fr R w w') (hr:∀k∈R,o.blk≠some k):o.ok S B w':=by
 cases o with
 | sl v sz n cs=>
  refine ⟨h.1,?_⟩
  rcases h.2 with hn | ⟨g,cap,cur,T,rfl,hfr,hg,rest⟩
  ·exact .inl hn
  ·exact .inr ⟨g,cap,cur,T,rfl,hfr,hg.mv (hf.block g hg.lt (fun hx=>hr g hx rfl)),rest⟩
 | rd v sz n cs=>
  obtain ⟨hl,a,c,rfl,hc,hcell⟩:=h
  refine ⟨hl,a,c,rfl,hc,fun hne=>?_⟩
  obtain ⟨b,off,rfl,hbl,hfre,hh⟩:=hcell hne
  refine ⟨b,off,rfl,Nat.lt_of_lt_of_le hbl hf.size,hfre,fun j u hj=>?_⟩
  have h1:=hh j u hj
  rw [hf.cell (gV h1) (fun hx=>hr _ hx (by simp [OE.blk,hne,Value.ownBlock]))]
  exact h1
 | bx b cs=>
  obtain ⟨hfr,T,cur,hg,hcs⟩:=h
  refine ⟨hfr,T,cur,?_,hcs⟩
  rw [hf.block b (Array.getElem?_eq_some_iff.1 hg).1 (fun hx=>hr b hx rfl)]
  exact hg
def OE.dj (o p:OE):Prop:=∀k,o.blk=some k→p.blk≠some k
theorem OE.dj.symm {o p:OE} (h:o.dj p):p.dj o:=fun k hp ho=>h k ho hp
structure St (S:List Nat) (w0 w:World) (os:List OE):Prop where
 fr:Fr S w0 w
 ok:∀o∈os,o.ok S w0.heap.size w
 dj:os.Pairwise OE.dj
theorem St.start (w:World):St [] w w []:=⟨Fr.refl _ _,by simp,List.Pairwise.nil⟩
theorem St.step {S:List Nat} {w0 w w':World} {os:List OE} (h:St S w0 w os) (hf:Fr [] w w'):St S w0 w' os:=
 ⟨h.fr.step hf (by simp),fun o ho=>(h.ok o ho).fr hf (by simp),h.dj⟩
theorem St.push {S:List Nat} {w0 w w':World} {os:List OE} (h:St S w0 w os) (hf:Fr [] w w') {o:OE} (ho:o.ok S w0.heap.size w') (hn:∀k,o.blk=some k→w.heap.size≤k):St S w0 w' (o :: os):=by
 refine ⟨h.fr.step hf (by simp),?_,?_⟩
 ·intro p hp
  rcases List.mem_cons.1 hp with rfl | hp
  ·exact ho
  ·exact (h.ok p hp).fr hf (by simp)
 ·refine List.Pairwise.cons (fun p hp k hk hk'=>?_) h.dj
  have:=(h.ok p hp).lt hk'
  have:=hn k hk
  omega
theorem St.set {S:List Nat} {w0 w w':World} {os:List OE} (h:St S w0 w os) {i:Nat} {o o':OE} (hi:os[i]? = some o) (hf:Fr o.blk.toList w w') (ho:o'.ok S w0.heap.size w')
  (hn:∀k,o'.blk=some k→o.blk=some k∨w.heap.size≤k):St S w0 w' (os.set i o'):=by
 have hio:=List.mem_of_getElem? hi
 refine ⟨h.fr.step hf fun x hx=>?_,?_,?_⟩
 ·cases hb:o.blk with
  | none=>rw [hb]at hx; simp at hx
  | some k=>
   rw [hb]at hx
   simp at hx
   subst hx
   exact ((h.ok o hio).lt hb).2
 ·intro p hp
  obtain ⟨j,hj⟩:=List.getElem?_of_mem hp
  rw [List.getElem?_set]at hj
  split at hj
  ·split at hj
   ·simp at hj; subst hj; exact ho
   ·cases hj
  ·rename_i hij
   refine (h.ok p (List.mem_of_getElem? hj)).fr hf fun k hk hb=>?_
   have hd:∀x y (hx:x<os.length) (hy:y<os.length),x<y→(os[x]).dj (os[y]):=List.pairwise_iff_getElem.1 h.dj
   obtain ⟨hil,hie⟩:=List.getElem?_eq_some_iff.1 hi
   obtain ⟨hjl,hje⟩:=List.getElem?_eq_some_iff.1 hj
   have hok:o.blk=some k:=by
    cases hbk:o.blk with
    | none=>rw [hbk]at hk; simp at hk
    | some q=>rw [hbk]at hk; simp at hk; rw [hk]
   rcases Nat.lt_or_gt_of_ne hij with hlt | hlt
   ·have:=hd i j hil hjl hlt; rw [hie,hje]at this; exact this k hok hb
   ·have:=hd j i hjl hil hlt; rw [hie,hje]at this; exact this k hb hok
 ·rw [List.pairwise_iff_getElem]
  intro x y hx hy hxy
  have hd:∀x y (hx:x<os.length) (hy:y<os.length),x<y→(os[x]).dj (os[y]):=List.pairwise_iff_getElem.1 h.dj
  obtain ⟨hil,hie⟩:=List.getElem?_eq_some_iff.1 hi
  simp only [List.length_set]at hx hy
  rw [List.getElem_set,List.getElem_set]
  split
  ·split
   ·omega
   ·rename_i h1 h2
    subst h1
    intro k hk hk'
    rcases hn k hk with h3 | h3
    ·have:=hd i y hx hy hxy; rw [hie]at this; exact this k h3 hk'
    ·have:=((h.ok _ (List.getElem_mem hy)).lt hk').1; omega
  ·split
   ·rename_i h1 h2
    subst h2
    intro k hk hk'
    rcases hn k hk' with h3 | h3
    ·have:=hd x i hx hy hxy; rw [hie]at this; exact this k hk h3
    ·have:=((h.ok _ (List.getElem_mem hx)).lt hk).1; omega
   ·exact hd x y hx hy hxy
theorem St.sub {S:List Nat} {w0 w:World} {os os':List OE} (h:St S w0 w os) (hs:os'.Sublist os):St S w0 w os':=
 ⟨h.fr,fun o ho=>h.ok o (hs.subset ho),h.dj.sublist hs⟩
abbrev own {τ:Type} (e:Enc τ) (v:Value) (l:List τ):OE:=.sl v e.sz l.length (e.fl l)
abbrev red {τ:Type} (e:Enc τ) (v:Value) (l:List τ):OE:=.rd v e.sz l.length (e.fl l)
theorem OE.ok.ro {S:List Nat} {B:Nat} {w:World} {τ:Type} {e:Enc τ} {v:Value} {l:List τ} (h:(own e v l).ok S B w):RO w e v l:=by
 rcases h.2 with ⟨rfl,hn⟩ | ⟨g,cap,cur,T,rfl,hfr,hg,hnc,hcm,hcs,htake⟩
 ·have:l=[]:=List.eq_nil_of_length_eq_zero hn
  subst this
  exact RO.nil w e
 ·refine ⟨_,cap,rfl,hnc,fun _=>⟨g,0,rfl,fun j u hj=>?_⟩⟩
  rw [←htake,List.getElem?_take]at hj
  split at hj
  ·rw [Nat.zero_add,hg.cell j]
   simpa using hj
  ·cases hj
theorem OE.ok.rro {S:List Nat} {B:Nat} {w:World} {τ:Type} {e:Enc τ} {v:Value} {l:List τ} (h:(red e v l).ok S B w):RO w e v l:=by
 obtain ⟨_,a,c,rfl,hc,hcell⟩:=h
 refine ⟨a,c,rfl,hc,fun hl=>?_⟩
 obtain ⟨b,off,h1,_,_,h2⟩:=hcell (by simpa using hl)
 exact ⟨b,off,h1,h2⟩
theorem St.ro {S:List Nat} {w0 w:World} {os:List OE} (h:St S w0 w os) (i:Nat) {τ:Type} {e:Enc τ} {v:Value} {l:List τ} (hi:os[i]? = some (own e v l)):RO w e v l:=
 (h.ok _ (List.mem_of_getElem? hi)).ro
theorem St.rro {S:List Nat} {w0 w:World} {os:List OE} (h:St S w0 w os) (i:Nat) {τ:Type} {e:Enc τ} {v:Value} {l:List τ} (hi:os[i]? = some (red e v l)):RO w e v l:=
 (h.ok _ (List.mem_of_getElem? hi)).rro
end Go.Gk
end

section
namespace Go.Gk
open Go Go.RowKit
section
variable {P:Program} {n:Nat} {L:Env} {w:World} {Q:Exit→Act→World→Prop}
variable {d:Option Tmp} {ty:TypeId} {pos:String} {after:Array Edge}
theorem mn (l:List UInt8):(⟨⟨l⟩⟩:ByteArray).size=l.length:=rfl
def TI (P:Program) (E:TypeId) (z:Value) (sz bytes:Nat):Prop:=(P.info? E).map (fun i=>(i.zero,i.size,i.bytes))=some (some z,sz,bytes)
theorem TI.get {E:TypeId} {z:Value} {sz bytes:Nat} (h:TI P E z sz bytes):∃i,P.info? E=some i∧i.zero=some z∧i.size=sz∧i.bytes=bytes:=by
 unfold TI at h
 cases hi:P.info? E with
 | none=>rw [hi]at h; cases h
 | some i=>
  rw [hi]at h
  simp only [Option.map_some,Option.some.injEq,Prod.mk.injEq]at h
  exact ⟨i,rfl,h.1,h.2.1,h.2.2⟩
def OpX (P:Program) (n:Nat) (L:Env) (w:World) (o:Oper) (Φ:Value→World→Prop):Prop:=∃v w',OpV P n L w o v w'∧Φ v w'
theorem aU {ops:Array Oper} {rest:List Oper} {d:Nat} {op:Op} {Φ:Value→World→Prop}
  (hv:OpX P n L w ⟨some d,op,ty,pos,after,none⟩ Φ) (hd:Nat.blt d n=true)
  (h:∀v w',Φ v w'→wpR P n ops Q rest ((d,v) :: L) w'):wpR P n ops Q (⟨some d,op,ty,pos,after,none⟩ :: rest) L w:=by
 obtain ⟨v,w',h1,h2⟩:=hv
 exact al h1 hd (h v w' h2)
def OpY (P:Program) (n:Nat) (L:Env) (w:World) (o:Oper) (Φ:World→Prop):Prop:=∃w',OpS P n L w o w'∧Φ w'
theorem bn {ops:Array Oper} {rest:List Oper} {op:Op} {Φ:World→Prop}
  (hv:OpY P n L w ⟨none,op,ty,pos,after,none⟩ Φ)
  (h:∀w',Φ w'→wpR P n ops Q rest L w'):wpR P n ops Q (⟨none,op,ty,pos,after,none⟩ :: rest) L w:=by
 obtain ⟨w',h1,h2⟩:=hv
 exact A0 h1 (h w' h2)
theorem aL {x:Operand} {T E:TypeId} {τ:Type} {e:Enc τ} {v:Value} {l:List τ} (hT:P.underlying T=some (.slice E)) (hx:L.ev x=some v) (h:RO w e v l) :
  OpV P n L w ⟨d,.call ⟨.builtin .len,#[x],#[T]⟩,ty,pos,after,none⟩ (vI l.length) w:=fun a ha=>by
 obtain ⟨b,c,rfl,_⟩:=h
 simp [execOp,resolve,invoke,builtin,Builtin.len_,ha.ev hx,run_underlying hT,goInt]
theorem kq {x:Operand} {T:TypeId} {l:List UInt8} (hT:P.underlying T=some .string) (hx:L.ev x=some (vS l)) :
  OpV P n L w ⟨d,.call ⟨.builtin .len,#[x],#[T]⟩,ty,pos,after,none⟩ (vI l.length) w:=fun a ha=>by
 simp [execOp,resolve,invoke,builtin,Builtin.len_,ha.ev hx,run_underlying hT,goInt,mn]
theorem sB {T E:TypeId} {k:IntKind} {i:Int} {τ:Type} {e:Enc τ} {v:Value} {l:List τ} {z:Value} {bytes:Nat} (hT:P.underlying T=some (.slice E)) (hE:TI P E z e.sz bytes)
  (h:RO w e v l) (h0:0≤i) (h1:i.toNat<l.length):(Instr.indexAt T v (.int k i)).run P w=.ok (pP (ixA v e.sz i.toNat)) w:=by
 obtain ⟨a,c,rfl,hc,hr⟩:=h
 obtain ⟨b,off,rfl,_⟩:=hr (by rintro rfl; simp at h1)
 obtain ⟨inf,hi,_,hs,_⟩:=hE.get
 have h2:i<l.length:=by omega
 simp [Instr.indexAt,asIntOf,run_underlying hT,h0,h2,sizeOf,typeInfo,hi,hs,ixA]
theorem AL {x y:Operand} {T E:TypeId} {k:IntKind} {i:Int} {τ:Type} {e:Enc τ} {v:Value} {l:List τ} {z:Value} {bytes:Nat} (hT:P.underlying T=some (.slice E)) (hE:TI P E z e.sz bytes)
  (hx:L.ev x=some v) (hy:L.ev y=some (.int k i)) (h:RO w e v l) (h0:0≤i) (h1:i.toNat<l.length) :
  OpV P n L w ⟨d,.indexAddr T x y,ty,pos,after,none⟩ (pP (ixA v e.sz i.toNat)) w:=fun a ha=>by
 simp [execOp,ha.ev hx,ha.ev hy,sB (k:=k) hT hE h h0 h1]
theorem xg {x:Operand} {T:TypeId} {D:TypeDesc} {p:Addr} {u:Value} (hT:P.underlying T=some D) (hD:(match D with | .struct _ | .array _ _=>true | _=>false)=false)
  (hx:L.ev x=some (pP p)) (h:w.cell? p=some u) :
  OpV P n L w ⟨d,.load T x,ty,pos,after,none⟩ u w:=fun a ha=>by
 have:(isAgg T).run P w=.ok false w:=by
  simp only [isAgg,Sem.run_bind,run_underlying hT,Result.andThen_ok]
  cases D <;> simp_all
 simp [execOp,ha.ev hx,Instr.loadAt,Instr.sureAddr,loadVar,this,load,Sem.run,h]
theorem uW {x:Operand} {T:TypeId} {D:TypeDesc} {τ:Type} {e:Enc τ} {v:Value} {l:List τ} {i:Nat} {t:τ} {u:Value} (hT:P.underlying T=some D) (hD:(match D with | .struct _ | .array _ _=>true | _=>false)=false)
  (hx:L.ev x=some (pP (ixA v e.sz i))) (h:RO w e v l) (hi:l[i]? = some t) (hu:e.cells t=[u]) :
  OpV P n L w ⟨d,.load T x,ty,pos,after,none⟩ u w:=xg hT hD hx (h.cellAt0 hi hu)
theorem y7 {x y:Operand} {T:TypeId} {k:IntKind} {i:Int} {l:List UInt8} {t:UInt8} (hT:P.underlying T=some .string)
  (hx:L.ev x=some (vS l)) (hy:L.ev y=some (.int k i)) (h0:0≤i) (h1:l[i.toNat]? = some t) :
  OpV P n L w ⟨d,.index T x y,ty,pos,after,none⟩ (v8 t) w:=fun a ha=>by
 have hg:(⟨⟨l⟩⟩:ByteArray)[i.toNat]? = some t:=by
  obtain ⟨hl,he⟩:=List.getElem?_eq_some_iff.1 h1
  rw [ByteArray.getElem?_lt' _ _ (by simpa [mn] using hl)]
  rw [←he]; rfl
 simp [execOp,ha.ev hx,ha.ev hy,Instr.index,asIntOf,run_underlying hT,h0,hg]
def fY (l:List UInt8) (lo hi:Nat):List UInt8:=(l.drop lo).take (hi - lo)
theorem rL (l:List UInt8) (lo hi:Nat):(⟨⟨l⟩⟩:ByteArray).extract lo hi=⟨⟨fY l lo hi⟩⟩:=by
 rw [ByteArray.extract_mk]; simp [fY]
theorem xH {x y:Operand} {T:TypeId} {k:IntKind} {lo:Int} {l:List UInt8} (hT:P.underlying T=some .string)
  (hx:L.ev x=some (vS l)) (hy:L.ev y=some (.int k lo)) (h0:0≤lo) (h2:lo.toNat≤l.length) :
  OpV P n L w ⟨d,.slice T x (some y) none none,ty,pos,after,none⟩ (vS (l.drop lo.toNat)) w:=fun a ha=>by
 have e2:lo≤((⟨⟨l⟩⟩:ByteArray).size:Int):=by rw [mn]; omega
 have e4:fY l lo.toNat (⟨⟨l⟩⟩:ByteArray).size=l.drop lo.toNat:=by
  unfold fY; rw [List.take_of_length_le]; simp [mn]
 simp [execOp,ha.ev hx,ha.ev hy,Instr.sliceAt,Instr.slice,run_underlying hT,Instr.sliceBounds,run_sliceBound,h0,e2,rL,e4]
section
variable {T E:TypeId} {τ:Type} {e:Enc τ} {v:Value} {l:List τ} {z0:Value} {bytes:Nat}
theorem Ai {x y z:Operand} {k k':IntKind} {lo hi:Int} (hT:P.underlying T=some (.slice E)) (hE:TI P E z0 e.sz bytes)
  (hx:L.ev x=some v) (hy:L.ev y=some (.int k lo)) (hz:L.ev z=some (.int k' hi)) (h:RO w e v l) (h0:0≤lo) (h1:lo≤hi) (h2:hi.toNat≤l.length) :
  OpV P n L w ⟨d,.slice T x (some y) (some z) none,ty,pos,after,none⟩ (slV v e.sz lo.toNat hi.toNat) w:=fun a ha=>by
 obtain ⟨b,c,rfl,hc,_⟩:=h
 obtain ⟨inf,hi',_,hs,_⟩:=hE.get
 have e2:hi≤(c:Int):=by omega
 have e3:(hi.toNat:Int)=hi:=Int.toNat_of_nonneg (by omega)
 simp [execOp,ha.ev hx,ha.ev hy,ha.ev hz,Instr.sliceAt,Instr.slice,run_underlying hT,Instr.sliceBounds,run_sliceBound,h0,e2,e3,h1,(by omega:0≤hi),sizeOf,typeInfo,hi',hs,slV]
theorem yG {x y:Operand} {k:IntKind} {lo:Int} (hT:P.underlying T=some (.slice E)) (hE:TI P E z0 e.sz bytes)
  (hx:L.ev x=some v) (hy:L.ev y=some (.int k lo)) (h:RO w e v l) (h0:0≤lo) (h2:lo.toNat≤l.length) :
  OpV P n L w ⟨d,.slice T x (some y) none none,ty,pos,after,none⟩ (slV v e.sz lo.toNat l.length) w:=fun a ha=>by
 obtain ⟨b,c,rfl,hc,_⟩:=h
 obtain ⟨inf,hi',_,hs,_⟩:=hE.get
 have e2:lo≤(l.length:Int):=by omega
 simp [execOp,ha.ev hx,ha.ev hy,Instr.sliceAt,Instr.slice,run_underlying hT,Instr.sliceBounds,run_sliceBound,h0,e2,sizeOf,typeInfo,hi',hs,slV]
theorem zK {x z:Operand} {k':IntKind} {hi:Int} (hT:P.underlying T=some (.slice E)) (hE:TI P E z0 e.sz bytes)
  (hx:L.ev x=some v) (hz:L.ev z=some (.int k' hi)) (h:RO w e v l) (h1:0≤hi) (h2:hi.toNat≤l.length) :
  OpV P n L w ⟨d,.slice T x none (some z) none,ty,pos,after,none⟩ (slV v e.sz 0 hi.toNat) w:=fun a ha=>by
 obtain ⟨b,c,rfl,hc,_⟩:=h
 obtain ⟨inf,hi',_,hs,_⟩:=hE.get
 have e2:hi≤(c:Int):=by omega
 simp [execOp,ha.ev hx,ha.ev hz,Instr.sliceAt,Instr.slice,run_underlying hT,Instr.sliceBounds,run_sliceBound,h1,e2,sizeOf,typeInfo,hi',hs,slV]
theorem RO.subl (h:RO w e v l) {lo:Nat} (h2:lo≤l.length):RO w e (slV v e.sz lo l.length) (l.drop lo):=by
 have:=h.sub (lo:=lo) (hi:=l.length) h2 (Nat.le_refl _)
 rwa [List.take_of_length_le (by simp)]at this
theorem RO.subh (h:RO w e v l) {hi:Nat} (h2:hi≤l.length):RO w e (slV v e.sz 0 hi) (l.take hi):=by
 have:=h.sub (lo:=0) (hi:=hi) (Nat.zero_le _) h2
 simpa using this
theorem RP.sub {S:List Nat} (h:RP S w e v l) {lo hi:Nat} (h1:lo≤hi) (h2:hi≤l.length):RP S w e (slV v e.sz lo hi) ((l.drop lo).take (hi - lo)):=by
 refine ⟨h.1.sub h1 h2,fun hne k hk hb=>h.2 (fun e=>hne (by rw [e]; simp)) k hk ?_⟩
 obtain ⟨a,c,rfl,_⟩:=h.1
 cases a with
 | none=>simp [slV,Value.ownBlock]at hb
 | some x=>
  by_cases hc:c=lo
  ·simpa [slV,hc,Value.ownBlock] using hb
  ·simp [slV,hc,Value.ownBlock]at hb ⊢
   rw [←hb]; unfold Addr.add; split <;> rfl
theorem RP.subl {S:List Nat} (h:RP S w e v l) {lo:Nat} (h2:lo≤l.length):RP S w e (slV v e.sz lo l.length) (l.drop lo):=by
 have:=h.sub (lo:=lo) (hi:=l.length) h2 (Nat.le_refl _)
 rwa [List.take_of_length_le (by simp)]at this
theorem RP.subh {S:List Nat} (h:RP S w e v l) {hi:Nat} (h2:hi≤l.length):RP S w e (slV v e.sz 0 hi) (l.take hi):=by
 have:=h.sub (lo:=0) (hi:=hi) (Nat.zero_le _) h2
 simpa using this
end
end
end Go.Gk
end

section
namespace Go.Gk
open Go Go.RowKit
section
variable {P:Program} {ops:Array Oper} {C D:World→Prop} {Q:Exit→Act→World→Prop} {fl:Nat→Bool}
def Ins (P:Program) (ops:Array Oper) (C:World→Prop) (o:Oper) (v:Value) (a:Act):Prop:=
 (Region.wanted o (yielded ops a.tmps)=true∧∀w,C w→(execOp a.eval o).run P w=.ok (.value v) w) ∨
 (Region.wanted o (yielded ops a.tmps)=false∧v=undef)
theorem Ins.of_same {o:Oper} {v:Value} {a a':Act} (hy:Ins P ops C o v a) (he:execOp a'.eval o=execOp a.eval o)
  (hw:Region.wanted o (yielded ops a'.tmps)=Region.wanted o (yielded ops a.tmps)):Ins P ops C o v a':=by
 unfold Ins at *
 rw [he,hw]
 exact hy
theorem Ins.unique {o:Oper} {u v:Value} {a:Act} {w:World} (hw:C w) (h:Ins P ops C o u a) (h':Ins P ops C o v a):u=v:=by
 rcases h with ⟨h1,h2⟩ | ⟨h1,h2⟩ <;> rcases h' with ⟨h3,h4⟩ | ⟨h3,h4⟩
 ·have e:=(h2 w hw).symm.trans (h4 w hw)
  simpa using e
 ·rw [h1]at h3; cases h3
 ·rw [h1]at h3; cases h3
 ·rw [h2,h4]
def ry (P:Program) (ops:Array Oper) (o:Oper) (v:Value) (a:Act) (w:World):Prop:=Region.wanted o (yielded ops a.tmps)=true∧(execOp a.eval o).run P w=.ok (.value v) w
theorem ry.of_same {o:Oper} {v:Value} {a a':Act} {w:World} (hy:ry P ops o v a w) (he:execOp a'.eval o=execOp a.eval o)
  (hw:Region.wanted o (yielded ops a'.tmps)=Region.wanted o (yielded ops a.tmps)):ry P ops o v a' w:=by
 unfold ry at *
 rw [he,hw]
 exact hy
def InR (P:Program) (ops:Array Oper) (C:World→Prop) (fl:Nat→Bool) (i:Nat) (o:Oper) (v:Value) (a:Act) (w:World):Prop:=Ins P ops C o v a∨(fl (i+1000)=false∧ry P ops o v a w)
theorem InR.of_same {i:Nat} {o:Oper} {v:Value} {a a':Act} {w:World} (hy:InR P ops C fl i o v a w) (he:execOp a'.eval o=execOp a.eval o)
  (hw:Region.wanted o (yielded ops a'.tmps)=Region.wanted o (yielded ops a.tmps)):InR P ops C fl i o v a' w:=hy.imp (fun h=>h.of_same he hw) fun h=>⟨h.1,h.2.of_same he hw⟩
theorem InR.ins {i:Nat} {o:Oper} {v:Value} {a:Act} {w:World} (hy:InR P ops C fl i o v a w) (h:fl (i+1000)=true):Ins P ops C o v a:=by
 rcases hy with hy | ⟨hy,_⟩
 ·exact hy
 ·rw [h]at hy; cases hy
def kO (fl:Nat→Bool) (i j:Nat):Bool:=(fl i&&fl j) || (fl i&&fl (i+1000)) || (fl j&&fl (j+1000))
def lx (P:Program) (ops:Array Oper) (C D:World→Prop) (Q:Exit→Act→World→Prop) (fl:Nat→Bool):List Nat→Act→World→Prop
 | [],a,w=>D w∧Q .normal a w
 | i :: r,a,w=>C w∧match ops[i]? with
  | none=>lx P ops C D Q fl r a w
  | some o=>if fl i then ∃v,InR P ops C fl i o v a w∧lx P ops C D Q fl r (a.put o.dst v) w else wpOp P ops Q i (lx P ops C D Q fl r) a w
theorem z6 {l:List Nat} {a:Act} {w:World} (h:lx P ops C D Q fl l a w) (hl:l=[]→∀w,D w→C w):C w:=by
 cases l
 ·exact hl rfl _ h.1
 ·exact h.1
def kG (ops:Array Oper):Prop:=∀(j:Nat) (o:Oper) cs b,ops[j]? = some o→o.op≠.select cs b
theorem wP (hp:∀c a w,¬Q (.panic c) a w) {j:Nat} {oi oj:Oper} {v:Value} (hj:ops[j]? = some oj) (hap:oi.apart ops oj=true)
  (hsi:∀cs b,oi.op≠.select cs b) (hsj:∀cs b,oj.op≠.select cs b) {K:Act→World→Prop} {a:Act} {w:World}
  (hy:Ins P ops C oi v a) (h:wpOp P ops Q j K (a.put oi.dst v) w) :
  wpOp P ops Q j (fun a' w'=>Ins P ops C oi v a'∧K (a'.put oi.dst v) w') a w:=by
 obtain ⟨h1,h2,h3⟩:=Oper.apart_spec hap
 have keep:∀u,Ins P ops C oi v (a.put oj.dst u):=fun u=>
  hy.of_same (execOp_put oi hsi a oj.dst u h3) (wanted_put oi a oj.dst u h3)
 unfold wpOp at *
 simp only [hj]at *
 rw [wanted_put oj a oi.dst v h1]at h
 have he:=execOp_put oj hsj a oi.dst v h1
 split
 ·rename_i hw
  simp only [hw,if_true]at h
  rcases h with h | h
  ·left
   unfold Oper.wp at *
   rw [he]at h
   generalize (execOp a.eval oj).run P w=r at *
   cases r with
   | ok nx w'=>
    cases nx <;> simp only [Oper.upon]at h ⊢
    case value u=>exact ⟨keep u,by rw [←Act.put_comm a v u h2]; exact h⟩
    case skip=>exact ⟨keep undef,by rw [←Act.put_comm a v undef h2]; exact h⟩
    case defer dd=>
     refine ⟨?_,?_⟩
     ·have:=keep undef
      refine this.of_same ?_ ?_
      ·cases oj.dst <;> rfl
      ·cases oj.dst <;> rfl
     ·rw [Act.put_defers]at h
      rw [←Act.put_comm _ v undef h2]
      exact h
    case enter f args=>
     refine Calls.mono h fun e w'' hh=>?_
     cases e with
     | returned u=>exact ⟨keep u,by rw [←Act.put_comm a v u h2]; exact hh⟩
     | panicked c=>exact absurd hh (hp _ _ _)
     | outgrown=>exact hh
    case row rw_ args=>
     exact Rows.mono h fun u w'' hh=>⟨keep u,by rw [←Act.put_comm a v u h2]; exact hh⟩
   | halt x w'=>
    cases x <;> simp only [Oper.upon]at h ⊢
    exact absurd h (hp _ _ _)
  ·right
   refine ⟨?_,h.2⟩
   have:=h.1
   unfold Oper.asks at *
   rw [he]at this
   exact this
 ·rename_i hw
  simp only [hw]at h
  exact ⟨keep _,by rw [←Act.put_comm a v undef h2]; exact h⟩
theorem vg (hp:∀c a w,¬Q (.panic c) a w) (ho:∀a w,¬Q .outgrown a w) {i:Nat} {oi:Oper} (hi:ops[i]? = some oi) {K:Act→World→Prop} {a:Act} {w:World}
  (h:wpOp P ops Q i K a w):∃a' w' u df,K a' w'∧a'=({ a with defers:=df }:Act).put oi.dst u:=by
 unfold wpOp at h
 simp only [hi]at h
 split at h
 ·rcases h with h | ⟨_,a₀,w₀,h⟩
  ·unfold Oper.wp at h
   generalize (execOp a.eval oi).run P w=r at *
   cases r with
   | ok nx w'=>
    cases nx <;> simp only [Oper.upon]at h
    case value u=>exact ⟨_,_,u,a.defers,h,rfl⟩
    case skip=>exact ⟨_,_,undef,a.defers,h,rfl⟩
    case defer dd=>exact ⟨_,_,undef,dd :: a.defers,h,rfl⟩
    case enter f args=>
     obtain ⟨e,w'',fr,hR,_⟩:=h []
     cases e with
     | returned u=>exact ⟨_,_,u,a.defers,hR,rfl⟩
     | panicked c=>exact absurd hR (hp _ _ _)
     | outgrown=>obtain ⟨a₀,w₀,hq⟩:=hR; exact absurd hq (ho _ _)
    case row rw_ args=>
     obtain ⟨u,w'',hR,_⟩:=h default []
     exact ⟨_,_,u,a.defers,hR,rfl⟩
   | halt x w'=>
    cases x <;> simp only [Oper.upon]at h
    exact absurd h (hp _ _ _)
  ·exact absurd h (ho _ _)
 ·exact ⟨_,_,undef,a.defers,h,rfl⟩
theorem zH (hp:∀c a w,¬Q (.panic c) a w) (ho:∀a w,¬Q .outgrown a w) (hs:kG ops) {i j:Nat} {r:List Nat} {a:Act} {w:World}
  (hij:∀oi oj,ops[i]? = some oi→ops[j]? = some oj→oi.apart ops oj=true∧kO fl i j=true) (_hne:i≠j) (hE:r=[]→∀w,D w→C w)
  (h:lx P ops C D Q fl (i :: j :: r) a w):lx P ops C D Q fl (j :: i :: r) a w:=by
 obtain ⟨hC,h⟩:=h
 refine ⟨hC,?_⟩
 cases hi:ops[i]? with
 | none=>
  simp only [hi]at h
  obtain ⟨_,h⟩:=h
  cases hj:ops[j]? with
  | none=>simp only [hj]at h; exact ⟨hC,by simp only [hi]; exact h⟩
  | some oj=>
   simp only [hj]at h ⊢
   split
   ·rename_i hf
    simp only [hf,if_true]at h
    obtain ⟨v,h1,h2⟩:=h
    exact ⟨v,h1,hC,by simp only [hi]; exact h2⟩
   ·rename_i hf
    rw [if_neg hf]at h
    exact wpOp_mono (fun a' w' h'=>⟨z6 h' hE,by simp only [hi]; exact h'⟩) h
 | some oi=>
  simp only [hi]at h
  cases hj:ops[j]? with
  | none=>
   simp only []
   refine ⟨hC,?_⟩
   simp only [hi]
   split
   ·rename_i hf
    simp only [hf,if_true]at h
    obtain ⟨v,h1,_,h2⟩:=h
    simp only [hj]at h2
    exact ⟨v,h1,h2⟩
   ·rename_i hf
    simp only [hf]at h
    exact wpOp_mono (fun a' w' h'=>by have:=h'.2; simp only [hj]at this; exact this) h
  | some oj=>
   obtain ⟨hap,hfl⟩:=hij oi oj hi hj
   obtain ⟨p1,p2,p3⟩:=Oper.apart_spec hap
   have hsi:=fun cs b=>hs i oi cs b hi
   have hsj:=fun cs b=>hs j oj cs b hj
   simp only []
   by_cases hfi:fl i=true
   ·simp only [hfi,if_true]at h
    obtain ⟨v,hv,_,h2⟩:=h
    simp only [hj]at h2
    by_cases hfj:fl j=true
    ·simp only [hfj,if_true]at h2 ⊢
     obtain ⟨u,hu,h3⟩:=h2
     refine ⟨u,hu.of_same (execOp_put oj hsj a oi.dst v p1).symm (wanted_put oj a oi.dst v p1).symm,hC,?_⟩
     simp only [hi,hfi,if_true]
     refine ⟨v,hv.of_same (execOp_put oi hsi a oj.dst u p3) (wanted_put oi a oj.dst u p3),?_⟩
     rw [←Act.put_comm a v u p2]; exact h3
    ·simp only [hfj]at h2 ⊢
     have hv:=hv.ins (by unfold kO at hfl; simpa [hfi,hfj] using hfl)
     refine wpOp_mono (fun a' w' h'=>?_) (wP hp hj hap hsi hsj hv h2)
     refine ⟨z6 h'.2 hE,?_⟩
     simp only [hi,hfi,if_true]
     exact ⟨v,.inl h'.1,h'.2⟩
   ·simp only [hfi]at h
    have hfi':fl i=false:=by simpa using hfi
    have hfj2:fl j=true∧fl (j+1000)=true:=by unfold kO at hfl; simpa [hfi'] using hfl
    obtain ⟨hfj,hfjr⟩:=hfj2
    simp only [hfj,if_true]
    have hK:∀a' w',lx P ops C D Q fl (j :: r) a' w'→C w'∧∃u,Ins P ops C oj u a'∧lx P ops C D Q fl r (a'.put oj.dst u) w':=fun a' w' h'=>by
     obtain ⟨c,h''⟩:=h'
     simp only [hj,hfj,if_true]at h''
     obtain ⟨u,hu,h3⟩:=h''
     exact ⟨c,u,hu.ins hfjr,h3⟩
    obtain ⟨a',w',x,df,h1,rfl⟩:=vg hp ho hi h
    obtain ⟨c',u,hu,h2⟩:=hK _ _ h1
    have hua:Ins P ops C oj u a:=by
     refine hu.of_same ?_ ?_
     ·have:=execOp_put oj hsj ({ a with defers:=df }:Act) oi.dst x p1
      rw [this]; rfl
     ·have:=wanted_put (ops:=ops) oj ({ a with defers:=df }:Act) oi.dst x p1
      rw [this]
    refine ⟨u,.inl hua,hC,?_⟩
    simp only [hi,hfi]
    -- the operation,done with the other one's value in its place
    show wpOp P ops Q i (lx P ops C D Q fl r) (a.put oj.dst u) w
    have he:=execOp_put oi hsi a oj.dst u p3
    have hwn:=wanted_put (ops:=ops) oi a oj.dst u p3
    have next:∀(y:Value) w',lx P ops C D Q fl (j :: r) (a.put oi.dst y) w'→lx P ops C D Q fl r ((a.put oj.dst u).put oi.dst y) w':=fun y w' h'=>by
     obtain ⟨c,u',hu',h3⟩:=hK _ _ h'
     have:u'=u:=by
      refine Ins.unique c (hu'.of_same ?_ ?_:Ins P ops C oj u' a) hua
      ·rw [execOp_put oj hsj a oi.dst y p1]
      ·rw [wanted_put oj a oi.dst y p1]
     subst this
     rw [←Act.put_comm a y u' p2]; exact h3
    have nextd:∀(y:Value) (dd:Deferred) w',lx P ops C D Q fl (j :: r) (({ a with defers:=dd :: a.defers }:Act).put oi.dst y) w' →
      lx P ops C D Q fl r (({ (a.put oj.dst u) with defers:=dd :: (a.put oj.dst u).defers }:Act).put oi.dst y) w':=fun y dd w' h'=>by
     obtain ⟨c,u',hu',h3⟩:=hK _ _ h'
     have:u'=u:=by
      refine Ins.unique c (hu'.of_same ?_ ?_:Ins P ops C oj u' a) hua
      ·rw [execOp_put oj hsj _ oi.dst y p1]; rfl
      ·rw [wanted_put oj _ oi.dst y p1]
     subst this
     rw [Act.put_defers,←Act.put_comm _ y u' p2]; exact h3
    unfold wpOp at h ⊢
    simp only [hi]at h ⊢
    rw [hwn]
    split
    ·rename_i hw
     simp only [hw,if_true]at h
     rcases h with h | h
     ·left
      unfold Oper.wp at *
      rw [he]
      generalize (execOp a.eval oi).run P w=rr at *
      cases rr with
      | ok nx w'=>
       cases nx <;> simp only [Oper.upon]at h ⊢
       case value y=>exact next y _ h
       case skip=>exact next undef _ h
       case defer dd=>exact nextd undef dd _ h
       case enter f args=>
        refine Calls.mono h fun e w'' hh=>?_
        cases e with
        | returned y=>exact next y _ hh
        | panicked c=>exact absurd hh (hp _ _ _)
        | outgrown=>exact hh
       case row rw_ args=>exact Rows.mono h fun y w'' hh=>next y _ hh
      | halt x w'=>
       cases x <;> simp only [Oper.upon]at h ⊢
       exact absurd h (hp _ _ _)
     ·right
      refine ⟨?_,h.2⟩
      have:=h.1
      unfold Oper.asks at *
      rw [he]
      exact this
    ·rename_i hw
     simp only [hw]at h
     exact next undef _ h
def cO (ops:Array Oper):Nat→Nat→Nat→Bool
 | 0,_,_=>false
 | f+1,j,i=>match ops[j]? with
  | none=>false
  | some o=>o.after.toList.any fun e=>Region.binds .any e&&(Nat.beq e.on i || cO ops f e.on i)
def ru (ops:Array Oper):Bool:=
 (List.range ops.size).all fun j=>match ops[j]? with
  | some o=>o.after.toList.all fun e=>!Region.binds .any e || Nat.blt e.on j
  | none=>true
def rX (ops:Array Oper) (fl:Nat→Bool):Bool:=
 (List.range ops.size).all fun j=>(List.range j).all fun i=>cO ops ops.size j i || (match ops[i]?,ops[j]? with
  | some oi,some oj=>oi.apart ops oj&&kO fl i j
  | _,_=>true)
def lE (ops:Array Oper):Bool:=ops.toList.all fun o=>match o.op with | .select ..=>false | _=>true
theorem mP (h:lE ops=true):kG ops:=by
 intro j o cs b hj he
 have:=List.all_eq_true.1 h o (Array.mem_toList_iff.2 (Array.mem_of_getElem? hj))
 rw [he]at this
 cases this
def closed (ops:Array Oper) (listed:Array Bool):Prop:=
 ∀j oj,ops[j]? = some oj→listed.getD j false=true→∀e∈oj.after,Region.binds .any e=true→listed.getD e.on false=true
theorem dq {listed:Array Bool} (hc:closed ops listed):∀(f j i:Nat) (oj:Oper),ops[j]? = some oj→(∀e∈oj.after,Region.binds .any e=true→listed.getD e.on false=true) →
  cO ops f j i=true→listed.getD i false=true
 | 0,_,_,_,_,_,h=>by simp [cO]at h
 | f+1,j,i,oj,hj,hall,h=>by
  simp only [cO,hj,List.any_eq_true,Bool.and_eq_true,Bool.or_eq_true]at h
  obtain ⟨e,he,hb,h | h⟩:=h
  ·rw [←Nat.eq_of_beq_eq_true h]; exact hall e (by simpa using he) hb
  ·have hl:=hall e (by simpa using he) hb
   cases ho:ops[e.on]? with
   | none=>cases f <;> simp [cO,ho]at h
   | some oe=>exact dq hc f e.on i oe ho (fun e' he' hb'=>hc e.on oe ho hl e' he' hb') h
theorem rk (hp:∀c a w,¬Q (.panic c) a w) (ho:∀a w,¬Q .outgrown a w) (hs:kG ops) {j:Nat} :
  ∀(l1 l2:List Nat) (a:Act) (w:World),(∀i∈l1,i≠j∧∀oi oj,ops[i]? = some oi→ops[j]? = some oj→oi.apart ops oj=true∧kO fl i j=true)→(l1≠[]→l2=[]→∀w,D w→C w) →
   lx P ops C D Q fl (l1++j :: l2) a w→lx P ops C D Q fl (j :: (l1++l2)) a w
 | [],_,_,_,_,_,h=>h
 | i :: l1,l2,a,w,hall,hE,h=>by
  have ih:∀a w,lx P ops C D Q fl (l1++j :: l2) a w→lx P ops C D Q fl (j :: (l1++l2)) a w:=fun a w h=>
   rk hp ho hs l1 l2 a w (fun k hk=>hall k (by simp [hk])) (fun _ h2=>hE (by simp) h2) h
  have h1:lx P ops C D Q fl (i :: j :: (l1++l2)) a w:=by
   obtain ⟨hC,h⟩:=h
   refine ⟨hC,?_⟩
   cases hi:ops[i]? with
   | none=>simp only [hi]at h ⊢; exact ih _ _ h
   | some oi=>
    simp only [hi]at h ⊢
    split
    ·rename_i hf
     simp only [hf,if_true]at h
     obtain ⟨v,hv,h⟩:=h
     exact ⟨v,hv,ih _ _ h⟩
    ·rename_i hf
     simp only [hf]at h
     exact wpOp_mono (fun a' w' h'=>ih _ _ h') h
  have hi:=hall i (by simp)
  exact zH hp ho hs hi.2 hi.1 (fun h0=>hE (by simp) (List.append_eq_nil_iff.1 h0).2) h1
theorem iD {listed:Array Bool} {i:Nat} (h:i<listed.size) (d:Bool):(listed.setIfInBounds i true).getD i d=true:=by
 simp [h]
theorem rR (hp:∀c a w,¬Q (.panic c) a w) (ho:∀a w,¬Q .outgrown a w) (hs:kG ops)
  (hlow:∀j oj,ops[j]? = some oj→∀e∈oj.after,Region.binds .any e=true→e.on<j)
  (hchk:∀i j,i<j→j<ops.size→cO ops ops.size j i=false→∀oi oj,ops[i]? = some oi→ops[j]? = some oj→oi.apart ops oj=true∧kO fl i j=true)
  :
  ∀(m:Nat) (l:List Nat) (listed:Array Bool) (a:Act) (w:World),l.length=m→l.Pairwise (·<·)→listed.size=ops.size→closed ops listed →
   (∀i,i∈l↔i<ops.size∧listed.getD i true=false)→((∀w,D w→C w)∨((∀i,i<ops.size - 1→cO ops ops.size (ops.size - 1) i=true)∧(l≠[]→ops.size - 1∈l)))→lx P ops C D Q fl l a w→wpAny P .any ops Q m listed a w
 | 0,l,listed,a,w,hm,_,_,_,hmem,_,h=>by
  have hl:l=[]:=List.eq_nil_of_length_eq_zero hm
  subst hl
  refine ⟨?_,h.2⟩
  refine List.eq_nil_iff_forall_not_mem.2 fun i hi=>?_
  obtain ⟨hun,o,ho',_⟩:=mem_ready.1 hi
  have:=(hmem i).2 ⟨(Array.getElem?_eq_some_iff.1 ho').1,hun⟩
  cases this
 | m+1,l,listed,a,w,hm,hsort,hsz,hcl,hmem,hin,h=>by
  refine ⟨fun hnil=>?_,fun j hj=>?_⟩
  ·-- the least one that is not listed is ready,or nothing can be
   exfalso
   cases l with
   | nil=>simp at hm
   | cons i r=>
    obtain ⟨his,hun⟩:=(hmem i).1 (by simp)
    have hi:i∈Region.ready .any ops listed:=by
     refine mem_ready.2 ⟨hun,ops[i],by simp [his],fun e he hb=>?_⟩
     have hlt:=hlow i ops[i] (by simp [his]) e he hb
     cases hl:listed.getD e.on false with
     | true=>rfl
     | false=>
      have hes:e.on<listed.size:=by rw [hsz]; omega
      have hl':listed.getD e.on true=false:=by simp [hes]at hl ⊢; exact hl
      have hm2:=(hmem e.on).2 ⟨by omega,hl'⟩
      rcases List.mem_cons.1 hm2 with h1 | h1
      ·omega
      ·have:=(List.pairwise_cons.1 hsort).1 e.on h1
       omega
    rw [hnil]at hi
    cases hi
  ·obtain ⟨hun,oj,hoj,hall⟩:=mem_ready.1 hj
   have hjs:j<ops.size:=(Array.getElem?_eq_some_iff.1 hoj).1
   have hjl:j∈l:=(hmem j).2 ⟨hjs,hun⟩
   obtain ⟨l1,l2,rfl⟩:=List.append_of_mem hjl
   have hlt:∀i∈l1,i<j:=fun i hi=>(List.pairwise_append.1 hsort).2.2 i hi j (by simp)
   have hun:∀i∈l1++l2,cO ops ops.size j i=false:=fun i hi=>by
    cases hr:cO ops ops.size j i with
    | false=>rfl
    | true=>
     have h2:=dq hcl ops.size j i oj hoj hall hr
     have h3:=(hmem i).1 (by rcases List.mem_append.1 hi with h | h <;> simp [h])
     rw [Array.getD_eq_getD_getElem?]at h2
     have h4:=h3.2
     rw [Array.getD_eq_getD_getElem?]at h4
     have:i<listed.size:=by rw [hsz]; exact h3.1
     simp [this]at h2 h4
     rw [h2]at h4; cases h4
   have hlast:(∀i,i<ops.size - 1→cO ops ops.size (ops.size - 1) i=true)→ops.size - 1=j→l1=[]:=fun h3 hjn=>by
    cases hl:l1 with
    | nil=>rfl
    | cons i r=>
     exfalso
     have hi:i∈l1:=by rw [hl]; simp
     have:=h3 i (by have:=hlt i hi; omega)
     rw [hjn,hun i (by simp [hi])]at this
     cases this
   have hl2:ops.size - 1=j→l2=[]:=fun hjn=>by
    cases l2 with
    | nil=>rfl
    | cons k r=>
     have hk:=((hmem k).1 (by simp)).1
     have h5:=(List.pairwise_append.1 hsort).2.1
     have:=(List.pairwise_cons.1 h5).1 k (by simp)
     omega
   have hfr:l1≠[]→l2=[]→∀w,D w→C w:=fun h1 h2=>by
    rcases hin with h3 | ⟨h3,hin⟩
    ·exact h3
    ·exfalso
     subst h2
     have hn:=hin (by simp)
     refine h1 (hlast h3 ?_)
     rcases List.mem_append.1 hn with h4 | h4
     ·have:=hlt _ h4; omega
     ·simpa using h4
   have hin':(∀w,D w→C w)∨((∀i,i<ops.size - 1→cO ops ops.size (ops.size - 1) i=true)∧(l1++l2≠[]→ops.size - 1∈l1++l2)):=by
    rcases hin with h3 | ⟨h3,hin⟩
    ·exact .inl h3
    ·refine .inr ⟨h3,fun hne=>?_⟩
     have hn:=hin (by simp)
     rcases List.mem_append.1 hn with h4 | h4
     ·exact List.mem_append_left _ h4
     ·rcases List.mem_cons.1 h4 with h4 | h4
      ·exfalso
       exact hne (by rw [hlast h3 h4,hl2 h4]; rfl)
      ·exact List.mem_append_right _ h4
   have h1:=rk hp ho hs l1 l2 a w (fun i hi=>⟨Nat.ne_of_lt (hlt i hi),fun oi oj' hoi hoj'=>by
    refine hchk i j (hlt i hi) hjs ?_ oi oj' hoi hoj'
    cases hr:cO ops ops.size j i with
    | false=>rfl
    | true=>
     have h2:=dq hcl ops.size j i oj hoj hall hr
     have h3:=((hmem i).1 (by simp [hi])).2
     rw [Array.getD_eq_getD_getElem?]at h2 h3
     have:i<listed.size:=by rw [hsz]; exact Nat.lt_trans (hlt i hi) hjs
     simp [this]at h2 h3
     rw [h2]at h3; cases h3⟩) hfr h
   have hsort':(l1++l2).Pairwise (·<·):=by
    refine hsort.sublist ?_
    exact List.Sublist.append_left (List.sublist_cons_self j l2) l1
   have hlen:(l1++l2).length=m:=by simp at hm ⊢; omega
   have hcl':closed ops (listed.setIfInBounds j true):=by
    intro k ok hk hl e he hb
    by_cases hkj:j=k
    ·subst hkj
     have:ok=oj:=Option.some.inj (hk.symm.trans hoj)
     subst this
     exact getD_set_true (hall e he hb)
    ·rw [getD_set_ne false hkj]at hl
     exact getD_set_true (hcl k ok hk hl e he hb)
   have hnd:j ∉ l1++l2:=by
    intro hx
    rcases List.mem_append.1 hx with hx | hx
    ·exact absurd (hlt j hx) (Nat.lt_irrefl _)
    ·have:=(List.pairwise_append.1 hsort).2.1
     have:=(List.pairwise_cons.1 this).1 j hx
     exact absurd this (Nat.lt_irrefl _)
   have hmem':∀i,i∈l1++l2↔i<ops.size∧(listed.setIfInBounds j true).getD i true=false:=by
    intro i
    by_cases hij:j=i
    ·subst hij
     constructor
     ·intro hx; exact absurd hx hnd
     ·intro hx
      have:=iD (listed:=listed) (i:=j) (by rw [hsz]; exact hjs) true
      rw [this]at hx; cases hx.2
    ·rw [getD_set_ne true hij,←hmem i]
     simp only [List.mem_append,List.mem_cons]
     constructor
     ·rintro (hx | hx)
      ·exact .inl hx
      ·exact .inr (.inr hx)
     ·rintro (hx | hx | hx)
      ·exact .inl hx
      ·exact absurd hx.symm hij
      ·exact .inr hx
   have ih:∀a' w',lx P ops C D Q fl (l1++l2) a' w'→wpAny P .any ops Q m (listed.setIfInBounds j true) a' w':=fun a' w' h'=>
    rR hp ho hs hlow hchk m (l1++l2) _ a' w' hlen hsort' (by simp [hsz]) hcl' hmem' hin' h'
   obtain ⟨hC,h1⟩:=h1
   simp only [hoj]at h1
   split at h1
   ·obtain ⟨v,hv,h2⟩:=h1
    unfold wpOp
    simp only [hoj]
    rcases hv with (⟨hw,hv⟩ | ⟨hw,rfl⟩) | ⟨_,hw,hv⟩
    ·rw [if_pos hw]
     left
     unfold Oper.wp
     rw [hv w hC]
     exact ih _ _ h2
    ·rw [if_neg (by rw [hw]; simp)]
     exact ih _ _ h2
    ·rw [if_pos hw]
     left
     unfold Oper.wp
     rw [hv]
     exact ih _ _ h2
   ·exact wpOp_mono (fun a' w' h'=>ih a' w' h') h1
theorem pj (h:rX ops fl=true):∀i j,i<j→j<ops.size→cO ops ops.size j i=false→∀oi oj,ops[i]? = some oi→ops[j]? = some oj→oi.apart ops oj=true∧kO fl i j=true:=by
 intro i j hij hj hr oi oj hi hoj
 have h1:=List.all_eq_true.1 (List.all_eq_true.1 h j (List.mem_range.2 hj)) i (List.mem_range.2 hij)
 simp only [hr,Bool.false_or,hi,hoj,Bool.and_eq_true]at h1
 exact h1
theorem pv (h:ru ops=true):∀j oj,ops[j]? = some oj→∀e∈oj.after,Region.binds .any e=true→e.on<j:=by
 intro j oj hj e he hb
 have h1:=List.all_eq_true.1 h j (List.mem_range.2 (Array.getElem?_eq_some_iff.1 hj).1)
 simp only [hj]at h1
 have h2:=List.all_eq_true.1 h1 e (by simpa using he)
 simp only [hb,Bool.not_true,Bool.false_or,Nat.blt_eq]at h2
 exact h2
def yB (ops:Array Oper):Bool:=(List.range (ops.size - 1)).all fun i=>cO ops ops.size (ops.size - 1) i
theorem nI {id:Nat} {l:List Oper} {a:Act} {w:World} (hm:P.follows .mixedOrders=true) (hp:∀c a w,¬Q (.panic c) a w) (ho:∀a w,¬Q .outgrown a w)
  (hB:(lE l.toArray&&ru l.toArray&&rX l.toArray fl)=true) (hD:(∀w,D w→C w)∨(yB l.toArray=true∧l≠[])) (h:lx P l.toArray C D Q fl (List.range l.length) a w.drew):(Code.region id l.toArray true).wp P Q a w:=by
 simp only [Bool.and_eq_true]at hB
 refine wp_region_any hm ?_
 refine rR hp ho (mP hB.1.1) (pv hB.1.2) (pj hB.2) _ (List.range l.length) _ a _ (by simp) List.pairwise_lt_range (by simp) (fun j oj hj hl=>?_) (fun i=>?_) ?_ h
 ·rw [Array.getD_eq_getD_getElem?,Array.getElem?_replicate]at hl
  split at hl <;> simp at hl
 ·rw [Array.getD_eq_getD_getElem?,Array.getElem?_replicate]
  by_cases h1:i<l.length
  ·simp [h1]
  ·simp [h1]
 ·rcases hD with hD | ⟨hD,hl⟩
  ·exact .inl hD
  ·refine .inr ⟨fun i hi=>?_,fun _=>?_⟩
   ·exact List.all_eq_true.1 hD i (List.mem_range.2 hi)
   ·have:=List.length_pos_iff.2 hl
    simp; omega
variable {n:Nat} {L:Env} {w:World}
def lxE (P:Program) (n:Nat) (ops:Array Oper) (C D:World→Prop) (Q:Exit→Act→World→Prop) (fl:Nat→Bool) (l:List Nat) (L:Env) (w:World):Prop:=∀a,Rep n L a→lx P ops C D Q fl l a w
theorem bb {id:Nat} {l:List Oper} (C:World→Prop) (fl:Nat→Bool) (hm:P.follows .mixedOrders=true) (hp:∀c a w,¬Q (.panic c) a w) (ho:∀a w,¬Q .outgrown a w)
  (hB:(lE l.toArray&&ru l.toArray&&rX l.toArray fl)=true) (h:lxE P n l.toArray C C Q fl (List.range l.length) L w.drew):wpC P n (.region id l.toArray true) Q L w:=
 fun a ha=>nI hm hp ho hB (.inl fun _ h=>h) (h a ha)
theorem dU {id:Nat} {l:List Oper} (C:World→Prop) (fl:Nat→Bool) (hm:P.follows .mixedOrders=true) (hp:∀c a w,¬Q (.panic c) a w) (ho:∀a w,¬Q .outgrown a w)
  (hB:(lE l.toArray&&ru l.toArray&&rX l.toArray fl&&yB l.toArray&&!l.isEmpty)=true) (h:lxE P n l.toArray C (fun _=>True) Q fl (List.range l.length) L w.drew):wpC P n (.region id l.toArray true) Q L w:=
 fun a ha=>by
  simp only [Bool.and_eq_true]at hB
  refine nI hm hp ho (by simp only [Bool.and_eq_true]; exact hB.1.1) (.inr ⟨hB.1.2,fun h0=>?_⟩) (h a ha)
  have:=hB.2
  rw [h0]at this
  cases this
theorem bp (hC:D w) (h:QE n Q .normal L w):lxE P n ops C D Q fl [] L w:=fun a ha=>⟨hC,h a ha⟩
theorem am {i:Nat} {r:List Nat} {d:Nat} {op:Op} {ty:TypeId} {pos:String} {after:Array Edge} {v:Value} (hC:C w) (ho:ops[i]? = some ⟨some d,op,ty,pos,after,none⟩) (hf:fl i=true)
  (hv:∀w,C w→OpV P n L w ⟨some d,op,ty,pos,after,none⟩ v w) (hd:Nat.blt d n=true) (h:lxE P n ops C D Q fl r ((d,v) :: L) w):lxE P n ops C D Q fl (i :: r) L w:=fun a ha=>by
 refine ⟨hC,?_⟩
 simp only [ho,hf,if_true]
 exact ⟨v,.inl (.inl ⟨by simp [Region.wanted],fun w' hw'=>hv w' hw' a ha⟩),h _ (ha.put hd)⟩
theorem mg {i:Nat} {r:List Nat} {d:Nat} {op:Op} {ty:TypeId} {pos:String} {after:Array Edge} {v:Value} (hC:C w) (ho:ops[i]? = some ⟨some d,op,ty,pos,after,none⟩) (hf:fl i=true) (hr:fl (i+1000)=false)
  (hv:OpV P n L w ⟨some d,op,ty,pos,after,none⟩ v w) (hd:Nat.blt d n=true) (h:lxE P n ops C D Q fl r ((d,v) :: L) w):lxE P n ops C D Q fl (i :: r) L w:=fun a ha=>by
 refine ⟨hC,?_⟩
 simp only [ho,hf,if_true]
 exact ⟨v,.inr ⟨hr,by simp [Region.wanted],hv a ha⟩,h _ (ha.put hd)⟩
theorem A9 {i:Nat} {r:List Nat} {d:Nat} {op:Op} {ty:TypeId} {pos:String} {after:Array Edge} {Φ:Value→World→Prop} (hC:C w) (ho:ops[i]? = some ⟨some d,op,ty,pos,after,none⟩) (hf:fl i=false)
  (hv:OpX P n L w ⟨some d,op,ty,pos,after,none⟩ Φ) (hd:Nat.blt d n=true) (h:∀v w',Φ v w'→lxE P n ops C D Q fl r ((d,v) :: L) w'):lxE P n ops C D Q fl (i :: r) L w:=fun a ha=>by
 refine ⟨hC,?_⟩
 simp only [ho,hf,Bool.false_eq_true,if_false]
 obtain ⟨v,w',h1,h2⟩:=hv
 unfold wpOp
 simp only [ho]
 rw [if_pos (by simp [Region.wanted])]
 left
 unfold Oper.wp
 rw [h1 a ha]
 exact h v w' h2 _ (ha.put hd)
theorem iK {i:Nat} {r:List Nat} {op:Op} {ty:TypeId} {pos:String} {after:Array Edge} {Φ:World→Prop} (hC:C w) (ho:ops[i]? = some ⟨none,op,ty,pos,after,none⟩) (hf:fl i=false)
  (hv:OpY P n L w ⟨none,op,ty,pos,after,none⟩ Φ) (h:∀w',Φ w'→lxE P n ops C D Q fl r L w'):lxE P n ops C D Q fl (i :: r) L w:=fun a ha=>by
 refine ⟨hC,?_⟩
 simp only [ho,hf,Bool.false_eq_true,if_false]
 obtain ⟨w',h1,h2⟩:=hv
 unfold wpOp
 simp only [ho]
 rw [if_pos (by simp [Region.wanted])]
 left
 unfold Oper.wp
 rw [h1 a ha]
 exact h w' h2 _ ha
end
end Go.Gk
end

section
namespace Go.Gk
open Go Go.RowKit
section
variable {P:Program} {n:Nat} {L:Env} {w w0:World} {Q:Exit→Act→World→Prop} {S:List Nat} {os:List OE}
variable {d:Option Tmp} {ty:TypeId} {pos:String} {after:Array Edge}
theorem dK {o:Oper} {Φ:Value→World→Prop} (v:Value) (w':World) (hv:OpV P n L w o v w') (h:Φ v w'):OpX P n L w o Φ:=⟨v,w',hv,h⟩
theorem oX {o:Oper} {Φ:World→Prop} (w':World) (hv:OpS P n L w o w') (h:Φ w'):OpY P n L w o Φ:=⟨w',hv,h⟩
theorem St.fresh (h:St S w0 w os):fre S w0.heap.size w.heap.size:=.inl h.fr.size
theorem vc (z:Array Value) (sz c l:Nat) {τ:Type} (e:Enc τ) (t0:τ) (hz:z.toList=e.cells t0) (hs:e.sz=sz) (hl:l≤c) :
  (madeCells z (c*sz)).toList.take (l*sz)=e.fl (List.replicate l t0):=by
 have hsz:z.size=sz:=by rw [←Array.length_toList,hz,e.len,hs]
 apply List.ext_getElem?
 intro k
 rw [List.getElem?_take]
 split
 ·rename_i hk
  have hpos:0<sz:=by
   rcases Nat.eq_zero_or_pos sz with h | h
   ·subst h; simp at hk
   ·exact h
  have hk2:k<c*sz:=Nat.lt_of_lt_of_le hk (Nat.mul_le_mul_right _ hl)
  have hmod:k%sz<sz:=Nat.mod_lt _ hpos
  have hdiv:k / sz<l:=(Nat.div_lt_iff_lt_mul hpos).2 hk
  have e1:k=k / sz*e.sz+k%sz:=by rw [hs,Nat.mul_comm]; exact (Nat.div_add_mod k sz).symm
  have h1:=e.fl_get (List.replicate l t0) (k / sz) t0 (by simp [List.getElem?_replicate,hdiv]) (k%sz) (by rw [hs]; exact hmod)
  rw [←e1]at h1
  rw [h1,←hz]
  simp only [madeCells,Array.toList_map,Array.toList_range,List.getElem?_map,List.getElem?_range hk2,Option.map_some,hsz]
  rw [getElem!_pos z (k%sz) (by rw [hsz]; exact hmod)]
  simp [hsz,hmod]
 ·rename_i hk
  rw [List.getElem?_eq_none]
  rw [e.fl_length,List.length_replicate,hs]
  omega
theorem xJ {T E:TypeId} {x y:Operand} {k k':IntKind} {l c:Int} {τ:Type} {e:Enc τ} {t0:τ} {z:Value} {bytes:Nat} (hT:P.underlying T=some (.slice E)) (hE:TI P E z e.sz bytes) (hz:z.cells.toList=e.cells t0)
  (hx:L.ev x=some (.int k l)) (hy:L.ev y=some (.int k' c)) (hS:St S w0 w os) (h0:0≤l) (h1:l≤c) (h2:(bytes:Int)*c≤281474976710656) (h3:c≤9223372036854775807) :
  OpX P n L w ⟨d,.makeSlice T x y,ty,pos,after,none⟩ (fun v w'=>St S w0 w' (own e v (List.replicate l.toNat t0) :: os)):=by
 obtain ⟨inf,hi,hz',hs,hb⟩:=hE.get
 have hr:=run_make (P:=P) w T E inf z hT hi hz' k k' l c h0 h1 (by rw [hb]; exact h2) h3
 refine dK (.slice (some ⟨w.heap.size,0,none⟩) l.toNat c.toNat) (w.alloc (.cells (madeCells z.cells (c.toNat*inf.size)) E)) (fun a ha=>?_) ?_
 ·simp only [execOp,ha.ev hx,ha.ev hy,Sem.run_bind,hr,Result.andThen_ok]; rfl
 ·refine hS.push (Fr.alloc _ _ _) (o:=own e _ _) ?_ ?_
  ·refine ⟨e.fl_length _,.inr ⟨w.heap.size,c.toNat,madeCells z.cells (c.toNat*inf.size),E,?_,hS.fresh,Row.new w _ _,?_,?_,?_,?_⟩⟩
   ·simp
   ·simp; omega
   ·simp [maxLen]; omega
   ·rw [size_madeCells,hs]; exact Nat.le_refl _
   ·rw [hs,List.length_replicate]
    exact vc z.cells e.sz c.toNat l.toNat e t0 hz rfl (by omega)
  ·intro k hk
   simp [OE.blk,Value.ownBlock]at hk
   omega
theorem qZ (sz:Nat) (hsz:sz=1):∀(vs:List Value) (k:Nat) (cells:Array Value),(∀v∈vs,v.oneCell'=true)→k+vs.length≤cells.size →
  Instr.fill (fun i=>some (i*sz,sz)) cells (vs.zipIdx k |>.map fun p=>(p.2,p.1))=some (cells.toList.take k++vs++cells.toList.drop (k+vs.length)).toArray
 | [],k,cells,_,_=>by simp [Instr.fill]
 | v :: r,k,cells,h1,hk=>by
  subst hsz
  have hv:v.cells=#[v]:=by have:=h1 v (by simp); cases v <;> simp_all [Value.cells,Value.oneCell']
  have ih:=qZ 1 rfl r (k+1) (cells.setIfInBounds k v) (fun u hu=>h1 u (by simp [hu])) (by simp at hk ⊢; omega)
  simp only [List.zipIdx_cons,List.map_cons,Instr.fill,hv]
  rw [if_neg (by simp at hk ⊢; omega)]
  have hz1:(#[v]:Array Value).zipIdx.foldl (fun cs (x:Value×Nat)=>cs.setIfInBounds (k*1+x.2) x.1) cells=cells.setIfInBounds k v:=by
   have:(#[v]:Array Value).zipIdx=#[(v,0)]:=rfl
   rw [this]; simp
  rw [hz1,ih]
  congr 2
  have e:=list_seg_step cells.toList k v r (by simp at hk ⊢; omega)
  simpa [Array.toList_setIfInBounds,Nat.add_assoc] using e
def Env.parts (L:Env):List (Nat×Operand)→Nat→Option (List Value)
 | [],_=>some []
 | (i,x) :: r,k=>if i=k then match L.ev x,Env.parts L r (k+1) with
  | some v,some vs=>some (v :: vs)
  | _,_=>none
  else none
theorem Env.parts_eq {L:Env} {a:Act} (ha:Rep n L a):∀{ps:List (Nat×Operand)} {k:Nat} {vs:List Value},L.parts ps k=some vs→ps.map (fun p=>(p.1,a.eval p.2))=(vs.zipIdx k).map fun p=>(p.2,p.1)
 | [],k,vs,h=>by simp [Env.parts]at h; subst h; rfl
 | (i,x) :: r,k,vs,h=>by
  simp only [Env.parts]at h
  split at h
  ·rename_i hik
   cases hx:L.ev x with
   | none=>simp [hx]at h
   | some v=>
    cases hr:L.parts r (k+1) with
    | none=>simp [hx,hr]at h
    | some us=>
     simp [hx,hr]at h
     subst h
     simp only [List.map_cons,List.zipIdx_cons,ha.ev hx,Env.parts_eq ha hr,hik]
  ·cases h
theorem ci {T E:TypeId} {m:Nat} {ps:List (Nat×Operand)} {vs:List Value} {τ:Type} {e:Enc τ} {l:List τ} {z:Value} {bytes:Nat} (hT:P.underlying T=some (.slice E)) (hE:TI P E z 1 bytes)
  (hp:L.parts ps 0=some vs) (hm:vs.length=m) (hsz:e.sz=1) (hl:e.fl l=vs) (hm0:0<m) (hms:m≤16777216) (hS:St S w0 w os) :
  OpX P n L w ⟨d,.buildSlice T m ps.toArray,ty,pos,after,none⟩ (fun v w'=>St S w0 w' (own e v l :: os)):=by
 obtain ⟨inf,hi,hz',hs,hb⟩:=hE.get
 have hlen:l.length=m:=by have:=e.fl_length l; rw [hl,hm,hsz]at this; omega
 have hone:∀v∈vs,v.oneCell'=true:=by rw [←hl]; exact e.fl_one l
 have hf:=qZ inf.size hs vs 0 ((Array.range (m*inf.size)).map (z.cells[·%z.cells.size]!)) hone (by simp [hs,hm])
 simp only [List.take_zero,List.nil_append,Nat.zero_add]at hf
 rw [List.drop_eq_nil_of_le (by simp [hs,hm]),List.append_nil]at hf
 refine dK (.slice (some ⟨w.heap.size,0,none⟩) m m) (w.alloc (.cells vs.toArray E)) (fun a ha=>?_) ?_
 ·have hpe:(ps.toArray.map fun x=>(x.1,a.eval x.2)).toList=(vs.zipIdx 0).map fun p=>(p.2,p.1):=by
   simp only [Array.toList_map]
   exact Env.parts_eq ha hp
  have hr:=run_buildSlice (P:=P) w T E m (ps.toArray.map fun x=>(x.1,a.eval x.2)) vs.toArray inf z hT hi hz' (by rw [hs]; simp; omega) (by rw [hs]; simp; omega) (by rw [hpe]; exact hf)
  simp only [execOp,Sem.run_bind,hr,Result.andThen_ok]; rfl
 ·refine hS.push (Fr.alloc _ _ _) (o:=own e _ _) ?_ ?_
  ·refine ⟨e.fl_length _,.inr ⟨w.heap.size,m,vs.toArray,E,?_,hS.fresh,Row.new w _ _,?_,?_,?_,?_⟩⟩
   ·rw [hlen]
   ·omega
   ·simp [maxLen]; omega
   ·simp [hsz,hm]
   ·rw [hlen,hsz,hl]; simp; exact List.take_of_length_le (by omega)
  ·intro k hk
   simp [OE.blk,Value.ownBlock]at hk
   omega
theorem pI {need old bytes:Nat} (h:old<need) (hb:need*bytes≤225000000000000) (hby:bytes≤65536):Builtin.nextslicecap need old*bytes≤281474976710656:=by
 have key:Builtin.nextslicecap need old≤need+need / 4+512:=by
  unfold Builtin.nextslicecap
  split
  ·omega
  ·split
   ·omega
   ·rename_i h1 h2
    rw [growBy_four]
    repeat' split
    all_goals omega
 calc Builtin.nextslicecap need old*bytes≤(need+need / 4+512)*bytes:=Nat.mul_le_mul_right _ key
  _=need*bytes+need / 4*bytes+512*bytes:=by rw [Nat.add_mul,Nat.add_mul]
  _≤281474976710656:=by
   have:need / 4*bytes≤need*bytes / 4:=by
    rw [Nat.le_div_iff_mul_le (by omega)]
    calc need / 4*bytes*4=need / 4*4*bytes:=by rw [Nat.mul_assoc,Nat.mul_comm bytes 4,←Nat.mul_assoc]
     _≤need*bytes:=Nat.mul_le_mul_right _ (Nat.div_mul_le_self _ _)
   omega
theorem jg (t ty e:TypeId) (i:TypeInfo) (ht:P.underlying t=some (.slice e)) (hi:P.info? e=some i)
  (g sLen sCap:Nat) (cur:Array Value) (T:TypeId) (hg:Row w g cur T)
  (a:Addr) (m c:Nat) (news:List Value) (hl:news.length=m*i.size) (hnews:∀j u,news[j]? = some u→w.cell? (a.add j)=some u) (h1:∀u∈news,u.oneCell'=true)
  (hroom:sLen+m≤sCap) (hfit:sLen*i.size+news.length≤cur.size) :
  (Builtin.append_ #[t,t] ty #[.slice (some ⟨g,0,none⟩) sLen sCap,.slice (some a) m c]).run P w =
   .ok (.slice (some ⟨g,0,none⟩) (sLen+m) sCap) (w.setRow g (cur.toList.take (sLen*i.size)++news++cur.toList.drop (sLen*i.size+news.length)).toArray):=by
 have hf:=run_firstCells_some (P:=P) w i.size m a m c news hl hnews
 have hst:=dH P g (sLen*i.size) T news 0 cur w hg (by simpa using hfit) h1
 simp only [Nat.add_zero]at hst
 simp [Builtin.append_,run_underlying ht,sizeOf,typeInfo,hi,Builtin.lenOf,hroom,hf,Addr.add_lit,hst]
theorem fh (t ty e:TypeId) (i:TypeInfo) (ht:P.underlying t=some (.slice e)) (hi:P.info? e=some i) (v:Value) (b:Option Addr) (sLen sCap c:Nat) (hv:v=.slice b sLen sCap) (hle:sLen≤sCap) (x:Option Addr) :
  (Builtin.append_ #[t,t] ty #[v,.slice x 0 c]).run P w=.ok v w:=by
 subst hv
 cases b <;> cases x <;> simp [Builtin.append_,run_underlying ht,sizeOf,typeInfo,hi,Builtin.lenOf,hle,Builtin.firstCells,loadCells,loadCellsFrom,storeCells]
theorem iA {T E ty:TypeId} {τ:Type} {e:Enc τ} {z:Value} {bytes:Nat} {v u:Value} {l m:List τ} {B:Nat} (hT:P.underlying T=some (.slice E)) (hE:TI P E z e.sz bytes) (hz:z.cells.size=e.sz) (hby:bytes≤65536) (hby0:0<bytes)
  (ho:(own e v l).ok S B w) (hu:RO w e u m) (hB:B≤w.heap.size) (hb:(l.length+m.length)*bytes≤225000000000000) :
  ∃v' w',(Builtin.append_ #[T,T] ty #[v,u]).run P w=.ok v' w'∧(own e v' (l++m)).ok S B w'∧Fr (own e v l).blk.toList w w'∧(∀k,(own e v' (l++m)).blk=some k→(own e v l).blk=some k∨w.heap.size≤k):=by
 obtain ⟨inf,hi,hz',hs,hbb⟩:=hE.get
 obtain ⟨ua,c,rfl,hc,hr⟩:=hu
 by_cases hm:m=[]
 ·subst hm
  rcases ho.2 with ⟨rfl,hn⟩ | ⟨g,cap,cur,T',rfl,hfr,hg,hnc,hcm,hcs,htake⟩
  ·have hl:l=[]:=List.eq_nil_of_length_eq_zero hn
   subst hl
   refine ⟨_,w,fh T ty E inf hT hi _ none 0 0 c rfl (Nat.le_refl _) ua,?_,Fr.refl _ _,fun k hk=>.inl (by simpa using hk)⟩
   simpa using ho
  ·refine ⟨_,w,fh T ty E inf hT hi _ (some ⟨g,0,none⟩) l.length cap c rfl hnc ua,?_,Fr.refl _ _,fun k hk=>.inl (by simpa using hk)⟩
   simpa using ho
 ·obtain ⟨b,off,rfl,hcell⟩:=hr hm
  have hcell':∀j x,(e.fl m)[j]? = some x→w.cell? ((⟨b,off,none⟩:Addr).add j)=some x:=fun j x hj=>by rw [cc]; exact hcell j x hj
  have hml:(e.fl m).length=m.length*inf.size:=by rw [hs]; exact e.fl_length m
  have hm0:0<m.length:=List.length_pos_iff.2 hm
  have h63:l.length+m.length≤225000000000000:=Nat.le_trans (Nat.le_mul_of_pos_right _ hby0) hb
  rcases ho.2 with ⟨rfl,hn⟩ | ⟨g,cap,cur,T',rfl,hfr,hg,hnc,hcm,hcs,htake⟩
  ·have hl:l=[]:=List.eq_nil_of_length_eq_zero hn
   subst hl
   simp only [List.length_nil,Nat.zero_add]at hb h63
   have hrun:=run_append_nil (P:=P) w T ty E inf z hT hi hz' ⟨b,off,none⟩ m.length c (e.fl m) hml hcell' hm0 (by omega) (by rw [hbb]; omega)
   refine ⟨_,_,hrun,⟨e.fl_length _,.inr ⟨w.heap.size,grownCap w m.length 0 E,_,E,?_,?_,Row.new w.drew _ _,?_,?_,?_,?_⟩⟩,?_,?_⟩
   ·simp
   ·exact .inl hB
   ·simp; exact grownCap_ge w m.length 0 E
   ·exact grownCap_le_maxLen w m.length 0 E (by simp [maxLen]; omega)
   ·have:=grownCap_ge w m.length 0 E
    simp only [Array.size_append,List.size_toArray,size_zeroCells,hz,e.fl_length,←Nat.add_mul]
    exact Nat.mul_le_mul_right _ (by omega)
   ·simp only [List.nil_append,Array.toList_append,List.toList_toArray]
    rw [←e.fl_length]
    exact List.take_left
   ·exact (Fr.drew _ w).trans (Fr.alloc _ _ _)
   ·intro k hk
    simp [OE.blk,Value.ownBlock]at hk
    right; omega
  ·by_cases hroom:l.length+m.length≤cap
   ·have hfit:l.length*inf.size+(e.fl m).length≤cur.size:=by
     rw [hml,←Nat.add_mul]
     exact Nat.le_trans (Nat.mul_le_mul_right _ hroom) (by rw [hs]; exact hcs)
    have hrun:=jg (w:=w) T ty E inf hT hi g l.length cap cur T' hg ⟨b,off,none⟩ m.length c (e.fl m) hml hcell' (e.fl_one m) hroom hfit
    refine ⟨_,_,hrun,⟨e.fl_length _,.inr ⟨g,cap,_,T',?_,hfr,hg.set _ ?_,?_,hcm,?_,?_⟩⟩,?_,?_⟩
    ·simp
    ·simp only [List.size_toArray,List.length_append,List.length_take,List.length_drop,Array.length_toList]at hfit ⊢
     omega
    ·simpa using hroom
    ·simp only [List.size_toArray,List.length_append,List.length_take,List.length_drop,Array.length_toList]at hfit ⊢
     omega
    ·rw [hs,htake,List.length_append,Nat.add_mul]
     simp only [List.append_assoc]
     rw [←List.append_assoc,←e.fl_append]
     have:l.length*e.sz+m.length*e.sz=(e.fl (l++m)).length:=by rw [e.fl_length,List.length_append,Nat.add_mul]
     rw [this]
     exact List.take_left
    ·exact Fr.setRow w g _
    ·intro k hk
     left
     simpa [OE.blk,Value.ownBlock] using hk
   ·have holds:∀j x,(e.fl l)[j]? = some x→w.cell? ((⟨g,0,none⟩:Addr).add j)=some x:=fun j x hj=>by
     rw [cc,Nat.zero_add,hg.cell j]
     rw [←htake,List.getElem?_take]at hj
     split at hj
     ·simpa using hj
     ·cases hj
    have hll:(e.fl l).length=l.length*inf.size:=by rw [hs]; exact e.fl_length l
    have hrun:=run_append_grow (P:=P) w T ty E inf z hT hi hz' ⟨g,0,none⟩ l.length cap (e.fl l) hll holds ⟨b,off,none⟩ m.length c (e.fl m) hml hcell' (by omega) (by omega)
     (by rw [hbb]; exact pI (by omega) hb hby)
    refine ⟨_,_,hrun,⟨e.fl_length _,.inr ⟨w.heap.size,grownCap w (l.length+m.length) cap E,_,E,?_,?_,Row.new w.drew _ _,?_,?_,?_,?_⟩⟩,?_,?_⟩
    ·simp
    ·exact .inl hB
    ·simp; exact grownCap_ge w (l.length+m.length) cap E
    ·exact grownCap_le_maxLen w (l.length+m.length) cap E (by simp [maxLen]; omega)
    ·have:=grownCap_ge w (l.length+m.length) cap E
     simp only [Array.size_append,List.size_toArray,size_zeroCells,hz,e.fl_length,←Nat.add_mul]
     exact Nat.mul_le_mul_right _ (by omega)
    ·simp only [Array.toList_append,List.append_assoc]
     rw [←List.append_assoc,←e.fl_append,←e.fl_length]
     exact List.take_left
    ·exact (Fr.drew _ w).trans (Fr.alloc _ _ _)
    ·intro k hk
     simp [OE.blk,Value.ownBlock]at hk
     right; omega
theorem ur {x y:Operand} {T E:TypeId} {τ:Type} {e:Enc τ} {z:Value} {bytes:Nat} {v u:Value} {l m:List τ} {i:Nat} (hT:P.underlying T=some (.slice E)) (hE:TI P E z e.sz bytes) (hz:z.cells.size=e.sz) (hby:bytes≤65536) (hby0:0<bytes)
  (hx:L.ev x=some v) (hy:L.ev y=some u) (hS:St S w0 w os) (hi:os[i]? = some (own e v l)) (hu:RO w e u m) (hb:(l.length+m.length)*bytes≤225000000000000) :
  OpX P n L w ⟨d,.call ⟨.builtin .append,#[x,y],#[T,T]⟩,ty,pos,after,none⟩ (fun v' w'=>St S w0 w' (os.set i (own e v' (l++m)))):=by
 obtain ⟨v',w',hr,h1,h2,h3⟩:=iA (ty:=ty) hT hE hz hby hby0 (hS.ok _ (List.mem_of_getElem? hi)) hu hS.fr.size hb
 refine dK v' w' (fun a ha=>?_) (hS.set hi h2 h1 h3)
 simp [execOp,resolve,invoke,builtin,ha.ev hx,ha.ev hy,hr]
theorem sA {x y:Operand} {T E:TypeId} {τ:Type} {e:Enc τ} {z:Value} {bytes:Nat} {u:Value} {m:List τ} (hT:P.underlying T=some (.slice E)) (hE:TI P E z e.sz bytes) (hz:z.cells.size=e.sz) (hby:bytes≤65536) (hby0:0<bytes)
  (hx:L.ev x=some (.slice none 0 0)) (hy:L.ev y=some u) (hS:St S w0 w os) (hu:RO w e u m) (hb:m.length*bytes≤225000000000000) :
  OpX P n L w ⟨d,.call ⟨.builtin .append,#[x,y],#[T,T]⟩,ty,pos,after,none⟩ (fun v' w'=>St S w0 w' (own e v' m :: os)):=by
 have hn:(own e (.slice none 0 0) ([]:List τ)).ok S w0.heap.size w:=⟨by simp,.inl ⟨rfl,rfl⟩⟩
 obtain ⟨v',w',hr,h1,h2,h3⟩:=iA (ty:=ty) hT hE hz hby hby0 hn hu hS.fr.size (by simpa using hb)
 refine dK v' w' (fun a ha=>?_) (hS.push (by simpa [OE.blk,Value.ownBlock] using h2) h1 fun k hk=>?_)
 ·simp [execOp,resolve,invoke,builtin,ha.ev hx,ha.ev hy,hr]
 ·rcases h3 k hk with h | h
  ·simp [OE.blk,Value.ownBlock]at h
  ·exact h
theorem zi {τ:Type} (e:Enc τ) (l:List τ) (j:Nat) (t:τ) (u:Value) (hu:e.cells t=[u]) (hj:j<l.length):e.fl (l.set j t)=(e.fl l).set (j*e.sz) u:=by
 have hsz:e.sz=1:=by rw [←e.len t,hu]; rfl
 have key:∀(l:List τ) (j:Nat),j<l.length→e.fl (l.set j t)=(e.fl l).set j u:=by
  intro l
  induction l with
  | nil=>intro j hj; simp at hj
  | cons a r ih=>
   intro j hj
   have ha:∃b,e.cells a=[b]:=List.length_eq_one_iff.1 (by rw [e.len,hsz])
   obtain ⟨b,hb⟩:=ha
   cases j with
   | zero=>simp [Enc.fl,hu,hb]
   | succ j=>
    have:=ih j (by simpa using hj)
    simp only [Enc.fl,List.set_cons_succ,List.flatMap_cons,hb,List.singleton_append]at this ⊢
    rw [this]
 rw [key l j hj,hsz,Nat.mul_one]
theorem pS {T:TypeId} {z:Value} {bytes:Nat} (hT:TI P T z 1 bytes) {g j:Nat} {cur:Array Value} {T':TypeId} {u:Value} (hg:Row w g cur T') (hj:j<cur.size) (hu:u.oneCell'=true) :
  (storeVar T ⟨g,j,none⟩ u).run P w=.ok () (w.setRow g (cur.toList.set j u).toArray):=by
 obtain ⟨inf,hi,_,hs,_⟩:=hT.get
 have hc:u.cells=#[u]:=by cases u <;> simp_all [Value.cells,Value.oneCell']
 have hst:=dH P g j T' [u] 0 cur w hg (by simp; omega) (by simpa using hu)
 have he:(cur.toList.take (j+0)++[u]++cur.toList.drop (j+0+[u].length))=cur.toList.set j u:=by
  simp only [Nat.add_zero,List.length_singleton]
  rw [List.set_eq_take_append_cons_drop,if_pos (by simpa using hj)]
  simp
 rw [he]at hst
 simp [storeVar,sizeOf,typeInfo,hi,hs,hc,hst]
theorem n6 {x y:Operand} {T:TypeId} {τ:Type} {e:Enc τ} {z:Value} {bytes:Nat} {v u:Value} {l:List τ} {i j:Nat} {t:τ} (hT:TI P T z 1 bytes)
  (hx:L.ev x=some (pP (ixA v e.sz j))) (hy:L.ev y=some u) (hu:e.cells t=[u]) (hS:St S w0 w os) (hi:os[i]? = some (own e v l)) (hj:j<l.length) :
  OpY P n L w ⟨none,.store T x y,ty,pos,after,none⟩ (fun w'=>St S w0 w' (os.set i (own e v (l.set j t)))):=by
 have hok:=hS.ok _ (List.mem_of_getElem? hi)
 have hsz:e.sz=1:=by rw [←e.len t,hu]; rfl
 have hu1:u.oneCell'=true:=e.one t u (by rw [hu]; simp)
 rcases hok.2 with ⟨rfl,hn⟩ | ⟨g,cap,cur,T',rfl,hfr,hg,hnc,hcm,hcs,htake⟩
 ·omega
 ·have hjc:j<cur.size:=by rw [hsz]at hcs; omega
  have hix:ixA (.slice (some ⟨g,0,none⟩) l.length cap) e.sz j=⟨g,j,none⟩:=by simp [ixA,cc,hsz]
  rw [hix]at hx
  have hr:=pS (P:=P) (T:=T) hT hg hjc hu1
  refine oX (w.setRow g (cur.toList.set j u).toArray) (fun a ha=>?_) (hS.set hi (Fr.setRow w g _) (o':=own e _ _) ⟨e.fl_length _,.inr ⟨g,cap,_,T',by simp,hfr,hg.set _ (by simp),by simpa using hnc,hcm,by simpa using hcs,?_⟩⟩ fun k hk=>.inl hk)
  ·simp [execOp,ha.ev hx,ha.ev hy,Instr.storeAt,Instr.sureAddr,hr]
  ·simp only [List.length_set]
   rw [zi e l j t u hu hj,←htake,hsz,Nat.mul_one,Nat.mul_one,List.take_set]
def Ret (φ:Value→World→Prop):Ending→World→Prop:=fun e w=>match e with
 | .returned v=>φ v w
 | _=>False
def jf (P:Program) (f:FuncId):Bool:=match P.funcs[f]? with
 | some fn => fn.body.isSome && fn.name != "runtime.NumGoroutine"
 | none=>false
theorem k6 {f:FuncId} {args:Array Value} (h:jf P f=true):(callFunc f args).run P w=.ok (.enter f args) w:=by
 unfold jf at h
 split at h
 ·rename_i fn hf
  simp only [Bool.and_eq_true]at h
  have h1 : ¬ (fn.name == "runtime.NumGoroutine") = true := by simpa using h.2
  have h2:fn.body.isNone=false:=by cases hb:fn.body <;> simp_all
  simp only [callFunc,Sem.run_bind,program,Sem.run,Result.andThen_ok,hf,h1,h2]
  rfl
 ·cases h
theorem rf {o:Oper} {f:FuncId} {xs:List Operand} {ts:Array TypeId} {vs:List Value} {a:Act} (ho:o.op=.call ⟨.value (.func f),xs.toArray,ts⟩)
  (hf:jf P f=true) (hargs:xs.map a.eval=vs):(execOp a.eval o).run P w=.ok (.enter f vs.toArray) w:=by
 simp only [execOp,ho,resolve,Act.eval,Deferred.ofValue,Sem.run_bind,Sem.run_pure,Result.andThen_ok,invoke]
 have:(#[]++Array.map a.eval xs.toArray++#[]:Array Value)=vs.toArray:=by simp [hargs]
 rw [this]
 exact k6 hf
theorem oO {o:Oper} {f:FuncId} {xs:List Operand} {ts:Array TypeId} {vs:List Value} {φ:Value→World→Prop} {K:Act→World→Prop} {a:Act} (ho:o.op=.call ⟨.value (.func f),xs.toArray,ts⟩)
  (hf:jf P f=true) (hargs:xs.map a.eval=vs) (hc:Calls P f vs.toArray w (Ret φ)) (k:∀v w',φ v w'→K (a.put o.dst v) w'):o.wp P a w K Q:=by
 unfold Oper.wp
 rw [rf ho hf hargs]
 refine Calls.mono hc fun e w' he=>?_
 cases e with
 | returned v=>exact k v w' he
 | panicked c=>exact he.elim
 | outgrown=>exact he.elim
theorem xK {ops:Array Oper} {rest:List Oper} {d:Nat} {f:FuncId} {xs:List Operand} {ts:Array TypeId} {vs:List Value} {φ:Value→World→Prop}
  (hf:jf P f=true) (hargs:L.evs xs=some vs) (hc:Calls P f vs.toArray w (Ret φ)) (hd:Nat.blt d n=true)
  (k:∀v w',φ v w'→wpR P n ops Q rest ((d,v) :: L) w'):wpR P n ops Q (⟨some d,.call ⟨.value (.func f),xs.toArray,ts⟩,ty,pos,after,none⟩ :: rest) L w:=fun a ha=>by
 unfold wpList
 rw [if_pos (by simp [Region.wanted])]
 exact .inl (oO rfl hf (ha.evs hargs) hc fun v w' h=>k v w' h _ (ha.put hd))
theorem ao {ops:Array Oper} {rest:List Oper} {d:Nat} {f:FuncId} {xs:List Operand} {ts:Array TypeId} {vs:List Value} {φ:Value→World→Prop}
  (hargs:L.evs xs=some vs) (hc:Calls P f vs.toArray w (Ret φ)) (hd:Nat.blt d n=true)
  (k:∀v w',φ v w'→wpR P n ops Q rest ((d,v) :: L) w') (hf:jf P f=true:=by kernel_rfl):wpR P n ops Q (⟨some d,.call ⟨.value (.func f),xs.toArray,ts⟩,ty,pos,after,none⟩ :: rest) L w:=xK hf hargs hc hd k
theorem bk {ops:Array Oper} {C D:World→Prop} {fl:Nat→Bool} {i:Nat} {r:List Nat} {d:Nat} {f:FuncId} {xs:List Operand} {ts:Array TypeId} {vs:List Value} {φ:Value→World→Prop} (hC:C w)
  (ho:ops[i]? = some ⟨some d,.call ⟨.value (.func f),xs.toArray,ts⟩,ty,pos,after,none⟩) (hfl:fl i=false)
  (hf:jf P f=true) (hargs:L.evs xs=some vs) (hc:Calls P f vs.toArray w (Ret φ)) (hd:Nat.blt d n=true)
  (k:∀v w',φ v w'→lxE P n ops C D Q fl r ((d,v) :: L) w'):lxE P n ops C D Q fl (i :: r) L w:=fun a ha=>by
 refine ⟨hC,?_⟩
 simp only [ho,hfl,Bool.false_eq_true,if_false]
 unfold wpOp
 simp only [ho]
 rw [if_pos (by simp [Region.wanted])]
 exact .inl (oO rfl hf (ha.evs hargs) hc fun v w' h=>k v w' h _ (ha.put hd))
theorem aM {fn:Func} {t:Tmp} {v:Value} {φ:Value→World→Prop} (hres:fn.results=#[.tmp t]) (hv:L.get t=some v) (h:φ v w):QE n (bodyPost P fn (Ret φ)) .ret L w:=fun a ha=>by
 refine ⟨ha.defers,v,?_,h⟩
 have:=ha.get t v hv
 simp [results,hres,this]
theorem gd {fn:Func} {φ:Value→World→Prop} (hres:fn.results=#[]) (h:φ (.tuple #[]) w):QE n (bodyPost P fn (Ret φ)) .normal L w:=fun a ha=>by
 refine ⟨ha.defers,.tuple #[],?_,h⟩
 simp [results,hres]
theorem bX {fn:Func} {t1 t2:Tmp} {v1 v2:Value} {φ:Value→World→Prop} (hres:fn.results=#[.tmp t1,.tmp t2]) (h1:L.get t1=some v1) (h2:L.get t2=some v2) (h:φ (.tuple #[v1,v2]) w):QE n (bodyPost P fn (Ret φ)) .ret L w:=fun a ha=>by
 refine ⟨ha.defers,.tuple #[v1,v2],?_,h⟩
 have g1:=ha.get t1 v1 h1
 have g2:=ha.get t2 v2 h2
 simp [results,hres,g1,g2]
theorem dZ {fn:Func} {t1 t2 t3:Tmp} {v1 v2 v3:Value} {φ:Value→World→Prop} (hres:fn.results=#[.tmp t1,.tmp t2,.tmp t3]) (h1:L.get t1=some v1) (h2:L.get t2=some v2) (h3:L.get t3=some v3) (h:φ (.tuple #[v1,v2,v3]) w):QE n (bodyPost P fn (Ret φ)) .ret L w:=fun a ha=>by
 refine ⟨ha.defers,.tuple #[v1,v2,v3],?_,h⟩
 have g1:=ha.get t1 v1 h1
 have g2:=ha.get t2 v2 h2
 have g3:=ha.get t3 v3 h3
 simp [results,hres,g1,g2,g3]
def kc:Nat→List Value→Env
 | _,[]=>[]
 | k,v :: r=>(k,v) :: kc (k+1) r
theorem nM:∀(vs:List Value) (k i:Nat) (v:Value),(kc k vs).get i=some v→k≤i∧vs[i - k]? = some v
 | [],k,i,v,h=>by simp [kc,Env.get]at h
 | u :: r,k,i,v,h=>by
  simp only [kc,Env.get]at h
  by_cases hk:Nat.beq k i=true
  ·rw [hk]at h
   simp at h
   have:=Nat.eq_of_beq_eq_true hk
   subst this
   simp [h]
  ·simp only [hk]at h
   have:=nM r (k+1) i v (by simpa using h)
   refine ⟨by omega,?_⟩
   rw [show i - k=(i - (k+1))+1 by omega]
   simpa using this.2
theorem yn {f:FuncId} {fn:Func} {c:Code} {vs:List Value} {φ:Value→World→Prop} (hf:P.funcs[f]? = some fn) (hb:fn.body=some c) (hn:Nat.ble vs.length fn.ntmps=true)
  (h:wpC P fn.ntmps c (bodyPost P fn (Ret φ)) (kc 0 vs) w):Calls P f vs.toArray w (Ret φ):=by
 refine calls_of_wp hf hb (h _ ⟨rfl,?_,fun i v hi=>?_⟩)
 ·have:=Nat.le_of_ble_eq_true hn
  simp; omega
 ·have:=(nM vs 0 i v hi).2
  simp only [Nat.sub_zero]at this
  have hl:i<vs.length:=(List.getElem?_eq_some_iff.1 this).1
  rw [Array.getElem?_append_left (by simpa using hl)]
  simpa using this
end
end Go.Gk
end

section
namespace Go.Gk
open Go Go.RowKit
section
variable {P:Program} {n:Nat} {L:Env} {w w0:World} {Q:Exit→Act→World→Prop} {S:List Nat} {os:List OE}
variable {d:Option Tmp} {ty:TypeId} {pos:String} {after:Array Edge}
theorem aW {x y:Operand} {T E:TypeId} {k:IntKind} {i:Int} {τ:Type} {e:Enc τ} {v:Value} {l:List τ} {t:τ} {z:Value} {bytes:Nat} (hT:P.underlying T=some (.slice E)) (hE:TI P E z e.sz bytes)
  (hx:L.ev x=some v) (hy:L.ev y=some (.int k i)) (h:RO w e v l) (hg:aB l i=some t) :
  OpV P n L w ⟨d,.indexAddr T x y,ty,pos,after,none⟩ (pP (ixA v e.sz i.toNat)) w:=
 AL hT hE hx hy h (dz hg).1 (dz hg).2.1
theorem aR {x:Operand} {T:TypeId} {D:TypeDesc} {τ:Type} {e:Enc τ} {v:Value} {l:List τ} {i:Int} {t:τ} {u:Value} (hT:P.underlying T=some D) (hD:(match D with | .struct _ | .array _ _=>true | _=>false)=false)
  (hx:L.ev x=some (pP (ixA v e.sz i.toNat))) (h:RO w e v l) (hg:aB l i=some t) (hu:e.cells t=[u]) :
  OpV P n L w ⟨d,.load T x,ty,pos,after,none⟩ u w:=uW hT hD hx h (dz hg).2.2 hu
theorem ku {x y:Operand} {T:TypeId} {k:IntKind} {i:Int} {l:List UInt8} {t:UInt8} (hT:P.underlying T=some .string)
  (hx:L.ev x=some (vS l)) (hy:L.ev y=some (.int k i)) (hg:aB l i=some t) :
  OpV P n L w ⟨d,.index T x y,ty,pos,after,none⟩ (v8 t) w:=y7 hT hx hy (dz hg).1 (dz hg).2.2
theorem bP {x y:Operand} {T:TypeId} {τ:Type} {e:Enc τ} {z:Value} {bytes:Nat} {v u:Value} {l:List τ} {i:Nat} {j:Int} {t t':τ} (hT:TI P T z 1 bytes)
  (hx:L.ev x=some (pP (ixA v e.sz j.toNat))) (hy:L.ev y=some u) (hS:St S w0 w os) (hi:os[i]? = some (own e v l)) (hg:aB l j=some t') (hu:e.cells t=[u]) :
  OpY P n L w ⟨none,.store T x y,ty,pos,after,none⟩ (fun w'=>St S w0 w' (os.set i (own e v (l.set j.toNat t)))):=
 n6 hT hx hy hu hS hi (dz hg).2.1
theorem vO {x y:Operand} {T:TypeId} {k:IntKind} {lo:Int} {l r:List UInt8} (hT:P.underlying T=some .string)
  (hx:L.ev x=some (vS l)) (hy:L.ev y=some (.int k lo)) (hg:drO l lo=some r) :
  OpV P n L w ⟨d,.slice T x (some y) none none,ty,pos,after,none⟩ (vS r) w:=by
 obtain ⟨⟨h0,h1⟩,rfl⟩:=f0 hg
 exact xH hT hx hy h0 h1
section
variable {T E:TypeId} {τ:Type} {e:Enc τ} {v:Value} {l r:List τ} {z0:Value} {bytes:Nat}
theorem wN {x y z:Operand} {k k':IntKind} {lo hi:Int} (hT:P.underlying T=some (.slice E)) (hE:TI P E z0 e.sz bytes)
  (hx:L.ev x=some v) (hy:L.ev y=some (.int k lo)) (hz:L.ev z=some (.int k' hi)) (h:RO w e v l) (hg:slO l lo hi=some r) :
  OpV P n L w ⟨d,.slice T x (some y) (some z) none,ty,pos,after,none⟩ (slV v e.sz lo.toNat hi.toNat) w:=
 Ai hT hE hx hy hz h (cy hg).1.1 (cy hg).1.2.1 (cy hg).1.2.2
theorem uT {x y:Operand} {k:IntKind} {lo:Int} (hT:P.underlying T=some (.slice E)) (hE:TI P E z0 e.sz bytes)
  (hx:L.ev x=some v) (hy:L.ev y=some (.int k lo)) (h:RO w e v l) (hg:drO l lo=some r) :
  OpV P n L w ⟨d,.slice T x (some y) none none,ty,pos,after,none⟩ (slV v e.sz lo.toNat l.length) w:=
 yG hT hE hx hy h (f0 hg).1.1 (f0 hg).1.2
theorem pX {x z:Operand} {k:IntKind} {hi:Int} (hT:P.underlying T=some (.slice E)) (hE:TI P E z0 e.sz bytes)
  (hx:L.ev x=some v) (hz:L.ev z=some (.int k hi)) (h:RO w e v l) (hg:tkO l hi=some r) :
  OpV P n L w ⟨d,.slice T x none (some z) none,ty,pos,after,none⟩ (slV v e.sz 0 hi.toNat) w:=
 zK hT hE hx hz h (nj hg).1.1 (nj hg).1.2
theorem RO.g_sl {lo hi:Int} (h:RO w e v l) (hg:slO l lo hi=some r):RO w e (slV v e.sz lo.toNat hi.toNat) r:=by
 obtain ⟨⟨h0,h1,h2⟩,rfl⟩:=cy hg
 exact h.sub (by omega) h2
theorem RO.g_sll {lo:Int} (h:RO w e v l) (hg:drO l lo=some r):RO w e (slV v e.sz lo.toNat l.length) r:=by
 obtain ⟨⟨h0,h1⟩,rfl⟩:=f0 hg
 exact h.subl h1
theorem RP.g_sl {lo hi:Int} (h:RP S w e v l) (hg:slO l lo hi=some r):RP S w e (slV v e.sz lo.toNat hi.toNat) r:=by
 obtain ⟨⟨h0,h1,h2⟩,rfl⟩:=cy hg
 exact h.sub (by omega) h2
theorem RP.g_sll {lo:Int} (h:RP S w e v l) (hg:drO l lo=some r):RP S w e (slV v e.sz lo.toNat l.length) r:=by
 obtain ⟨⟨h0,h1⟩,rfl⟩:=f0 hg
 exact h.subl h1
theorem RP.nil (S:List Nat) (w:World):RP S w e (.slice none 0 0) ([]:List τ):=⟨RO.nil w e,by simp [Value.ownBlock]⟩
end
theorem cZ {T E:TypeId} {x y:Operand} {k k':IntKind} {l c:Int} {τ:Type} {e:Enc τ} {t0:τ} {r:List τ} {z:Value} {bytes:Nat} (hT:P.underlying T=some (.slice E)) (hE:TI P E z e.sz bytes) (hz:z.cells.toList=e.cells t0)
  (hx:L.ev x=some (.int k l)) (hy:L.ev y=some (.int k' c)) (hS:St S w0 w os) (hg:mkO bytes l c t0=some r) :
  OpX P n L w ⟨d,.makeSlice T x y,ty,pos,after,none⟩ (fun v w'=>St S w0 w' (own e v r :: os)):=by
 obtain ⟨rfl,h0,h1,h2,h3⟩:=wZ hg
 exact xJ hT hE hz hx hy hS h0 h1 h2 h3
theorem fi {x y:Operand} {T E:TypeId} {τ:Type} {e:Enc τ} {z:Value} {bytes:Nat} {v u:Value} {l m r:List τ} {i:Nat} (hT:P.underlying T=some (.slice E)) (hE:TI P E z e.sz bytes) (hz:(Nat.beq z.cells.size e.sz&&Nat.ble bytes 65536&&Nat.blt 0 bytes)=true)
  (hx:L.ev x=some v) (hy:L.ev y=some u) (hS:St S w0 w os) (hi:os[i]? = some (own e v l)) (hu:RO w e u m) (hg:apO bytes l m=some r) :
  OpX P n L w ⟨d,.call ⟨.builtin .append,#[x,y],#[T,T]⟩,ty,pos,after,none⟩ (fun v' w'=>St S w0 w' (os.set i (own e v' r))):=by
 obtain ⟨rfl,hb⟩:=kK hg
 simp only [Bool.and_eq_true,Nat.blt_eq]at hz
 exact ur hT hE (Nat.eq_of_beq_eq_true hz.1.1) (Nat.le_of_ble_eq_true hz.1.2) hz.2 hx hy hS hi hu hb
theorem jF {x y:Operand} {T E:TypeId} {τ:Type} {e:Enc τ} {z:Value} {bytes:Nat} {u:Value} {m r:List τ} (hT:P.underlying T=some (.slice E)) (hE:TI P E z e.sz bytes) (hz:(Nat.beq z.cells.size e.sz&&Nat.ble bytes 65536&&Nat.blt 0 bytes)=true)
  (hx:L.ev x=some (.slice none 0 0)) (hy:L.ev y=some u) (hS:St S w0 w os) (hu:RO w e u m) (hg:apO bytes [] m=some r) :
  OpX P n L w ⟨d,.call ⟨.builtin .append,#[x,y],#[T,T]⟩,ty,pos,after,none⟩ (fun v' w'=>St S w0 w' (own e v' r :: os)):=by
 obtain ⟨rfl,hb⟩:=kK hg
 simp only [Bool.and_eq_true,Nat.blt_eq]at hz
 exact sA hT hE (Nat.eq_of_beq_eq_true hz.1.1) (Nat.le_of_ble_eq_true hz.1.2) hz.2 hx hy hS hu (by simpa using hb)
theorem St.call {w':World} {os':List OE} (h:St S w0 w os) (h':St [] w w' os'):St S w0 w' (os'++os):=by
 have hf:Fr [] w w':=h'.fr
 have hblk:∀o∈os',∀k,o.blk=some k→w.heap.size≤k:=fun o ho k hk=>by
  rcases ((h'.ok o ho).lt hk).2 with h1 | h1
  ·exact h1
  ·simp at h1
 refine ⟨h.fr.step hf (by simp),fun o ho=>?_,?_⟩
 ·rcases List.mem_append.1 ho with ho | ho
  ·have hok:=h'.ok o ho
   have hle:=h.fr.size
   cases o with
   | sl v sz m cs=>
    refine ⟨hok.1,?_⟩
    rcases hok.2 with hn | ⟨g,cap,cur,T,hv,hfr,rest⟩
    ·exact .inl hn
    ·refine .inr ⟨g,cap,cur,T,hv,.inl ?_,rest⟩
     rcases hfr with h1 | h1
     ·omega
     ·simp at h1
   | rd v sz m cs=>
    obtain ⟨hl,a,c,hv,hc,hx⟩:=hok
    refine ⟨hl,a,c,hv,hc,fun hn=>?_⟩
    obtain ⟨b,off,h1,h2,h3,h4⟩:=hx hn
    refine ⟨b,off,h1,h2,.inl ?_,h4⟩
    rcases h3 with h3 | h3
    ·omega
    ·simp at h3
   | bx b cs=>
    obtain ⟨hfr,hh⟩:=hok
    refine ⟨.inl ?_,hh⟩
    rcases hfr with h1 | h1
    ·omega
    ·simp at h1
  ·exact (h.ok o ho).fr hf (by simp)
 ·rw [List.pairwise_append]
  refine ⟨h'.dj,h.dj,fun o ho p hp k hk hk'=>?_⟩
  have h1:=hblk o ho k hk
  have h2:=((h.ok p hp).lt hk').1
  omega
theorem St.pick {os':List OE} (h:St S w0 w os) (ix:List Nat) (hn:ix.Nodup) (he:os'.map some=ix.map (fun i=>os[i]?)):St S w0 w os':=by
 have hlen:os'.length=ix.length:=by have:=congrArg List.length he; simpa using this
 have hget:∀k (hk:k<os'.length),∃(hk2:k<ix.length),os[ix[k]]? = some os'[k]:=fun k hk=>by
  have h1:(os'.map some)[k]? = (ix.map (fun i=>os[i]?))[k]?:=by rw [he]
  have hk2:k<ix.length:=by omega
  simp [hk,hk2]at h1
  exact ⟨hk2,h1.symm⟩
 refine ⟨h.fr,fun o ho=>?_,?_⟩
 ·obtain ⟨k,hk,rfl⟩:=List.getElem_of_mem ho
  obtain ⟨hk2,h1⟩:=hget k hk
  exact h.ok _ (List.mem_of_getElem? h1)
 ·rw [List.pairwise_iff_getElem]
  intro a b ha hb hab
  obtain ⟨ha2,h1⟩:=hget a ha
  obtain ⟨hb2,h2⟩:=hget b hb
  have hne:ix[a]≠ix[b]:=by
   have:=List.pairwise_iff_getElem.1 hn a b ha2 hb2 hab
   exact this
  have hd:∀x y (hx:x<os.length) (hy:y<os.length),x<y→(os[x]).dj (os[y]):=List.pairwise_iff_getElem.1 h.dj
  obtain ⟨l1,e1⟩:=List.getElem?_eq_some_iff.1 h1
  obtain ⟨l2,e2⟩:=List.getElem?_eq_some_iff.1 h2
  rcases Nat.lt_or_gt_of_ne hne with hlt | hlt
  ·have:=hd _ _ l1 l2 hlt; rw [e1,e2]at this; exact this
  ·have:=hd _ _ l2 l1 hlt; rw [e1,e2]at this; exact this.symm
def ndB:List Nat→Bool
 | []=>true
 | x :: l=>!(l.any (Nat.beq x))&&ndB l
theorem pz:∀l:List Nat,ndB l=true→l.Nodup
 | [],_=>List.nodup_nil
 | x :: l,h=>by
  unfold ndB at h
  rw [Bool.and_eq_true]at h
  refine List.nodup_cons.2 ⟨fun hm=>?_,pz l h.2⟩
  have h1:=h.1
  rw [List.any_eq_true.2 ⟨x,hm,Nat.beq_refl x⟩]at h1
  cases h1
theorem St.pk {os':List OE} (h:St S w0 w os) (ix:List Nat) (hn:ndB ix=true) (he:os'.map some=ix.map (fun i=>os[i]?)):St S w0 w os':=h.pick ix (pz ix hn) he
theorem St.drew (h:St S w0 w os):St S w0 w.drew os:=h.step (Fr.drew [] w)
theorem St.nil {τ:Type} (e:Enc τ) (h:St S w0 w os):St S w0 w (own e (.slice none 0 0) ([]:List τ) :: os):=
 ⟨h.fr,fun o ho=>by
  rcases List.mem_cons.1 ho with rfl | ho
  ·exact ⟨by simp,.inl ⟨rfl,rfl⟩⟩
  ·exact h.ok o ho,List.Pairwise.cons (fun p _ k hk=>by simp [OE.blk,Value.ownBlock]at hk) h.dj⟩
theorem jC {ops:Array Oper} {o:Oper} {a:Act} {j:Nat} {want b:Bool} {t:Tmp} (ha:Rep n L a) (hg:o.guard=some (j,want)) (hj:(ops[j]?).bind (·.dst)=some t) (hb:L.get t=some (vB b)) :
  Region.wanted o (yielded ops a.tmps)=(b == want):=by
 have:=ha.get t _ hb
 simp [Region.wanted,hg,yielded,hj,this]
theorem aF {ops:Array Oper} {rest:List Oper} {d:Nat} {op:Op} {v:Value} {w':World} {j:Nat} {want:Bool} {t:Tmp}
  (hj:(ops[j]?).bind (·.dst)=some t) (hb:L.get t=some (vB want))
  (hv:OpV P n L w ⟨some d,op,ty,pos,after,none⟩ v w') (hd:Nat.blt d n=true)
  (h:wpR P n ops Q rest ((d,v) :: L) w'):wpR P n ops Q (⟨some d,op,ty,pos,after,some (j,want)⟩ :: rest) L w:=fun a ha=>by
 unfold wpList
 rw [if_pos (by rw [jC ha rfl hj hb]; simp)]
 refine .inl ?_
 have:=hv a ha
 unfold Oper.wp
 have he:execOp a.eval ⟨some d,op,ty,pos,after,some (j,want)⟩=execOp a.eval ⟨some d,op,ty,pos,after,none⟩:=by cases op <;> rfl
 rw [he,this]
 exact h _ (ha.put hd)
theorem cr {ops:Array Oper} {rest:List Oper} {d:Nat} {f:FuncId} {xs:List Operand} {ts:Array TypeId} {vs:List Value} {φ:Value→World→Prop} {j:Nat} {want:Bool} {t:Tmp}
  (hj:(ops[j]?).bind (·.dst)=some t) (hb:L.get t=some (vB want))
  (hf:jf P f=true) (hargs:L.evs xs=some vs) (hc:Calls P f vs.toArray w (Ret φ)) (hd:Nat.blt d n=true)
  (k:∀v w',φ v w'→wpR P n ops Q rest ((d,v) :: L) w'):wpR P n ops Q (⟨some d,.call ⟨.value (.func f),xs.toArray,ts⟩,ty,pos,after,some (j,want)⟩ :: rest) L w:=fun a ha=>by
 unfold wpList
 rw [if_pos (by rw [jC ha rfl hj hb]; simp)]
 exact .inl (oO rfl hf (ha.evs hargs) hc fun v w' h=>k v w' h _ (ha.put hd))
theorem dA {ops:Array Oper} {C D:World→Prop} {fl:Nat→Bool} {i:Nat} {r:List Nat} {d:Nat} {op:Op} {v:Value} {j:Nat} {want:Bool} {t:Tmp} (hC:C w) (ho:ops[i]? = some ⟨some d,op,ty,pos,after,some (j,want)⟩) (hf:fl i=true)
  (hj:(ops[j]?).bind (·.dst)=some t) (hb:L.get t=some (vB want))
  (hv:∀w,C w→OpV P n L w ⟨some d,op,ty,pos,after,none⟩ v w) (hd:Nat.blt d n=true) (h:lxE P n ops C D Q fl r ((d,v) :: L) w):lxE P n ops C D Q fl (i :: r) L w:=fun a ha=>by
 refine ⟨hC,?_⟩
 simp only [ho,hf,if_true]
 have he:execOp a.eval ⟨some d,op,ty,pos,after,some (j,want)⟩=execOp a.eval ⟨some d,op,ty,pos,after,none⟩:=by cases op <;> rfl
 exact ⟨v,.inl (.inl ⟨by rw [jC ha rfl hj hb]; simp,fun w' hw'=>by rw [he]; exact hv w' hw' a ha⟩),h _ (ha.put hd)⟩
theorem cD {ops:Array Oper} {C D:World→Prop} {fl:Nat→Bool} {i:Nat} {r:List Nat} {d:Nat} {op:Op} {j:Nat} {want b:Bool} {t:Tmp} (hC:C w) (ho:ops[i]? = some ⟨some d,op,ty,pos,after,some (j,want)⟩) (hf:fl i=true)
  (hj:(ops[j]?).bind (·.dst)=some t) (hb:L.get t=some (vB b)) (hne:(b == want)=false) (hd:Nat.blt d n=true) (h:lxE P n ops C D Q fl r ((d,undef) :: L) w):lxE P n ops C D Q fl (i :: r) L w:=fun a ha=>by
 refine ⟨hC,?_⟩
 simp only [ho,hf,if_true]
 exact ⟨undef,.inl (.inr ⟨by rw [jC ha rfl hj hb,hne],rfl⟩),h _ (ha.put hd)⟩
theorem aN {f:FuncId} {fn:Func} {c:Code} {vs:List Value} {φ:Value→World→Prop} (n:Nat) (hf:P.funcs[f]? = some fn) (hb:fn.body=some c) (hn:fn.ntmps=n) (hl:Nat.ble vs.length n=true)
  (h:wpC P n c (bodyPost P fn (Ret φ)) (kc 0 vs) w):Calls P f vs.toArray w (Ret φ):=by
 subst hn
 exact yn hf hb hl h
theorem bd {σ ρ:Type} {c:Code} {r:ρ} (f:σ→Option (σ⊕ρ)) (I:σ→Env→World→Prop)
  (hround:∀k s L w x,I s L w→(∀s' L' w',I s' L' w'→ei f k s'=some r→wpN P n c Q k L' w')→f s=some x→lk f k r x→wpC P n c (Exit.then (Code.rounds P c Q k) Q) L w)
  (s:σ) (hI:I s L w) (h:loop f s=some r):wpC P n (.loop c) Q L w:=by
 obtain ⟨k,hk⟩:=lS h
 refine kH k ?_
 have key:∀k s L w,I s L w→ei f k s=some r→wpN P n c Q k L w:=by
  intro k
  induction k with
  | zero=>intro s L w _ h; simp [ei]at h
  | succ k ih=>
   intro s L w hI h
   obtain ⟨x,h1,h2⟩:=zm h
   exact dc (hround k s L w x hI ih h1 h2)
 exact key k s L w hI hk
theorem bf {γ ρ:Type} {x y:Code} {r:ρ} (J:γ→Env→World→Prop) (f:γ→Option ρ)
  (hy:∀g L w,J g L w→f g=some r→wpC P n y Q L w)
  (hx:(∀g L w,J g L w→f g=some r→wpC P n y Q L w)→wpC P n x (Exit.then (y.wp P Q) Q) L w):wpC P n (.seq x y) Q L w:=
 ah (hx hy)
end
end Go.Gk
end

section
namespace Go.Gk
open Go Go.RowKit
section
variable {P:Program} {n:Nat} {L:Env} {w w0:World} {Q:Exit→Act→World→Prop} {S:List Nat} {os:List OE}
variable {d:Option Tmp} {ty:TypeId} {pos:String} {after:Array Edge}
structure ExtF (P:Program) (f:FuncId) (e:Array Value→Sem Value):Prop where
 fn : ∃ fn, P.funcs[f]? = some fn ∧ fn.body.isNone = true ∧ (fn.name == "runtime.NumGoroutine") = false ∧ (Extern.findNext fn).isNone = true ∧ Extern.find fn = some e
end
end Go.Gk
end

section
namespace Go.Gk
open Go Go.RowKit
section
variable {P:Program} {n:Nat} {L:Env} {w w0:World} {Q:Exit→Act→World→Prop} {S:List Nat} {os:List OE}
variable {d:Option Tmp} {ty:TypeId} {pos:String} {after:Array Edge}
theorem iI {τ:Type} {e:Enc τ} {v:Value} {l:List τ} (h:RO w e v l) (k:Nat) (hk:k≤l.length) :
  (Builtin.firstCells e.sz k v).run P w=.ok (e.fl (l.take k)).toArray w:=by
 obtain ⟨a,c,rfl,hc,hr⟩:=h
 cases a with
 | none=>
  have hl:l=[]:=by
   cases l with
   | nil=>rfl
   | cons x r=>obtain ⟨b,off,h,_⟩:=hr (by simp); cases h
  subst hl
  simp [Builtin.firstCells,Enc.fl]
 | some p=>
  by_cases hl:l=[]
  ·subst hl
   have:k=0:=by simpa using hk
   subst this
   simp [Builtin.firstCells,loadCells,loadCellsFrom,Enc.fl]
  ·obtain ⟨b,off,hp,hcell⟩:=hr hl
   cases hp
   have hlen:(e.fl (l.take k)).length=k*e.sz:=by rw [e.fl_length,List.length_take]; congr 1; omega
   have:=run_loadCells_list (P:=P) w ⟨b,off,none⟩ (e.fl (l.take k)) (fun j u hj=>by
    rw [cc]
    rw [e.fl_take,List.getElem?_take]at hj
    split at hj
    ·exact hcell j u hj
    ·cases hj)
   rw [hlen]at this
   exact this
theorem sP {T T2 E ty:TypeId} {τ:Type} {e:Enc τ} {z:Value} {bytes:Nat} {v u:Value} {l m:List τ} {B lo hi:Nat} (hT:P.underlying T=some (.slice E)) (hE:TI P E z e.sz bytes) (hsz:e.sz=1)
  (ho:(own e v l).ok S B w) (hu:RO w e u m) (h1:lo≤hi) (h2:hi≤l.length) :
  ∃w',(Builtin.copy_ #[T,T2] ty #[slV v e.sz lo hi,u]).run P w=.ok (vI (min m.length (hi - lo):Nat)) w'∧(own e v (cpL l m lo hi)).ok S B w'∧Fr (own e v l).blk.toList w w':=by
 obtain ⟨inf,hi',_,hs,_⟩:=hE.get
 have hk:=iI (P:=P) hu (min m.length (hi - lo)) (Nat.min_le_left _ _)
 obtain ⟨ua,uc,rfl,huc,hur⟩:=hu
 have hcp:cpL l m lo hi=l.take lo++m.take (min m.length (hi - lo))++l.drop (lo+min m.length (hi - lo)):=by
  unfold cpL
  congr 2
  by_cases h:m.length≤hi - lo
  ·rw [Nat.min_eq_left h,List.take_of_length_le h,List.take_of_length_le (Nat.le_refl _)]
  ·rw [Nat.min_eq_right (by omega)]
 rcases ho.2 with ⟨rfl,hn⟩ | ⟨g,cap,cur,T',rfl,hfr,hg,hnc,hcm,hcs,htake⟩
 ·have hl:l=[]:=List.eq_nil_of_length_eq_zero hn
  subst hl
  have e1:hi=0:=by simpa using h2
  have e2:lo=0:=by omega
  subst e1 e2
  have hv0:slV (.slice none 0 0) e.sz 0 0=.slice none 0 0:=rfl
  refine ⟨w,?_,?_,Fr.refl _ _⟩
  ·rw [hv0]
   simp at hk
   simp [Builtin.copy_,run_underlying hT,Builtin.lenOf,sizeOf,typeInfo,hi',hs,hk,goInt]
  ·rw [hcp]; simpa using ho
 ·have hcells:e.fl (m.take (min m.length (hi - lo)))=(e.fl m).take (min m.length (hi - lo)):=by rw [e.fl_take,hsz,Nat.mul_one]
  have hlen:(e.fl (m.take (min m.length (hi - lo)))).length=min m.length (hi - lo):=by rw [e.fl_length,hsz]; simp
  have hcur:lo+min m.length (hi - lo)≤cur.size:=by rw [hsz]at hcs; omega
  by_cases hcl:cap=lo
  ·-- nothing can be laid
   have hz:hi - lo=0:=by omega
   refine ⟨w,?_,?_,Fr.refl _ _⟩
   ·have hv0:slV (.slice (some ⟨g,0,none⟩) l.length cap) e.sz lo hi=.slice (some ⟨g,0,none⟩) (hi - lo) (cap - lo):=by simp [slV,hcl]
    rw [hv0]
    simp only [hz,Nat.min_zero]at hk ⊢
    simp [Builtin.copy_,run_underlying hT,Builtin.lenOf,sizeOf,typeInfo,hi',hs,hk,goInt,Enc.fl,storeCells]
   ·rw [hcp,hz]; simpa using ho
  ·have hv0:slV (.slice (some ⟨g,0,none⟩) l.length cap) e.sz lo hi=.slice (some ⟨g,lo,none⟩) (hi - lo) (cap - lo):=by simp [slV,hcl,cc,hsz]
   have hst:=dH P g lo T' (e.fl (m.take (min m.length (hi - lo)))) 0 cur w hg (by rw [hlen]; omega) (e.fl_one _)
   simp only [Nat.add_zero]at hst
   obtain ⟨nr,hnr⟩:∃nr,nr=(cur.toList.take lo++e.fl (m.take (min m.length (hi - lo)))++cur.toList.drop (lo+(e.fl (m.take (min m.length (hi - lo)))).length)).toArray:=⟨_,rfl⟩
   rw [←hnr]at hst
   refine ⟨w.setRow g nr,?_,⟨e.fl_length _,.inr ⟨g,cap,nr,T',?_,hfr,hg.set _ ?_,?_,hcm,?_,?_⟩⟩,Fr.setRow w g _⟩
   ·rw [hv0]
    simp [Builtin.copy_,run_underlying hT,Builtin.lenOf,sizeOf,typeInfo,hi',hs,hk,hst,goInt]
   ·rw [et l m lo hi h1 h2]
   ·rw [hnr]
    simp only [List.size_toArray,List.length_append,List.length_take,List.length_drop,Array.length_toList,hlen]
    omega
   ·rw [et l m lo hi h1 h2]; exact hnc
   ·rw [hnr]
    simp only [List.size_toArray,List.length_append,List.length_take,List.length_drop,Array.length_toList,hlen,hsz]at hcs ⊢
    omega
   ·rw [et l m lo hi h1 h2,hcp,e.fl_append,e.fl_append]
    have e3:cur.toList.take lo=e.fl (l.take lo):=by
     rw [e.fl_take,←htake,List.take_take,hsz]; congr 1; omega
    rw [hnr,e3,hlen]
    simp only [List.toList_toArray]
    rw [List.take_append]
    have e4:(e.fl (l.take lo)++e.fl (m.take (min m.length (hi - lo)))).length=lo+min m.length (hi - lo):=by
     rw [List.length_append,hlen,e.fl_length,hsz,List.length_take]; omega
    rw [List.take_of_length_le (by rw [e4,hsz]; omega),e4]
    congr 1
    rw [e.fl_drop,←htake,hsz,List.take_drop]
    simp only [Nat.mul_one]
    congr 1
    congr 1
    omega
theorem xE {v:Value} {τ:Type} {e:Enc τ} {l:List τ} (h:RO w e v l):slV v e.sz 0 l.length=v:=by
 obtain ⟨a,c,rfl,hc,hr⟩:=h
 simp only [slV,Nat.sub_zero,Nat.zero_mul]
 congr 1
 split
 ·rfl
 ·cases a <;> simp [Addr.add]
theorem ra {x y:Operand} {T T2 E:TypeId} {τ:Type} {e:Enc τ} {z:Value} {bytes:Nat} {v u:Value} {l m:List τ} {i lo hi:Nat} (hT:P.underlying T=some (.slice E)) (hE:TI P E z e.sz bytes) (hsz:e.sz=1)
  (hx:L.ev x=some (slV v e.sz lo hi)) (hy:L.ev y=some u) (hS:St S w0 w os) (hi':os[i]? = some (own e v l)) (hu:RO w e u m) (h1:lo≤hi) (h2:hi≤l.length) :
  OpX P n L w ⟨d,.call ⟨.builtin .copy,#[x,y],#[T,T2]⟩,ty,pos,after,none⟩ (fun r w'=>r=vI (min m.length (hi - lo):Nat)∧St S w0 w' (os.set i (own e v (cpL l m lo hi)))):=by
 obtain ⟨w',hr,h3,h4⟩:=sP (T2:=T2) (ty:=ty) hT hE hsz (hS.ok _ (List.mem_of_getElem? hi')) hu h1 h2
 refine dK _ w' (fun a ha=>?_) ⟨rfl,hS.set hi' h4 h3 fun k hk=>.inl hk⟩
 simp [execOp,resolve,invoke,builtin,ha.ev hx,ha.ev hy,hr]
theorem rv {x y:Operand} {T T2 E:TypeId} {τ:Type} {e:Enc τ} {z:Value} {bytes:Nat} {v u:Value} {l m:List τ} {i:Nat} (hT:P.underlying T=some (.slice E)) (hE:TI P E z e.sz bytes) (hsz:e.sz=1)
  (hx:L.ev x=some v) (hy:L.ev y=some u) (hS:St S w0 w os) (hi':os[i]? = some (own e v l)) (hu:RO w e u m) :
  OpX P n L w ⟨d,.call ⟨.builtin .copy,#[x,y],#[T,T2]⟩,ty,pos,after,none⟩ (fun r w'=>r=vI (min m.length l.length:Nat)∧St S w0 w' (os.set i (own e v (cpL l m 0 l.length)))):=by
 have h:=ra (P:=P) (n:=n) (d:=d) (ty:=ty) (pos:=pos) (after:=after) (T2:=T2) (lo:=0) (hi:=l.length) hT hE hsz (by rw [xE (hS.ro i hi')]; exact hx) hy hS hi' hu (Nat.zero_le _) (Nat.le_refl _)
 exact h
theorem xb {τ:Type} {e:Enc τ} {v:Value} {l:List τ} (h:RO w e v l) (k i:Nat):ixA (slV v e.sz 0 k) e.sz i=ixA v e.sz i:=by
 obtain ⟨a,c,rfl,hc,hr⟩:=h
 simp only [slV,Nat.zero_mul]
 cases a with
 | none=>split <;> rfl
 | some p=>
  have:p.add 0=p:=by simp [Addr.add]
  split <;> simp [ixA,this]
theorem RO.tk {τ:Type} {e:Enc τ} {v:Value} {l:List τ} (h:RO w e v l) {k:Nat} (hk:k≤l.length):RO w e (slV v e.sz 0 k) (l.take k):=h.subh hk
section
variable {T E:TypeId} {τ:Type} {e:Enc τ} {v:Value} {l r:List τ} {z0:Value} {bytes:Nat}
theorem uw {x z:Operand} {k':IntKind} {hi:Int} {k:Nat} (hT:P.underlying T=some (.slice E)) (hE:TI P E z0 e.sz bytes)
  (hx:L.ev x=some (slV v e.sz 0 k)) (hz:L.ev z=some (.int k' hi)) (h:RO w e v l) (hg:tkO l hi=some r) :
  OpV P n L w ⟨d,.slice T x none (some z) none,ty,pos,after,none⟩ (slV v e.sz 0 hi.toNat) w:=fun a ha=>by
 obtain ⟨⟨h0,h1⟩,_⟩:=nj hg
 obtain ⟨b,c,rfl,hc,_⟩:=h
 obtain ⟨inf,hi',_,hs,_⟩:=hE.get
 have e2:hi≤(c:Int):=by omega
 have hx':L.ev x=some (.slice (if c=0 then b else b.map (·.add (0*e.sz))) (k - 0) (c - 0)):=hx
 have hb:(if c=0 then b else b.map (·.add (0*e.sz)))=b:=by
  split
  ·rfl
  ·cases b <;> simp [Addr.add]
 rw [hb]at hx'
 simp [execOp,ha.ev hx',ha.ev hz,Instr.sliceAt,Instr.slice,run_underlying hT,Instr.sliceBounds,run_sliceBound,h0,e2,sizeOf,typeInfo,hi',hs,slV]
theorem vh {x y:Operand} {k':IntKind} {i:Int} {t:τ} {k:Nat} (hT:P.underlying T=some (.slice E)) (hE:TI P E z0 e.sz bytes)
  (hx:L.ev x=some (slV v e.sz 0 k)) (hy:L.ev y=some (.int k' i)) (h:RO w e v l) (hk:k≤l.length) (hg:aB (l.take k) i=some t) :
  OpV P n L w ⟨d,.indexAddr T x y,ty,pos,after,none⟩ (pP (ixA v e.sz i.toNat)) w:=by
 rw [←xb h k]
 exact aW hT hE hx hy (h.tk hk) hg
end
theorem uZ {τ:Type} {l:List τ} {k:Nat} {i:Int} {t:τ} (h:aB (l.take k) i=some t):aB l i=some t:=by
 unfold aB at h ⊢
 split at h
 ·rw [if_pos ‹_›]
  rw [List.getElem?_take]at h
  split at h
  ·exact h
  ·cases h
 ·cases h
end
end Go.Gk
end
