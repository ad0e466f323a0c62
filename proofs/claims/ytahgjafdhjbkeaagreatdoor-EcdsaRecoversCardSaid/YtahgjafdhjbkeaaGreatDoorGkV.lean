import Derived.Test.YtahgjafdhjbkeaaGreatDoorGkI
import Derived.Scope
import Derived.ScopeJumps
set_option linter.unusedVariables false
set_option linter.unusedSimpArgs false
set_option linter.unusedSectionVars false

section
namespace Go.Gk
open Go Go.RowKit
def Up (cs:List Value) (off:Nat) (xs cs' xs':List Value):Prop:=∃A B,cs=A++(xs++B)/\cs'=A++(xs'++B)/\A.length=off
theorem Up.here {xs xs' B:List Value}:Up (xs++B) 0 xs (xs'++B) xs':=⟨[],B,rfl,rfl,rfl⟩
theorem Up.last {xs xs':List Value}:Up xs 0 xs xs' xs':=⟨[],[],by simp,by simp,rfl⟩
theorem Up.skip {cs f xs xs' A:List Value} {k off o:Nat} (g:A.length=k) (h:Up cs off xs f xs') (i:k+off=o):Up (A++cs) o xs (A++f) xs':=by
 obtain⟨C,B,j,m,q⟩:=h
 exact⟨A++C,B,by rw[j,List.append_assoc],by rw[m,List.append_assoc],by rw[List.length_append,g,q,i]⟩
theorem Up.get {cs f xs':List Value} {off:Nat} {u:Value} (h:Up cs off [u] f xs'):cs[off]? = some u:=by
 obtain⟨A,B,rfl,_,rfl⟩:=h
 simp
theorem Up.get0 {cs:List Value} {off:Nat} {u:Value} (h:Up cs off [u] cs [u]):cs[off]? = some u:=h.get
theorem Up.gets {cs f xs xs':List Value} {off:Nat} (h:Up cs off xs f xs') {j:Nat} {u:Value} (g:xs[j]? = some u):cs[off+j]? = some u:=by
 obtain⟨A,B,rfl,_,rfl⟩:=h
 rw[List.getElem?_append_right (by omega),Nat.add_sub_cancel_left,List.getElem?_append_left (List.getElem?_eq_some_iff.1 g).1]
 exact g
theorem Up.spl {cs f xs xs':List Value} {off:Nat} (h:Up cs off xs f xs') (g:xs'.length=xs.length):spl cs off xs'=f:=by
 obtain⟨A,B,rfl,rfl,rfl⟩:=h
 unfold Go.Gk.spl
 rw[List.take_left,g,<-List.append_assoc A xs B,List.drop_left' (by simp),List.append_assoc]
theorem Up.le {cs f xs xs':List Value} {off:Nat} (h:Up cs off xs f xs'):off+xs.length<=cs.length:=by
 obtain⟨A,B,rfl,rfl,rfl⟩:=h
 simp only[List.length_append]; omega
section
variable {τ:Type} {e:Enc τ} {l:List τ}
theorem AY {j:Int} {t t':τ} {u g:Value} (o:aA l j=some t) (h:e.cells t=[u]) (i:e.cells t'=[g]):Up (e.fl l) (j.toNat*1) [u] (e.fl (l.set j.toNat t')) [g]:=by
 obtain⟨z,f,k⟩:=ew o
 have q:l=l.take j.toNat++(t :: l.drop (j.toNat+1)):=by
  have x:l[j.toNat]=t:=by rw[List.getElem?_eq_getElem f]at k; exact Option.some.inj k
  rw[<-x,<-List.drop_eq_getElem_cons f,List.take_append_drop]
 have y:l.set j.toNat t'=l.take j.toNat++(t' :: l.drop (j.toNat+1)):=by
  rw[List.set_eq_take_append_cons_drop,if_pos f]
 refine⟨e.fl (l.take j.toNat),e.fl (l.drop (j.toNat+1)),?_,?_,?_⟩
 ·conv=>lhs; rw[q]
  rw[e.fl_append]; congr 1
  simp[Enc.fl,h]
 ·rw[y,e.fl_append]; congr 1
  simp[Enc.fl,i]
 ·have m:e.sz=1:=by rw[<-e.len t,h]; rfl
  rw[e.fl_length,m,List.length_take]; omega
theorem Up.sub {cs f j i xs xs':List Value} {off k:Nat} (h:Up cs off j f i) (g:Up j k xs i xs'):Up cs (off+k) xs f xs':=by
 obtain⟨A,B,rfl,rfl,rfl⟩:=h
 obtain⟨C,D,rfl,rfl,rfl⟩:=g
 exact⟨A++C,D++B,by simp,by simp,by simp⟩
theorem Up.elt {cs f:List Value} {off:Nat} {j:Int} {t t':τ} {u g:Value} (h:Up cs off (e.fl l) f (e.fl (l.set j.toNat t'))) (k:aA l j=some t) (m:e.cells t=[u]) (i:e.cells t'=[g]):Up cs (off+j.toNat*1) [u] f [g]:=
 h.sub (AY k m i)
theorem Up.elr {cs:List Value} {off:Nat} {j:Int} {t:τ} {u:Value} (h:Up cs off (e.fl l) cs (e.fl l)) (i:aA l j=some t) (f:e.cells t=[u]):cs[off+j.toNat*1]? = some u:=by
 obtain⟨o,m,k⟩:=ew i
 have g:e.sz=1:=by rw[<-e.len t,f]; rfl
 have:=e.fl_get l j.toNat t k 0 (by omega)
 rw[g,f]at this
 exact h.gets (by simpa using this)
theorem aW {j:Int} {t:τ} {m:Nat} (f:aA l j=some t) (h:l.length=m):0<=j/\j<(m:Int):=by
 obtain⟨i,g,_⟩:=ew f
 omega
theorem bh {m:Nat} (f:l.length=m) (g:e.sz=1):(e.fl l).length=m:=by rw[e.fl_length,g,Nat.mul_one,f]
theorem fy {A B:List Value} {a b c:Nat} (f:A.length=a) (g:B.length=b) (h:a+b=c):(A++B).length=c:=by rw[List.length_append,f,g,h]
theorem gi:∀u∈e.fl l,u.oneCell'=true:=e.fl_one l
theorem n9 {A B:List Value} (f:∀u∈A,u.oneCell'=true) (g:∀u∈B,u.oneCell'=true):∀u∈A++B,u.oneCell'=true:=fun u i=>by
 rcases List.mem_append.1 i with h | h
 ·exact f u h
 ·exact g u h
theorem eD {v:Value} (h:v.oneCell'=true):∀u∈[v],u.oneCell'=true:=fun u f=>by
 simp at f; subst f; exact h
theorem om {j:Int} {t:τ} {u:Value} (f:aA l j=some t) (g:e.cells t=[u]):((e.fl l).toArray)[j.toNat*1]? = some u:=by
 have:=Up.elr (cs:=e.fl l) (off:=0) Up.last f g
 simpa using this
end
section
variable {P:Program} {n:Nat} {L:Env} {w w0:World} {Q:Exit->Act->World->Prop} {S:L2} {os:List OE}
variable {d:Option Tmp} {ty:TypeId} {pos:String} {after:Array Edge}
theorem a7 {T E:TypeId} {m:Nat} {x y:Operand} {b off:Nat} {k:IntKind} {i:Int} (f:P.underlying T=some (.array m E)) (g:(P.info? E).map (·.size)=some 1)
  (j:L.ev x=some (pB b off)) (o:L.ev y=some (.int k i)) (h:0<=i/\i<(m:Int)):OpV P n L w ⟨d,.indexAddr T x y,ty,pos,after,none⟩ (pB b (off+i.toNat*1)) w:=
 AX f g j o h.1 h.2
theorem fK {T:TypeId} {D:TypeDesc} {x:Operand} {b off m:Nat} {us:List Value} (f:P.underlying T=some D) (g:(match D with | .struct _ | .array _ _=>true | _=>false)=true)
  (hi:(P.info? T).map (·.size)=some m) (h:us.length=m) (i:L.ev x=some (pB b off)) (hc:∀j u,us[j]? = some u->w.cell? ⟨b,off+j,none⟩=some u) :
  OpV P n L w ⟨d,.load T x,ty,pos,after,none⟩ (.agg us.toArray) w:=aM f g (by rw[h]; exact hi) i hc
theorem St.bxg (h:St S w0 w os) (i:Nat) {b:Nat} {cs:List Value} (hi:os[i]? = some (.bx b cs)) {off:Nat} {u:Value} (f:cs[off]? = some u):w.cell? ⟨b,off,none⟩=some u:=(h.bxc i hi off).trans f
theorem St.bxgs (h:St S w0 w os) (i:Nat) {b:Nat} {cs xs f xs':List Value} (hi:os[i]? = some (.bx b cs)) {off:Nat} (g:Up cs off xs f xs'):∀j u,xs[j]? = some u->w.cell? ⟨b,off+j,none⟩=some u:=
 fun j u k=>(h.bxc i hi _).trans (g.gets k)
theorem St.bxgs0 (h:St S w0 w os) (i:Nat) {b:Nat} {cs xs:List Value} (hi:os[i]? = some (.bx b cs)) {off:Nat} (f:Up cs off xs cs xs):∀j u,xs[j]? = some u->w.cell? ⟨b,off+j,none⟩=some u:=h.bxgs i hi f
theorem St.bxroA {τ:Type} {e:Enc τ} {l:List τ} {b off m:Nat} {cs:List Value} (h:St S w0 w os) (i:Nat) (hi:os[i]? = some (.bx b cs)) (f:l.length=m) (g:Up cs off (e.fl l) cs (e.fl l)):RO w e (.slice (some ⟨b,off,none⟩) m m) l:=by
 subst f
 exact⟨_,_,rfl,Nat.le_refl _,fun _=>⟨b,off,rfl,h.bxgs i hi g⟩⟩
theorem dt {T:TypeId} {x y:Operand} {b off i m:Nat} {v:Value} {cs xs f xs':List Value} (hi:os[i]? = some (.bx b cs)) (g:(P.info? T).map (·.size)=some m)
  (G:L.ev x=some (pB b off)) (I:L.ev y=some v) (o:v.cells.toList=xs') (q:Up cs off xs f xs') (R:xs.length=m) (t:xs'.length=m) (J:∀u∈xs',u.oneCell'=true) (K:St S w0 w os) :
  OpY P n L w ⟨none,.store T x y,ty,pos,after,none⟩ (fun w'=>St S w0 w' (os.set i (.bx b f))):=by
 obtain⟨M,h,N,z,j⟩:=K.setB (off:=off) (us:=xs') hi
 rw[q.spl (by omega)]at j
 refine qR _ (fun a A=>?_) j
 cases hq:P.info? T with
 | none=>simp[hq]at g
 | some inf=>
  have O:inf.size=xs'.length:=by rw[t]; simpa [hq] using g
  have B:off+0+xs'.length<=h.size:=by
   have:=q.le
   rw[<-z]at this
   simp only[Array.length_toList]at this
   omega
  have k:=run_storeCells_at P b off M xs' 0 h w N B J
  have F:v.cells.size=xs'.length:=by rw[<-o]; simp
  simp only[Nat.add_zero]at k
  simp[execOp,Instr.storeAt,A.ev G,A.ev I,Instr.sureAddr,storeVar,sizeOf,typeInfo,hq,O,o,F,k]
theorem mb {T E:TypeId} {m:Nat} {x y:Operand} {cs:Array Value} {k:IntKind} {i:Int} {u:Value} {D:TypeDesc} (g:P.underlying T=some (.array m E)) (j:P.underlying E=some D)
  (o:(match D with | .struct _ | .array _ _=>true | _=>false)=false) (f:(P.info? E).map (·.size)=some 1)
  (q:L.ev x=some (.agg cs)) (t:L.ev y=some (.int k i)) (h:0<=i/\i<(m:Int)) (z:cs[i.toNat*1]? = some u):OpV P n L w ⟨d,.index T x y,ty,pos,after,none⟩ u w:=
 A6 g j o f q t h.1 h.2 z
theorem Ar {b off m lo hi:Nat}:slV (.slice (some ⟨b,off,none⟩) m m) 1 lo hi=.slice (some (if m=lo then ⟨b,off,none⟩ else (⟨b,off,none⟩:Addr).add (lo*1))) (hi - lo) (m - lo):=by
 simp only[slV]
 split <;> rfl
theorem CC {x y z:Operand} {T E:TypeId} {k i:IntKind} {lo hi:Int} {τ:Type} {e:Enc τ} {l r:List τ} {b off m:Nat} (j:P.underlying T=some (.array m E)) (f:(P.info? E).map (·.size)=some 1) (o:e.sz=1)
  (q:L.ev x=some (pB b off)) (t:L.ev y=some (.int k lo)) (A:L.ev z=some (.int i hi)) (N:l.length=m) (B:slO l lo hi=some r) :
  OpV P n L w ⟨d,.slice T x (some y) (some z) none,ty,pos,after,none⟩ (slV (.slice (some ⟨b,off,none⟩) m m) e.sz lo.toNat hi.toNat) w:=fun a g=>by
 obtain⟨⟨F,O,R⟩,_⟩:=dI B
 cases hi':P.info? E with
 | none=>rw[hi']at f; cases f
 | some inf=>
  have h:inf.size=1:=by rw[hi']at f; simpa using f
  have G:lo<=hi:=by omega
  have I:hi<=(m:Int):=by omega
  have J:0<=hi:=by omega
  have K:lo<=(m:Int):=by omega
  have M:(hi.toNat:Int)=hi:=by omega
  rw[o,Ar]
  simp[execOp,g.ev q,g.ev t,g.ev A,Instr.sliceAt,Instr.sureAddr,run_underlying j,Instr.sliceBounds,run_sliceBound,F,G,I,J,K,M,sizeOf,typeInfo,hi',h]
theorem CV {x y:Operand} {T E:TypeId} {k:IntKind} {lo:Int} {τ:Type} {e:Enc τ} {l r:List τ} {b off m:Nat} (i:P.underlying T=some (.array m E)) (f:(P.info? E).map (·.size)=some 1) (j:e.sz=1)
  (o:L.ev x=some (pB b off)) (q:L.ev y=some (.int k lo)) (t:l.length=m) (z:drO l lo=some r) :
  OpV P n L w ⟨d,.slice T x (some y) none none,ty,pos,after,none⟩ (slV (.slice (some ⟨b,off,none⟩) m m) e.sz lo.toNat l.length) w:=fun a g=>by
 obtain⟨⟨A,F⟩,_⟩:=ia z
 cases hi':P.info? E with
 | none=>rw[hi']at f; cases f
 | some inf=>
  have h:inf.size=1:=by rw[hi']at f; simpa using f
  have B:lo<=(m:Int):=by omega
  rw[j,t,Ar]
  simp[execOp,g.ev o,g.ev q,Instr.sliceAt,Instr.sureAddr,run_underlying i,Instr.sliceBounds,run_sliceBound,A,B,sizeOf,typeInfo,hi',h]
theorem yd {x y:Operand} {T T2 E:TypeId} {τ:Type} {e:Enc τ} {z:Value} {bytes:Nat} {u:Value} {l m:List τ} {i lo hi b off q:Nat} {cs g:List Value} (Y:P.underlying T=some (.slice E)) (hE:TI P E z e.sz bytes) (f:e.sz=1)
  (k:L.ev x=some (slV (.slice (some ⟨b,off,none⟩) q q) e.sz lo hi)) (Z:L.ev y=some u) (hS:St S w0 w os) (J:os[i]? = some (.bx b cs)) (hq:l.length=q) (ac:Up cs off (e.fl l) g (e.fl (cpL l m lo hi))) (hu:RO w e u m) (h1:lo<=hi) (h2:hi<=l.length) :
  OpX P n L w ⟨d,.call ⟨.builtin .copy,#[x,y],#[T,T2]⟩,ty,pos,after,none⟩ (fun r w'=>r=vI (min m.length (hi - lo):Nat)/\St S w0 w' (os.set i (.bx b g))):=by
 obtain⟨b7,K,_,hs,_⟩:=hE.get
 have R:=jD (P:=P) hu (min m.length (hi - lo)) (Nat.min_le_left _ _)
 obtain⟨ua,uc,rfl,b8,b9⟩:=hu
 obtain⟨A,B,hA,a3,M⟩:=ac
 have a4:e.fl (m.take (min m.length (hi - lo)))=(e.fl m).take (min m.length (hi - lo)):=by rw[e.fl_take,f,Nat.mul_one]
 have o:(e.fl (m.take (min m.length (hi - lo)))).length=min m.length (hi - lo):=by rw[e.fl_length,f]; simp
 have a5:cpL l m lo hi=l.take lo++m.take (min m.length (hi - lo))++l.drop (lo+min m.length (hi - lo)):=by
  unfold cpL
  congr 2
  by_cases h:m.length<=hi - lo
  ·rw[Nat.min_eq_left h,List.take_of_length_le h,List.take_of_length_le (Nat.le_refl _)]
  ·rw[Nat.min_eq_right (by omega)]
 have t:spl cs (off+lo) (e.fl (m.take (min m.length (hi - lo))))=g:=by
  have a6:l=l.take lo++(l.drop lo).take (min m.length (hi - lo))++l.drop (lo+min m.length (hi - lo)):=by
   rw[List.append_assoc,<-List.drop_drop,List.take_append_drop,List.take_append_drop]
  have U:Up cs (off+lo) (e.fl ((l.drop lo).take (min m.length (hi - lo)))) g (e.fl (m.take (min m.length (hi - lo)))):=by
   refine⟨A++e.fl (l.take lo),e.fl (l.drop (lo+min m.length (hi - lo)))++B,?_,?_,?_⟩
   ·rw[hA]
    conv=>lhs; rw[a6]
    simp[e.fl_append]
   ·rw[a3,a5]; simp[e.fl_append]
   ·rw[List.length_append,M,e.fl_length,f,List.length_take]; omega
  refine U.spl ?_
  rw[o,e.fl_length,f,List.length_take,List.length_drop]; omega
 obtain⟨T',j,hg,b2,N⟩:=hS.setB (off:=off+lo) (us:=e.fl (m.take (min m.length (hi - lo)))) J
 rw[t]at N
 have b6:off+lo+min m.length (hi - lo)<=j.size:=by
  have:j.size=cs.length:=by rw[<-b2]; simp
  rw[this,hA,List.length_append,List.length_append,M,e.fl_length,f]; omega
 by_cases hcl:q=lo
 ·have V:hi - lo=0:=by omega
  refine fx (vI 0) w (fun a F=>?_) ⟨by rw[V]; simp,?_⟩
  ·have G:slV (.slice (some ⟨b,off,none⟩) q q) e.sz lo hi=.slice (some ⟨b,off,none⟩) (hi - lo) (q - lo):=by simp[slV,hcl]
   rw[G]at k
   simp only[V,Nat.min_zero]at R k
   have X:(Builtin.copy_ #[T,T2] ty #[.slice (some ⟨b,off,none⟩) 0 (q - lo),.slice ua m.length uc]).run P w=.ok (vI 0) w:=by
    simp[Builtin.copy_,run_underlying Y,Builtin.lenOf,sizeOf,typeInfo,K,hs,R,goInt,Enc.fl,storeCells]
   simp[execOp,resolve,invoke,builtin,F.ev k,F.ev Z,X]
  ·have:g=cs:=by
    rw[<-t,V]; simp[spl,Enc.fl]
   rw[this]
   have I:os.set i (.bx b cs)=os:=zJ J
   rw[I]; exact hS
 ·have G:slV (.slice (some ⟨b,off,none⟩) q q) e.sz lo hi=.slice (some ⟨b,off+lo,none⟩) (hi - lo) (q - lo):=by simp[slV,hcl,d6,f]
  rw[G]at k
  have O:=run_storeCells_at P b (off+lo) T' (e.fl (m.take (min m.length (hi - lo)))) 0 j w hg (by rw[o]; omega) (e.fl_one _)
  simp only[Nat.add_zero]at O
  refine fx _ _ (fun a F=>?_) ⟨rfl,N⟩
  have X:(Builtin.copy_ #[T,T2] ty #[.slice (some ⟨b,off+lo,none⟩) (hi - lo) (q - lo),.slice ua m.length uc]).run P w=.ok (vI (min m.length (hi - lo):Nat)) (w.setRow b (j.toList.take (off+lo)++e.fl (m.take (min m.length (hi - lo)))++j.toList.drop (off+lo+(e.fl (m.take (min m.length (hi - lo)))).length)).toArray):=by
   simp[Builtin.copy_,run_underlying Y,Builtin.lenOf,sizeOf,typeInfo,K,hs,R,O,goInt]
  simp[execOp,resolve,invoke,builtin,F.ev k,F.ev Z,X]
def GA {τ:Type} (S:L2) (w0:World) (g:Nat) (e:Enc τ) (l:List τ):Prop:=(∀j u,(e.fl l)[j]? = some u->w0.cell? ⟨g,j,none⟩=some u)/\g ∉ S
theorem GA.cells {τ:Type} {g:Nat} {e:Enc τ} {l:List τ} (h:GA S w0 g e l) (f:Fr S w0 w):∀j u,(e.fl l)[j]? = some u->w.cell? ⟨g,0+j,none⟩=some u:=fun j u i=>by
 have:=h.1 j u i
 rw[Nat.zero_add,f.cell (i7 this) h.2]
 exact this
theorem GA.cell {τ:Type} {g:Nat} {e:Enc τ} {l:List τ} (h:GA S w0 g e l) (f:Fr S w0 w) {j:Int} {t:τ} {u:Value} (i:aA l j=some t) (k:e.cells t=[u]):w.cell? ⟨g,0+j.toNat*1,none⟩=some u:=
 h.cells f _ u (by have:=Up.elr (cs:=e.fl l) (off:=0) Up.last i k; simpa using this)
theorem GA.now {τ:Type} {g:Nat} {e:Enc τ} {l:List τ} (h:GA S w0 g e l) (f:Fr S w0 w):GA [] w g e l:=⟨fun j u i=>by have:=h.cells f j u i; simpa using this,by simp⟩
theorem GA.give {τ:Type} {g:Nat} {e:Enc τ} {l:List τ} {os0:List OE} (h:GA S w0 g e l) (i:0<(e.fl l).length) (k:St S w0 w (os0++os)):GA (dO os0) w g e l:=by
 refine⟨fun j u q=>by have:=h.cells k.fr j u q; simpa using this,fun t=>?_⟩
 obtain⟨o,x,m⟩:=cr.1 t
 have f:=((k.ok o (List.mem_append_left _ x)).lt m).2
 rcases f with f | f
 ·have:=i7 (h.1 0 _ (List.getElem?_eq_getElem i))
  simp only at this
  omega
 ·exact h.2 f
theorem ym {x z u:Operand} {T E:TypeId} {k i:IntKind} {hi m:Int} {τ:Type} {e:Enc τ} {v z0:Value} {l:List τ} {bytes:Nat} (j:P.underlying T=some (.slice E)) (o:TI P E z0 e.sz bytes)
  (q:L.ev x=some v) (t:L.ev z=some (.int k hi)) (y:L.ev u=some (.int i m)) (h:RO w e v l) (A:0<=hi/\hi.toNat<=l.length/\m=hi) :
  OpV P n L w ⟨d,.slice T x none (some z) (some u),ty,pos,after,none⟩ (slV3 v e.sz 0 hi.toNat hi.toNat) w:=fun a f=>by
 obtain⟨b,c,rfl,hc,_⟩:=h
 obtain⟨J,g,_,B,_⟩:=o.get
 obtain⟨F,K,rfl⟩:=A
 have G:m<=(c:Int):=by omega
 have I:(m.toNat:Int)=m:=Int.toNat_of_nonneg (by omega)
 simp[execOp,f.ev q,f.ev t,f.ev y,Instr.sliceAt,Instr.slice,run_underlying j,Instr.sliceBounds,run_sliceBound,F,G,I,sizeOf,typeInfo,g,B,slV3]
theorem OE.ok.cut3 {B:Nat} {τ:Type} {e:Enc τ} {v:Value} {l:List τ} {k:Nat} (h:(own e v l).ok S B w) (q:k<=l.length):(own e (slV3 v e.sz 0 k k) (l.take k)).ok S B w:=by
 refine⟨e.fl_length _,?_⟩
 rcases h.2 with⟨rfl,F⟩ | ⟨g,j,m,T,rfl,t,x,z,A,o,i⟩
 ·have:k=0:=by omega
  subst this
  exact .inl ⟨by simp[slV3],by simp⟩
 ·have y:slV3 (.slice (some ⟨g,0,none⟩) l.length j) e.sz 0 k k=.slice (some ⟨g,0,none⟩) k k:=by
   simp[slV3,d6]
  have f:(l.take k).length=k:=by simp; omega
  refine .inr ⟨g,k,m,T,by rw[y,f],t,x,by rw[f]; exact Nat.le_refl _,by omega,Nat.le_trans (Nat.mul_le_mul_right _ (by omega)) o,?_⟩
  rw[f,e.fl_take,<-i,List.take_take,Nat.min_eq_left (Nat.mul_le_mul_right _ q)]
theorem St.trunc3 {τ:Type} {e:Enc τ} {v:Value} {l:List τ} {i k:Nat} (h:St S w0 w os) (hi:os[i]? = some (own e v l)) (m:k<=l.length):St S w0 w (os.set i (own e (slV3 v e.sz 0 k k) (l.take k))):=by
 refine h.set hi (Fr.refl _ _) ((h.ok _ (List.mem_of_getElem? hi)).cut3 m) fun q f=>.inl ?_
 have j:=h.ok _ (List.mem_of_getElem? hi)
 rcases j.2 with⟨rfl,x⟩ | ⟨g,o,t,T,rfl,_⟩
 ·simp[OE.blk,slV3,Value.ownBlock]at f
 ·simpa [OE.blk,slV3,d6,Value.ownBlock] using f
end
end Go.Gk
end

section
namespace Go.Gk
open Go Go.RowKit
section
variable {S:L2} {w0 w:World} {os os0:List OE} {b:Nat} {cs:List Value}
def RB (S:L2) (w0:World) (b:Nat) (cs:List Value):Prop:=(∀j u,cs[j]? = some u->w0.cell? ⟨b,j,none⟩=some u)/\b ∉ S/\b<w0.heap.size
theorem RB.cells (h:RB S w0 b cs) (f:Fr S w0 w):∀j u,cs[j]? = some u->w.cell? ⟨b,0+j,none⟩=some u:=fun j u g=>by
 have:=h.1 j u g
 rw[Nat.zero_add,f.cell (i7 this) h.2.1]
 exact this
theorem RB.cell (h:RB S w0 b cs) (f:Fr S w0 w) (j:Nat) {u:Value} (g:cs[j]? = some u):w.cell? ⟨b,0+j,none⟩=some u:=h.cells f j u g
theorem RB.now (h:RB S w0 b cs) (f:Fr S w0 w):RB [] w b cs:=
 ⟨fun j u g=>by have:=h.cells f j u g; simpa using this,by simp,Nat.lt_of_lt_of_le h.2.2 f.size⟩
theorem RB.give (h:RB S w0 b cs) (g:St S w0 w (os0++os)):RB (dO os0) w b cs:=by
 refine⟨fun j u k=>by have:=h.cells g.fr j u k; simpa using this,fun m=>?_,Nat.lt_of_lt_of_le h.2.2 g.fr.size⟩
 obtain⟨o,q,i⟩:=cr.1 m
 have f:=((g.ok o (List.mem_append_left _ q)).lt i).2
 rcases f with f | f
 ·have:=h.2.2
  omega
 ·exact h.2.1 f
theorem St.rb (f:St S w0 w os) (i:Nat) (hi:os[i]? = some (.bx b cs)):RB [] w b cs:=by
 obtain⟨o,T,k,g,m⟩:=f.ok _ (List.mem_of_getElem? hi)
 exact⟨fun j u h=>by rw[f.bxc i hi]; exact h,by simp,(Array.getElem?_eq_some_iff.1 g).1⟩
theorem St.giveB (f:St S w0 w (os0++os)) (i:Nat) (hi:os[i]? = some (.bx b cs)):RB (dO os0) w b cs:=by
 have j:=List.mem_of_getElem? hi
 have g:(os0++os)[os0.length+i]? = some (.bx b cs):=by rw[List.getElem?_append_right (by omega)]; simpa using hi
 obtain⟨k,_,m⟩:=f.rb _ g
 refine⟨k,fun q=>?_,m⟩
 obtain⟨o,t,h⟩:=cr.1 q
 exact (List.pairwise_append.1 f.dj).2.2 o t _ j b h rfl
end
theorem uC {τ:Type} (k:Nat) (l:List τ):(l.take k).length<=l.length:=by rw[List.length_take]; exact Nat.min_le_right _ _
theorem yc (a:Addr) (k:Nat):a.add (0*k)=a:=by
 rw[Nat.zero_mul]
 unfold Addr.add
 cases a with
 | mk b off sp=>cases sp <;> simp
theorem j0 (a:Option Addr) (k:Nat):a.map (·.add (0*k))=a:=by
 cases a with
 | none=>rfl
 | some a=>simp only[Option.map_some,yc]
theorem RO.full {w:World} {τ:Type} {e:Enc τ} {v:Value} {l:List τ} (h:RO w e v l):v=slV v e.sz 0 l.length:=by
 obtain⟨a,c,rfl,hc,_⟩:=h
 simp only[slV,Nat.sub_zero,j0,ite_self]
theorem RO.cut3 {w:World} {τ:Type} {e:Enc τ} {v:Value} {l:List τ} (h:RO w e v l) (k m:Nat):Go.Gk.slV3 (slV v e.sz 0 k) e.sz 0 m m=Go.Gk.slV3 v e.sz 0 m m:=by
 obtain⟨a,c,rfl,hc,_⟩:=h
 simp only[slV,Go.Gk.slV3,Nat.sub_zero,j0,ite_self]
theorem RO.tk3 {w:World} {τ:Type} {e:Enc τ} {v:Value} {l:List τ} (h:RO w e v l) {k:Nat} (f:k<=l.length):RO w e (slV3 v e.sz 0 k k) (l.take k):=by
 have:=h.sub3 (lo:=0) (hi:=k) (m:=k) (Nat.zero_le _) f (Nat.le_refl _)
 simpa using this
theorem RP.tk3 {S:L2} {w:World} {τ:Type} {e:Enc τ} {v:Value} {l:List τ} (h:RP S w e v l) {k:Nat} (i:k<=l.length):RP S w e (slV3 v e.sz 0 k k) (l.take k):=by
 refine⟨h.1.tk3 i,fun m j o q=>?_⟩
 have f:l≠[]:=by rintro rfl; simp at m
 refine h.2 f j o ?_
 obtain⟨a,c,rfl,hc,_⟩:=h.1
 have g:sE (.slice a k k)=some j:=by simpa only [Go.Gk.slV3,Nat.sub_zero,j0,ite_self] using q
 cases a <;> exact g
end Go.Gk
end

section
namespace Go.Gk
open Go Go.RowKit
section
variable {S Sb:L2} {w0 wb w w':World} {es es1 os os0 osF osK:List OE}
def OE.kept (S:L2) (w:World):OE->Prop
 | .bx b cs=>RB S w b cs
 | .rd v sz n cs=>cs.length=n*sz/\∃a c,v=.slice a n c/\n<=c /\
   (n≠0->∃b off,a=some ⟨b,off,none⟩/\b<w.heap.size/\b ∉ S/\∀j u,cs[j]? = some u->w.cell? ⟨b,off+j,none⟩=some u)
 | .sl ..=>True
def OE.kp:OE->OE
 | .sl v sz n cs=>.rd v sz n cs
 | o=>o
theorem OE.kept.to {o:OE} {S':L2} (h:o.kept S w) (hf:Fr S w w') (hS:∀k,k<w.heap.size->k ∉ S->k ∉ S'):o.kept S' w':=by
 cases o with
 | sl v sz n cs=>trivial
 | bx b cs=>
  obtain⟨h1,h2,h3⟩:=h
  refine⟨fun j u hj=>?_,hS _ h3 h2,Nat.lt_of_lt_of_le h3 hf.size⟩
  rw[hf.cell h3 h2]
  exact h1 j u hj
 | rd v sz n cs=>
  obtain⟨hl,a,c,rfl,hc,hx⟩:=h
  refine⟨hl,a,c,rfl,hc,fun hn=>?_⟩
  obtain⟨b,off,rfl,hb,hs,hcell⟩:=hx hn
  refine⟨b,off,rfl,Nat.lt_of_lt_of_le hb hf.size,hS _ hb hs,fun j u hj=>?_⟩
  rw[hf.cell hb hs]
  exact hcell j u hj
theorem OE.kept.fr {o:OE} (h:o.kept S w) (hf:Fr S w w'):o.kept S w':=h.to hf fun _ _ h=>h
theorem OE.kept.blk {o:OE} (h:o.kept S w) (ho:∀v sz n cs,o≠.sl v sz n cs) {k:Nat} (hk:o.blk=some k):k<w.heap.size/\k ∉ S:=by
 cases o with
 | sl v sz n cs=>exact absurd rfl (ho v sz n cs)
 | bx b cs=>simp[OE.blk]at hk; subst hk; exact⟨h.2.2,h.2.1⟩
 | rd v sz n cs=>
  obtain⟨hl,a,c,rfl,hc,hx⟩:=h
  simp only[OE.blk]at hk
  split at hk
  ·cases hk
  ·rename_i hn
   obtain⟨b,off,rfl,hb,hs,_⟩:=hx hn
   simp[Value.ownBlock]at hk
   subst hk
   exact⟨hb,hs⟩
theorem OE.ok.kept {o:OE} {B:Nat} (h:o.ok S B w) {S':L2} (hd:∀k,o.blk=some k->k ∉ S'):o.kp.kept S' w:=by
 cases o with
 | sl v sz n cs=>
  refine⟨h.1,?_⟩
  rcases h.2 with⟨rfl,rfl⟩ | ⟨g,cap,cur,T,rfl,hf,hg,hnc,hcm,hcs,htake⟩
  ·exact⟨none,0,rfl,Nat.le_refl _,fun h=>absurd rfl h⟩
  ·refine⟨_,cap,rfl,hnc,fun _=>⟨g,0,rfl,hg.lt,hd g rfl,fun j u hj=>?_⟩⟩
   rw[<-htake,List.getElem?_take]at hj
   split at hj
   ·rw[Nat.zero_add,hg.cell j]
    simpa using hj
   ·cases hj
 | rd v sz n cs=>
  obtain⟨hl,a,c,rfl,hc,hx⟩:=h
  refine⟨hl,a,c,rfl,hc,fun hn=>?_⟩
  obtain⟨b,off,rfl,hb,_,hcell⟩:=hx hn
  exact⟨b,off,rfl,hb,hd b (by simp[OE.blk,hn,Value.ownBlock]),hcell⟩
 | bx b cs=>
  obtain⟨hf,T,cur,hg,hcs⟩:=h
  have hlt:=(Array.getElem?_eq_some_iff.1 hg).1
  refine⟨fun j u hj=>?_,hd b rfl,hlt⟩
  rw[cell_of_row w b j cur T _ hg,<-Array.getElem?_toList,hcs]
  exact hj
def Rds (S:L2) (w:World) (es:List OE):Prop:=∀o∈es,o.kept S w
structure Fz (S:L2) (w0:World) (Sb:L2) (wb:World):Prop where
 fr:Fr S w0 wb
 sb:∀b∈Sb,fre S w0.heap.size b
def Sf (S:L2) (w0 w:World) (es os:List OE):Prop:=∃Sb wb,Fz S w0 Sb wb/\Rds Sb wb es/\St Sb wb w os
theorem Rds.nil:Rds S w []:=fun o h=>by cases h
theorem Rds.cons {o:OE} (h:o.kept S w) (hr:Rds S w es):Rds S w (o :: es):=fun p hp=>by
 rcases List.mem_cons.1 hp with rfl | hp
 ·exact h
 ·exact hr p hp
theorem Rds.app (h:Rds S w es) (h1:Rds S w es1):Rds S w (es++es1):=fun p hp=>(List.mem_append.1 hp).elim (h p) (h1 p)
theorem RB.kept {b:Nat} {cs:List Value} (h:RB S w b cs):(OE.bx b cs).kept S w:=h
theorem RP.kept {τ:Type} {e:Enc τ} {v:Value} {l:List τ} (hz:0<e.sz) (h:RP S w e v l):(red e v l).kept S w:=by
 refine⟨e.fl_length l,?_⟩
 obtain⟨a,c,rfl,hc,hr⟩:=h.1
 refine⟨a,c,rfl,hc,fun hn=>?_⟩
 have hl:l≠[]:=by rintro rfl; exact hn rfl
 obtain⟨b,off,rfl,hcell⟩:=hr hl
 have hne:0<(e.fl l).length:=by
  rw[e.fl_length]
  exact Nat.mul_pos (List.length_pos_iff.2 hl) hz
 exact⟨b,off,rfl,i7 (hcell 0 _ (List.getElem?_eq_getElem hne)),fun hb=>h.2 hl b hb rfl,hcell⟩
theorem OE.kept.rp {τ:Type} {e:Enc τ} {v:Value} {l:List τ} (h:(red e v l).kept S w):RP S w e v l:=by
 obtain⟨_,a,c,rfl,hc,hcell⟩:=h
 refine⟨⟨a,c,rfl,hc,fun hl=>?_⟩,fun hl k hk hb=>?_⟩
 ·obtain⟨b,off,h1,_,_,h2⟩:=hcell (by simpa using hl)
  exact⟨b,off,h1,h2⟩
 ·obtain⟨b,off,rfl,_,hs,_⟩:=hcell (by simpa using hl)
  have:b=k:=by simpa [Value.ownBlock] using hb
  exact hs (this ▸ hk)
def kK (es:List OE) (k:Nat):Option OE:=es[es.length - 1 - k]?
theorem Rds.rp (h:Rds S w es) (k:Nat) {τ:Type} {e:Enc τ} {v:Value} {l:List τ} (hk:kK es k=some (red e v l)):RP S w e v l:=(h _ (List.mem_of_getElem? hk)).rp
theorem Rds.rb (h:Rds S w es) (k:Nat) {b:Nat} {cs:List Value} (hk:kK es k=some (.bx b cs)):RB S w b cs:=h _ (List.mem_of_getElem? hk)
theorem Rds.pick {es':List OE} (h:Rds S w es) (ix:L2) (he:es'.map some=ix.map (fun i=>kK es i)):Rds S w es':=fun o ho=>by
 have h1:some o∈es'.map some:=List.mem_map_of_mem ho
 rw[he]at h1
 obtain⟨i,_,hi⟩:=List.mem_map.1 h1
 exact h o (List.mem_of_getElem? hi)
theorem Sf.of (hA:Rds S w0 es) (hS:St S w0 w os):Sf S w0 w es os:=⟨S,w0,⟨Fr.refl _ _,fun b hb=>.inr hb⟩,hA,hS⟩
theorem Sf.mk' (hF:Fz S w0 Sb wb) (hA:Rds Sb wb es) (hS:St Sb wb w os):Sf S w0 w es os:=⟨Sb,wb,hF,hA,hS⟩
theorem Fz.start:Fz S w0 S w0:=⟨Fr.refl _ _,fun b hb=>.inr hb⟩
theorem Fz.st (hF:Fz S w0 Sb wb) (hS:St Sb wb w os):St S w0 w os:=by
 have hfre:∀k,fre Sb wb.heap.size k->fre S w0.heap.size k:=by
  intro k hk
  rcases hk with hk | hk
  ·exact .inl (Nat.le_trans hF.fr.size hk)
  ·exact hF.sb k hk
 refine⟨hF.fr.step hS.fr hF.sb,fun o ho=>(hS.ok o ho).re fun k _ hf=>hfre k hf,hS.dj⟩
theorem Fz.frz (hF:Fz S w0 Sb wb) (hA:Rds Sb wb es) (hS:St Sb wb w (osF++osK)):∃Sb' wb',Fz S w0 Sb' wb'/\Rds Sb' wb' (osF.map OE.kp++es)/\St Sb' wb' w osK:=by
 have hst:=hF.st hS
 have hp:=List.pairwise_append.1 hS.dj
 refine⟨dO osK,w,⟨hst.fr,fun b hb=>?_⟩,Rds.app ?_ ?_,?_⟩
 ·obtain⟨o,ho,hob⟩:=cr.1 hb
  exact ((hst.ok o (List.mem_append_right _ ho)).lt hob).2
 ·intro p hp'
  obtain⟨o,ho,rfl⟩:=List.mem_map.1 hp'
  refine (hS.ok o (List.mem_append_left _ ho)).kept fun k hk hx=>?_
  obtain⟨q,hq,hqb⟩:=cr.1 hx
  exact hp.2.2 o ho q hq k hk hqb
 ·intro o ho
  refine (hA o ho).to hS.fr fun k hk hs hx=>?_
  obtain⟨q,hq,hqb⟩:=cr.1 hx
  rcases ((hS.ok q (List.mem_append_right _ hq)).lt hqb).2 with h | h
  ·omega
  ·exact hs h
 ·exact⟨Fr.refl _ _,fun o ho=>(hS.ok o (List.mem_append_right _ ho)).re fun k hk _=>.inr (cr.2 ⟨o,ho,hk⟩),hp.2.1⟩
end
end Go.Gk
namespace Go.Gk
open Go Go.RowKit
theorem OE.kept.nil {S:L2} {w:World} {τ:Type} {e:Enc τ}:(red e (.slice none 0 0) ([]:List τ)).kept S w:=⟨by simp,none,0,rfl,Nat.le_refl _,fun h=>absurd rfl h⟩
theorem Rds.nth {S:L2} {w:World} {es:List OE} (h:Rds S w es) (k:Nat) {o:OE} (hk:kK es k=some o):o.kept S w:=h _ (List.mem_of_getElem? hk)
def lC {α:Type} (x:Option α) (p:Prop) (q:α->Prop):Prop:=match x with
 | none=>p
 | some c=>q c
theorem sU {α:Type} {p:Prop} {q:α->Prop} (h:p):lC none p q:=h
theorem pb {α:Type} {c:α} {p:Prop} {q:α->Prop} (h:q c):lC (some c) p q:=h
theorem ir {α:Type} {p:Prop} {q:α->Prop} (h:lC none p q):p:=h
theorem il {α:Type} {c:α} {p:Prop} {q:α->Prop} (h:lC (some c) p q):q c:=h
end Go.Gk
namespace Go.Gk
open Go Go.RowKit
def OE.ns:OE->Bool
 | .sl ..=>false
 | _=>true
def Off (T:L2) (es:List OE):Prop:=∀o∈es,∀b,o.blk=some b->b ∉ T
def TOk (S T:L2) (w0:World):Prop:=∀b∈T,b<w0.heap.size/\b ∉ S
def SfT (S T:L2) (w0 w:World) (es os:List OE):Prop:=∃Sb wb,Fz S w0 Sb wb/\Rds Sb wb es/\Off T es/\St Sb wb w os
section
variable {S T Sb:L2} {w0 wb w w':World} {es es1 os os0 osF osK:List OE}
theorem TOk.nil:TOk S [] w0:=fun b h=>by cases h
theorem Off.nil:Off T []:=fun o h=>by cases h
theorem Off.emp:Off [] es:=fun o _ b _ h=>by cases h
theorem Off.cons {o:OE} (h:∀b,o.blk=some b->b ∉ T) (hr:Off T es):Off T (o :: es):=fun p hp=>by
 rcases List.mem_cons.1 hp with rfl | hp
 ·exact h
 ·exact hr p hp
theorem Off.app (h:Off T es) (h1:Off T es1):Off T (es++es1):=fun p hp=>(List.mem_append.1 hp).elim (h p) (h1 p)
theorem OE.kept.off {o:OE} (h:o.kept T w) (hn:o.ns=true):∀b,o.blk=some b->b ∉ T:=fun b hb=>(h.blk (fun v sz n cs e=>by rw[e]at hn; cases hn) hb).2
theorem OE.kept.all {o:OE} (h:o.kept T w):o.kept [] w:=h.to (Fr.refl _ _) fun _ _ _=>by simp
theorem OE.kept.more {o:OE} (h:o.kept Sb w) (hn:∀b,o.blk=some b->b ∉ T):o.kept (T++Sb) w:=by
 cases o with
 | sl v sz n cs=>trivial
 | bx b cs=>
  obtain⟨h1,h2,h3⟩:=h
  exact⟨h1,fun hb=>(List.mem_append.1 hb).elim (hn b rfl) h2,h3⟩
 | rd v sz n cs=>
  obtain⟨hl,a,c,rfl,hc,hx⟩:=h
  refine⟨hl,a,c,rfl,hc,fun hne=>?_⟩
  obtain⟨b,off,rfl,hb,hs,hcell⟩:=hx hne
  exact⟨b,off,rfl,hb,fun hbb=>(List.mem_append.1 hbb).elim (hn b (by simp[OE.blk,hne,Value.ownBlock])) hs,hcell⟩
theorem Rds.off (h:Rds T w es) (hn:es.all OE.ns=true):Off T es:=fun o ho=>(h o ho).off (List.all_eq_true.1 hn o ho)
theorem Rds.all (h:Rds T w es):Rds [] w es:=fun o ho=>(h o ho).all
theorem Rds.rpT (h:Rds Sb w es) (hP:Off T es) (k:Nat) {τ:Type} {e:Enc τ} {v:Value} {l:List τ} (hk:kK es k=some (red e v l)):RP (T++Sb) w e v l:=
 ((h _ (List.mem_of_getElem? hk)).more (hP _ (List.mem_of_getElem? hk))).rp
theorem Rds.rbT (h:Rds Sb w es) (hP:Off T es) (k:Nat) {b:Nat} {cs:List Value} (hk:kK es k=some (.bx b cs)):RB (T++Sb) w b cs:=
 (h _ (List.mem_of_getElem? hk)).more (hP _ (List.mem_of_getElem? hk))
theorem OE.blk_kp (o:OE):∀b,o.kp.blk=some b->o.blk=some b:=fun b h=>by
 cases o with
 | sl v sz n cs=>
  simp only[OE.kp,OE.blk]at h ⊢
  split at h
  ·cases h
  ·exact h
 | bx b cs=>exact h
 | rd v sz n cs=>exact h
theorem Fz.offF (hF:Fz S w0 Sb wb) (hT:TOk S T w0) (hP:Off T es) (hS:St Sb wb w (osF++osK)):Off T (osF.map OE.kp++es):=by
 refine Off.app (fun o ho b hb hbT=>?_) hP
 obtain⟨q,hq,rfl⟩:=List.mem_map.1 ho
 have h1:=(((hF.st hS).ok q (List.mem_append_left _ hq)).lt (OE.blk_kp q b hb)).2
 obtain⟨h2,h3⟩:=hT b hbT
 rcases h1 with h1 | h1
 ·omega
 ·exact h3 h1
theorem Fz.frzK (hF:Fz S w0 Sb wb) (hT:TOk S T w0) (hA:Rds Sb wb es) (hP:Off T es) (hS:St Sb wb w (osF++osK)) :
  Fz S w0 (dO osK) w/\Rds (dO osK) w (osF.map OE.kp++es)/\Off T (osF.map OE.kp++es)/\St (dO osK) w w osK:=by
 have hst:=hF.st hS
 have hp:=List.pairwise_append.1 hS.dj
 refine⟨⟨hst.fr,fun b hb=>?_⟩,Rds.app ?_ ?_,hF.offF hT hP hS,?_⟩
 ·obtain⟨o,ho,hob⟩:=cr.1 hb
  exact ((hst.ok o (List.mem_append_right _ ho)).lt hob).2
 ·intro p hp'
  obtain⟨o,ho,rfl⟩:=List.mem_map.1 hp'
  refine (hS.ok o (List.mem_append_left _ ho)).kept fun k hk hx=>?_
  obtain⟨q,hq,hqb⟩:=cr.1 hx
  exact hp.2.2 o ho q hq k hk hqb
 ·intro o ho
  refine (hA o ho).to hS.fr fun k hk hs hx=>?_
  obtain⟨q,hq,hqb⟩:=cr.1 hx
  rcases ((hS.ok q (List.mem_append_right _ hq)).lt hqb).2 with h | h
  ·omega
  ·exact hs h
 ·exact⟨Fr.refl _ _,fun o ho=>(hS.ok o (List.mem_append_right _ ho)).re fun k hk _=>.inr (cr.2 ⟨o,ho,hk⟩),hp.2.1⟩
theorem Fz.frzT (hF:Fz S w0 Sb wb) (hT:TOk S T w0) (hA:Rds Sb wb es) (hP:Off T es) (hS:St Sb wb w (osF++osK)) :
  ∃Sb' wb',Fz S w0 Sb' wb'/\Rds Sb' wb' (osF.map OE.kp++es)/\Off T (osF.map OE.kp++es)/\St Sb' wb' w osK:=by
 obtain⟨h1,h2,h3,h4⟩:=hF.frzK hT hA hP hS
 exact⟨_,_,h1,h2,h3,h4⟩
theorem Fz.okT (hF:Fz S w0 (dO osK) w) (hT:TOk S T w0) (hS:St (dO osK) w w osK):TOk [] (T++dO osK) w:=fun b hb=>by
 refine⟨?_,by simp⟩
 rcases List.mem_append.1 hb with hb | hb
 ·exact Nat.lt_of_lt_of_le (hT b hb).1 hF.fr.size
 ·obtain⟨o,ho,hob⟩:=cr.1 hb
  exact ((hS.ok o ho).lt hob).1
theorem Fz.callK (hF:Fz S w0 (dO osK) w) (hA:Rds (dO osK) w es) (hP:Off T es) (hS:St (dO osK) w w osK) (hC:St [] w w' []) (hR:Rds (T++dO osK) w' es1) (hn:es1.all OE.ns=true) :
  ∃Sb' wb',Fz S w0 Sb' wb'/\Rds Sb' wb' (es1++es)/\Off T (es1++es)/\St Sb' wb' w' osK:=by
 have h4:St (dO osK) w w' osK:=by have:=hS.call hC; rwa [List.nil_append]at this
 have hb:∀b∈dO osK,b<w.heap.size:=fun b hb=>by
  obtain⟨o,ho,hob⟩:=cr.1 hb
  exact ((hS.ok o ho).lt hob).1
 refine⟨dO osK,w',⟨(hF.st h4).fr,hF.sb⟩,Rds.app (fun o ho=>(hR o ho).to (Fr.refl _ _) fun k _ hk hx=>hk (List.mem_append_right _ hx)) (fun o ho=>(hA o ho).fr h4.fr),?_,?_⟩
 ·refine Off.app (fun o ho b hb hx=>?_) hP
  exact (hR o ho).off (List.all_eq_true.1 hn o ho) b hb (List.mem_append_left _ hx)
 ·exact⟨Fr.refl _ _,fun o ho=>(h4.ok o ho).re fun k hk _=>.inr (cr.2 ⟨o,ho,hk⟩),h4.dj⟩
theorem Fz.outT (hF:Fz [] w0 Sb wb) (hT:TOk [] T w0) (hA:Rds Sb wb es) (hP:Off T es) (hS:St Sb wb w os):St [] w0 w []/\Rds T w (os.map OE.kp++es):=by
 obtain⟨h1,h2,h3,h4⟩:=Fz.frzK (osK:=[]) hF hT hA hP (by rw[List.append_nil]; exact hS)
 refine⟨h1.st h4,fun o ho=>?_⟩
 have:=(h2 o ho).more (h3 o ho)
 exact this.to (Fr.refl _ _) fun k _ hk hx=>hk (List.mem_append_left _ hx)
theorem SfT.mk' (hF:Fz S w0 Sb wb) (hA:Rds Sb wb es) (hP:Off T es) (hS:St Sb wb w os):SfT S T w0 w es os:=⟨Sb,wb,hF,hA,hP,hS⟩
theorem Off.pick {es':List OE} (h:Off T es) (ix:L2) (he:es'.map some=ix.map (fun i=>kK es i)):Off T es':=fun o ho=>by
 have h1:some o∈es'.map some:=List.mem_map_of_mem ho
 rw[he]at h1
 obtain⟨i,_,hi⟩:=List.mem_map.1 h1
 exact h o (List.mem_of_getElem? hi)
theorem Off.nth (h:Off T es) (k:Nat) {o:OE} (hk:kK es k=some o):∀b,o.blk=some b->b ∉ T:=h _ (List.mem_of_getElem? hk)
theorem Off.nilrd {τ:Type} {e:Enc τ}:∀b,(red e (.slice none 0 0) ([]:List τ)).blk=some b->b ∉ T:=fun b h=>by simp[red,OE.blk]at h
end
end Go.Gk
namespace Go.Gk
open Go Go.RowKit
section
variable {P:Program} {n:Nat} {L:Env} {w:World}
theorem xG {fn:Func} {r1 r2 r3:ResultVar} {v1 v2 v3:Value} {φ:Value->World->Prop} (hres:fn.results=#[r1,r2,r3]) (h1:RV P L w r1 v1) (h2:RV P L w r2 v2) (h3:RV P L w r3 v3) (h:φ (.tuple #[v1,v2,v3]) w):QE n (bodyPost P fn (Ret φ)) .ret L w:=fun a ha=>by
 refine⟨ha.defers,.tuple #[v1,v2,v3],?_,h⟩
 cases r1 <;> cases r2 <;> cases r3
 ·have g1:=ha.get _ _ h1
  have g2:=ha.get _ _ h2
  have g3:=ha.get _ _ h3
  simp[results,hres,g1,g2,g3]
 ·have g1:=ha.get _ _ h1
  have g2:=ha.get _ _ h2
  obtain⟨b3,g3,k3⟩:=h3
  have g3:=ha.get _ _ g3
  simp[results,hres,g1,g2,g3,k3,ek]
 ·have g1:=ha.get _ _ h1
  obtain⟨b2,g2,k2⟩:=h2
  have g2:=ha.get _ _ g2
  have g3:=ha.get _ _ h3
  simp[results,hres,g1,g2,k2,g3,ek]
 ·have g1:=ha.get _ _ h1
  obtain⟨b2,g2,k2⟩:=h2
  have g2:=ha.get _ _ g2
  obtain⟨b3,g3,k3⟩:=h3
  have g3:=ha.get _ _ g3
  simp[results,hres,g1,g2,k2,g3,k3,ek]
 ·obtain⟨b1,g1,k1⟩:=h1
  have g1:=ha.get _ _ g1
  have g2:=ha.get _ _ h2
  have g3:=ha.get _ _ h3
  simp[results,hres,g1,k1,g2,g3,ek]
 ·obtain⟨b1,g1,k1⟩:=h1
  have g1:=ha.get _ _ g1
  have g2:=ha.get _ _ h2
  obtain⟨b3,g3,k3⟩:=h3
  have g3:=ha.get _ _ g3
  simp[results,hres,g1,k1,g2,g3,k3,ek]
 ·obtain⟨b1,g1,k1⟩:=h1
  have g1:=ha.get _ _ g1
  obtain⟨b2,g2,k2⟩:=h2
  have g2:=ha.get _ _ g2
  have g3:=ha.get _ _ h3
  simp[results,hres,g1,k1,g2,k2,g3,ek]
 ·obtain⟨b1,g1,k1⟩:=h1
  have g1:=ha.get _ _ g1
  obtain⟨b2,g2,k2⟩:=h2
  have g2:=ha.get _ _ g2
  obtain⟨b3,g3,k3⟩:=h3
  have g3:=ha.get _ _ g3
  simp[results,hres,g1,k1,g2,k2,g3,k3,ek]
end
end Go.Gk
end

section
namespace Go.Gk
open Go Go.RowKit
section
variable {P:Program} {n:Nat} {L:Env} {w w' w0:World} {S:L2} {os:List OE}
variable {d:Option Tmp} {ty:TypeId} {pos:String} {after:Array Edge}
theorem so {T E ty:TypeId} {τ:Type} {e:Enc τ} {z:Value} {bytes:Nat} {v:Value} {l:List τ} {h:τ} {B:Nat} (F:P.underlying T=some (.slice E)) (Y:TI P E z e.sz bytes) (t:e.sz=1) (Z:e.cells h=[z]) (hz:z.cells=#[z])
  (G:(own e v l).ok S B w):∃w',(Builtin.clear_ #[T] ty #[v]).run P w=.ok (.tuple #[]) w'/\(own e v (List.replicate l.length h)).ok S B w'/\Fr (own e v l).blk.toList w w':=by
 obtain⟨a0,J,K,hs,_⟩:=Y.get
 by_cases hl0:l.length=0
 ·have hl:l=[]:=List.eq_nil_of_length_eq_zero hl0
  subst hl
  refine⟨w,?_,G,Fr.refl _ _⟩
  rcases G.2 with⟨rfl,M⟩ | ⟨g,x,k,I,rfl,_⟩
  ·simp[Builtin.clear_,run_underlying F]
  ·simp[Builtin.clear_,run_underlying F]
 rcases G.2 with⟨rfl,M⟩ | ⟨g,x,k,I,rfl,N,O,R,U,V,X⟩
 ·exact absurd M hl0
 ·have y:e.fl (List.replicate l.length h)=List.replicate l.length z:=by
   rw[Enc.fl,List.flatMap_replicate,Z]
   generalize l.length=m
   induction m with
   | zero=>rfl
   | succ m ih=>simp_all [List.replicate_succ]
  have A:(Builtin.zeroCells z.cells l.length).toList=List.replicate l.length z:=by
   rw[hz]
   simp[Builtin.zeroCells]
   apply List.ext_getElem
   ·simp
   ·intro i h1 h2
    simp[Nat.mod_one]
  have j:(e.fl (List.replicate l.length h)).length=l.length:=by rw[y]; simp
  have ad:l.length<=k.size:=by rw[t]at V; omega
  have f:=eL P g 0 I (e.fl (List.replicate l.length h)) 0 k w O (by rw[j]; omega) (e.fl_one _)
  simp only[Nat.add_zero,List.take_zero,List.nil_append,Nat.zero_add]at f
  obtain⟨q,o⟩:∃q,q=(e.fl (List.replicate l.length h)++k.toList.drop (e.fl (List.replicate l.length h)).length).toArray:=⟨_,rfl⟩
  rw[<-o]at f
  rw[y]at f
  refine⟨w.setRow g q,?_,⟨e.fl_length _,.inr ⟨g,x,q,I,by rw[List.length_replicate],N,O.set _ ?_,?_,U,?_,?_⟩⟩,Fr.setRow w g _⟩
  ·obtain⟨m,hm⟩:∃m,l.length=m+1:=⟨l.length - 1,by omega⟩
   rw[hm]at f A ⊢
   simp[Builtin.clear_,run_underlying F,zeroValue,typeInfo,J,K,A,f]
  ·rw[o]
   simp only[List.size_toArray,List.length_append,List.length_drop,Array.length_toList]
   omega
  ·rw[List.length_replicate]; exact R
  ·rw[o]
   simp only[List.size_toArray,List.length_append,List.length_drop,Array.length_toList]
   omega
  ·rw[o,List.length_replicate,List.toList_toArray,t,Nat.mul_one,List.take_append_of_le_length (by rw[j]; exact Nat.le_refl _),List.take_of_length_le (by rw[j]; exact Nat.le_refl _)]
theorem AJ {x:Operand} {T E:TypeId} {τ:Type} {e:Enc τ} {z:Value} {bytes:Nat} {v:Value} {l:List τ} {i:Nat} (g:τ) (m:P.underlying T=some (.slice E)) (o:TI P E z e.sz bytes) (h:e.sz=1) (q:e.cells g=[z]) (t:z.cells=#[z])
  (y:L.ev x=some v) (j:St S w0 w os) (f:os[i]? = some (own e v l)) :
  OpX P n L w ⟨d,.call ⟨.builtin .clear,#[x],#[T]⟩,ty,pos,after,none⟩ (fun r w'=>r=.tuple #[]/\St S w0 w' (os.set i (own e v (List.replicate l.length g)))):=by
 obtain⟨w',A,B,F⟩:=so (ty:=ty) m o h q t (j.ok _ (List.mem_of_getElem? f))
 refine fx _ w' (fun a G=>?_) ⟨rfl,j.set f F B fun k I=>.inl I⟩
 simp[execOp,resolve,invoke,builtin,G.ev y,A]
theorem CI {Q:Exit->Act->World->Prop} {ops:Array Oper} {rest:List Oper} {f:Op} {Φ:Value->World->Prop} (i:OpX P n L w ⟨none,f,ty,pos,after,none⟩ Φ)
  (h:∀v w',Φ v w'->wpR P n ops Q rest L w'):wpR P n ops Q (⟨none,f,ty,pos,after,none⟩ :: rest) L w:=fun a g=>by
 obtain⟨v,w',j,k⟩:=i
 unfold wpList
 rw[if_pos (by simp[Region.wanted])]
 refine .inl ?_
 unfold Oper.wp
 rw[j a g]
 exact h v w' k _ g
end
end Go.Gk
end

section
namespace Go.Gk
open Go Go.RowKit
section
variable {P:Program} {ops:Array Oper} {Q:Exit->Act->World->Prop} {nw:Nat->Bool} {cs:Nat->Option Nat} {S:L2} {w0:World} {os:List OE} {ent:Nat->Value->OE}
def en (nw:Nat->Bool) (cs:Nat->Option Nat) (listed:Array Bool) (k:Nat):Bool:=nw k&&listed.getD k false&&(match cs k with | none=>true | some c=>!listed.getD c false)
theorem jF {p q:Nat->Bool} (l:L2):(l.filter p).Perm (l.filter (fun k=>p k&&q k)++l.filter (fun k=>p k&&!q k)):=by
 have:=(List.filter_append_perm q (l.filter p)).symm
 rw[List.filter_filter,List.filter_filter]at this
 refine this.trans ?_
 have f:(fun a=>q a&&p a)=(fun k=>p k&&q k):=by funext k; exact Bool.and_comm _ _
 have g:(fun a=>(!q a)&&p a)=(fun k=>p k&&!q k):=by funext k; exact Bool.and_comm _ _
 rw[f,g]
theorem tg {n j:Nat} (h:j<n) {p:Nat->Bool} (f:p j=true):(List.range n).filter (fun k=>p k&&k == j)=[j]:=by
 have g:(List.range n).filter (fun k=>p k&&k == j)=(List.range n).filter (fun k=>k == j):=by
  refine List.filter_congr fun k _=>?_
  by_cases hk:k=j
  ·subst hk; simp[f]
  ·simp[hk]
 rw[g]
 have i:=List.filter_beq (l:=List.range n) j
 rw[i,List.nodup_range.count,if_pos (List.mem_range.2 h)]; rfl
variable {n:Nat} {L:Env}
theorem tL (g:∀j i,ops[j]? = some i->∀e∈i.after,Region.binds .any e=true->e.on<j):∀(f j k:Nat),dA ops f j k=true->k<j
 | 0,_,_,h=>by simp[dA]at h
 | f+1,j,k,h=>by
  simp only[dA]at h
  cases hj:ops[j]? with
  | none=>simp[hj]at h
  | some i=>
   simp only[hj,List.any_eq_true,Bool.and_eq_true,Bool.or_eq_true]at h
   obtain⟨e,m,o,h | h⟩:=h
   ·have:=g j i hj e (by simpa using m) o
    have:=Nat.eq_of_beq_eq_true h; omega
   ·have:=g j i hj e (by simpa using m) o
    have:=tL g f e.on k h; omega
end
end Go.Gk
end

section
namespace Go.Gk
open Go Go.RowKit
abbrev Th:=Value×List OE×List OE
abbrev Gt:=Nat->Th
def fG (g:Gt) (i:Nat) (v:Th):Gt:=fun k=>if k=i then v else g k
theorem xx {g:Gt} {i j:Nat} {u v:Th} (h:i≠j):fG (fG g i u) j v=fG (fG g j v) i u:=by
 funext k
 unfold fG
 by_cases h1:k=i <;> by_cases h2:k=j <;> simp_all
theorem jI {α β:Type} {f g:α->List β}:∀{l:List α},(∀k∈l,f k=g k)->l.flatMap f=l.flatMap g
 | [],_=>rfl
 | k :: l,h=>by rw[List.flatMap_cons,List.flatMap_cons,h k (List.mem_cons_self ..),jI fun x i=>h x (List.mem_cons_of_mem _ i)]
theorem nF (g:Gt) (i:Nat) (v:Th):fG g i v i=v:=if_pos rfl
theorem jL {g:Gt} {i k:Nat} {v:Th} (h:k≠i):fG g i v k=g k:=if_neg h
section
variable {S T Sl Tl:L2} {w0 w w':World} {es es1 os os1 rest lent:List OE}
theorem Rds.sub (h:Rds S w es) (f:∀o∈es1,o∈es):Rds S w es1:=fun o g=>h o (f o g)
theorem Off.sub (h:Off T es) (f:∀o∈es1,o∈es):Off T es1:=fun o g=>h o (f o g)
theorem OE.kept.to' {o:OE} {t:L2} (h:o.kept S w) (f:Fr S w w') (x:∀k,k<w.heap.size->o.blk=some k->k ∉ S->k ∉ t):o.kept t w':=by
 cases o with
 | sl v sz n cs=>trivial
 | bx b cs=>
  obtain⟨B,y,i⟩:=h
  refine⟨fun j u m=>?_,x _ i rfl y,Nat.lt_of_lt_of_le i f.size⟩
  rw[f.cell i y]
  exact B j u m
 | rd v sz n cs=>
  obtain⟨F,a,c,rfl,hc,G⟩:=h
  refine⟨F,a,c,rfl,hc,fun z=>?_⟩
  obtain⟨b,off,rfl,q,A,g⟩:=G z
  refine⟨b,off,rfl,Nat.lt_of_lt_of_le q f.size,x _ q (by simp[OE.blk,z,Value.ownBlock]) A,fun j u m=>?_⟩
  rw[f.cell q A]
  exact g j u m
theorem SfT.tail (h:SfT S T w0 w (es1++es) (os1++os)):SfT S T w0 w es os:=by
 obtain⟨Sb,wb,g,i,j,k⟩:=h
 exact⟨Sb,wb,g,i.sub (fun o f=>List.mem_append_right _ f),j.sub (fun o f=>List.mem_append_right _ f),k.tail⟩
theorem SfT.tail' (h:SfT S T w0 w es (os1++os)):SfT S T w0 w es os:=by
 obtain⟨Sb,wb,f,g,i,j⟩:=h
 exact⟨Sb,wb,f,g,i,j.tail⟩
theorem SfT.perm (h:SfT S T w0 w es os) (f:∀o∈es1,o∈es) (g:os.Perm os1):SfT S T w0 w es1 os1:=by
 obtain⟨Sb,wb,i,j,k,m⟩:=h
 exact⟨Sb,wb,i,j.sub f,k.sub f,m.perm g⟩
theorem yO {Sb:L2} {wb:World} {o:OE} (g:o.kept Sb wb) (f:o.ns=true) {b:Nat} (h:o.blk=some b):b<wb.heap.size/\b ∉ Sb:=
 g.blk (fun v i n cs e=>by rw[e]at f; cases f) h
theorem SfT.lend (h:SfT S T w0 w es (lent++rest)) (G:TOk S T w0) (I:∀o∈es,o.ns=true) :
  TOk (dO lent) (T++dO rest) w/\Rds (dO lent) w es/\Off (T++dO rest) es/\St (dO lent) w w lent:=by
 obtain⟨Sb,wb,J,B,K,t⟩:=h
 have y:=J.st t
 have F:=(List.pairwise_append.1 t.dj).2.2
 refine⟨fun b i=>?_,fun o g=>(B o g).to t.fr fun k O M f=>?_,fun o g b i f=>?_,t.give⟩
 ·rcases List.mem_append.1 i with i | i
  ·obtain⟨N,x⟩:=G b i
   refine⟨Nat.lt_of_lt_of_le N y.fr.size,fun f=>?_⟩
   obtain⟨o,g,m⟩:=cr.1 f
   rcases ((y.ok o (List.mem_append_left _ g)).lt m).2 with A | A
   ·omega
   ·exact x A
  ·obtain⟨o,g,m⟩:=cr.1 i
   refine⟨((y.ok o (List.mem_append_right _ g)).lt m).1,fun f=>?_⟩
   obtain⟨q,z,j⟩:=cr.1 f
   exact F q z o g b j m
 ·obtain⟨q,z,j⟩:=cr.1 f
  rcases ((t.ok q (List.mem_append_left _ z)).lt j).2 with h | h
  ·omega
  ·exact M h
 ·rcases List.mem_append.1 f with f | f
  ·exact K o g b i f
  ·obtain⟨q,z,j⟩:=cr.1 f
   have x:=((t.ok q (List.mem_append_right _ z)).lt j).2
   have A:=yO (B o g) (I o g) i
   rcases x with x | x
   ·omega
   ·exact A.2 x
theorem SfT.unlend (h:SfT S T w0 w es (lent++rest)) (V:∀o∈es,o.ns=true) (U:∀o∈es1,o.ns=true)
  (K:SfT (dO lent) (T++dO rest) w w' es1 os1):SfT S T w0 w' (es1++es) (os1++rest):=by
 obtain⟨Sb,wb,M,N,O,R⟩:=h
 obtain⟨X,Y,F,G,z,m⟩:=K
 have I:=F.st m
 have g:St Sb wb w' (os1++rest):=R.back I
 have t:=M.st g
 refine⟨dO (os1++rest),w',⟨t.fr,fun b J=>?_⟩,Rds.app (fun o f=>?_) (fun o f=>?_),Off.app (fun o f b g x=>z o f b g (List.mem_append_left _ x)) O,
  Fr.refl _ _,fun o f=>(g.ok o f).re fun k A _=>.inr (cr.2 ⟨o,f,A⟩),g.dj⟩
 ·obtain⟨o,f,y⟩:=cr.1 J
  exact ((t.ok o f).lt y).2
 ·refine (G o f).to' m.fr fun k A y B x=>?_
  obtain⟨q,i,j⟩:=cr.1 x
  rcases List.mem_append.1 i with i | i
  ·rcases ((m.ok q i).lt j).2 with h | h
   ·omega
   ·exact B h
  ·exact z o f k y (List.mem_append_right _ (cr.2 ⟨q,i,j⟩))
 ·refine (N o f).to g.fr fun k A B x=>?_
  obtain⟨q,i,j⟩:=cr.1 x
  rcases ((g.ok q i).lt j).2 with h | h
  ·omega
  ·exact B h
end
section
variable {P:Program} {ops:Array Oper} {Q:Exit->Act->World->Prop} {nw:Nat->Bool} {cs:Nat->Option Nat} {ks:Nat->L2} {xs:Nat->List OE} {bs:Nat->L2} {S T:L2} {w0:World} {es os:List OE} {ent:Nat->List Th->Value->List OE->List OE->Prop} {ds:Nat->L2}
def coM (n:Nat) (cs:Nat->Option Nat) (g:Gt) (j:Nat):List OE:=((List.range n).filter (fun k=>cs k == some j)).flatMap (fun k=>(g k).2.1)
def ckM (ks:Nat->L2) (g:Gt) (j:Nat):List OE:=(ks j).flatMap (fun k=>(g k).2.2)
def brM (n:Nat) (bs:Nat->L2) (xs:Nat->List OE) (j:Nat):List OE:=((List.range n).filter (fun k=>(bs j).contains k)).flatMap xs
def TrM (P:Program) (ops:Array Oper) (es os:List OE) (ent:Nat->List Th->Value->List OE->List OE->Prop) (hs:List Th) (co ck:List OE) (o:Oper) (i:Nat) (a:Act):Prop:=
 Region.wanted o (yielded ops a.tmps)=true/\∀w Sl Tl,TOk Sl Tl w->Rds Sl w (ck++es)->Off Tl (ck++es)->St Sl w w (co++os) ->
  (∃v w' x y,((execOp a.eval o).run P w=.ok (.value v) w'\/v=undef/\(execOp a.eval o).run P w=.ok .skip w')/\ent i hs v x y/\SfT Sl Tl w w' y (x++os)) \/
  ∃f args,(execOp a.eval o).run P w=.ok (.enter f args) w/\Calls P f args w (Ret fun v w'=>∃x y,ent i hs v x y/\SfT Sl Tl w w' y (x++os))
theorem TrM.of_same {g:List Th} {h ck:List OE} {o:Oper} {i:Nat} {a f:Act} (j:TrM P ops es os ent g h ck o i a) (k:execOp f.eval o=execOp a.eval o)
  (m:Region.wanted o (yielded ops f.tmps)=Region.wanted o (yielded ops a.tmps)):TrM P ops es os ent g h ck o i f:=by
 unfold TrM at *
 rw[k,m]
 exact j
def lxM (P:Program) (ops:Array Oper) (Q:Exit->Act->World->Prop) (nw:Nat->Bool) (cs:Nat->Option Nat) (ks:Nat->L2) (xs:Nat->List OE) (bs ds:Nat->L2) (S T:L2) (w0:World) (es os:List OE) (ent:Nat->List Th->Value->List OE->List OE->Prop):L2->Gt->Act->Prop
 | [],g,a=>∀w,SfT S T w0 w (((List.range ops.size).filter nw).flatMap (fun k=>(g k).2.2)++es) (((List.range ops.size).filter (fun k=>nw k&&cs k == none)).flatMap (fun k=>(g k).2.1)++os)->Q .normal a w
 | i :: r,g,a=>match ops[i]? with
  | none=>lxM P ops Q nw cs ks xs bs ds S T w0 es os ent r g a
  | some o=>if nw i then TrM P ops es (brM ops.size bs xs i++os) ent ((ds i).map g) (coM ops.size cs g i++xs i) (ckM ks g i) o i a/\(∃v x y,ent i ((ds i).map g) v x y)/\∀v x y,ent i ((ds i).map g) v x y->lxM P ops Q nw cs ks xs bs ds S T w0 es os ent r (fG g i (v,x,y)) (a.put o.dst v)
   else ∃v,Ins P ops (fun w=>SfT S T w0 w es os) o v a/\lxM P ops Q nw cs ks xs bs ds S T w0 es os ent r g (a.put o.dst v)
theorem vE {n i j:Nat} {g:Gt} {v:Th} (h:cs i≠some j):coM n cs (fG g i v) j=coM n cs g j:=by
 unfold coM
 refine jI fun k m=>?_
 have o:cs k=some j:=by simpa using (List.mem_filter.1 m).2
 have f:k≠i:=fun e=>h (by rw[<-e]; exact o)
 rw[jL f]
theorem vC {i j:Nat} {g:Gt} {v:Th} (h:i ∉ ks j):ckM ks (fG g i v) j=ckM ks g j:=by
 unfold ckM
 refine jI fun k m=>?_
 have f:k≠i:=fun e=>h (by rw[<-e]; exact m)
 rw[jL f]
theorem lE {i j:Nat} {g:Gt} {v:Th} (h:i ∉ ds j):(ds j).map (fG g i v)=(ds j).map g:=by
 refine List.map_congr_left fun k m=>?_
 have f:k≠i:=fun e=>h (by rw[<-e]; exact m)
 rw[jL f]
theorem yR (Y:mi ops) (X:∃w,SfT S T w0 w es os) {i j:Nat} {r:L2} {g:Gt} {a:Act}
  (Z:∀k f,ops[i]? = some k->ops[j]? = some f->k.apart ops f=true) (O:cs i≠some j/\cs j≠some i) (R:i ∉ ks j/\j ∉ ks i) (o:i ∉ ds j/\j ∉ ds i) (ab:i≠j)
  (h:lxM P ops Q nw cs ks xs bs ds S T w0 es os ent (i :: j :: r) g a):lxM P ops Q nw cs ks xs bs ds S T w0 es os ent (j :: i :: r) g a:=by
 cases hi:ops[i]? with
 | none=>
  simp only[lxM,hi]at h
  cases hj:ops[j]? with
  | none=>simp only[lxM,hi,hj]at h ⊢; exact h
  | some f=>simp only[lxM,hi,hj]at h ⊢; exact h
 | some k=>
  cases hj:ops[j]? with
  | none=>simp only[lxM,hi,hj]at h ⊢; exact h
  | some f=>
   obtain⟨t,M,z⟩:=Oper.apart_spec (Z k f hi hj)
   have G:=fun cs b=>Y i k cs b hi
   have I:=fun cs b=>Y j f cs b hj
   simp only[lxM,hi,hj]at h ⊢
   by_cases hni:nw i=true
   ·rw[if_pos hni]at h
    obtain⟨N,J,m⟩:=h
    by_cases hnj:nw j=true
    ·simp only[hni,hnj,if_true]at m ⊢
     obtain⟨A,x0,y0,q⟩:=J
     have h0:=(m A x0 y0 q).1
     have U:=(m A x0 y0 q).2.1
     rw[vE O.1,vC R.1,lE o.1]at h0
     rw[lE o.1]at U
     refine⟨h0.of_same (execOp_put f I a k.dst A t).symm (wanted_put f a k.dst A t).symm,U,fun v x y B=>⟨?_,?_,fun u x' y' V=>?_⟩⟩
     ·rw[vE O.2,vC R.2,lE o.2]; exact N.of_same (execOp_put k G a f.dst v z) (wanted_put k a f.dst v z)
     ·rw[lE o.2]; exact⟨A,x0,y0,q⟩
     rw[lE o.2]at V
     have:=(m u x' y' V).2.2 v x y (by rw[lE o.1]; exact B)
     rw[xx ab]at this
     rw[<-Act.put_comm a u v M]; exact this
    ·simp only[hni,hnj,if_true,if_false]at m ⊢
     have get:∀u x y,ent i ((ds i).map g) u x y->∃v,Ins P ops (fun w=>SfT S T w0 w es os) f v a/\lxM P ops Q nw cs ks xs bs ds S T w0 es os ent r (fG g i (u,x,y)) ((a.put k.dst u).put f.dst v):=fun u x y B=>by
      obtain⟨v,F,K⟩:=m u x y B
      exact⟨v,F.of_same (execOp_put f I a k.dst u t).symm (wanted_put f a k.dst u t).symm,K⟩
     obtain⟨A,x0,y0,q⟩:=J
     obtain⟨v,F,_⟩:=get A x0 y0 q
     refine⟨v,F,?_⟩
     refine⟨N.of_same (execOp_put k G a f.dst v z) (wanted_put k a f.dst v z),⟨A,x0,y0,q⟩,fun u x y B=>?_⟩
     obtain⟨v',ap,K⟩:=get u x y B
     obtain⟨w,hw⟩:=X
     have:v'=v:=Ins.unique (w:=w) hw ap F
     subst this
     rw[<-Act.put_comm a u v' M]; exact K
   ·rw[if_neg hni]at h
    obtain⟨v,F,h⟩:=h
    by_cases hnj:nw j=true
    ·simp only[hni,hnj,if_true,if_false]at h ⊢
     obtain⟨N,J,m⟩:=h
     refine⟨N.of_same (execOp_put f I a k.dst v t).symm (wanted_put f a k.dst v t).symm,J,fun u x y B=>⟨v,F.of_same (execOp_put k G a f.dst u z) (wanted_put k a f.dst u z),?_⟩⟩
     rw[<-Act.put_comm a v u M]; exact m u x y B
    ·simp only[hni,hnj,if_false]at h ⊢
     obtain⟨u,hu,K⟩:=h
     refine⟨u,hu.of_same (execOp_put f I a k.dst v t).symm (wanted_put f a k.dst v t).symm,v,F.of_same (execOp_put k G a f.dst u z) (wanted_put k a f.dst u z),?_⟩
     rw[<-Act.put_comm a v u M]; exact K
theorem ru (z:mi ops) (o:∃w,SfT S T w0 w es os) {j:Nat}:∀(f m:L2) (g:Gt) (a:Act),(∀i∈f,i≠j/\(cs i≠some j/\cs j≠some i)/\(i ∉ ks j/\j ∉ ks i)/\(i ∉ ds j/\j ∉ ds i)/\∀q A,ops[i]? = some q->ops[j]? = some A->q.apart ops A=true) ->
   lxM P ops Q nw cs ks xs bs ds S T w0 es os ent (f++j :: m) g a->lxM P ops Q nw cs ks xs bs ds S T w0 es os ent (j :: (f++m)) g a
 | [],_,_,_,_,h=>h
 | i :: f,m,g,a,hall,h=>by
  have t:∀g a,lxM P ops Q nw cs ks xs bs ds S T w0 es os ent (f++j :: m) g a->lxM P ops Q nw cs ks xs bs ds S T w0 es os ent (j :: (f++m)) g a:=fun g a h=>
   ru z o f m g a (fun k B=>hall k (by simp[B])) h
  have F:lxM P ops Q nw cs ks xs bs ds S T w0 es os ent (i :: j :: (f++m)) g a:=by
   rw[List.cons_append]at h
   cases hi:ops[i]? with
   | none=>
    unfold lxM at h ⊢
    simp only[hi]at h ⊢
    exact t _ _ h
   | some q=>
    unfold lxM at h ⊢
    simp only[hi]at h ⊢
    by_cases hn:nw i=true
    ·rw[if_pos hn]at h ⊢
     exact⟨h.1,h.2.1,fun v x y G=>t _ _ (h.2.2 v x y G)⟩
    ·rw[if_neg hn]at h ⊢
     obtain⟨v,I,h⟩:=h
     exact⟨v,I,t _ _ h⟩
  have hi:=hall i (by simp)
  exact yR z o hi.2.2.2.2 hi.2.1 hi.2.2.1 hi.2.2.2.1 hi.1 F
theorem sJ {n:Nat} {nw:Nat->Bool} {g:Gt} {listed:Array Bool} {k:Nat} (f:k<n) (h:nw k=true) (i:listed.getD k false=true) {o:OE} (j:o∈(g k).2.2) :
  o∈((List.range n).filter (fun k=>nw k&&listed.getD k false)).flatMap (fun k=>(g k).2.2):=
 List.mem_flatMap.2 ⟨k,List.mem_filter.2 ⟨List.mem_range.2 f,by rw[h,i]; rfl⟩,j⟩
theorem z9 {α:Type} (A B C D E:List α):((A++B)++((C++D)++E)).Perm (((A++C)++E)++(B++D)):=by
 simp only[List.append_assoc]
 refine List.Perm.append_left A ?_
 refine (List.perm_append_comm_assoc B C (D++E)).trans (List.Perm.append_left C ?_)
 rw[<-List.append_assoc]
 exact List.perm_append_comm
theorem xm {α:Type} (A E B D:List α):((A++E)++(B++D)).Perm ((A++B)++(D++E)):=by
 simp only[List.append_assoc]
 refine List.Perm.append_left A ?_
 refine List.perm_append_comm.trans ?_
 rw[List.append_assoc]
theorem yI {α:Type} (A B C f g E:List α):((A++B)++((C++(f++g))++E)).Perm (((A++C)++(f++E))++(B++g)):=by
 have h:=z9 A B (C++f) g E
 simp only[List.append_assoc]at h ⊢
 exact h
theorem xg {α:Type} (A B f g E:List α):((A++(f++E))++(B++g)).Perm ((A++B)++((f++g)++E)):=by
 refine (xm A (f++E) B g).trans ?_
 rw[List.append_assoc f]
 exact (List.perm_append_comm_assoc g f E).append_left _
theorem nq (c1:∀c k,c<ops.size->k∈bs c->k<ops.size/\dA ops ops.size k c=true) (c2:∀k,nw k=false->xs k=[]) (hT:TOk S T w0) (bx:∀o∈es,o.ns=true) (c3:∀i h v x y,ent i h v x y->∀o∈y,o.ns=true) (hs:mi ops)
  (Y:∀k c,k<ops.size->cs k=some c->nw k=true/\c<ops.size/\nw c=true/\dA ops ops.size c k=true) (M:∀c oc,ops[c]? = some oc->∀k,dA ops ops.size c k=true->k<c)
  (ap:∀c k,c<ops.size->k∈ks c->k<ops.size/\nw k=true/\dA ops ops.size c k=true) (co:∀c k,c<ops.size->k∈ds c->dA ops ops.size c k=true)
  (b8:∀j oj,ops[j]? = some oj->∀e∈oj.after,Region.binds .any e=true->e.on<j)
  (b9:∀i j,i<j->j<ops.size->dA ops ops.size j i=false->∀oi oj,ops[i]? = some oi->ops[j]? = some oj->oi.apart ops oj=true) :
  ∀(m:Nat) (l:L2) (listed:Array Bool) (g:Gt) (a:Act) (w:World),l.length=m->l.Pairwise (·<·)->listed.size=ops.size->closed ops listed ->
   (∀i,i∈l↔i<ops.size/\listed.getD i true=false)->(∀k,nw k=true->listed.getD k false=true->∀o∈(g k).2.2,o.ns=true) ->
   SfT S T w0 w (((List.range ops.size).filter (fun k=>nw k&&listed.getD k false)).flatMap (fun k=>(g k).2.2)++es) (((List.range ops.size).filter (en nw cs listed)).flatMap (fun i=>(g i).2.1)++(((List.range ops.size).filter (fun k=>!listed.getD k false)).flatMap xs++os)) ->
   lxM P ops Q nw cs ks xs bs ds S T w0 es os ent l g a->wpAny P .any ops Q m listed a w
 | 0,l,listed,g,a,w,hm,_,hsz,_,hmem,hgn,hS,h=>by
  have A:l=[]:=List.eq_nil_of_length_eq_zero hm
  subst A
  have B:∀k,k<ops.size->listed.getD k false=true:=fun k t=>by
   cases A:listed.getD k false with
   | true=>rfl
   | false=>
    have ap:k<listed.size:=by omega
    have:k∈([]:L2):=(hmem k).2 ⟨t,by simp[ap]at A ⊢; exact A⟩
    cases this
  refine⟨?_,?_⟩
  ·refine List.eq_nil_iff_forall_not_mem.2 fun i hi=>?_
   obtain⟨a0,o,fd,_⟩:=mem_ready.1 hi
   have:=(hmem i).2 ⟨(Array.getElem?_eq_some_iff.1 fd).1,a0⟩
   cases this
  ·have e:(List.range ops.size).filter (en nw cs listed)=(List.range ops.size).filter (fun k=>nw k&&cs k == none):=by
    refine List.filter_congr fun k t=>?_
    have t:=List.mem_range.1 t
    unfold en
    rw[B k t,Bool.and_true]
    cases hc:cs k with
    | none=>rfl
    | some c=>
     show (nw k&&!listed.getD c false)=(nw k&&(some c == none))
     rw[B c (Y k c t hc).2.1]; rfl
   have e2:(List.range ops.size).filter (fun k=>nw k&&listed.getD k false)=(List.range ops.size).filter nw:=by
    refine List.filter_congr fun k t=>?_
    rw[B k (List.mem_range.1 t),Bool.and_true]
   have e3:(List.range ops.size).filter (fun k=>!listed.getD k false)=[]:=by
    refine List.filter_eq_nil_iff.2 fun k t=>?_
    rw[B k (List.mem_range.1 t)]; simp
   rw[e,e2,e3]at hS
   exact h w hS
 | m+1,l,listed,g,a,w,hm,hsort,hsz,hcl,hmem,hgn,hS,h=>by
  refine⟨fun eU=>?_,fun j hj=>?_⟩
  ·exfalso
   cases l with
   | nil=>simp at hm
   | cons i r=>
    obtain⟨U,a0⟩:=(hmem i).1 (by simp)
    have hi:i∈Region.ready .any ops listed:=by
     refine mem_ready.2 ⟨a0,ops[i],by simp[U],fun e F hb=>?_⟩
     have ad:=b8 i ops[i] (by simp[U]) e F hb
     cases A:listed.getD e.on false with
     | true=>rfl
     | false=>
      have bx:e.on<listed.size:=by rw[hsz]; omega
      have fm:listed.getD e.on true=false:=by simp[bx]at A ⊢; exact A
      have fn:=(hmem e.on).2 ⟨by omega,fm⟩
      rcases List.mem_cons.1 fn with h1 | h1
      ·omega
      ·have:=(List.pairwise_cons.1 hsort).1 e.on h1
       omega
    rw[eU]at hi
    cases hi
  ·obtain⟨a0,oj,Z,B⟩:=mem_ready.1 hj
   have G:j<ops.size:=(Array.getElem?_eq_some_iff.1 Z).1
   have fs:j∈l:=(hmem j).2 ⟨G,a0⟩
   obtain⟨l1,l2,rfl⟩:=List.append_of_mem fs
   have ad:∀i∈l1,i<j:=fun i hi=>(List.pairwise_append.1 hsort).2.2 i hi j (by simp)
   have c4:∀i∈l1++l2,dA ops ops.size j i=false:=fun i hi=>by
    cases hr:dA ops ops.size j i with
    | false=>rfl
    | true=>
     have N:=eo hcl ops.size j i oj Z B hr
     have h3:=(hmem i).1 (by rcases List.mem_append.1 hi with h | h <;> simp[h])
     rw[Array.getD_eq_getD_getElem?]at N
     have h4:=h3.2
     rw[Array.getD_eq_getD_getElem?]at h4
     have:i<listed.size:=by rw[hsz]; exact h3.1
     simp[this]at N h4
     rw[N]at h4; cases h4
   have fA:∀i∈l1,cs i≠some j/\cs j≠some i:=fun i hi=>by
    have U:=((hmem i).1 (by simp[hi])).1
    refine⟨fun hc=>?_,fun hc=>?_⟩
    ·have:=(Y i j U hc).2.2.2
     rw[c4 i (by simp[hi])]at this; cases this
    ·obtain⟨_,V,_,O⟩:=Y j i G hc
     have:=M i ops[i] (by simp[V]) j O
     have:=ad i hi; omega
   have fB:∀i∈l1,i ∉ ks j/\j ∉ ks i:=fun i hi=>by
    have U:=((hmem i).1 (by simp[hi])).1
    refine⟨fun hc=>?_,fun hc=>?_⟩
    ·have:=(ap j i G hc).2.2
     rw[c4 i (by simp[hi])]at this; cases this
    ·have O:=(ap i j U hc).2.2
     have:=M i ops[i] (by simp[U]) j O
     have:=ad i hi; omega
   have fP:∀i∈l1,i ∉ ds j/\j ∉ ds i:=fun i hi=>by
    have U:=((hmem i).1 (by simp[hi])).1
    refine⟨fun hc=>?_,fun hc=>?_⟩
    ·have:=co j i G hc
     rw[c4 i (by simp[hi])]at this; cases this
    ·have O:=co i j U hc
     have:=M i ops[i] (by simp[U]) j O
     have:=ad i hi; omega
   have h1:=ru hs ⟨w,hS.tail.tail' ⟩ l1 l2 g a (fun i hi=>⟨Nat.ne_of_lt (ad i hi),fA i hi,fB i hi,fP i hi,fun oi f0 f1 e0=>by
    refine b9 i j (ad i hi) G ?_ oi f0 f1 e0
    cases hr:dA ops ops.size j i with
    | false=>rfl
    | true=>
     have N:=eo hcl ops.size j i oj Z B hr
     have h3:=((hmem i).1 (by simp[hi])).2
     rw[Array.getD_eq_getD_getElem?]at N h3
     have:i<listed.size:=by rw[hsz]; exact Nat.lt_trans (ad i hi) G
     simp[this]at N h3
     rw[N]at h3; cases h3⟩) h
   have b4:(l1++l2).Pairwise (·<·):=by
    refine hsort.sublist ?_
    exact List.Sublist.append_left (List.sublist_cons_self j l2) l1
   have c5:(l1++l2).length=m:=by simp at hm ⊢; omega
   have dd:closed ops (listed.setIfInBounds j true):=by
    intro k ok t A e F hb
    by_cases hkj:j=k
    ·subst hkj
     have:ok=oj:=Option.some.inj (t.symm.trans Z)
     subst this
     exact getD_set_true (B e F hb)
    ·rw[getD_set_ne false hkj]at A
     exact getD_set_true (hcl k ok t A e F hb)
   have f2:j ∉ l1++l2:=by
    intro I
    rcases List.mem_append.1 I with I | I
    ·exact absurd (ad j I) (Nat.lt_irrefl _)
    ·have:=(List.pairwise_append.1 hsort).2.1
     have:=(List.pairwise_cons.1 this).1 j I
     exact absurd this (Nat.lt_irrefl _)
   have ct:∀i,i∈l1++l2↔i<ops.size/\(listed.setIfInBounds j true).getD i true=false:=by
    intro i
    by_cases hij:j=i
    ·subst hij
     constructor
     ·intro I; exact absurd I f2
     ·intro I
      have:=jz (listed:=listed) (i:=j) (by rw[hsz]; exact G) true
      rw[this]at I; cases I.2
    ·rw[getD_set_ne true hij,<-hmem i]
     simp only[List.mem_append,List.mem_cons]
     constructor
     ·rintro (I | I)
      ·exact .inl I
      ·exact .inr (.inr I)
     ·rintro (I | I | I)
      ·exact .inl I
      ·exact absurd I.symm hij
      ·exact .inr I
   have b5:listed.getD j false=false:=by
    have:j<listed.size:=by omega
    simp[this]at a0 ⊢; exact a0
   have J:∀k,(listed.setIfInBounds j true).getD k false=if k=j then true else listed.getD k false:=fun k=>by
    by_cases hkj:k=j
    ·subst hkj; rw[if_pos rfl]; exact jz (by omega) false
    ·rw[if_neg hkj,getD_set_ne false (fun e=>hkj e.symm)]
   have df:listed.getD j false=false:=b5
   have hX:(((List.range ops.size).filter (fun k=>!listed.getD k false)).flatMap xs).Perm (xs j++((List.range ops.size).filter (fun k=>!(listed.setIfInBounds j true).getD k false)).flatMap xs):=by
    have a1:=jF (p:=fun k=>!listed.getD k false) (q:=fun k=>k == j) (List.range ops.size)
    rw[tg G (by rw[df]; rfl)]at a1
    have e4:(List.range ops.size).filter (fun k=>!listed.getD k false&&!(k == j))=(List.range ops.size).filter (fun k=>!(listed.setIfInBounds j true).getD k false):=by
     refine List.filter_congr fun k t=>?_
     rw[J]
     by_cases hkj:k=j
     ·subst hkj; simp
     ·rw[if_neg hkj]; simp[hkj]
    rw[e4]at a1
    have h8:=a1.flatMap_right (f:=xs)
    rw[List.flatMap_append]at h8
    simpa using h8
   obtain⟨X,cx⟩:∃X,((List.range ops.size).filter (fun k=>!(listed.setIfInBounds j true).getD k false)).flatMap xs=X:=⟨_,rfl⟩
   rw[cx]at hX
   have f3:∀k,(bs j).contains k=true->k<ops.size/\listed.getD k false=false/\k≠j:=fun k t=>by
    have f4:k∈bs j:=by simpa using t
    obtain⟨V,O⟩:=c1 j k G f4
    refine⟨V,?_,fun e=>?_⟩
    ·cases A:listed.getD k false with
     | false=>rfl
     | true=>
      have h7:=eo hcl ops.size k j ops[k] (by simp[V]) (fun e F hb=>hcl k ops[k] (by simp[V]) A e F hb) O
      rw[df]at h7; cases h7
    ·have:=M k ops[k] (by simp[V]) j O
     omega
   obtain⟨X2,ec⟩:∃X2,X.Perm (brM ops.size bs xs j++X2):=by
    have a1:=jF (p:=fun k=>!(listed.setIfInBounds j true).getD k false) (q:=fun k=>(bs j).contains k) (List.range ops.size)
    have e5:(List.range ops.size).filter (fun k=>!(listed.setIfInBounds j true).getD k false&&(bs j).contains k)=(List.range ops.size).filter (fun k=>(bs j).contains k):=by
     refine List.filter_congr fun k t=>?_
     cases hq:(bs j).contains k with
     | false=>rw[Bool.and_false]
     | true=>
      obtain⟨_,O,h7⟩:=f3 k hq
      rw[J,if_neg h7,O]; rfl
    rw[e5]at a1
    have h8:=a1.flatMap_right (f:=xs)
    rw[List.flatMap_append,cx]at h8
    exact⟨_,h8⟩
   simp only[lxM,Z]at h1
   by_cases hn:nw j=true
   ·rw[if_pos hn]at h1
    obtain⟨⟨hw,e1⟩,_,d3⟩:=h1
    obtain⟨R,hR⟩:∃R,(List.range ops.size).filter (fun k=>en nw cs listed k&&!(cs k == some j))=R:=⟨_,rfl⟩
    have f5:(List.range ops.size).filter (fun k=>en nw cs listed k&&cs k == some j)=(List.range ops.size).filter (fun k=>cs k == some j):=by
     refine List.filter_congr fun k t=>?_
     have t:=List.mem_range.1 t
     by_cases hc:cs k=some j
     ·obtain⟨h3,_,_,h4⟩:=Y k j t hc
      have V:listed.getD k false=true:=by
       have N:=eo hcl ops.size j k oj Z B h4
       rw[Array.getD_eq_getD_getElem?]at N ⊢
       have:k<listed.size:=by omega
       simp[this]at N ⊢; exact N
      have:en nw cs listed k=true:=by unfold en; rw[h3,V,hc]; simp[b5]
      simp[this,hc]
     ·simp[hc]
    have hp:=jF (p:=en nw cs listed) (q:=fun k=>cs k == some j) (List.range ops.size)
    rw[f5,hR]at hp
    obtain⟨K,hK⟩:∃K,((List.range ops.size).filter (fun k=>nw k&&listed.getD k false)).flatMap (fun k=>(g k).2.2)=K:=⟨_,rfl⟩
    have er:∀o∈K++es,o.ns=true:=fun o z=>by
     rcases List.mem_append.1 z with z | z
     ·rw[<-hK]at z
      obtain⟨k,t,z⟩:=List.mem_flatMap.1 z
      have:=(List.mem_filter.1 t).2
      simp only[Bool.and_eq_true]at this
      exact hgn k this.1 this.2 o z
     ·exact bx o z
    rw[hK]at hS
    have ex:SfT S T w0 w (K++es) ((coM ops.size cs g j++xs j++(brM ops.size bs xs j++os))++(R.flatMap (fun i=>(g i).2.1)++X2)):=by
     refine hS.perm (fun o z=>z) ?_
     have N:((List.range ops.size).filter (en nw cs listed)).flatMap (fun i=>(g i).2.1) |>.Perm (coM ops.size cs g j++R.flatMap (fun i=>(g i).2.1)):=by
      have:=hp.flatMap_right (f:=fun i=>(g i).2.1)
      rw[List.flatMap_append]at this
      exact this
     exact (N.append ((hX.trans (ec.append_left _)).append_right os)).trans (yI _ _ _ _ _ _)
    obtain⟨f7,f8,ga,gb⟩:=ex.lend hT er
    have dy:∀o∈ckM ks g j++es,o∈K++es:=fun o z=>by
     rcases List.mem_append.1 z with z | z
     ·refine List.mem_append_left _ ?_
      obtain⟨k,t,z⟩:=List.mem_flatMap.1 z
      obtain⟨V,O,h7⟩:=ap j k G t
      have N:=eo hcl ops.size j k oj Z B h7
      rw[<-hK]
      exact sJ V O N z
     ·exact List.mem_append_right _ z
    have gs:∀c,cs j=some c->listed.getD c false=false:=fun c hc=>by
     obtain⟨_,V,_,O⟩:=Y j c G hc
     cases A:listed.getD c false with
     | false=>rfl
     | true=>
      have h7:=eo hcl ops.size c j ops[c] (by simp[V]) (fun e F hb=>hcl c ops[c] (by simp[V]) A e F hb) O
      rw[b5]at h7; cases h7
    have g0:∀k∈R,k≠j:=fun k t e=>by
     rw[<-hR]at t
     have:=(List.mem_filter.1 t).2
     rw[e]at this
     unfold en at this
     rw[b5]at this
     simp at this
    have g1:∀v,((List.range ops.size).filter (en nw cs (listed.setIfInBounds j true))).flatMap (fun i=>(fG g j v i).2.1) |>.Perm (v.2.1++R.flatMap (fun i=>(g i).2.1)):=fun v=>by
     have dX:=jF (p:=en nw cs (listed.setIfInBounds j true)) (q:=fun k=>k == j) (List.range ops.size)
     have g2:en nw cs (listed.setIfInBounds j true) j=true:=by
      unfold en
      rw[hn,J,if_pos rfl]
      cases hc:cs j with
      | none=>rfl
      | some c=>
       have cm:c≠j:=fun e=>by
        obtain⟨_,V,_,O⟩:=Y j c G hc
        have:=M c ops[c] (by simp[V]) j O
        omega
       simp only[J,if_neg cm,gs c hc]; rfl
     rw[tg G g2]at dX
     have d5:(List.range ops.size).filter (fun k=>en nw cs (listed.setIfInBounds j true) k&&!(k == j))=R:=by
      rw[<-hR]
      refine List.filter_congr fun k t=>?_
      by_cases hkj:k=j
      ·subst hkj
       have:en nw cs listed k=false:=by unfold en; rw[b5]; simp
       simp[this]
      ·unfold en
       rw[J,if_neg hkj]
       cases hc:cs k with
       | none=>simp[hkj]
       | some c=>
        by_cases hcj2:c=j
        ·subst hcj2; simp only[J,if_true]; simp
        ·simp only[J,if_neg hcj2]
         have:(some c == some j)=false:=by simp[hcj2]
         simp[this,hkj]
     rw[d5]at dX
     have h8:=dX.flatMap_right (f:=fun i=>(fG g j v i).2.1)
     rw[List.flatMap_append]at h8
     refine h8.trans (List.Perm.of_eq ?_)
     simp only[List.flatMap_cons,List.flatMap_nil,List.append_nil]
     rw[nF]
     congr 1
     refine jI fun k t=>?_
     rw[jL (g0 k t)]
    have g3:∀v:Th,∀o∈((List.range ops.size).filter (fun k=>nw k&&(listed.setIfInBounds j true).getD k false)).flatMap (fun k=>(fG g j v k).2.2)++es,o∈v.2.2++(K++es):=fun v o z=>by
     rcases List.mem_append.1 z with z | z
     ·obtain⟨k,t,z⟩:=List.mem_flatMap.1 z
      obtain⟨g4,cy⟩:=List.mem_filter.1 t
      simp only[Bool.and_eq_true]at cy
      by_cases hkj:k=j
      ·subst hkj; rw[nF]at z; exact List.mem_append_left _ z
      ·rw[jL hkj]at z
       rw[J,if_neg hkj]at cy
       refine List.mem_append_right _ (List.mem_append_left _ ?_)
       rw[<-hK]
       exact sJ (List.mem_range.1 g4) cy.1 cy.2 z
     ·exact List.mem_append_right _ (List.mem_append_right _ z)
    have e7:∀v:Th,(∀o∈v.2.2,o.ns=true)->∀k,nw k=true->(listed.setIfInBounds j true).getD k false=true->∀o∈(fG g j v k).2.2,o.ns=true:=fun v hv k t A o z=>by
     by_cases hkj:k=j
     ·subst hkj; rw[nF]at z; exact hv o z
     ·rw[jL hkj]at z
      rw[J,if_neg hkj]at A
      exact hgn k t A o z
    unfold wpOp
    simp only[Z]
    rw[if_pos hw]
    left
    have go:∀v x y w',ent j ((ds j).map g) v x y->SfT (dO (coM ops.size cs g j++xs j++(brM ops.size bs xs j++os))) (T++dO (R.flatMap (fun i=>(g i).2.1)++X2)) w w' y (x++(brM ops.size bs xs j++os))->wpAny P .any ops Q m (listed.setIfInBounds j true) (a.put oj.dst v) w':=fun v x y w' F a2=>by
     have ey:=c3 j _ v x y F
     have h9:=ex.unlend er ey a2
     refine nq c1 c2 hT bx c3 hs Y M ap co b8 b9 m (l1++l2) _ (fG g j (v,x,y)) _ w' c5 b4 (by simp[hsz]) dd ct (e7 (v,x,y) ey) ?_ (d3 v x y F)
     refine h9.perm (g3 (v,x,y)) ?_
     rw[cx]
     refine List.Perm.trans ?_ ((g1 (v,x,y)).append_right (X++os)).symm
     exact (xg _ _ _ _ _).trans ((ec.symm.append_right os).append_left _)
    rcases e1 w _ _ f7 (f8.sub dy) (ga.sub dy) gb with⟨v,w',x,y,hr | ⟨rfl,hr⟩,F,a2⟩ | ⟨f,args,hr,hC⟩
    ·unfold Oper.wp
     rw[hr]
     exact go v x y w' F a2
    ·unfold Oper.wp
     rw[hr]
     exact go undef x y w' F a2
    ·unfold Oper.wp
     rw[hr]
     refine Calls.mono hC fun e w' F=>?_
     cases e with
     | returned v=>obtain⟨x,y,F,a2⟩:=F; exact go v x y w' F a2
     | panicked c=>exact F.elim
     | outgrown=>exact F.elim
   ·rw[if_neg hn]at h1
    obtain⟨v,hv,N⟩:=h1
    have b7:nw j=false:=by simpa using hn
    have g5:(List.range ops.size).filter (en nw cs (listed.setIfInBounds j true))=(List.range ops.size).filter (en nw cs listed):=by
     refine List.filter_congr fun k t=>?_
     have t:=List.mem_range.1 t
     unfold en
     rw[J]
     by_cases hkj:k=j
     ·subst hkj; rw[b7]; rfl
     ·rw[if_neg hkj]
      cases hc:cs k with
      | none=>rfl
      | some c=>
       have cm:c≠j:=fun e=>by
        have:=(Y k c t hc).2.2.1
        rw[e,b7]at this; cases this
       simp only[J,if_neg cm]
    have g6:(List.range ops.size).filter (fun k=>nw k&&(listed.setIfInBounds j true).getD k false)=(List.range ops.size).filter (fun k=>nw k&&listed.getD k false):=by
     refine List.filter_congr fun k t=>?_
     rw[J]
     by_cases hkj:k=j
     ·subst hkj; rw[b7]; rfl
     ·rw[if_neg hkj]
    have ih:wpAny P .any ops Q m (listed.setIfInBounds j true) (a.put oj.dst v) w:=
     nq c1 c2 hT bx c3 hs Y M ap co b8 b9 m (l1++l2) _ g _ w c5 b4 (by simp[hsz]) dd ct (fun k t A=>by
      rw[J]at A
      by_cases hkj:k=j
      ·subst hkj; rw[b7]at t; cases t
      ·rw[if_neg hkj]at A; exact hgn k t A) (by rw[g5,g6,cx]; rw[c2 j b7,List.nil_append]at hX; exact hS.perm (fun o z=>z) ((hX.append_right os).append_left _)) N
    unfold wpOp
    simp only[Z]
    rcases hv with⟨hw,hv⟩ | ⟨hw,rfl⟩
    ·rw[if_pos hw]
     left
     unfold Oper.wp
     rw[hv w hS.tail.tail']
     exact ih
    ·rw[if_neg (by rw[hw]; simp)]
     exact ih
variable {n:Nat} {L:Env}
def dZ (P:Program) (n:Nat) (ops:Array Oper) (Q:Exit->Act->World->Prop) (nw:Nat->Bool) (cs:Nat->Option Nat) (ks:Nat->L2) (xs:Nat->List OE) (bs ds:Nat->L2) (S T:L2) (w0:World) (es os:List OE) (ent:Nat->List Th->Value->List OE->List OE->Prop) (l:L2) (g:Gt) (L:Env):Prop:=
 ∀a,Rep n L a->lxM P ops Q nw cs ks xs bs ds S T w0 es os ent l g a
theorem dv {g:Gt} (h:∀w,SfT S T w0 w (((List.range ops.size).filter nw).flatMap (fun k=>(g k).2.2)++es) (((List.range ops.size).filter (fun k=>nw k&&cs k == none)).flatMap (fun k=>(g k).2.1)++os)->QE n Q .normal L w):dZ P n ops Q nw cs ks xs bs ds S T w0 es os ent [] g L:=
 fun a f w i=>h w i a f
theorem bj {i:Nat} {r:L2} {g:Gt} {d:Nat} {f:Op} {ty:TypeId} {pos:String} {after:Array Edge} {v:Value} (m:ops[i]? = some ⟨some d,f,ty,pos,after,none⟩) (o:nw i=false)
  (q:∀w Sb wb,Fz S w0 Sb wb->Rds Sb wb es->Off T es->St Sb wb w os->OpV P n L w ⟨some d,f,ty,pos,after,none⟩ v w) (t:Nat.blt d n=true) (h:dZ P n ops Q nw cs ks xs bs ds S T w0 es os ent r g ((d,v) :: L)):dZ P n ops Q nw cs ks xs bs ds S T w0 es os ent (i :: r) g L:=fun a j=>by
 simp only[lxM,m,o,Bool.false_eq_true,if_false]
 refine⟨v,.inl ⟨by simp[Region.wanted],fun w' k=>?_⟩,h _ (j.put t)⟩
 obtain⟨Sb,wb,x,y,z,A⟩:=k
 exact q w' Sb wb x y z A a j
def qj (ops:Array Oper) (nw:Nat->Bool) (n:Nat):Nat->Env->L2->Option (Env×L2)
 | 0,L,l=>some (L,l)
 | m+1,L,i :: l=>match ops[i]? with
  | some ⟨some d,op,_,_,_,none⟩=>bif !nw i&&Nat.blt d n then (match kO L op with
   | some v=>qj ops nw n m ((d,v) :: L) l
   | none=>none) else none
  | _=>none
 | _+1,_,[]=>none
theorem bN {g:Gt}:∀(m:Nat) {L f:Env} {l j:L2},qj ops nw n m L l=some (f,j)->dZ P n ops Q nw cs ks xs bs ds S T w0 es os ent j g f->dZ P n ops Q nw cs ks xs bs ds S T w0 es os ent l g L
 | 0,L,f,l,j,h,k=>by simp only[qj]at h; cases h; exact k
 | m+1,L,f,[],j,h,k=>by simp[qj]at h
 | m+1,L,f,i :: l,j,h,k=>by
  simp only[qj]at h
  split at h
  ·rename_i d o ty pos after q
   cases hb:!nw i&&Nat.blt d n with
   | false=>rw[hb]at h; cases h
   | true=>
    rw[hb]at h
    simp only[cond_true]at h
    rw[Bool.and_eq_true]at hb
    cases hv:kO L o with
    | none=>rw[hv]at h; cases h
    | some v=>rw[hv]at h; exact bj q (by simpa using hb.1) (fun w _ _ _ _ _ _=>ol hv) hb.2 (bN m h k)
  ·cases h
theorem eP (E:List Th->Value->List OE->List OE->Prop) (j:List Th) (q ck bw:List OE) {i:Nat} {r:L2} {g:Gt} {d:Nat} {t:Op} {ty:TypeId} {pos:String} {after:Array Edge} (K:ops[i]? = some ⟨some d,t,ty,pos,after,none⟩) (M:nw i=true) (m:∀h v x y,ent i h v x y=E h v x y)
  (z:coM ops.size cs g i++xs i=q) (A:ckM ks g i=ck) (k:brM ops.size bs xs i++os=bw) (f:(ds i).map g=j) (B:∃v x y,E j v x y)
  (N:∀w Sl Tl,Fz Sl w Sl w->TOk Sl Tl w->Rds Sl w (ck++es)->Off Tl (ck++es)->St Sl w w (q++bw)->OpX P n L w ⟨some d,t,ty,pos,after,none⟩ (fun v w'=>∃x y,E j v x y/\SfT Sl Tl w w' y (x++bw))) (O:Nat.blt d n=true)
  (h:∀v x y,E j v x y->dZ P n ops Q nw cs ks xs bs ds S T w0 es os ent r (fG g i (v,x,y)) ((d,v) :: L)):dZ P n ops Q nw cs ks xs bs ds S T w0 es os ent (i :: r) g L:=fun a F=>by
 simp only[lxM,K,M,if_true]
 refine⟨⟨by simp[Region.wanted],fun w Sl Tl R G I J=>?_⟩,by simp only[m,f]; exact B,fun v x y o=>h v x y (by rwa [m,f]at o) _ (F.put O)⟩
 rw[z,k]at J
 rw[k]
 rw[A]at G I
 obtain⟨v,w',U,x,y,o,V⟩:=N w Sl Tl Fz.start R G I J
 exact .inl ⟨v,w',x,y,.inl (U a F),by rw[m,f]; exact o,V⟩
theorem bI (E:List Th->Value->List OE->List OE->Prop) (k:List Th) (t ck bw:List OE) {i:Nat} {r:L2} {g:Gt} {d:Nat} {f:FuncId} {z:List Operand} {M:Array TypeId} {vs:List Value} {ty:TypeId} {pos:String} {after:Array Edge}
  (N:ops[i]? = some ⟨some d,.call ⟨.value (.func f),z.toArray,M⟩,ty,pos,after,none⟩) (O:nw i=true) (q:∀h v x y,ent i h v x y=E h v x y)
  (A:coM ops.size cs g i++xs i=t) (B:ckM ks g i=ck) (o:brM ops.size bs xs i++os=bw) (j:(ds i).map g=k) (F:∃v x y,E k v x y) (R:gE P f=true) (m:L.evs z=some vs)
  (U:∀w Sl Tl,Fz Sl w Sl w->TOk Sl Tl w->Rds Sl w (ck++es)->Off Tl (ck++es)->St Sl w w (t++bw)->Calls P f vs.toArray w (Ret fun v w'=>∃x y,E k v x y/\SfT Sl Tl w w' y (x++bw))) (V:Nat.blt d n=true)
  (h:∀v x y,E k v x y->dZ P n ops Q nw cs ks xs bs ds S T w0 es os ent r (fG g i (v,x,y)) ((d,v) :: L)):dZ P n ops Q nw cs ks xs bs ds S T w0 es os ent (i :: r) g L:=fun a G=>by
 simp only[lxM,N,O,if_true]
 refine⟨⟨by simp[Region.wanted],fun w Sl Tl X I J K=>?_⟩,by simp only[q,j]; exact F,fun v x y Y=>h v x y (by rwa [q,j]at Y) _ (G.put V)⟩
 rw[A,o]at K
 rw[o]
 rw[B]at I J
 refine .inr ⟨f,vs.toArray,tt rfl R (G.evs m),?_⟩
 have:=U w Sl Tl Fz.start X I J K
 simp only[q,j]
 exact this
theorem wu (E:List Th->Value->List OE->List OE->Prop) (m:List Th) (A ck bw:List OE) {i:Nat} {r:L2} {g:Gt} {d:Nat} {B:Operand} {f:FuncId} {j:List Value} {F:List Operand} {O:Array TypeId} {vs:List Value} {ty:TypeId} {pos:String} {after:Array Edge}
  (R:ops[i]? = some ⟨some d,.call ⟨.value B,F.toArray,O⟩,ty,pos,after,none⟩) (U:nw i=true) (t:∀h v x y,ent i h v x y=E h v x y)
  (G:coM ops.size cs g i++xs i=A) (I:ckM ks g i=ck) (q:brM ops.size bs xs i++os=bw) (k:(ds i).map g=m) (J:∃v x y,E m v x y) (V:L.ev B=some (.func (.func f) #[] j.toArray)) (X:gE P f=true) (o:L.evs F=some vs)
  (Y:∀w Sl Tl,Fz Sl w Sl w->TOk Sl Tl w->Rds Sl w (ck++es)->Off Tl (ck++es)->St Sl w w (A++bw)->Calls P f (vs++j).toArray w (Ret fun v w'=>∃x y,E m v x y/\SfT Sl Tl w w' y (x++bw))) (Z:Nat.blt d n=true)
  (h:∀v x y,E m v x y->dZ P n ops Q nw cs ks xs bs ds S T w0 es os ent r (fG g i (v,x,y)) ((d,v) :: L)):dZ P n ops Q nw cs ks xs bs ds S T w0 es os ent (i :: r) g L:=fun a z=>by
 simp only[lxM,R,U,if_true]
 refine⟨⟨by simp[Region.wanted],fun w Sl Tl hT K M N=>?_⟩,by simp only[t,k]; exact J,fun v x y he=>h v x y (by rwa [t,k]at he) _ (z.put Z)⟩
 rw[G,q]at N
 rw[q]
 rw[I]at K M
 refine .inr ⟨f,(vs++j).toArray,xA rfl (z.ev V) X (z.evs o),?_⟩
 have:=Y w Sl Tl Fz.start hT K M N
 simp only[t,k]
 exact this
theorem j1 (E:List Th->Value->List OE->List OE->Prop) (j:List Th) (q ck bw:List OE) {i:Nat} {r:L2} {g:Gt} {t:Op} {ty:TypeId} {pos:String} {after:Array Edge} (K:ops[i]? = some ⟨none,t,ty,pos,after,none⟩) (M:nw i=true) (m:∀h v x y,ent i h v x y=E h v x y)
  (z:coM ops.size cs g i++xs i=q) (A:ckM ks g i=ck) (k:brM ops.size bs xs i++os=bw) (f:(ds i).map g=j) (B:∃v x y,E j v x y)
  (N:∀w Sl Tl,Fz Sl w Sl w->TOk Sl Tl w->Rds Sl w (ck++es)->Off Tl (ck++es)->St Sl w w (q++bw)->OpY P n L w ⟨none,t,ty,pos,after,none⟩ (fun w'=>∃x y,E j undef x y/\SfT Sl Tl w w' y (x++bw)))
  (h:∀v x y,E j v x y->dZ P n ops Q nw cs ks xs bs ds S T w0 es os ent r (fG g i (v,x,y)) L):dZ P n ops Q nw cs ks xs bs ds S T w0 es os ent (i :: r) g L:=fun a F=>by
 simp only[lxM,K,M,if_true]
 refine⟨⟨by simp[Region.wanted],fun w Sl Tl O G I J=>?_⟩,by simp only[m,f]; exact B,fun v x y o=>h v x y (by rwa [m,f]at o) _ F⟩
 rw[z,k]at J
 rw[k]
 rw[A]at G I
 obtain⟨w',R,x,y,o,U⟩:=N w Sl Tl Fz.start O G I J
 exact .inl ⟨undef,w',x,y,.inr ⟨rfl,R a F⟩,by rw[m,f]; exact o,U⟩
theorem i6 {o:Oper} {w:World} {φ ψ:World->Prop} (h:OpY P n L w o φ) (hi:∀w',φ w'->ψ w'):OpY P n L w o ψ:=by
 obtain⟨w',f,g⟩:=h
 exact⟨w',f,hi w' g⟩
theorem bG {P:Program} {f:FuncId} {args:Array Value} {w:World} {φ ψ:Value->World->Prop} (h:Calls P f args w (Ret φ)) (hi:∀v w',φ v w'->ψ v w'):Calls P f args w (Ret ψ):=
 h.mono fun e w' g=>by
  cases e with
  | returned v=>exact hi v w' g
  | panicked c=>exact g.elim
  | outgrown=>exact g.elim
theorem iV {o:Oper} {w:World} {φ ψ:Value->World->Prop} (h:OpX P n L w o φ) (hi:∀v w',φ v w'->ψ v w'):OpX P n L w o ψ:=by
 obtain⟨v,w',f,g⟩:=h
 exact⟨v,w',f,hi v w' g⟩
theorem pC {o:Oper} {w:World} {v:Value} {ψ:Value->World->Prop} (h:OpV P n L w o v w) (hi:ψ v w):OpX P n L w o ψ:=⟨v,w,h,hi⟩
def Dc (ops:Array Oper) (nw:Nat->Bool) (cs:Nat->Option Nat) (ks bs ds:Nat->L2):Bool:=
 (List.range ops.size).all fun k=>((match cs k with | none=>true | some c=>nw k&&Nat.blt c ops.size&&nw c&&dA ops ops.size c k)&&(ks k).all fun c=>Nat.blt c ops.size&&nw c&&dA ops ops.size k c)&&((ds k).all fun c=>dA ops ops.size k c)&&(bs k).all fun c=>Nat.blt c ops.size&&dA ops ops.size c k
theorem bZ {c:Prop} [Decidable c] {A B:List Th->Value->List OE->List OE->Prop} (f:∀h v x y,A h v x y->∀o∈y,o.ns=true) (g:∀h v x y,B h v x y->∀o∈y,o.ns=true):∀h v x y,(if c then A else B) h v x y->∀o∈y,o.ns=true:=by
 by_cases hc:c
 ·rw[if_pos hc]; exact f
 ·rw[if_neg hc]; exact g
theorem bM {y:List OE} (h:y.all OE.ns=true):∀o∈y,o.ns=true:=List.all_eq_true.1 h
theorem cF {id:Nat} {l:List Oper} {w:World} (nw:Nat->Bool) (cs:Nat->Option Nat) (ks:Nat->L2) (xs:Nat->List OE) (bs ds:Nat->L2) (ent:Nat->List Th->Value->List OE->List OE->Prop) (J:SfT S T w0 w es ((List.range l.length).flatMap xs++os)) (B:∀k,nw k=false->xs k=[]) (K:TOk S T w0) (F:es.all OE.ns=true)
  (G:∀i h v x y,ent i h v x y->∀o∈y,o.ns=true) (M:P.follows .mixedOrders=true)
  (q:(mT l.toArray&&uh l.toArray&&tj l.toArray (fun _=>true))=true) (N:Dc l.toArray nw cs ks bs ds=true)
  (h:dZ P n l.toArray Q nw cs ks xs bs ds S T w0 es os ent (List.range l.length) (fun _=>(undef,[],[])) L):wpC P n (.region id l.toArray true) Q L w:=
 fun a O=>by
  simp only[Bool.and_eq_true]at q
  have m:=rA q.1.2
  refine wp_region_any M ?_
  have g:∀k,k<l.toArray.size->_:=fun k f=>List.all_eq_true.1 N k (List.mem_range.2 f)
  refine nq (fun c k hc f=>?_) B K (bM F) G (oI q.1.1) (fun k c f hc=>?_) (fun c oc _ k R=>tL m _ _ _ R) (fun c k hc f=>?_) (fun c k hc f=>?_) m (fun i j t U V X I Y Z=>(ri q.2 i j t U V X I Y Z).1) _ (List.range l.length) _ (fun _=>(undef,[],[])) a _ (by simp) List.pairwise_lt_range (by simp) (fun j I hj z=>?_) (fun i=>?_) (fun k _ _ o ho=>by cases ho) ?_ (h a O)
  ·have:=g c hc
   simp only[Bool.and_eq_true]at this
   have:=List.all_eq_true.1 this.2 k f
   simp only[Bool.and_eq_true]at this
   exact⟨by have:=this.1; rwa [Nat.blt_eq]at this,this.2⟩
  ·have:=g k f
   simp only[hc,Bool.and_eq_true]at this
   have:=this.1.1.1
   exact⟨this.1.1.1,by have:=this.1.1.2; rwa [Nat.blt_eq]at this,this.1.2,this.2⟩
  ·have:=g c hc
   simp only[Bool.and_eq_true]at this
   have:=List.all_eq_true.1 this.1.1.2 k f
   simp only[Bool.and_eq_true]at this
   exact⟨by have:=this.1.1; rwa [Nat.blt_eq]at this,this.1.2,this.2⟩
  ·have:=g c hc
   simp only[Bool.and_eq_true]at this
   exact List.all_eq_true.1 this.1.2 k f
  ·rw[Array.getD_eq_getD_getElem?,Array.getElem?_replicate]at z
   split at z <;> simp at z
  ·rw[Array.getD_eq_getD_getElem?,Array.getElem?_replicate]
   by_cases t:i<l.length
   ·simp[t]
   ·simp[t]
  ·have A:∀k,(Array.replicate l.toArray.size false).getD k false=false:=fun k=>by
    rw[Array.getD_eq_getD_getElem?,Array.getElem?_replicate]; split <;> rfl
   have e:(List.range l.toArray.size).filter (en nw cs (Array.replicate l.toArray.size false))=[]:=by
    refine List.filter_eq_nil_iff.2 fun k f=>?_
    unfold en
    rw[A]; simp
   have e2:(List.range l.toArray.size).filter (fun k=>nw k&&(Array.replicate l.toArray.size false).getD k false)=[]:=by
    refine List.filter_eq_nil_iff.2 fun k f=>?_
    rw[A]; simp
   have e3:(List.range l.toArray.size).filter (fun k=>!(Array.replicate l.toArray.size false).getD k false)=List.range l.toArray.size:=by
    refine List.filter_eq_self.2 fun k f=>?_
    rw[A]; rfl
   rw[e,e2,e3]
   obtain⟨Sb,wb,hZ,hA,hP,hS⟩:=J
   exact⟨Sb,wb,hZ,hA,hP,by simpa using hS.drew⟩
end
end Go.Gk
end

section
namespace Go.Gk
open Go Go.RowKit
def lenV (v:Value):Nat:=match v with
 | .slice _ n _=>n
 | _=>0
def mS (v:Value) (sz lo hi:Nat) (vp:Value):Prop:=(vp=slV v sz lo hi\/vp=v/\lo=0/\hi=lenV v)/\lo<=hi/\hi<=lenV v
section
variable {w w0:World} {S:L2} {τ:Type} {e:Enc τ} {v vp:Value} {l:List τ} {lo hi:Nat}
theorem RO.lenV (h:RO w e v l):lenV v=l.length:=by obtain⟨a,c,rfl,_⟩:=h; rfl
theorem RO.whole (h:RO w e v l):mS v e.sz 0 l.length v:=⟨.inr ⟨rfl,rfl,h.lenV.symm⟩,Nat.zero_le _,by rw[h.lenV]; exact Nat.le_refl _⟩
theorem RO.part (h:RO w e v l) (f:lo<=hi) (g:hi<=l.length):mS v e.sz lo hi (slV v e.sz lo hi):=⟨.inl rfl,f,by rw[h.lenV]; exact g⟩
theorem RO.po (h:RO w e v l) (f:mS v e.sz lo hi vp):RO w e vp ((l.drop lo).take (hi - lo)):=by
 obtain⟨g,i,k⟩:=f
 have j:=h.lenV
 rcases g with rfl | ⟨rfl,rfl,rfl⟩
 ·exact h.sub i (by omega)
 ·rw[j,List.drop_zero,Nat.sub_zero,List.take_length]; exact h
theorem RP.po (h:RP S w e v l) (f:mS v e.sz lo hi vp):RP S w e vp ((l.drop lo).take (hi - lo)):=by
 obtain⟨g,i,k⟩:=f
 have j:=h.1.lenV
 rcases g with rfl | ⟨rfl,rfl,rfl⟩
 ·exact h.sub i (by omega)
 ·rw[j,List.drop_zero,Nat.sub_zero,List.take_length]; exact h
theorem zM (h:RO w e v l) (i:mS v e.sz lo hi vp) {j:Nat} (q:j<hi - lo):ixA vp e.sz j=ixA v e.sz (lo+j):=by
 obtain⟨k,t,m⟩:=i
 have x:=h.lenV
 obtain⟨a,c,rfl,hc,o⟩:=h
 rcases k with rfl | ⟨rfl,rfl,rfl⟩
 ·have f:l≠[]:=by rintro rfl; simp[Gk.lenV]at m; omega
  obtain⟨b,off,rfl,_⟩:=o f
  have g:¬c=lo:=by omega
  simp[slV,g,ixA,d6,Nat.add_mul,Nat.add_assoc]
 ·simp
end
section
variable {P:Program} {n:Nat} {L:Env} {w w0:World} {S:L2} {os:List OE} {d:Option Tmp} {ty:TypeId} {pos:String} {after:Array Edge}
theorem tU {x y:Operand} {T:TypeId} {τ:Type} {e:Enc τ} {z:Value} {bytes:Nat} {v vp u:Value} {l:List τ} {lo hi:Nat} {i:Nat} {j:Int} {t t':τ} (o:TI P T z 1 bytes)
  (h:L.ev x=some (pP (ixA vp e.sz j.toNat))) (q:L.ev y=some u) (k:St S w0 w os) (f:os[i]? = some (own e v l)) (m:mS v e.sz lo hi vp) (A:aA ((l.drop lo).take (hi - lo)) j=some t') (B:e.cells t=[u]) :
  OpY P n L w ⟨none,.store T x y,ty,pos,after,none⟩ (fun w'=>St S w0 w' (os.set i (own e v (l.set (lo+j.toNat) t)))):=by
 have g:RO w e v l:=(k.ok _ (List.mem_of_getElem? f)).ro
 have F:=(ew A).2.1
 have G:=g.lenV
 have:=m.2.2
 rw[List.length_take,List.length_drop]at F
 rw[zM g m (by omega)]at h
 exact pG o h q B k f (by omega)
end
section
variable {P:Program} {n:Nat} {L:Env} {w w0:World} {S:L2} {os:List OE} {d:Option Tmp} {ty:TypeId} {pos:String} {after:Array Edge}
theorem sQ {x y:Operand} {T T2 E:TypeId} {τ:Type} {e:Enc τ} {z:Value} {bytes:Nat} {u:Value} {m:List τ} (i:P.underlying T=some (.slice E)) (j:P.underlying T2=some (.slice E)) (A:TI P E z e.sz bytes) (B:z.cells.size=e.sz) (o:bytes<=65536) (f:0<bytes)
  (F:L.ev x=some (.slice none 0 0)) (G:L.ev y=some u) (q:St S w0 w os) (I:RO w e u m) (J:m.length*bytes<=225000000000000) :
  OpX P n L w ⟨d,.call ⟨.builtin .append,#[x,y],#[T,T2]⟩,ty,pos,after,none⟩ (fun g w'=>St S w0 w' (own e g m :: os)):=by
 have K:(own e (.slice none 0 0) ([]:List τ)).ok S w0.heap.size w:=⟨by simp,.inl ⟨rfl,rfl⟩⟩
 obtain⟨g,w',M,N,O,R⟩:=jv (ty:=ty) i A B o f K I q.fr.size (by simpa using J)
 refine fx g w' (fun a t=>?_) (q.push (by simpa [OE.blk,Value.ownBlock] using O) N fun k U=>?_)
 ·have V:(Builtin.append_ #[T,T2] ty #[.slice none 0 0,u]).run P w=(Builtin.append_ #[T,T] ty #[.slice none 0 0,u]).run P w:=by
   simp[Builtin.append_,run_underlying i,run_underlying j]
  simp[execOp,resolve,invoke,builtin,t.ev F,t.ev G,V,M]
 ·rcases R k U with h | h
  ·simp[OE.blk,Value.ownBlock]at h
  ·exact h
theorem wG {x y:Operand} {T T2 E:TypeId} {τ:Type} {e:Enc τ} {z:Value} {bytes:Nat} {u:Value} {m r:List τ} (h:P.underlying T=some (.slice E)) (g:P.underlying T2=some (.slice E)) (i:TI P E z e.sz bytes) (f:(Nat.beq z.cells.size e.sz&&Nat.ble bytes 65536&&Nat.blt 0 bytes)=true)
  (j:L.ev x=some (.slice none 0 0)) (k:L.ev y=some u) (o:St S w0 w os) (q:RO w e u m) (t:apO bytes [] m=some r) :
  OpX P n L w ⟨d,.call ⟨.builtin .append,#[x,y],#[T,T2]⟩,ty,pos,after,none⟩ (fun A w'=>St S w0 w' (own e A r :: os)):=by
 obtain⟨rfl,B⟩:=o3 t
 simp only[Bool.and_eq_true,Nat.blt_eq]at f
 exact sQ h g i (Nat.eq_of_beq_eq_true f.1.1) (Nat.le_of_ble_eq_true f.1.2) f.2 j k o q (by simpa using B)
end
section
variable {P:Program} {n:Nat} {L:Env} {w:World} {Q:Exit->Act->World->Prop}
theorem xF {c:Code} (h:wpC P n c (Exit.noGoto Q) L w):wpC P n (.scope c) Q L w:=fun a f=>wp_scope_straight (h a f)
theorem xl {l:Nat} (h:QE n Q .normal L w):wpC P n (.label l) Q L w:=fun a f=>wp_label (h a f)
theorem zt (h:QE n Q .normal L w):QE n (Exit.noGoto Q) .normal L w:=h
theorem tV (h:QE n Q .ret L w):QE n (Exit.noGoto Q) .ret L w:=h
end
end Go.Gk
end

section
namespace Go.Gk
open Go Go.RowKit
section
variable {P:Program} {n:Nat} {L:Env} {w:World} {Q:Exit->Act->World->Prop}
theorem wm {c rest:Code} (l:Nat) (f:findLabel c l=some rest) (h:wpC P n c (Exit.jump l (fun a w=>rest.wp P (Exit.noGoto Q) a w) Q) L w):wpC P n (.scope c) Q L w:=fun a g=>
 wp_scope_jumps l _ (fun _ _=>0) f (h a g) fun a w i=>wp_mono i fun e a w q=>by cases e <;> first | exact q | exact q.elim
theorem zF {l:Nat} (h:QE n Q (.goto l) L w):wpC P n (.goto l) Q L w:=fun a f=>wp_goto (h a f)
theorem y9 {l:Nat} {J:Act->World->Prop} (h:QE n Q .ret L w):QE n (Exit.jump l J Q) .ret L w:=h
theorem zu {l:Nat} {rest:Code} (h:wpC P n rest (Exit.noGoto Q) L w):QE n (Exit.jump l (fun a w=>rest.wp P (Exit.noGoto Q) a w) Q) (.goto l) L w:=fun a f=>⟨rfl,h a f⟩
theorem xb {K:Act->World->Prop} {l:Nat} (h:QE n Q (.goto l) L w):QE n (Exit.then K Q) (.goto l) L w:=h
end
section
variable {P:Program} {n:Nat} {L:Env} {w:World} {S:L2} {d:Option Tmp} {ty:TypeId} {pos:String} {after:Array Edge}
end
end Go.Gk
end
