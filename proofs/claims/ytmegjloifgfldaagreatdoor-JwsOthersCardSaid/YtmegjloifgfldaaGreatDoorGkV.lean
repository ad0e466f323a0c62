import Derived.Test.YtmegjloifgfldaaGreatDoorGkI
import Derived.Scope
import Derived.ScopeJumps
set_option linter.unusedVariables false
set_option linter.unusedSimpArgs false
set_option linter.unusedSectionVars false

section
namespace Go.Gk
open Go Go.RowKit
def Up (cs:List Value) (off:Nat) (xs cs' xs':List Value):Prop:=∃A B,cs=A++(xs++B)/\cs'=A++(xs'++B)/\A.length=off
theorem Up.here {xs xs' B:List Value}:Up (xs++B) 0 xs (xs'++B) xs':=⟨[],B,rfl,rfl,rfl⟩
theorem Up.last {xs xs':List Value}:Up xs 0 xs xs' xs':=⟨[],[],by simp,by simp,rfl⟩
theorem Up.skip {cs f xs xs' A:List Value} {k off o:Nat} (g:A.length=k) (h:Up cs off xs f xs') (i:k+off=o):Up (A++cs) o xs (A++f) xs':=by
 obtain⟨C,B,j,t,z⟩:=h
 exact⟨A++C,B,by rw[j,List.append_assoc],by rw[t,List.append_assoc],by rw[List.length_append,g,z,i]⟩
theorem Up.get {cs f xs':List Value} {off:Nat} {u:Value} (h:Up cs off [u] f xs'):cs[off]? = some u:=by
 obtain⟨A,B,rfl,_,rfl⟩:=h
 simp
theorem Up.get0 {cs:List Value} {off:Nat} {u:Value} (h:Up cs off [u] cs [u]):cs[off]? = some u:=h.get
theorem Up.gets {cs f xs xs':List Value} {off:Nat} (h:Up cs off xs f xs') {j:Nat} {u:Value} (g:xs[j]? = some u):cs[off+j]? = some u:=by
 obtain⟨A,B,rfl,_,rfl⟩:=h
 rw[List.getElem?_append_right (by omega),Nat.add_sub_cancel_left,List.getElem?_append_left (List.getElem?_eq_some_iff.1 g).1]
 exact g
theorem Up.spl {cs f xs xs':List Value} {off:Nat} (h:Up cs off xs f xs') (hl:xs'.length=xs.length):spl cs off xs'=f:=by
 obtain⟨A,B,rfl,rfl,rfl⟩:=h
 unfold Go.Gk.spl
 rw[List.take_left,hl,<-List.append_assoc A xs B,List.drop_left' (by simp),List.append_assoc]
theorem Up.le {cs f xs xs':List Value} {off:Nat} (h:Up cs off xs f xs'):off+xs.length<=cs.length:=by
 obtain⟨A,B,rfl,rfl,rfl⟩:=h
 simp only[List.length_append]; omega
section
variable {τ:Type} {e:Enc τ} {l:List τ}
theorem DD {j:Int} {t t':τ} {u g:Value} (hy:aC l j=some t) (h:e.cells t=[u]) (i:e.cells t'=[g]):Up (e.fl l) (j.toNat*1) [u] (e.fl (l.set j.toNat t')) [g]:=by
 obtain⟨z,f,hg⟩:=dR hy
 have hl:l=l.take j.toNat++(t :: l.drop (j.toNat+1)):=by
  have o:l[j.toNat]=t:=by rw[List.getElem?_eq_getElem f]at hg; exact Option.some.inj hg
  rw[<-o,<-List.drop_eq_getElem_cons f,List.take_append_drop]
 have hs:l.set j.toNat t'=l.take j.toNat++(t' :: l.drop (j.toNat+1)):=by
  rw[List.set_eq_take_append_cons_drop,if_pos f]
 refine⟨e.fl (l.take j.toNat),e.fl (l.drop (j.toNat+1)),?_,?_,?_⟩
 ·conv=>lhs; rw[hl]
  rw[e.fl_append]; congr 1
  simp[Enc.fl,h]
 ·rw[hs,e.fl_append]; congr 1
  simp[Enc.fl,i]
 ·have k:e.sz=1:=by rw[<-e.len t,h]; rfl
  rw[e.fl_length,k,List.length_take]; omega
theorem Up.sub {cs f j i xs xs':List Value} {off k:Nat} (h:Up cs off j f i) (g:Up j k xs i xs'):Up cs (off+k) xs f xs':=by
 obtain⟨A,B,rfl,rfl,rfl⟩:=h
 obtain⟨C,D,rfl,rfl,rfl⟩:=g
 exact⟨A++C,D++B,by simp,by simp,by simp⟩
theorem Up.elt {cs f:List Value} {off:Nat} {j:Int} {t t':τ} {u g:Value} (h:Up cs off (e.fl l) f (e.fl (l.set j.toNat t'))) (hy:aC l j=some t) (k:e.cells t=[u]) (i:e.cells t'=[g]):Up cs (off+j.toNat*1) [u] f [g]:=
 h.sub (DD hy k i)
theorem Up.elr {cs:List Value} {off:Nat} {j:Int} {t:τ} {u:Value} (h:Up cs off (e.fl l) cs (e.fl l)) (hy:aC l j=some t) (f:e.cells t=[u]):cs[off+j.toNat*1]? = some u:=by
 obtain⟨k,i,hg⟩:=dR hy
 have g:e.sz=1:=by rw[<-e.len t,f]; rfl
 have:=e.fl_get l j.toNat t hg 0 (by omega)
 rw[g,f]at this
 exact h.gets (by simpa using this)
theorem bT {j:Int} {t:τ} {m:Nat} (hy:aC l j=some t) (hl:l.length=m):0<=j/\j<(m:Int):=by
 obtain⟨g,f,_⟩:=dR hy
 omega
theorem bk {m:Nat} (hl:l.length=m) (hs:e.sz=1):(e.fl l).length=m:=by rw[e.fl_length,hs,Nat.mul_one,hl]
theorem fx {A B:List Value} {a b c:Nat} (f:A.length=a) (g:B.length=b) (h:a+b=c):(A++B).length=c:=by rw[List.length_append,f,g,h]
theorem lT:∀u∈e.fl l,u.oneCell'=true:=e.fl_one l
theorem oO {A B:List Value} (f:∀u∈A,u.oneCell'=true) (g:∀u∈B,u.oneCell'=true):∀u∈A++B,u.oneCell'=true:=fun u i=>by
 rcases List.mem_append.1 i with h | h
 ·exact f u h
 ·exact g u h
theorem gI {v:Value} (h:v.oneCell'=true):∀u∈[v],u.oneCell'=true:=fun u f=>by
 simp at f; subst f; exact h
theorem oW {j:Int} {t:τ} {u:Value} (hy:aC l j=some t) (f:e.cells t=[u]):((e.fl l).toArray)[j.toNat*1]? = some u:=by
 have:=Up.elr (cs:=e.fl l) (off:=0) Up.last hy f
 simpa using this
end
section
variable {P:Program} {n:Nat} {L:Env} {w w0:World} {Q:Exit->Act->World->Prop} {S:Q2} {os:List OE}
variable {d:Option Tmp} {ty:TypeId} {pos:String} {after:Array Edge}
theorem bZ {T E:TypeId} {m:Nat} {x y:Operand} {b off:Nat} {k:IntKind} {i:Int} (f:P.underlying T=some (.array m E)) (g:(P.info? E).map (·.size)=some 1)
  (hx:L.ev x=some (pB b off)) (hy:L.ev y=some (.int k i)) (h:0<=i/\i<(m:Int)):OpV P n L w ⟨d,.indexAddr T x y,ty,pos,after,none⟩ (pB b (off+i.toNat*1)) w:=
 gH f g hx hy h.1 h.2
theorem ft {T:TypeId} {D:TypeDesc} {x:Operand} {b off m:Nat} {us:List Value} (f:P.underlying T=some D) (g:(match D with | .struct _ | .array _ _=>true | _=>false)=true)
  (hi:(P.info? T).map (·.size)=some m) (hl:us.length=m) (hx:L.ev x=some (pB b off)) (hc:∀j u,us[j]? = some u->w.cell? ⟨b,off+j,none⟩=some u) :
  OpV P n L w ⟨d,.load T x,ty,pos,after,none⟩ (.agg us.toArray) w:=bO f g (by rw[hl]; exact hi) hx hc
theorem St.bxg (h:St S w0 w os) (i:Nat) {b:Nat} {cs:List Value} (hi:os[i]? = some (.bx b cs)) {off:Nat} {u:Value} (f:cs[off]? = some u):w.cell? ⟨b,off,none⟩=some u:=(h.bxc i hi off).trans f
theorem St.bxgs (h:St S w0 w os) (i:Nat) {b:Nat} {cs xs f xs':List Value} (hi:os[i]? = some (.bx b cs)) {off:Nat} (g:Up cs off xs f xs'):∀j u,xs[j]? = some u->w.cell? ⟨b,off+j,none⟩=some u:=
 fun j u k=>(h.bxc i hi _).trans (g.gets k)
theorem St.bxgs0 (h:St S w0 w os) (i:Nat) {b:Nat} {cs xs:List Value} (hi:os[i]? = some (.bx b cs)) {off:Nat} (f:Up cs off xs cs xs):∀j u,xs[j]? = some u->w.cell? ⟨b,off+j,none⟩=some u:=h.bxgs i hi f
theorem St.bxroA {τ:Type} {e:Enc τ} {l:List τ} {b off m:Nat} {cs:List Value} (h:St S w0 w os) (i:Nat) (hi:os[i]? = some (.bx b cs)) (hl:l.length=m) (f:Up cs off (e.fl l) cs (e.fl l)):RO w e (.slice (some ⟨b,off,none⟩) m m) l:=by
 subst hl
 exact⟨_,_,rfl,Nat.le_refl _,fun _=>⟨b,off,rfl,h.bxgs i hi f⟩⟩
theorem fS {T:TypeId} {x y:Operand} {b off i m:Nat} {v:Value} {cs xs f xs':List Value} (hi:os[i]? = some (.bx b cs)) (g:(P.info? T).map (·.size)=some m)
  (hx:L.ev x=some (pB b off)) (hy:L.ev y=some v) (o:v.cells.toList=xs') (t:Up cs off xs f xs') (hm:xs.length=m) (z:xs'.length=m) (G:∀u∈xs',u.oneCell'=true) (I:St S w0 w os) :
  OpY P n L w ⟨none,.store T x y,ty,pos,after,none⟩ (fun w'=>St S w0 w' (os.set i (.bx b f))):=by
 obtain⟨J,h,hg,A,j⟩:=I.setB (off:=off) (us:=xs') hi
 rw[t.spl (by omega)]at j
 refine sc _ (fun a ha=>?_) j
 cases hq:P.info? T with
 | none=>simp[hq]at g
 | some inf=>
  have hs:inf.size=xs'.length:=by rw[z]; simpa [hq] using g
  have B:off+0+xs'.length<=h.size:=by
   have:=t.le
   rw[<-A]at this
   simp only[Array.length_toList]at this
   omega
  have k:=run_storeCells_at P b off J xs' 0 h w hg B G
  have F:v.cells.size=xs'.length:=by rw[<-o]; simp
  simp only[Nat.add_zero]at k
  simp[execOp,Instr.storeAt,ha.ev hx,ha.ev hy,Instr.sureAddr,storeVar,sizeOf,typeInfo,hq,hs,o,F,k]
theorem mI {T E:TypeId} {m:Nat} {x y:Operand} {cs:Array Value} {k:IntKind} {i:Int} {u:Value} {D:TypeDesc} (g:P.underlying T=some (.array m E)) (j:P.underlying E=some D)
  (o:(match D with | .struct _ | .array _ _=>true | _=>false)=false) (f:(P.info? E).map (·.size)=some 1)
  (hx:L.ev x=some (.agg cs)) (hy:L.ev y=some (.int k i)) (h:0<=i/\i<(m:Int)) (t:cs[i.toNat*1]? = some u):OpV P n L w ⟨d,.index T x y,ty,pos,after,none⟩ u w:=
 jh g j o f hx hy h.1 h.2 t
theorem C3 {b off m lo hi:Nat}:slV (.slice (some ⟨b,off,none⟩) m m) 1 lo hi=.slice (some (if m=lo then ⟨b,off,none⟩ else (⟨b,off,none⟩:Addr).add (lo*1))) (hi - lo) (m - lo):=by
 simp only[slV]
 split <;> rfl
theorem Fk {x y z:Operand} {T E:TypeId} {k h:IntKind} {lo hi:Int} {τ:Type} {e:Enc τ} {l r:List τ} {b off m:Nat} (i:P.underlying T=some (.array m E)) (f:(P.info? E).map (·.size)=some 1) (hs:e.sz=1)
  (hx:L.ev x=some (pB b off)) (hy:L.ev y=some (.int k lo)) (j:L.ev z=some (.int h hi)) (hm:l.length=m) (hg:slO l lo hi=some r) :
  OpV P n L w ⟨d,.slice T x (some y) (some z) none,ty,pos,after,none⟩ (slV (.slice (some ⟨b,off,none⟩) m m) e.sz lo.toNat hi.toNat) w:=fun a ha=>by
 obtain⟨⟨o,I,J⟩,_⟩:=cH hg
 cases hi':P.info? E with
 | none=>rw[hi']at f; cases f
 | some inf=>
  have g:inf.size=1:=by rw[hi']at f; simpa using f
  have t:lo<=hi:=by omega
  have A:hi<=(m:Int):=by omega
  have B:0<=hi:=by omega
  have F:lo<=(m:Int):=by omega
  have G:(hi.toNat:Int)=hi:=by omega
  rw[hs,C3]
  simp[execOp,ha.ev hx,ha.ev hy,ha.ev j,Instr.sliceAt,Instr.sureAddr,run_underlying i,Instr.sliceBounds,run_sliceBound,o,t,A,B,F,G,sizeOf,typeInfo,hi',g]
theorem FI {x y:Operand} {T E:TypeId} {k:IntKind} {lo:Int} {τ:Type} {e:Enc τ} {l r:List τ} {b off m:Nat} (h:P.underlying T=some (.array m E)) (f:(P.info? E).map (·.size)=some 1) (hs:e.sz=1)
  (hx:L.ev x=some (pB b off)) (hy:L.ev y=some (.int k lo)) (hm:l.length=m) (hg:drO l lo=some r) :
  OpV P n L w ⟨d,.slice T x (some y) none none,ty,pos,after,none⟩ (slV (.slice (some ⟨b,off,none⟩) m m) e.sz lo.toNat l.length) w:=fun a ha=>by
 obtain⟨⟨i,o⟩,_⟩:=iz hg
 cases hi':P.info? E with
 | none=>rw[hi']at f; cases f
 | some inf=>
  have g:inf.size=1:=by rw[hi']at f; simpa using f
  have j:lo<=(m:Int):=by omega
  rw[hs,hm,C3]
  simp[execOp,ha.ev hx,ha.ev hy,Instr.sliceAt,Instr.sureAddr,run_underlying h,Instr.sliceBounds,run_sliceBound,i,j,sizeOf,typeInfo,hi',g]
theorem AE {x y:Operand} {T T2 E:TypeId} {τ:Type} {e:Enc τ} {z:Value} {bytes:Nat} {u:Value} {l m:List τ} {i lo hi b off q:Nat} {cs g:List Value} (V:P.underlying T=some (.slice E)) (hE:TI P E z e.sz bytes) (f:e.sz=1)
  (hx:L.ev x=some (slV (.slice (some ⟨b,off,none⟩) q q) e.sz lo hi)) (hy:L.ev y=some u) (X:St S w0 w os) (G:os[i]? = some (.bx b cs)) (hq:l.length=q) (Y:Up cs off (e.fl l) g (e.fl (cpL l m lo hi))) (Z:RO w e u m) (h1:lo<=hi) (h2:hi<=l.length) :
  OpX P n L w ⟨d,.call ⟨.builtin .copy,#[x,y],#[T,T2]⟩,ty,pos,after,none⟩ (fun r w'=>r=vI (min m.length (hi - lo):Nat)/\St S w0 w' (os.set i (.bx b g))):=by
 obtain⟨b2,I,_,hs,_⟩:=hE.get
 have N:=j7 (P:=P) Z (min m.length (hi - lo)) (Nat.min_le_left _ _)
 obtain⟨ua,uc,rfl,b3,b4⟩:=Z
 obtain⟨A,B,hA,ap,J⟩:=Y
 have a0:e.fl (m.take (min m.length (hi - lo)))=(e.fl m).take (min m.length (hi - lo)):=by rw[e.fl_take,f,Nat.mul_one]
 have k:(e.fl (m.take (min m.length (hi - lo)))).length=min m.length (hi - lo):=by rw[e.fl_length,f]; simp
 have a1:cpL l m lo hi=l.take lo++m.take (min m.length (hi - lo))++l.drop (lo+min m.length (hi - lo)):=by
  unfold cpL
  congr 2
  by_cases h:m.length<=hi - lo
  ·rw[Nat.min_eq_left h,List.take_of_length_le h,List.take_of_length_le (Nat.le_refl _)]
  ·rw[Nat.min_eq_right (by omega)]
 have o:spl cs (off+lo) (e.fl (m.take (min m.length (hi - lo))))=g:=by
  have a2:l=l.take lo++(l.drop lo).take (min m.length (hi - lo))++l.drop (lo+min m.length (hi - lo)):=by
   rw[List.append_assoc,<-List.drop_drop,List.take_append_drop,List.take_append_drop]
  have O:Up cs (off+lo) (e.fl ((l.drop lo).take (min m.length (hi - lo)))) g (e.fl (m.take (min m.length (hi - lo)))):=by
   refine⟨A++e.fl (l.take lo),e.fl (l.drop (lo+min m.length (hi - lo)))++B,?_,?_,?_⟩
   ·rw[hA]
    conv=>lhs; rw[a2]
    simp[e.fl_append]
   ·rw[ap,a1]; simp[e.fl_append]
   ·rw[List.length_append,J,e.fl_length,f,List.length_take]; omega
  refine O.spl ?_
  rw[k,e.fl_length,f,List.length_take,List.length_drop]; omega
 obtain⟨T',j,hg,a3,K⟩:=X.setB (off:=off+lo) (us:=e.fl (m.take (min m.length (hi - lo)))) G
 rw[o]at K
 have a6:off+lo+min m.length (hi - lo)<=j.size:=by
  have:j.size=cs.length:=by rw[<-a3]; simp
  rw[this,hA,List.length_append,List.length_append,J,e.fl_length,f]; omega
 by_cases hcl:q=lo
 ·have R:hi - lo=0:=by omega
  refine ez (vI 0) w (fun a ha=>?_) ⟨by rw[R]; simp,?_⟩
  ·have t:slV (.slice (some ⟨b,off,none⟩) q q) e.sz lo hi=.slice (some ⟨b,off,none⟩) (hi - lo) (q - lo):=by simp[slV,hcl]
   rw[t]at hx
   simp only[R,Nat.min_zero]at N hx
   have U:(Builtin.copy_ #[T,T2] ty #[.slice (some ⟨b,off,none⟩) 0 (q - lo),.slice ua m.length uc]).run P w=.ok (vI 0) w:=by
    simp[Builtin.copy_,run_underlying V,Builtin.lenOf,sizeOf,typeInfo,I,hs,N,goInt,Enc.fl,storeCells]
   simp[execOp,resolve,invoke,builtin,ha.ev hx,ha.ev hy,U]
  ·have:g=cs:=by
    rw[<-o,R]; simp[spl,Enc.fl]
   rw[this]
   have F:os.set i (.bx b cs)=os:=Cd G
   rw[F]; exact X
 ·have t:slV (.slice (some ⟨b,off,none⟩) q q) e.sz lo hi=.slice (some ⟨b,off+lo,none⟩) (hi - lo) (q - lo):=by simp[slV,hcl,dC,f]
  rw[t]at hx
  have M:=run_storeCells_at P b (off+lo) T' (e.fl (m.take (min m.length (hi - lo)))) 0 j w hg (by rw[k]; omega) (e.fl_one _)
  simp only[Nat.add_zero]at M
  refine ez _ _ (fun a ha=>?_) ⟨rfl,K⟩
  have U:(Builtin.copy_ #[T,T2] ty #[.slice (some ⟨b,off+lo,none⟩) (hi - lo) (q - lo),.slice ua m.length uc]).run P w=.ok (vI (min m.length (hi - lo):Nat)) (w.setRow b (j.toList.take (off+lo)++e.fl (m.take (min m.length (hi - lo)))++j.toList.drop (off+lo+(e.fl (m.take (min m.length (hi - lo)))).length)).toArray):=by
   simp[Builtin.copy_,run_underlying V,Builtin.lenOf,sizeOf,typeInfo,I,hs,N,M,goInt]
  simp[execOp,resolve,invoke,builtin,ha.ev hx,ha.ev hy,U]
def GA {τ:Type} (S:Q2) (w0:World) (g:Nat) (e:Enc τ) (l:List τ):Prop:=(∀j u,(e.fl l)[j]? = some u->w0.cell? ⟨g,j,none⟩=some u)/\g ∉ S
theorem GA.cells {τ:Type} {g:Nat} {e:Enc τ} {l:List τ} (h:GA S w0 g e l) (f:Fr S w0 w):∀j u,(e.fl l)[j]? = some u->w.cell? ⟨g,0+j,none⟩=some u:=fun j u i=>by
 have:=h.1 j u i
 rw[Nat.zero_add,f.cell (jw this) h.2]
 exact this
theorem GA.cell {τ:Type} {g:Nat} {e:Enc τ} {l:List τ} (h:GA S w0 g e l) (f:Fr S w0 w) {j:Int} {t:τ} {u:Value} (hy:aC l j=some t) (i:e.cells t=[u]):w.cell? ⟨g,0+j.toNat*1,none⟩=some u:=
 h.cells f _ u (by have:=Up.elr (cs:=e.fl l) (off:=0) Up.last hy i; simpa using this)
theorem GA.now {τ:Type} {g:Nat} {e:Enc τ} {l:List τ} (h:GA S w0 g e l) (f:Fr S w0 w):GA [] w g e l:=⟨fun j u i=>by have:=h.cells f j u i; simpa using this,by simp⟩
theorem GA.give {τ:Type} {g:Nat} {e:Enc τ} {l:List τ} {os0:List OE} (h:GA S w0 g e l) (i:0<(e.fl l).length) (k:St S w0 w (os0++os)):GA (dw os0) w g e l:=by
 refine⟨fun j u z=>by have:=h.cells k.fr j u z; simpa using this,fun A=>?_⟩
 obtain⟨o,B,t⟩:=ch.1 A
 have f:=((k.ok o (List.mem_append_left _ B)).lt t).2
 rcases f with f | f
 ·have:=jw (h.1 0 _ (List.getElem?_eq_getElem i))
  simp only at this
  omega
 ·exact h.2 f
theorem vj {x z u:Operand} {T E:TypeId} {k g:IntKind} {hi m:Int} {τ:Type} {e:Enc τ} {v z0:Value} {l:List τ} {bytes:Nat} (i:P.underlying T=some (.slice E)) (j:TI P E z0 e.sz bytes)
  (hx:L.ev x=some v) (o:L.ev z=some (.int k hi)) (t:L.ev u=some (.int g m)) (h:RO w e v l) (hg:0<=hi/\hi.toNat<=l.length/\m=hi) :
  OpV P n L w ⟨d,.slice T x none (some z) (some u),ty,pos,after,none⟩ (slV3 v e.sz 0 hi.toNat hi.toNat) w:=fun a ha=>by
 obtain⟨b,c,rfl,hc,_⟩:=h
 obtain⟨G,f,_,hs,_⟩:=j.get
 obtain⟨A,I,rfl⟩:=hg
 have B:m<=(c:Int):=by omega
 have F:(m.toNat:Int)=m:=Int.toNat_of_nonneg (by omega)
 simp[execOp,ha.ev hx,ha.ev o,ha.ev t,Instr.sliceAt,Instr.slice,run_underlying i,Instr.sliceBounds,run_sliceBound,A,B,F,sizeOf,typeInfo,f,hs,slV3]
theorem OE.ok.cut3 {B:Nat} {τ:Type} {e:Enc τ} {v:Value} {l:List τ} {k:Nat} (h:(own e v l).ok S B w) (z:k<=l.length):(own e (slV3 v e.sz 0 k k) (l.take k)).ok S B w:=by
 refine⟨e.fl_length _,?_⟩
 rcases h.2 with⟨rfl,hn⟩ | ⟨g,j,o,T,rfl,A,hg,G,I,t,i⟩
 ·have:k=0:=by omega
  subst this
  exact .inl ⟨by simp[slV3],by simp⟩
 ·have F:slV3 (.slice (some ⟨g,0,none⟩) l.length j) e.sz 0 k k=.slice (some ⟨g,0,none⟩) k k:=by
   simp[slV3,dC]
  have f:(l.take k).length=k:=by simp; omega
  refine .inr ⟨g,k,o,T,by rw[F,f],A,hg,by rw[f]; exact Nat.le_refl _,by omega,Nat.le_trans (Nat.mul_le_mul_right _ (by omega)) t,?_⟩
  rw[f,e.fl_take,<-i,List.take_take,Nat.min_eq_left (Nat.mul_le_mul_right _ z)]
theorem St.trunc3 {τ:Type} {e:Enc τ} {v:Value} {l:List τ} {i k:Nat} (h:St S w0 w os) (hi:os[i]? = some (own e v l)) (o:k<=l.length):St S w0 w (os.set i (own e (slV3 v e.sz 0 k k) (l.take k))):=by
 refine h.set hi (Fr.refl _ _) ((h.ok _ (List.mem_of_getElem? hi)).cut3 o) fun q f=>.inl ?_
 have j:=h.ok _ (List.mem_of_getElem? hi)
 rcases j.2 with⟨rfl,hn⟩ | ⟨g,t,z,T,rfl,_⟩
 ·simp[OE.blk,slV3,Value.ownBlock]at f
 ·simpa [OE.blk,slV3,dC,Value.ownBlock] using f
end
end Go.Gk
end

section
namespace Go.Gk
open Go Go.RowKit
section
variable {S:Q2} {w0 w:World} {os os0:List OE} {b:Nat} {cs:List Value}
def RB (S:Q2) (w0:World) (b:Nat) (cs:List Value):Prop:=(∀j u,cs[j]? = some u->w0.cell? ⟨b,j,none⟩=some u)/\b ∉ S/\b<w0.heap.size
theorem RB.cells (h:RB S w0 b cs) (f:Fr S w0 w):∀j u,cs[j]? = some u->w.cell? ⟨b,0+j,none⟩=some u:=fun j u g=>by
 have:=h.1 j u g
 rw[Nat.zero_add,f.cell (jw this) h.2.1]
 exact this
theorem RB.cell (h:RB S w0 b cs) (f:Fr S w0 w) (j:Nat) {u:Value} (g:cs[j]? = some u):w.cell? ⟨b,0+j,none⟩=some u:=h.cells f j u g
theorem RB.now (h:RB S w0 b cs) (f:Fr S w0 w):RB [] w b cs:=
 ⟨fun j u g=>by have:=h.cells f j u g; simpa using this,by simp,Nat.lt_of_lt_of_le h.2.2 f.size⟩
theorem RB.give (h:RB S w0 b cs) (g:St S w0 w (os0++os)):RB (dw os0) w b cs:=by
 refine⟨fun j u k=>by have:=h.cells g.fr j u k; simpa using this,fun t=>?_,Nat.lt_of_lt_of_le h.2.2 g.fr.size⟩
 obtain⟨o,z,i⟩:=ch.1 t
 have f:=((g.ok o (List.mem_append_left _ z)).lt i).2
 rcases f with f | f
 ·have:=h.2.2
  omega
 ·exact h.2.1 f
theorem St.rb (f:St S w0 w os) (i:Nat) (hi:os[i]? = some (.bx b cs)):RB [] w b cs:=by
 obtain⟨o,T,h,hg,k⟩:=f.ok _ (List.mem_of_getElem? hi)
 exact⟨fun j u g=>by rw[f.bxc i hi]; exact g,by simp,(Array.getElem?_eq_some_iff.1 hg).1⟩
theorem St.giveB (f:St S w0 w (os0++os)) (i:Nat) (hi:os[i]? = some (.bx b cs)):RB (dw os0) w b cs:=by
 have hm:=List.mem_of_getElem? hi
 have g:(os0++os)[os0.length+i]? = some (.bx b cs):=by rw[List.getElem?_append_right (by omega)]; simpa using hi
 obtain⟨j,_,k⟩:=f.rb _ g
 refine⟨j,fun t=>?_,k⟩
 obtain⟨o,z,h⟩:=ch.1 t
 exact (List.pairwise_append.1 f.dj).2.2 o z _ hm b h rfl
end
theorem wB {τ:Type} (k:Nat) (l:List τ):(l.take k).length<=l.length:=by rw[List.length_take]; exact Nat.min_le_right _ _
theorem AB (a:Addr) (k:Nat):a.add (0*k)=a:=by
 rw[Nat.zero_mul]
 unfold Addr.add
 cases a with
 | mk b off sp=>cases sp <;> simp
theorem kA (a:Option Addr) (k:Nat):a.map (·.add (0*k))=a:=by
 cases a with
 | none=>rfl
 | some a=>simp only[Option.map_some,AB]
theorem RO.full {w:World} {τ:Type} {e:Enc τ} {v:Value} {l:List τ} (h:RO w e v l):v=slV v e.sz 0 l.length:=by
 obtain⟨a,c,rfl,hc,_⟩:=h
 simp only[slV,Nat.sub_zero,kA,ite_self]
theorem RO.cut3 {w:World} {τ:Type} {e:Enc τ} {v:Value} {l:List τ} (h:RO w e v l) (k m:Nat):Go.Gk.slV3 (slV v e.sz 0 k) e.sz 0 m m=Go.Gk.slV3 v e.sz 0 m m:=by
 obtain⟨a,c,rfl,hc,_⟩:=h
 simp only[slV,Go.Gk.slV3,Nat.sub_zero,kA,ite_self]
theorem RO.tk3 {w:World} {τ:Type} {e:Enc τ} {v:Value} {l:List τ} (h:RO w e v l) {k:Nat} (f:k<=l.length):RO w e (slV3 v e.sz 0 k k) (l.take k):=by
 have:=h.sub3 (lo:=0) (hi:=k) (m:=k) (Nat.zero_le _) f (Nat.le_refl _)
 simpa using this
theorem RP.tk3 {S:Q2} {w:World} {τ:Type} {e:Enc τ} {v:Value} {l:List τ} (h:RP S w e v l) {k:Nat} (i:k<=l.length):RP S w e (slV3 v e.sz 0 k k) (l.take k):=by
 refine⟨h.1.tk3 i,fun hl j o hb=>?_⟩
 have f:l≠[]:=by rintro rfl; simp at hl
 refine h.2 f j o ?_
 obtain⟨a,c,rfl,hc,_⟩:=h.1
 have g:uo (.slice a k k)=some j:=by simpa only [Go.Gk.slV3,Nat.sub_zero,kA,ite_self] using hb
 cases a <;> exact g
end Go.Gk
end

section
namespace Go.Gk
open Go Go.RowKit
section
variable {S Sb:Q2} {w0 wb w w':World} {es es1 os os0 osF osK:List OE}
def OE.kept (S:Q2) (w:World):OE->Prop
 | .bx b cs=>RB S w b cs
 | .rd v sz n cs=>cs.length=n*sz/\∃a c,v=.slice a n c/\n<=c /\
   (n≠0->∃b off,a=some ⟨b,off,none⟩/\b<w.heap.size/\b ∉ S/\∀j u,cs[j]? = some u->w.cell? ⟨b,off+j,none⟩=some u)
 | .sl ..=>True
def OE.kp:OE->OE
 | .sl v sz n cs=>.rd v sz n cs
 | o=>o
theorem OE.kept.to {o:OE} {S':Q2} (h:o.kept S w) (hf:Fr S w w') (hS:∀k,k<w.heap.size->k ∉ S->k ∉ S'):o.kept S' w':=by
 cases o with
 | sl v sz n cs=>trivial
 | bx b cs=>
  obtain⟨h1,h2,h3⟩:=h
  refine⟨fun j u hj=>?_,hS _ h3 h2,Nat.lt_of_lt_of_le h3 hf.size⟩
  rw[hf.cell h3 h2]
  exact h1 j u hj
 | rd v sz n cs=>
  obtain⟨hl,a,c,rfl,hc,hx⟩:=h
  refine⟨hl,a,c,rfl,hc,fun hn=>?_⟩
  obtain⟨b,off,rfl,hb,hs,hcell⟩:=hx hn
  refine⟨b,off,rfl,Nat.lt_of_lt_of_le hb hf.size,hS _ hb hs,fun j u hj=>?_⟩
  rw[hf.cell hb hs]
  exact hcell j u hj
theorem OE.kept.fr {o:OE} (h:o.kept S w) (hf:Fr S w w'):o.kept S w':=h.to hf fun _ _ h=>h
theorem OE.kept.blk {o:OE} (h:o.kept S w) (ho:∀v sz n cs,o≠.sl v sz n cs) {k:Nat} (hk:o.blk=some k):k<w.heap.size/\k ∉ S:=by
 cases o with
 | sl v sz n cs=>exact absurd rfl (ho v sz n cs)
 | bx b cs=>simp[OE.blk]at hk; subst hk; exact⟨h.2.2,h.2.1⟩
 | rd v sz n cs=>
  obtain⟨hl,a,c,rfl,hc,hx⟩:=h
  simp only[OE.blk]at hk
  split at hk
  ·cases hk
  ·rename_i hn
   obtain⟨b,off,rfl,hb,hs,_⟩:=hx hn
   simp[Value.ownBlock]at hk
   subst hk
   exact⟨hb,hs⟩
theorem OE.ok.kept {o:OE} {B:Nat} (h:o.ok S B w) {S':Q2} (hd:∀k,o.blk=some k->k ∉ S'):o.kp.kept S' w:=by
 cases o with
 | sl v sz n cs=>
  refine⟨h.1,?_⟩
  rcases h.2 with⟨rfl,rfl⟩ | ⟨g,cap,cur,T,rfl,hf,hg,hnc,hcm,hcs,htake⟩
  ·exact⟨none,0,rfl,Nat.le_refl _,fun h=>absurd rfl h⟩
  ·refine⟨_,cap,rfl,hnc,fun _=>⟨g,0,rfl,hg.lt,hd g rfl,fun j u hj=>?_⟩⟩
   rw[<-htake,List.getElem?_take]at hj
   split at hj
   ·rw[Nat.zero_add,hg.cell j]
    simpa using hj
   ·cases hj
 | rd v sz n cs=>
  obtain⟨hl,a,c,rfl,hc,hx⟩:=h
  refine⟨hl,a,c,rfl,hc,fun hn=>?_⟩
  obtain⟨b,off,rfl,hb,_,hcell⟩:=hx hn
  exact⟨b,off,rfl,hb,hd b (by simp[OE.blk,hn,Value.ownBlock]),hcell⟩
 | bx b cs=>
  obtain⟨hf,T,cur,hg,hcs⟩:=h
  have hlt:=(Array.getElem?_eq_some_iff.1 hg).1
  refine⟨fun j u hj=>?_,hd b rfl,hlt⟩
  rw[cell_of_row w b j cur T _ hg,<-Array.getElem?_toList,hcs]
  exact hj
def Rds (S:Q2) (w:World) (es:List OE):Prop:=∀o∈es,o.kept S w
structure Fz (S:Q2) (w0:World) (Sb:Q2) (wb:World):Prop where
 fr:Fr S w0 wb
 sb:∀b∈Sb,fre S w0.heap.size b
def Sf (S:Q2) (w0 w:World) (es os:List OE):Prop:=∃Sb wb,Fz S w0 Sb wb/\Rds Sb wb es/\St Sb wb w os
theorem Rds.nil:Rds S w []:=fun o h=>by cases h
theorem Rds.cons {o:OE} (h:o.kept S w) (hr:Rds S w es):Rds S w (o :: es):=fun p hp=>by
 rcases List.mem_cons.1 hp with rfl | hp
 ·exact h
 ·exact hr p hp
theorem Rds.app (h:Rds S w es) (h1:Rds S w es1):Rds S w (es++es1):=fun p hp=>(List.mem_append.1 hp).elim (h p) (h1 p)
theorem RB.kept {b:Nat} {cs:List Value} (h:RB S w b cs):(OE.bx b cs).kept S w:=h
theorem RP.kept {τ:Type} {e:Enc τ} {v:Value} {l:List τ} (hz:0<e.sz) (h:RP S w e v l):(red e v l).kept S w:=by
 refine⟨e.fl_length l,?_⟩
 obtain⟨a,c,rfl,hc,hr⟩:=h.1
 refine⟨a,c,rfl,hc,fun hn=>?_⟩
 have hl:l≠[]:=by rintro rfl; exact hn rfl
 obtain⟨b,off,rfl,hcell⟩:=hr hl
 have hne:0<(e.fl l).length:=by
  rw[e.fl_length]
  exact Nat.mul_pos (List.length_pos_iff.2 hl) hz
 exact⟨b,off,rfl,jw (hcell 0 _ (List.getElem?_eq_getElem hne)),fun hb=>h.2 hl b hb rfl,hcell⟩
theorem OE.kept.rp {τ:Type} {e:Enc τ} {v:Value} {l:List τ} (h:(red e v l).kept S w):RP S w e v l:=by
 obtain⟨_,a,c,rfl,hc,hcell⟩:=h
 refine⟨⟨a,c,rfl,hc,fun hl=>?_⟩,fun hl k hk hb=>?_⟩
 ·obtain⟨b,off,h1,_,_,h2⟩:=hcell (by simpa using hl)
  exact⟨b,off,h1,h2⟩
 ·obtain⟨b,off,rfl,_,hs,_⟩:=hcell (by simpa using hl)
  have:b=k:=by simpa [Value.ownBlock] using hb
  exact hs (this ▸ hk)
def li (es:List OE) (k:Nat):Option OE:=es[es.length - 1 - k]?
theorem Rds.rp (h:Rds S w es) (k:Nat) {τ:Type} {e:Enc τ} {v:Value} {l:List τ} (hk:li es k=some (red e v l)):RP S w e v l:=(h _ (List.mem_of_getElem? hk)).rp
theorem Rds.rb (h:Rds S w es) (k:Nat) {b:Nat} {cs:List Value} (hk:li es k=some (.bx b cs)):RB S w b cs:=h _ (List.mem_of_getElem? hk)
theorem Rds.pick {es':List OE} (h:Rds S w es) (ix:Q2) (he:es'.map some=ix.map (fun i=>li es i)):Rds S w es':=fun o ho=>by
 have h1:some o∈es'.map some:=List.mem_map_of_mem ho
 rw[he]at h1
 obtain⟨i,_,hi⟩:=List.mem_map.1 h1
 exact h o (List.mem_of_getElem? hi)
theorem Sf.of (hA:Rds S w0 es) (hS:St S w0 w os):Sf S w0 w es os:=⟨S,w0,⟨Fr.refl _ _,fun b hb=>.inr hb⟩,hA,hS⟩
theorem Sf.mk' (hF:Fz S w0 Sb wb) (hA:Rds Sb wb es) (hS:St Sb wb w os):Sf S w0 w es os:=⟨Sb,wb,hF,hA,hS⟩
theorem Fz.start:Fz S w0 S w0:=⟨Fr.refl _ _,fun b hb=>.inr hb⟩
theorem Fz.st (hF:Fz S w0 Sb wb) (hS:St Sb wb w os):St S w0 w os:=by
 have hfre:∀k,fre Sb wb.heap.size k->fre S w0.heap.size k:=by
  intro k hk
  rcases hk with hk | hk
  ·exact .inl (Nat.le_trans hF.fr.size hk)
  ·exact hF.sb k hk
 refine⟨hF.fr.step hS.fr hF.sb,fun o ho=>(hS.ok o ho).re fun k _ hf=>hfre k hf,hS.dj⟩
theorem Fz.frz (hF:Fz S w0 Sb wb) (hA:Rds Sb wb es) (hS:St Sb wb w (osF++osK)):∃Sb' wb',Fz S w0 Sb' wb'/\Rds Sb' wb' (osF.map OE.kp++es)/\St Sb' wb' w osK:=by
 have hst:=hF.st hS
 have hp:=List.pairwise_append.1 hS.dj
 refine⟨dw osK,w,⟨hst.fr,fun b hb=>?_⟩,Rds.app ?_ ?_,?_⟩
 ·obtain⟨o,ho,hob⟩:=ch.1 hb
  exact ((hst.ok o (List.mem_append_right _ ho)).lt hob).2
 ·intro p hp'
  obtain⟨o,ho,rfl⟩:=List.mem_map.1 hp'
  refine (hS.ok o (List.mem_append_left _ ho)).kept fun k hk hx=>?_
  obtain⟨q,hq,hqb⟩:=ch.1 hx
  exact hp.2.2 o ho q hq k hk hqb
 ·intro o ho
  refine (hA o ho).to hS.fr fun k hk hs hx=>?_
  obtain⟨q,hq,hqb⟩:=ch.1 hx
  rcases ((hS.ok q (List.mem_append_right _ hq)).lt hqb).2 with h | h
  ·omega
  ·exact hs h
 ·exact⟨Fr.refl _ _,fun o ho=>(hS.ok o (List.mem_append_right _ ho)).re fun k hk _=>.inr (ch.2 ⟨o,ho,hk⟩),hp.2.1⟩
end
end Go.Gk
namespace Go.Gk
open Go Go.RowKit
theorem OE.kept.nil {S:Q2} {w:World} {τ:Type} {e:Enc τ}:(red e (.slice none 0 0) ([]:List τ)).kept S w:=⟨by simp,none,0,rfl,Nat.le_refl _,fun h=>absurd rfl h⟩
theorem Rds.nth {S:Q2} {w:World} {es:List OE} (h:Rds S w es) (k:Nat) {o:OE} (hk:li es k=some o):o.kept S w:=h _ (List.mem_of_getElem? hk)
def mj {α:Type} (x:Option α) (p:Prop) (q:α->Prop):Prop:=match x with
 | none=>p
 | some c=>q c
theorem uE {α:Type} {p:Prop} {q:α->Prop} (h:p):mj none p q:=h
theorem qd {α:Type} {c:α} {p:Prop} {q:α->Prop} (h:q c):mj (some c) p q:=h
theorem jL {α:Type} {p:Prop} {q:α->Prop} (h:mj none p q):p:=h
theorem jJ {α:Type} {c:α} {p:Prop} {q:α->Prop} (h:mj (some c) p q):q c:=h
end Go.Gk
namespace Go.Gk
open Go Go.RowKit
def OE.ns:OE->Bool
 | .sl ..=>false
 | _=>true
def Off (T:Q2) (es:List OE):Prop:=∀o∈es,∀b,o.blk=some b->b ∉ T
def TOk (S T:Q2) (w0:World):Prop:=∀b∈T,b<w0.heap.size/\b ∉ S
def SfT (S T:Q2) (w0 w:World) (es os:List OE):Prop:=∃Sb wb,Fz S w0 Sb wb/\Rds Sb wb es/\Off T es/\St Sb wb w os
section
variable {S T Sb:Q2} {w0 wb w w':World} {es es1 os os0 osF osK:List OE}
theorem TOk.nil:TOk S [] w0:=fun b h=>by cases h
theorem Off.nil:Off T []:=fun o h=>by cases h
theorem Off.emp:Off [] es:=fun o _ b _ h=>by cases h
theorem Off.cons {o:OE} (h:∀b,o.blk=some b->b ∉ T) (hr:Off T es):Off T (o :: es):=fun p hp=>by
 rcases List.mem_cons.1 hp with rfl | hp
 ·exact h
 ·exact hr p hp
theorem Off.app (h:Off T es) (h1:Off T es1):Off T (es++es1):=fun p hp=>(List.mem_append.1 hp).elim (h p) (h1 p)
theorem OE.kept.off {o:OE} (h:o.kept T w) (hn:o.ns=true):∀b,o.blk=some b->b ∉ T:=fun b hb=>(h.blk (fun v sz n cs e=>by rw[e]at hn; cases hn) hb).2
theorem OE.kept.all {o:OE} (h:o.kept T w):o.kept [] w:=h.to (Fr.refl _ _) fun _ _ _=>by simp
theorem OE.kept.more {o:OE} (h:o.kept Sb w) (hn:∀b,o.blk=some b->b ∉ T):o.kept (T++Sb) w:=by
 cases o with
 | sl v sz n cs=>trivial
 | bx b cs=>
  obtain⟨h1,h2,h3⟩:=h
  exact⟨h1,fun hb=>(List.mem_append.1 hb).elim (hn b rfl) h2,h3⟩
 | rd v sz n cs=>
  obtain⟨hl,a,c,rfl,hc,hx⟩:=h
  refine⟨hl,a,c,rfl,hc,fun hne=>?_⟩
  obtain⟨b,off,rfl,hb,hs,hcell⟩:=hx hne
  exact⟨b,off,rfl,hb,fun hbb=>(List.mem_append.1 hbb).elim (hn b (by simp[OE.blk,hne,Value.ownBlock])) hs,hcell⟩
theorem Rds.off (h:Rds T w es) (hn:es.all OE.ns=true):Off T es:=fun o ho=>(h o ho).off (List.all_eq_true.1 hn o ho)
theorem Rds.all (h:Rds T w es):Rds [] w es:=fun o ho=>(h o ho).all
theorem Rds.rpT (h:Rds Sb w es) (hP:Off T es) (k:Nat) {τ:Type} {e:Enc τ} {v:Value} {l:List τ} (hk:li es k=some (red e v l)):RP (T++Sb) w e v l:=
 ((h _ (List.mem_of_getElem? hk)).more (hP _ (List.mem_of_getElem? hk))).rp
theorem Rds.rbT (h:Rds Sb w es) (hP:Off T es) (k:Nat) {b:Nat} {cs:List Value} (hk:li es k=some (.bx b cs)):RB (T++Sb) w b cs:=
 (h _ (List.mem_of_getElem? hk)).more (hP _ (List.mem_of_getElem? hk))
theorem OE.blk_kp (o:OE):∀b,o.kp.blk=some b->o.blk=some b:=fun b h=>by
 cases o with
 | sl v sz n cs=>
  simp only[OE.kp,OE.blk]at h ⊢
  split at h
  ·cases h
  ·exact h
 | bx b cs=>exact h
 | rd v sz n cs=>exact h
theorem Fz.offF (hF:Fz S w0 Sb wb) (hT:TOk S T w0) (hP:Off T es) (hS:St Sb wb w (osF++osK)):Off T (osF.map OE.kp++es):=by
 refine Off.app (fun o ho b hb hbT=>?_) hP
 obtain⟨q,hq,rfl⟩:=List.mem_map.1 ho
 have h1:=(((hF.st hS).ok q (List.mem_append_left _ hq)).lt (OE.blk_kp q b hb)).2
 obtain⟨h2,h3⟩:=hT b hbT
 rcases h1 with h1 | h1
 ·omega
 ·exact h3 h1
theorem Fz.frzK (hF:Fz S w0 Sb wb) (hT:TOk S T w0) (hA:Rds Sb wb es) (hP:Off T es) (hS:St Sb wb w (osF++osK)) :
  Fz S w0 (dw osK) w/\Rds (dw osK) w (osF.map OE.kp++es)/\Off T (osF.map OE.kp++es)/\St (dw osK) w w osK:=by
 have hst:=hF.st hS
 have hp:=List.pairwise_append.1 hS.dj
 refine⟨⟨hst.fr,fun b hb=>?_⟩,Rds.app ?_ ?_,hF.offF hT hP hS,?_⟩
 ·obtain⟨o,ho,hob⟩:=ch.1 hb
  exact ((hst.ok o (List.mem_append_right _ ho)).lt hob).2
 ·intro p hp'
  obtain⟨o,ho,rfl⟩:=List.mem_map.1 hp'
  refine (hS.ok o (List.mem_append_left _ ho)).kept fun k hk hx=>?_
  obtain⟨q,hq,hqb⟩:=ch.1 hx
  exact hp.2.2 o ho q hq k hk hqb
 ·intro o ho
  refine (hA o ho).to hS.fr fun k hk hs hx=>?_
  obtain⟨q,hq,hqb⟩:=ch.1 hx
  rcases ((hS.ok q (List.mem_append_right _ hq)).lt hqb).2 with h | h
  ·omega
  ·exact hs h
 ·exact⟨Fr.refl _ _,fun o ho=>(hS.ok o (List.mem_append_right _ ho)).re fun k hk _=>.inr (ch.2 ⟨o,ho,hk⟩),hp.2.1⟩
theorem Fz.frzT (hF:Fz S w0 Sb wb) (hT:TOk S T w0) (hA:Rds Sb wb es) (hP:Off T es) (hS:St Sb wb w (osF++osK)) :
  ∃Sb' wb',Fz S w0 Sb' wb'/\Rds Sb' wb' (osF.map OE.kp++es)/\Off T (osF.map OE.kp++es)/\St Sb' wb' w osK:=by
 obtain⟨h1,h2,h3,h4⟩:=hF.frzK hT hA hP hS
 exact⟨_,_,h1,h2,h3,h4⟩
theorem Fz.okT (hF:Fz S w0 (dw osK) w) (hT:TOk S T w0) (hS:St (dw osK) w w osK):TOk [] (T++dw osK) w:=fun b hb=>by
 refine⟨?_,by simp⟩
 rcases List.mem_append.1 hb with hb | hb
 ·exact Nat.lt_of_lt_of_le (hT b hb).1 hF.fr.size
 ·obtain⟨o,ho,hob⟩:=ch.1 hb
  exact ((hS.ok o ho).lt hob).1
theorem Fz.callK (hF:Fz S w0 (dw osK) w) (hA:Rds (dw osK) w es) (hP:Off T es) (hS:St (dw osK) w w osK) (hC:St [] w w' []) (hR:Rds (T++dw osK) w' es1) (hn:es1.all OE.ns=true) :
  ∃Sb' wb',Fz S w0 Sb' wb'/\Rds Sb' wb' (es1++es)/\Off T (es1++es)/\St Sb' wb' w' osK:=by
 have h4:St (dw osK) w w' osK:=by have:=hS.call hC; rwa [List.nil_append]at this
 have hb:∀b∈dw osK,b<w.heap.size:=fun b hb=>by
  obtain⟨o,ho,hob⟩:=ch.1 hb
  exact ((hS.ok o ho).lt hob).1
 refine⟨dw osK,w',⟨(hF.st h4).fr,hF.sb⟩,Rds.app (fun o ho=>(hR o ho).to (Fr.refl _ _) fun k _ hk hx=>hk (List.mem_append_right _ hx)) (fun o ho=>(hA o ho).fr h4.fr),?_,?_⟩
 ·refine Off.app (fun o ho b hb hx=>?_) hP
  exact (hR o ho).off (List.all_eq_true.1 hn o ho) b hb (List.mem_append_left _ hx)
 ·exact⟨Fr.refl _ _,fun o ho=>(h4.ok o ho).re fun k hk _=>.inr (ch.2 ⟨o,ho,hk⟩),h4.dj⟩
theorem Fz.outT (hF:Fz [] w0 Sb wb) (hT:TOk [] T w0) (hA:Rds Sb wb es) (hP:Off T es) (hS:St Sb wb w os):St [] w0 w []/\Rds T w (os.map OE.kp++es):=by
 obtain⟨h1,h2,h3,h4⟩:=Fz.frzK (osK:=[]) hF hT hA hP (by rw[List.append_nil]; exact hS)
 refine⟨h1.st h4,fun o ho=>?_⟩
 have:=(h2 o ho).more (h3 o ho)
 exact this.to (Fr.refl _ _) fun k _ hk hx=>hk (List.mem_append_left _ hx)
theorem SfT.mk' (hF:Fz S w0 Sb wb) (hA:Rds Sb wb es) (hP:Off T es) (hS:St Sb wb w os):SfT S T w0 w es os:=⟨Sb,wb,hF,hA,hP,hS⟩
theorem Off.pick {es':List OE} (h:Off T es) (ix:Q2) (he:es'.map some=ix.map (fun i=>li es i)):Off T es':=fun o ho=>by
 have h1:some o∈es'.map some:=List.mem_map_of_mem ho
 rw[he]at h1
 obtain⟨i,_,hi⟩:=List.mem_map.1 h1
 exact h o (List.mem_of_getElem? hi)
theorem Off.nth (h:Off T es) (k:Nat) {o:OE} (hk:li es k=some o):∀b,o.blk=some b->b ∉ T:=h _ (List.mem_of_getElem? hk)
end
end Go.Gk
namespace Go.Gk
open Go Go.RowKit
section
variable {P:Program} {n:Nat} {L:Env} {w:World}
theorem Ac {fn:Func} {r1 r2 r3:ResultVar} {v1 v2 v3:Value} {φ:Value->World->Prop} (hres:fn.results=#[r1,r2,r3]) (h1:RV P L w r1 v1) (h2:RV P L w r2 v2) (h3:RV P L w r3 v3) (h:φ (.tuple #[v1,v2,v3]) w):QE n (bodyPost P fn (Ret φ)) .ret L w:=fun a ha=>by
 refine⟨ha.defers,.tuple #[v1,v2,v3],?_,h⟩
 cases r1 <;> cases r2 <;> cases r3
 ·have g1:=ha.get _ _ h1
  have g2:=ha.get _ _ h2
  have g3:=ha.get _ _ h3
  simp[results,hres,g1,g2,g3]
 ·have g1:=ha.get _ _ h1
  have g2:=ha.get _ _ h2
  obtain⟨b3,g3,k3⟩:=h3
  have g3:=ha.get _ _ g3
  simp[results,hres,g1,g2,g3,k3,d7]
 ·have g1:=ha.get _ _ h1
  obtain⟨b2,g2,k2⟩:=h2
  have g2:=ha.get _ _ g2
  have g3:=ha.get _ _ h3
  simp[results,hres,g1,g2,k2,g3,d7]
 ·have g1:=ha.get _ _ h1
  obtain⟨b2,g2,k2⟩:=h2
  have g2:=ha.get _ _ g2
  obtain⟨b3,g3,k3⟩:=h3
  have g3:=ha.get _ _ g3
  simp[results,hres,g1,g2,k2,g3,k3,d7]
 ·obtain⟨b1,g1,k1⟩:=h1
  have g1:=ha.get _ _ g1
  have g2:=ha.get _ _ h2
  have g3:=ha.get _ _ h3
  simp[results,hres,g1,k1,g2,g3,d7]
 ·obtain⟨b1,g1,k1⟩:=h1
  have g1:=ha.get _ _ g1
  have g2:=ha.get _ _ h2
  obtain⟨b3,g3,k3⟩:=h3
  have g3:=ha.get _ _ g3
  simp[results,hres,g1,k1,g2,g3,k3,d7]
 ·obtain⟨b1,g1,k1⟩:=h1
  have g1:=ha.get _ _ g1
  obtain⟨b2,g2,k2⟩:=h2
  have g2:=ha.get _ _ g2
  have g3:=ha.get _ _ h3
  simp[results,hres,g1,k1,g2,k2,g3,d7]
 ·obtain⟨b1,g1,k1⟩:=h1
  have g1:=ha.get _ _ g1
  obtain⟨b2,g2,k2⟩:=h2
  have g2:=ha.get _ _ g2
  obtain⟨b3,g3,k3⟩:=h3
  have g3:=ha.get _ _ g3
  simp[results,hres,g1,k1,g2,k2,g3,k3,d7]
end
end Go.Gk
end

section
namespace Go.Gk
open Go Go.RowKit
section
variable {P:Program} {n:Nat} {L:Env} {w w' w0:World} {S:Q2} {os:List OE}
variable {d:Option Tmp} {ty:TypeId} {pos:String} {after:Array Edge}
end
end Go.Gk
end

section
namespace Go.Gk
open Go Go.RowKit
section
variable {P:Program} {ops:Array Oper} {Q:Exit->Act->World->Prop} {nw:Nat->Bool} {cs:Nat->Option Nat} {S:Q2} {w0:World} {os:List OE} {ent:Nat->Value->OE}
def d8 (nw:Nat->Bool) (cs:Nat->Option Nat) (listed:Array Bool) (k:Nat):Bool:=nw k&&listed.getD k false&&(match cs k with | none=>true | some c=>!listed.getD c false)
theorem j9 {p q:Nat->Bool} (l:Q2):(l.filter p).Perm (l.filter (fun k=>p k&&q k)++l.filter (fun k=>p k&&!q k)):=by
 have:=(List.filter_append_perm q (l.filter p)).symm
 rw[List.filter_filter,List.filter_filter]at this
 refine this.trans ?_
 have f:(fun a=>q a&&p a)=(fun k=>p k&&q k):=by funext k; exact Bool.and_comm _ _
 have g:(fun a=>(!q a)&&p a)=(fun k=>p k&&!q k):=by funext k; exact Bool.and_comm _ _
 rw[f,g]
theorem uQ {n j:Nat} (h:j<n) {p:Nat->Bool} (f:p j=true):(List.range n).filter (fun k=>p k&&k == j)=[j]:=by
 have g:(List.range n).filter (fun k=>p k&&k == j)=(List.range n).filter (fun k=>k == j):=by
  refine List.filter_congr fun k _=>?_
  by_cases hk:k=j
  ·subst hk; simp[f]
  ·simp[hk]
 rw[g]
 have i:=List.filter_beq (l:=List.range n) j
 rw[i,List.nodup_range.count,if_pos (List.mem_range.2 h)]; rfl
variable {n:Nat} {L:Env}
theorem vu (g:∀j i,ops[j]? = some i->∀e∈i.after,Region.binds .any e=true->e.on<j):∀(f j k:Nat),dh ops f j k=true->k<j
 | 0,_,_,h=>by simp[dh]at h
 | f+1,j,k,h=>by
  simp only[dh]at h
  cases hj:ops[j]? with
  | none=>simp[hj]at h
  | some i=>
   simp only[hj,List.any_eq_true,Bool.and_eq_true,Bool.or_eq_true]at h
   obtain⟨e,he,hb,h | h⟩:=h
   ·have:=g j i hj e (by simpa using he) hb
    have:=Nat.eq_of_beq_eq_true h; omega
   ·have:=g j i hj e (by simpa using he) hb
    have:=vu g f e.on k h; omega
end
end Go.Gk
end

section
namespace Go.Gk
open Go Go.RowKit
abbrev Th:=Value×List OE×List OE
abbrev Gt:=Nat->Th
def fk (g:Gt) (i:Nat) (v:Th):Gt:=fun k=>if k=i then v else g k
theorem zX {g:Gt} {i j:Nat} {u v:Th} (h:i≠j):fk (fk g i u) j v=fk (fk g j v) i u:=by
 funext k
 unfold fk
 by_cases h1:k=i <;> by_cases h2:k=j <;> simp_all
theorem ki {α β:Type} {f g:α->List β}:∀{l:List α},(∀k∈l,f k=g k)->l.flatMap f=l.flatMap g
 | [],_=>rfl
 | k :: l,h=>by rw[List.flatMap_cons,List.flatMap_cons,h k (List.mem_cons_self ..),ki fun x hx=>h x (List.mem_cons_of_mem _ hx)]
theorem om (g:Gt) (i:Nat) (v:Th):fk g i v i=v:=if_pos rfl
theorem kk {g:Gt} {i k:Nat} {v:Th} (h:k≠i):fk g i v k=g k:=if_neg h
section
variable {S T Sl Tl:Q2} {w0 w w':World} {es es1 os os1 rest lent:List OE}
theorem Rds.sub (h:Rds S w es) (hs:∀o∈es1,o∈es):Rds S w es1:=fun o f=>h o (hs o f)
theorem Off.sub (h:Off T es) (hs:∀o∈es1,o∈es):Off T es1:=fun o f=>h o (hs o f)
theorem OE.kept.to' {o:OE} {z:Q2} (h:o.kept S w) (f:Fr S w w') (A:∀k,k<w.heap.size->o.blk=some k->k ∉ S->k ∉ z):o.kept z w':=by
 cases o with
 | sl v sz n cs=>trivial
 | bx b cs=>
  obtain⟨F,B,i⟩:=h
  refine⟨fun j u t=>?_,A _ i rfl B,Nat.lt_of_lt_of_le i f.size⟩
  rw[f.cell i B]
  exact F j u t
 | rd v sz n cs=>
  obtain⟨hl,a,c,rfl,hc,hx⟩:=h
  refine⟨hl,a,c,rfl,hc,fun hn=>?_⟩
  obtain⟨b,off,rfl,hb,hs,g⟩:=hx hn
  refine⟨b,off,rfl,Nat.lt_of_lt_of_le hb f.size,A _ hb (by simp[OE.blk,hn,Value.ownBlock]) hs,fun j u t=>?_⟩
  rw[f.cell hb hs]
  exact g j u t
theorem SfT.tail (h:SfT S T w0 w (es1++es) (os1++os)):SfT S T w0 w es os:=by
 obtain⟨Sb,wb,g,i,j,k⟩:=h
 exact⟨Sb,wb,g,i.sub (fun o f=>List.mem_append_right _ f),j.sub (fun o f=>List.mem_append_right _ f),k.tail⟩
theorem SfT.tail' (h:SfT S T w0 w es (os1++os)):SfT S T w0 w es os:=by
 obtain⟨Sb,wb,f,g,i,j⟩:=h
 exact⟨Sb,wb,f,g,i,j.tail⟩
theorem SfT.perm (h:SfT S T w0 w es os) (f:∀o∈es1,o∈es) (g:os.Perm os1):SfT S T w0 w es1 os1:=by
 obtain⟨Sb,wb,i,j,k,t⟩:=h
 exact⟨Sb,wb,i,j.sub f,k.sub f,t.perm g⟩
theorem Bd {Sb:Q2} {wb:World} {o:OE} (f:o.kept Sb wb) (hn:o.ns=true) {b:Nat} (hb:o.blk=some b):b<wb.heap.size/\b ∉ Sb:=
 f.blk (fun v g n cs e=>by rw[e]at hn; cases hn) hb
theorem SfT.frS (h:SfT S T w0 w es os):Fr S w0 w:=by
 obtain⟨Sb,wb,f,i,j,g⟩:=h
 exact (f.st g).fr
theorem SfT.lend (h:SfT S T w0 w es (lent++rest)) (I:TOk S T w0) (hn:∀o∈es,o.ns=true) :
  TOk (dw lent) (T++dw rest) w/\Rds (dw lent) w es/\Off (T++dw rest) es/\St (dw lent) w w lent:=by
 obtain⟨Sb,wb,J,F,K,j⟩:=h
 have z:=J.st j
 have G:=(List.pairwise_append.1 j.dj).2.2
 refine⟨fun b hb=>?_,fun o f=>(F o f).to j.fr fun k N hs hx=>?_,fun o f b hb hx=>?_,j.give⟩
 ·rcases List.mem_append.1 hb with hb | hb
  ·obtain⟨M,t⟩:=I b hb
   refine⟨Nat.lt_of_lt_of_le M z.fr.size,fun hx=>?_⟩
   obtain⟨o,f,i⟩:=ch.1 hx
   rcases ((z.ok o (List.mem_append_left _ f)).lt i).2 with B | B
   ·omega
   ·exact t B
  ·obtain⟨o,f,i⟩:=ch.1 hb
   refine⟨((z.ok o (List.mem_append_right _ f)).lt i).1,fun hx=>?_⟩
   obtain⟨q,A,g⟩:=ch.1 hx
   exact G q A o f b g i
 ·obtain⟨q,A,g⟩:=ch.1 hx
  rcases ((j.ok q (List.mem_append_left _ A)).lt g).2 with h | h
  ·omega
  ·exact hs h
 ·rcases List.mem_append.1 hx with hx | hx
  ·exact K o f b hb hx
  ·obtain⟨q,A,g⟩:=ch.1 hx
   have t:=((j.ok q (List.mem_append_right _ A)).lt g).2
   have B:=Bd (F o f) (hn o f) hb
   rcases t with t | t
   ·omega
   ·exact B.2 t
theorem SfT.unlend (h:SfT S T w0 w es (lent++rest)) (hn:∀o∈es,o.ns=true) (U:∀o∈es1,o.ns=true)
  (K:SfT (dw lent) (T++dw rest) w w' es1 os1):SfT S T w0 w' (es1++es) (os1++rest):=by
 obtain⟨Sb,wb,M,N,O,R⟩:=h
 obtain⟨V,X,F,G,A,j⟩:=K
 have I:=F.st j
 have hb:St Sb wb w' (os1++rest):=R.back I
 have t:=M.st hb
 refine⟨dw (os1++rest),w',⟨t.fr,fun b J=>?_⟩,Rds.app (fun o f=>?_) (fun o f=>?_),Off.app (fun o f b hb hx=>A o f b hb (List.mem_append_left _ hx)) O,
  Fr.refl _ _,fun o f=>(hb.ok o f).re fun k B _=>.inr (ch.2 ⟨o,f,B⟩),hb.dj⟩
 ·obtain⟨o,f,z⟩:=ch.1 J
  exact ((t.ok o f).lt z).2
 ·refine (G o f).to' j.fr fun k B z hs hx=>?_
  obtain⟨q,g,i⟩:=ch.1 hx
  rcases List.mem_append.1 g with g | g
  ·rcases ((j.ok q g).lt i).2 with h | h
   ·omega
   ·exact hs h
  ·exact A o f k z (List.mem_append_right _ (ch.2 ⟨q,g,i⟩))
 ·refine (N o f).to hb.fr fun k B hs hx=>?_
  obtain⟨q,g,i⟩:=ch.1 hx
  rcases ((hb.ok q g).lt i).2 with h | h
  ·omega
  ·exact hs h
end
section
variable {P:Program} {ops:Array Oper} {Q:Exit->Act->World->Prop} {nw:Nat->Bool} {cs:Nat->Option Nat} {ks:Nat->Q2} {xs:Nat->List OE} {bs:Nat->Q2} {S T:Q2} {w0:World} {es os:List OE} {ent:Nat->List Th->Value->List OE->List OE->Prop} {ds:Nat->Q2}
def coM (n:Nat) (cs:Nat->Option Nat) (g:Gt) (j:Nat):List OE:=((List.range n).filter (fun k=>cs k == some j)).flatMap (fun k=>(g k).2.1)
def ckM (ks:Nat->Q2) (g:Gt) (j:Nat):List OE:=(ks j).flatMap (fun k=>(g k).2.2)
def brM (n:Nat) (bs:Nat->Q2) (xs:Nat->List OE) (j:Nat):List OE:=((List.range n).filter (fun k=>(bs j).contains k)).flatMap xs
def TrM (P:Program) (S:Q2) (w0:World) (ops:Array Oper) (es os:List OE) (ent:Nat->List Th->Value->List OE->List OE->Prop) (hs:List Th) (co ck:List OE) (o:Oper) (i:Nat) (a:Act):Prop:=
 Region.wanted o (yielded ops a.tmps)=true/\∀w Sl Tl,Fr S w0 w->TOk Sl Tl w->Rds Sl w (ck++es)->Off Tl (ck++es)->St Sl w w (co++os) ->
  (∃v w' x y,((execOp a.eval o).run P w=.ok (.value v) w'\/v=undef/\(execOp a.eval o).run P w=.ok .skip w')/\ent i hs v x y/\SfT Sl Tl w w' y (x++os)) \/
  ∃f args,(execOp a.eval o).run P w=.ok (.enter f args) w/\Calls P f args w (Ret fun v w'=>∃x y,ent i hs v x y/\SfT Sl Tl w w' y (x++os))
theorem TrM.of_same {hs:List Th} {g ck:List OE} {o:Oper} {i:Nat} {a f:Act} (hy:TrM P S w0 ops es os ent hs g ck o i a) (he:execOp f.eval o=execOp a.eval o)
  (h:Region.wanted o (yielded ops f.tmps)=Region.wanted o (yielded ops a.tmps)):TrM P S w0 ops es os ent hs g ck o i f:=by
 unfold TrM at *
 rw[he,h]
 exact hy
def lxM (P:Program) (ops:Array Oper) (Q:Exit->Act->World->Prop) (nw:Nat->Bool) (cs:Nat->Option Nat) (ks:Nat->Q2) (xs:Nat->List OE) (bs ds:Nat->Q2) (S T:Q2) (w0:World) (es os:List OE) (ent:Nat->List Th->Value->List OE->List OE->Prop):Q2->Gt->Act->Prop
 | [],g,a=>∀w,SfT S T w0 w (((List.range ops.size).filter nw).flatMap (fun k=>(g k).2.2)++es) (((List.range ops.size).filter (fun k=>nw k&&cs k == none)).flatMap (fun k=>(g k).2.1)++os)->Q .normal a w
 | i :: r,g,a=>match ops[i]? with
  | none=>lxM P ops Q nw cs ks xs bs ds S T w0 es os ent r g a
  | some o=>if nw i then TrM P S w0 ops es (brM ops.size bs xs i++os) ent ((ds i).map g) (coM ops.size cs g i++xs i) (ckM ks g i) o i a/\(∃v x y,ent i ((ds i).map g) v x y)/\∀v x y,ent i ((ds i).map g) v x y->lxM P ops Q nw cs ks xs bs ds S T w0 es os ent r (fk g i (v,x,y)) (a.put o.dst v)
   else ∃v,Ins P ops (fun w=>SfT S T w0 w es os) o v a/\lxM P ops Q nw cs ks xs bs ds S T w0 es os ent r g (a.put o.dst v)
theorem xG {n i j:Nat} {g:Gt} {v:Th} (h:cs i≠some j):coM n cs (fk g i v) j=coM n cs g j:=by
 unfold coM
 refine ki fun k o=>?_
 have t:cs k=some j:=by simpa using (List.mem_filter.1 o).2
 have f:k≠i:=fun e=>h (by rw[<-e]; exact t)
 rw[kk f]
theorem xF {i j:Nat} {g:Gt} {v:Th} (h:i ∉ ks j):ckM ks (fk g i v) j=ckM ks g j:=by
 unfold ckM
 refine ki fun k o=>?_
 have f:k≠i:=fun e=>h (by rw[<-e]; exact o)
 rw[kk f]
theorem mo {i j:Nat} {g:Gt} {v:Th} (h:i ∉ ds j):(ds j).map (fk g i v)=(ds j).map g:=by
 refine List.map_congr_left fun k o=>?_
 have f:k≠i:=fun e=>h (by rw[<-e]; exact o)
 rw[kk f]
theorem Be (hs:mR ops) (Y:∃w,SfT S T w0 w es os) {i j:Nat} {r:Q2} {g:Gt} {a:Act}
  (Z:∀k f,ops[i]? = some k->ops[j]? = some f->k.apart ops f=true) (R:cs i≠some j/\cs j≠some i) (U:i ∉ ks j/\j ∉ ks i) (t:i ∉ ds j/\j ∉ ds i) (ab:i≠j)
  (h:lxM P ops Q nw cs ks xs bs ds S T w0 es os ent (i :: j :: r) g a):lxM P ops Q nw cs ks xs bs ds S T w0 es os ent (j :: i :: r) g a:=by
 cases hi:ops[i]? with
 | none=>
  simp only[lxM,hi]at h
  cases hj:ops[j]? with
  | none=>simp only[lxM,hi,hj]at h ⊢; exact h
  | some f=>simp only[lxM,hi,hj]at h ⊢; exact h
 | some k=>
  cases hj:ops[j]? with
  | none=>simp only[lxM,hi,hj]at h ⊢; exact h
  | some f=>
   obtain⟨A,N,B⟩:=Oper.apart_spec (Z k f hi hj)
   have I:=fun cs b=>hs i k cs b hi
   have J:=fun cs b=>hs j f cs b hj
   simp only[lxM,hi,hj]at h ⊢
   by_cases hni:nw i=true
   ·rw[if_pos hni]at h
    obtain⟨O,K,o⟩:=h
    by_cases hnj:nw j=true
    ·simp only[hni,hnj,if_true]at o ⊢
     obtain⟨F,x0,y0,z⟩:=K
     have h0:=(o F x0 y0 z).1
     have V:=(o F x0 y0 z).2.1
     rw[xG R.1,xF U.1,mo t.1]at h0
     rw[mo t.1]at V
     refine⟨h0.of_same (execOp_put f J a k.dst F A).symm (wanted_put f a k.dst F A).symm,V,fun v x y he=>⟨?_,?_,fun u x' y' X=>?_⟩⟩
     ·rw[xG R.2,xF U.2,mo t.2]; exact O.of_same (execOp_put k I a f.dst v B) (wanted_put k a f.dst v B)
     ·rw[mo t.2]; exact⟨F,x0,y0,z⟩
     rw[mo t.2]at X
     have:=(o u x' y' X).2.2 v x y (by rw[mo t.1]; exact he)
     rw[zX ab]at this
     rw[<-Act.put_comm a u v N]; exact this
    ·simp only[hni,hnj,if_true,if_false]at o ⊢
     have get:∀u x y,ent i ((ds i).map g) u x y->∃v,Ins P ops (fun w=>SfT S T w0 w es os) f v a/\lxM P ops Q nw cs ks xs bs ds S T w0 es os ent r (fk g i (u,x,y)) ((a.put k.dst u).put f.dst v):=fun u x y he=>by
      obtain⟨v,G,M⟩:=o u x y he
      exact⟨v,G.of_same (execOp_put f J a k.dst u A).symm (wanted_put f a k.dst u A).symm,M⟩
     obtain⟨F,x0,y0,z⟩:=K
     obtain⟨v,G,_⟩:=get F x0 y0 z
     refine⟨v,G,?_⟩
     refine⟨O.of_same (execOp_put k I a f.dst v B) (wanted_put k a f.dst v B),⟨F,x0,y0,z⟩,fun u x y he=>?_⟩
     obtain⟨v',ap,M⟩:=get u x y he
     obtain⟨w,hw⟩:=Y
     have:v'=v:=Ins.unique (w:=w) hw ap G
     subst this
     rw[<-Act.put_comm a u v' N]; exact M
   ·rw[if_neg hni]at h
    obtain⟨v,G,h⟩:=h
    by_cases hnj:nw j=true
    ·simp only[hni,hnj,if_true,if_false]at h ⊢
     obtain⟨O,K,o⟩:=h
     refine⟨O.of_same (execOp_put f J a k.dst v A).symm (wanted_put f a k.dst v A).symm,K,fun u x y he=>⟨v,G.of_same (execOp_put k I a f.dst u B) (wanted_put k a f.dst u B),?_⟩⟩
     rw[<-Act.put_comm a v u N]; exact o u x y he
    ·simp only[hni,hnj,if_false]at h ⊢
     obtain⟨u,hu,M⟩:=h
     refine⟨u,hu.of_same (execOp_put f J a k.dst v A).symm (wanted_put f a k.dst v A).symm,v,G.of_same (execOp_put k I a f.dst u B) (wanted_put k a f.dst u B),?_⟩
     rw[<-Act.put_comm a v u N]; exact M
theorem sN (hs:mR ops) (o:∃w,SfT S T w0 w es os) {j:Nat}:∀(l1 f:Q2) (g:Gt) (a:Act),(∀i∈l1,i≠j/\(cs i≠some j/\cs j≠some i)/\(i ∉ ks j/\j ∉ ks i)/\(i ∉ ds j/\j ∉ ds i)/\∀t A,ops[i]? = some t->ops[j]? = some A->t.apart ops A=true) ->
   lxM P ops Q nw cs ks xs bs ds S T w0 es os ent (l1++j :: f) g a->lxM P ops Q nw cs ks xs bs ds S T w0 es os ent (j :: (l1++f)) g a
 | [],_,_,_,_,h=>h
 | i :: l1,f,g,a,hall,h=>by
  have z:∀g a,lxM P ops Q nw cs ks xs bs ds S T w0 es os ent (l1++j :: f) g a->lxM P ops Q nw cs ks xs bs ds S T w0 es os ent (j :: (l1++f)) g a:=fun g a h=>
   sN hs o l1 f g a (fun k B=>hall k (by simp[B])) h
  have F:lxM P ops Q nw cs ks xs bs ds S T w0 es os ent (i :: j :: (l1++f)) g a:=by
   rw[List.cons_append]at h
   cases hi:ops[i]? with
   | none=>
    unfold lxM at h ⊢
    simp only[hi]at h ⊢
    exact z _ _ h
   | some t=>
    unfold lxM at h ⊢
    simp only[hi]at h ⊢
    by_cases hn:nw i=true
    ·rw[if_pos hn]at h ⊢
     exact⟨h.1,h.2.1,fun v x y he=>z _ _ (h.2.2 v x y he)⟩
    ·rw[if_neg hn]at h ⊢
     obtain⟨v,G,h⟩:=h
     exact⟨v,G,z _ _ h⟩
  have hi:=hall i (by simp)
  exact Be hs o hi.2.2.2.2 hi.2.1 hi.2.2.1 hi.2.2.2.1 hi.1 F
theorem ut {n:Nat} {nw:Nat->Bool} {g:Gt} {listed:Array Bool} {k:Nat} (f:k<n) (hn:nw k=true) (hl:listed.getD k false=true) {o:OE} (h:o∈(g k).2.2) :
  o∈((List.range n).filter (fun k=>nw k&&listed.getD k false)).flatMap (fun k=>(g k).2.2):=
 List.mem_flatMap.2 ⟨k,List.mem_filter.2 ⟨List.mem_range.2 f,by rw[hn,hl]; rfl⟩,h⟩
theorem CC {α:Type} (A B C D E:List α):((A++B)++((C++D)++E)).Perm (((A++C)++E)++(B++D)):=by
 simp only[List.append_assoc]
 refine List.Perm.append_left A ?_
 refine (List.perm_append_comm_assoc B C (D++E)).trans (List.Perm.append_left C ?_)
 rw[<-List.append_assoc]
 exact List.perm_append_comm
theorem zG {α:Type} (A E B D:List α):((A++E)++(B++D)).Perm ((A++B)++(D++E)):=by
 simp only[List.append_assoc]
 refine List.Perm.append_left A ?_
 refine List.perm_append_comm.trans ?_
 rw[List.append_assoc]
theorem A4 {α:Type} (A B C f g E:List α):((A++B)++((C++(f++g))++E)).Perm (((A++C)++(f++E))++(B++g)):=by
 have h:=CC A B (C++f) g E
 simp only[List.append_assoc]at h ⊢
 exact h
theorem zv {α:Type} (A B f g E:List α):((A++(f++E))++(B++g)).Perm ((A++B)++((f++g)++E)):=by
 refine (zG A (f++E) B g).trans ?_
 rw[List.append_assoc f]
 exact (List.perm_append_comm_assoc g f E).append_left _
theorem nZ (co:∀c k,c<ops.size->k∈bs c->k<ops.size/\dh ops ops.size k c=true) (cr:∀k,nw k=false->xs k=[]) (hT:TOk S T w0) (a3:∀o∈es,o.ns=true) (ct:∀i h v x y,ent i h v x y->∀o∈y,o.ns=true) (hs:mR ops)
  (O:∀k c,k<ops.size->cs k=some c->nw k=true/\c<ops.size/\nw c=true/\dh ops ops.size c k=true) (G:∀c oc,ops[c]? = some oc->∀k,dh ops ops.size c k=true->k<c)
  (Z:∀c k,c<ops.size->k∈ks c->k<ops.size/\nw k=true/\dh ops ops.size c k=true) (b6:∀c k,c<ops.size->k∈ds c->dh ops ops.size c k=true)
  (b3:∀j V,ops[j]? = some V->∀e∈V.after,Region.binds .any e=true->e.on<j)
  (b4:∀i j,i<j->j<ops.size->dh ops ops.size j i=false->∀oi V,ops[i]? = some oi->ops[j]? = some V->oi.apart ops V=true) :
  ∀(m:Nat) (l:Q2) (listed:Array Bool) (g:Gt) (a:Act) (w:World),l.length=m->l.Pairwise (·<·)->listed.size=ops.size->closed ops listed ->
   (∀i,i∈l↔i<ops.size/\listed.getD i true=false)->(∀k,nw k=true->listed.getD k false=true->∀o∈(g k).2.2,o.ns=true) ->
   SfT S T w0 w (((List.range ops.size).filter (fun k=>nw k&&listed.getD k false)).flatMap (fun k=>(g k).2.2)++es) (((List.range ops.size).filter (d8 nw cs listed)).flatMap (fun i=>(g i).2.1)++(((List.range ops.size).filter (fun k=>!listed.getD k false)).flatMap xs++os)) ->
   lxM P ops Q nw cs ks xs bs ds S T w0 es os ent l g a->wpAny P .any ops Q m listed a w
 | 0,l,listed,g,a,w,hm,_,hsz,_,hmem,hgn,hS,h=>by
  have hl:l=[]:=List.eq_nil_of_length_eq_zero hm
  subst hl
  have A:∀k,k<ops.size->listed.getD k false=true:=fun k t=>by
   cases hl:listed.getD k false with
   | true=>rfl
   | false=>
    have Z:k<listed.size:=by omega
    have:k∈([]:Q2):=(hmem k).2 ⟨t,by simp[Z]at hl ⊢; exact hl⟩
    cases this
  refine⟨?_,?_⟩
  ·refine List.eq_nil_iff_forall_not_mem.2 fun i hi=>?_
   obtain⟨ab,o,ey,_⟩:=mem_ready.1 hi
   have:=(hmem i).2 ⟨(Array.getElem?_eq_some_iff.1 ey).1,ab⟩
   cases this
  ·have e:(List.range ops.size).filter (d8 nw cs listed)=(List.range ops.size).filter (fun k=>nw k&&cs k == none):=by
    refine List.filter_congr fun k t=>?_
    have t:=List.mem_range.1 t
    unfold d8
    rw[A k t,Bool.and_true]
    cases hc:cs k with
    | none=>rfl
    | some c=>
     show (nw k&&!listed.getD c false)=(nw k&&(some c == none))
     rw[A c (O k c t hc).2.1]; rfl
   have e2:(List.range ops.size).filter (fun k=>nw k&&listed.getD k false)=(List.range ops.size).filter nw:=by
    refine List.filter_congr fun k t=>?_
    rw[A k (List.mem_range.1 t),Bool.and_true]
   have e3:(List.range ops.size).filter (fun k=>!listed.getD k false)=[]:=by
    refine List.filter_eq_nil_iff.2 fun k t=>?_
    rw[A k (List.mem_range.1 t)]; simp
   rw[e,e2,e3]at hS
   exact h w hS
 | m+1,l,listed,g,a,w,hm,hsort,hsz,hcl,hmem,hgn,hS,h=>by
  refine⟨fun ed=>?_,fun j hj=>?_⟩
  ·exfalso
   cases l with
   | nil=>simp at hm
   | cons i r=>
    obtain⟨M,ab⟩:=(hmem i).1 (by simp)
    have hi:i∈Region.ready .any ops listed:=by
     refine mem_ready.2 ⟨ab,ops[i],by simp[M],fun e he hb=>?_⟩
     have Y:=b3 i ops[i] (by simp[M]) e he hb
     cases hl:listed.getD e.on false with
     | true=>rfl
     | false=>
      have a3:e.on<listed.size:=by rw[hsz]; omega
      have eC:listed.getD e.on true=false:=by simp[a3]at hl ⊢; exact hl
      have eT:=(hmem e.on).2 ⟨by omega,eC⟩
      rcases List.mem_cons.1 eT with h1 | h1
      ·omega
      ·have:=(List.pairwise_cons.1 hsort).1 e.on h1
       omega
    rw[ed]at hi
    cases hi
  ·obtain⟨ab,V,U,A⟩:=mem_ready.1 hj
   have B:j<ops.size:=(Array.getElem?_eq_some_iff.1 U).1
   have eU:j∈l:=(hmem j).2 ⟨B,ab⟩
   obtain⟨l1,l2,rfl⟩:=List.append_of_mem eU
   have Y:∀i∈l1,i<j:=fun i hi=>(List.pairwise_append.1 hsort).2.2 i hi j (by simp)
   have c0:∀i∈l1++l2,dh ops ops.size j i=false:=fun i hi=>by
    cases hr:dh ops ops.size j i with
    | false=>rfl
    | true=>
     have I:=d9 hcl ops.size j i V U A hr
     have h3:=(hmem i).1 (by rcases List.mem_append.1 hi with h | h <;> simp[h])
     rw[Array.getD_eq_getD_getElem?]at I
     have h4:=h3.2
     rw[Array.getD_eq_getD_getElem?]at h4
     have:i<listed.size:=by rw[hsz]; exact h3.1
     simp[this]at I h4
     rw[I]at h4; cases h4
   have e0:∀i∈l1,cs i≠some j/\cs j≠some i:=fun i hi=>by
    have M:=((hmem i).1 (by simp[hi])).1
    refine⟨fun hc=>?_,fun hc=>?_⟩
    ·have:=(O i j M hc).2.2.2
     rw[c0 i (by simp[hi])]at this; cases this
    ·obtain⟨_,N,_,J⟩:=O j i B hc
     have:=G i ops[i] (by simp[N]) j J
     have:=Y i hi; omega
   have e1:∀i∈l1,i ∉ ks j/\j ∉ ks i:=fun i hi=>by
    have M:=((hmem i).1 (by simp[hi])).1
    refine⟨fun hc=>?_,fun hc=>?_⟩
    ·have:=(Z j i B hc).2.2
     rw[c0 i (by simp[hi])]at this; cases this
    ·have J:=(Z i j M hc).2.2
     have:=G i ops[i] (by simp[M]) j J
     have:=Y i hi; omega
   have e6:∀i∈l1,i ∉ ds j/\j ∉ ds i:=fun i hi=>by
    have M:=((hmem i).1 (by simp[hi])).1
    refine⟨fun hc=>?_,fun hc=>?_⟩
    ·have:=b6 j i B hc
     rw[c0 i (by simp[hi])]at this; cases this
    ·have J:=b6 i j M hc
     have:=G i ops[i] (by simp[M]) j J
     have:=Y i hi; omega
   have h1:=sN hs ⟨w,hS.tail.tail' ⟩ l1 l2 g a (fun i hi=>⟨Nat.ne_of_lt (Y i hi),e0 i hi,e1 i hi,e6 i hi,fun oi e7 e9 ei=>by
    refine b4 i j (Y i hi) B ?_ oi e7 e9 ei
    cases hr:dh ops ops.size j i with
    | false=>rfl
    | true=>
     have I:=d9 hcl ops.size j i V U A hr
     have h3:=((hmem i).1 (by simp[hi])).2
     rw[Array.getD_eq_getD_getElem?]at I h3
     have:i<listed.size:=by rw[hsz]; exact Nat.lt_trans (Y i hi) B
     simp[this]at I h3
     rw[I]at h3; cases h3⟩) h
   have a5:(l1++l2).Pairwise (·<·):=by
    refine hsort.sublist ?_
    exact List.Sublist.append_left (List.sublist_cons_self j l2) l1
   have c1:(l1++l2).length=m:=by simp at hm ⊢; omega
   have c2:closed ops (listed.setIfInBounds j true):=by
    intro k ok t hl e he hb
    by_cases hkj:j=k
    ·subst hkj
     have:ok=V:=Option.some.inj (t.symm.trans U)
     subst this
     exact getD_set_true (A e he hb)
    ·rw[getD_set_ne false hkj]at hl
     exact getD_set_true (hcl k ok t hl e he hb)
   have fd:j ∉ l1++l2:=by
    intro hx
    rcases List.mem_append.1 hx with hx | hx
    ·exact absurd (Y j hx) (Nat.lt_irrefl _)
    ·have:=(List.pairwise_append.1 hsort).2.1
     have:=(List.pairwise_cons.1 this).1 j hx
     exact absurd this (Nat.lt_irrefl _)
   have b7:∀i,i∈l1++l2↔i<ops.size/\(listed.setIfInBounds j true).getD i true=false:=by
    intro i
    by_cases hij:j=i
    ·subst hij
     constructor
     ·intro hx; exact absurd hx fd
     ·intro hx
      have:=jZ (listed:=listed) (i:=j) (by rw[hsz]; exact B) true
      rw[this]at hx; cases hx.2
    ·rw[getD_set_ne true hij,<-hmem i]
     simp only[List.mem_append,List.mem_cons]
     constructor
     ·rintro (hx | hx)
      ·exact .inl hx
      ·exact .inr (.inr hx)
     ·rintro (hx | hx | hx)
      ·exact .inl hx
      ·exact absurd hx.symm hij
      ·exact .inr hx
   have a6:listed.getD j false=false:=by
    have:j<listed.size:=by omega
    simp[this]at ab ⊢; exact ab
   have F:∀k,(listed.setIfInBounds j true).getD k false=if k=j then true else listed.getD k false:=fun k=>by
    by_cases hkj:k=j
    ·subst hkj; rw[if_pos rfl]; exact jZ (by omega) false
    ·rw[if_neg hkj,getD_set_ne false (fun e=>hkj e.symm)]
   have c3:listed.getD j false=false:=a6
   have hX:(((List.range ops.size).filter (fun k=>!listed.getD k false)).flatMap xs).Perm (xs j++((List.range ops.size).filter (fun k=>!(listed.setIfInBounds j true).getD k false)).flatMap xs):=by
    have ac:=j9 (p:=fun k=>!listed.getD k false) (q:=fun k=>k == j) (List.range ops.size)
    rw[uQ B (by rw[c3]; rfl)]at ac
    have e4:(List.range ops.size).filter (fun k=>!listed.getD k false&&!(k == j))=(List.range ops.size).filter (fun k=>!(listed.setIfInBounds j true).getD k false):=by
     refine List.filter_congr fun k t=>?_
     rw[F]
     by_cases hkj:k=j
     ·subst hkj; simp
     ·rw[if_neg hkj]; simp[hkj]
    rw[e4]at ac
    have h8:=ac.flatMap_right (f:=xs)
    rw[List.flatMap_append]at h8
    simpa using h8
   obtain⟨X,b8⟩:∃X,((List.range ops.size).filter (fun k=>!(listed.setIfInBounds j true).getD k false)).flatMap xs=X:=⟨_,rfl⟩
   rw[b8]at hX
   have fm:∀k,(bs j).contains k=true->k<ops.size/\listed.getD k false=false/\k≠j:=fun k t=>by
    have fn:k∈bs j:=by simpa using t
    obtain⟨N,J⟩:=co j k B fn
    refine⟨N,?_,fun e=>?_⟩
    ·cases hl:listed.getD k false with
     | false=>rfl
     | true=>
      have h7:=d9 hcl ops.size k j ops[k] (by simp[N]) (fun e he hb=>hcl k ops[k] (by simp[N]) hl e he hb) J
      rw[c3]at h7; cases h7
    ·have:=G k ops[k] (by simp[N]) j J
     omega
   obtain⟨X2,d4⟩:∃X2,X.Perm (brM ops.size bs xs j++X2):=by
    have ac:=j9 (p:=fun k=>!(listed.setIfInBounds j true).getD k false) (q:=fun k=>(bs j).contains k) (List.range ops.size)
    have e5:(List.range ops.size).filter (fun k=>!(listed.setIfInBounds j true).getD k false&&(bs j).contains k)=(List.range ops.size).filter (fun k=>(bs j).contains k):=by
     refine List.filter_congr fun k t=>?_
     cases hq:(bs j).contains k with
     | false=>rw[Bool.and_false]
     | true=>
      obtain⟨_,J,h7⟩:=fm k hq
      rw[F,if_neg h7,J]; rfl
    rw[e5]at ac
    have h8:=ac.flatMap_right (f:=xs)
    rw[List.flatMap_append,b8]at h8
    exact⟨_,h8⟩
   simp only[lxM,U]at h1
   by_cases hn:nw j=true
   ·rw[if_pos hn]at h1
    obtain⟨⟨hw,ek⟩,_,d1⟩:=h1
    obtain⟨R,hR⟩:∃R,(List.range ops.size).filter (fun k=>d8 nw cs listed k&&!(cs k == some j))=R:=⟨_,rfl⟩
    have fs:(List.range ops.size).filter (fun k=>d8 nw cs listed k&&cs k == some j)=(List.range ops.size).filter (fun k=>cs k == some j):=by
     refine List.filter_congr fun k t=>?_
     have t:=List.mem_range.1 t
     by_cases hc:cs k=some j
     ·obtain⟨h3,_,_,h4⟩:=O k j t hc
      have N:listed.getD k false=true:=by
       have I:=d9 hcl ops.size j k V U A h4
       rw[Array.getD_eq_getD_getElem?]at I ⊢
       have:k<listed.size:=by omega
       simp[this]at I ⊢; exact I
      have:d8 nw cs listed k=true:=by unfold d8; rw[h3,N,hc]; simp[a6]
      simp[this,hc]
     ·simp[hc]
    have hp:=j9 (p:=d8 nw cs listed) (q:=fun k=>cs k == some j) (List.range ops.size)
    rw[fs,hR]at hp
    obtain⟨K,hK⟩:∃K,((List.range ops.size).filter (fun k=>nw k&&listed.getD k false)).flatMap (fun k=>(g k).2.2)=K:=⟨_,rfl⟩
    have d5:∀o∈K++es,o.ns=true:=fun o z=>by
     rcases List.mem_append.1 z with z | z
     ·rw[<-hK]at z
      obtain⟨k,t,z⟩:=List.mem_flatMap.1 z
      have:=(List.mem_filter.1 t).2
      simp only[Bool.and_eq_true]at this
      exact hgn k this.1 this.2 o z
     ·exact a3 o z
    rw[hK]at hS
    have c5:SfT S T w0 w (K++es) ((coM ops.size cs g j++xs j++(brM ops.size bs xs j++os))++(R.flatMap (fun i=>(g i).2.1)++X2)):=by
     refine hS.perm (fun o z=>z) ?_
     have I:((List.range ops.size).filter (d8 nw cs listed)).flatMap (fun i=>(g i).2.1) |>.Perm (coM ops.size cs g j++R.flatMap (fun i=>(g i).2.1)):=by
      have:=hp.flatMap_right (f:=fun i=>(g i).2.1)
      rw[List.flatMap_append]at this
      exact this
     exact (I.append ((hX.trans (d4.append_left _)).append_right os)).trans (A4 _ _ _ _ _ _)
    obtain⟨fB,fP,f0,f1⟩:=c5.lend hT d5
    have c6:∀o∈ckM ks g j++es,o∈K++es:=fun o z=>by
     rcases List.mem_append.1 z with z | z
     ·refine List.mem_append_left _ ?_
      obtain⟨k,t,z⟩:=List.mem_flatMap.1 z
      obtain⟨N,J,h7⟩:=Z j k B t
      have I:=d9 hcl ops.size j k V U A h7
      rw[<-hK]
      exact ut N J I z
     ·exact List.mem_append_right _ z
    have f2:∀c,cs j=some c->listed.getD c false=false:=fun c hc=>by
     obtain⟨_,N,_,J⟩:=O j c B hc
     cases hl:listed.getD c false with
     | false=>rfl
     | true=>
      have h7:=d9 hcl ops.size c j ops[c] (by simp[N]) (fun e he hb=>hcl c ops[c] (by simp[N]) hl e he hb) J
      rw[a6]at h7; cases h7
    have f3:∀k∈R,k≠j:=fun k t e=>by
     rw[<-hR]at t
     have:=(List.mem_filter.1 t).2
     rw[e]at this
     unfold d8 at this
     rw[a6]at this
     simp at this
    have f4:∀v,((List.range ops.size).filter (d8 nw cs (listed.setIfInBounds j true))).flatMap (fun i=>(fk g j v i).2.1) |>.Perm (v.2.1++R.flatMap (fun i=>(g i).2.1)):=fun v=>by
     have dc:=j9 (p:=d8 nw cs (listed.setIfInBounds j true)) (q:=fun k=>k == j) (List.range ops.size)
     have f5:d8 nw cs (listed.setIfInBounds j true) j=true:=by
      unfold d8
      rw[hn,F,if_pos rfl]
      cases hc:cs j with
      | none=>rfl
      | some c=>
       have b5:c≠j:=fun e=>by
        obtain⟨_,N,_,J⟩:=O j c B hc
        have:=G c ops[c] (by simp[N]) j J
        omega
       simp only[F,if_neg b5,f2 c hc]; rfl
     rw[uQ B f5]at dc
     have d3:(List.range ops.size).filter (fun k=>d8 nw cs (listed.setIfInBounds j true) k&&!(k == j))=R:=by
      rw[<-hR]
      refine List.filter_congr fun k t=>?_
      by_cases hkj:k=j
      ·subst hkj
       have:d8 nw cs listed k=false:=by unfold d8; rw[a6]; simp
       simp[this]
      ·unfold d8
       rw[F,if_neg hkj]
       cases hc:cs k with
       | none=>simp[hkj]
       | some c=>
        by_cases hcj2:c=j
        ·subst hcj2; simp only[F,if_true]; simp
        ·simp only[F,if_neg hcj2]
         have:(some c == some j)=false:=by simp[hcj2]
         simp[this,hkj]
     rw[d3]at dc
     have h8:=dc.flatMap_right (f:=fun i=>(fk g j v i).2.1)
     rw[List.flatMap_append]at h8
     refine h8.trans (List.Perm.of_eq ?_)
     simp only[List.flatMap_cons,List.flatMap_nil,List.append_nil]
     rw[om]
     congr 1
     refine ki fun k t=>?_
     rw[kk (f3 k t)]
    have f6:∀v:Th,∀o∈((List.range ops.size).filter (fun k=>nw k&&(listed.setIfInBounds j true).getD k false)).flatMap (fun k=>(fk g j v k).2.2)++es,o∈v.2.2++(K++es):=fun v o z=>by
     rcases List.mem_append.1 z with z | z
     ·obtain⟨k,t,z⟩:=List.mem_flatMap.1 z
      obtain⟨ga,b9⟩:=List.mem_filter.1 t
      simp only[Bool.and_eq_true]at b9
      by_cases hkj:k=j
      ·subst hkj; rw[om]at z; exact List.mem_append_left _ z
      ·rw[kk hkj]at z
       rw[F,if_neg hkj]at b9
       refine List.mem_append_right _ (List.mem_append_left _ ?_)
       rw[<-hK]
       exact ut (List.mem_range.1 ga) b9.1 b9.2 z
     ·exact List.mem_append_right _ (List.mem_append_right _ z)
    have er:∀v:Th,(∀o∈v.2.2,o.ns=true)->∀k,nw k=true->(listed.setIfInBounds j true).getD k false=true->∀o∈(fk g j v k).2.2,o.ns=true:=fun v hv k t hl o z=>by
     by_cases hkj:k=j
     ·subst hkj; rw[om]at z; exact hv o z
     ·rw[kk hkj]at z
      rw[F,if_neg hkj]at hl
      exact hgn k t hl o z
    unfold wpOp
    simp only[U]
    rw[if_pos hw]
    left
    have go:∀v x y w',ent j ((ds j).map g) v x y->SfT (dw (coM ops.size cs g j++xs j++(brM ops.size bs xs j++os))) (T++dw (R.flatMap (fun i=>(g i).2.1)++X2)) w w' y (x++(brM ops.size bs xs j++os))->wpAny P .any ops Q m (listed.setIfInBounds j true) (a.put V.dst v) w':=fun v x y w' he ad=>by
     have d6:=ct j _ v x y he
     have h9:=c5.unlend d5 d6 ad
     refine nZ co cr hT a3 ct hs O G Z b6 b3 b4 m (l1++l2) _ (fk g j (v,x,y)) _ w' c1 a5 (by simp[hsz]) c2 b7 (er (v,x,y) d6) ?_ (d1 v x y he)
     refine h9.perm (f6 (v,x,y)) ?_
     rw[b8]
     refine List.Perm.trans ?_ ((f4 (v,x,y)).append_right (X++os)).symm
     exact (zv _ _ _ _ _).trans ((d4.symm.append_right os).append_left _)
    rcases ek w _ _ c5.frS fB (fP.sub c6) (f0.sub c6) f1 with⟨v,w',x,y,hr | ⟨rfl,hr⟩,he,ad⟩ | ⟨f,args,hr,hC⟩
    ·unfold Oper.wp
     rw[hr]
     exact go v x y w' he ad
    ·unfold Oper.wp
     rw[hr]
     exact go undef x y w' he ad
    ·unfold Oper.wp
     rw[hr]
     refine Calls.mono hC fun e w' he=>?_
     cases e with
     | returned v=>obtain⟨x,y,he,ad⟩:=he; exact go v x y w' he ad
     | panicked c=>exact he.elim
     | outgrown=>exact he.elim
   ·rw[if_neg hn]at h1
    obtain⟨v,hv,I⟩:=h1
    have b2:nw j=false:=by simpa using hn
    have gb:(List.range ops.size).filter (d8 nw cs (listed.setIfInBounds j true))=(List.range ops.size).filter (d8 nw cs listed):=by
     refine List.filter_congr fun k t=>?_
     have t:=List.mem_range.1 t
     unfold d8
     rw[F]
     by_cases hkj:k=j
     ·subst hkj; rw[b2]; rfl
     ·rw[if_neg hkj]
      cases hc:cs k with
      | none=>rfl
      | some c=>
       have b5:c≠j:=fun e=>by
        have:=(O k c t hc).2.2.1
        rw[e,b2]at this; cases this
       simp only[F,if_neg b5]
    have gs:(List.range ops.size).filter (fun k=>nw k&&(listed.setIfInBounds j true).getD k false)=(List.range ops.size).filter (fun k=>nw k&&listed.getD k false):=by
     refine List.filter_congr fun k t=>?_
     rw[F]
     by_cases hkj:k=j
     ·subst hkj; rw[b2]; rfl
     ·rw[if_neg hkj]
    have ih:wpAny P .any ops Q m (listed.setIfInBounds j true) (a.put V.dst v) w:=
     nZ co cr hT a3 ct hs O G Z b6 b3 b4 m (l1++l2) _ g _ w c1 a5 (by simp[hsz]) c2 b7 (fun k t hl=>by
      rw[F]at hl
      by_cases hkj:k=j
      ·subst hkj; rw[b2]at t; cases t
      ·rw[if_neg hkj]at hl; exact hgn k t hl) (by rw[gb,gs,b8]; rw[cr j b2,List.nil_append]at hX; exact hS.perm (fun o z=>z) ((hX.append_right os).append_left _)) I
    unfold wpOp
    simp only[U]
    rcases hv with⟨hw,hv⟩ | ⟨hw,rfl⟩
    ·rw[if_pos hw]
     left
     unfold Oper.wp
     rw[hv w hS.tail.tail']
     exact ih
    ·rw[if_neg (by rw[hw]; simp)]
     exact ih
variable {n:Nat} {L:Env}
def fj (P:Program) (n:Nat) (ops:Array Oper) (Q:Exit->Act->World->Prop) (nw:Nat->Bool) (cs:Nat->Option Nat) (ks:Nat->Q2) (xs:Nat->List OE) (bs ds:Nat->Q2) (S T:Q2) (w0:World) (es os:List OE) (ent:Nat->List Th->Value->List OE->List OE->Prop) (l:Q2) (g:Gt) (L:Env):Prop:=
 ∀a,Rep n L a->lxM P ops Q nw cs ks xs bs ds S T w0 es os ent l g a
theorem ji {g:Gt} (h:∀w,SfT S T w0 w (((List.range ops.size).filter nw).flatMap (fun k=>(g k).2.2)++es) (((List.range ops.size).filter (fun k=>nw k&&cs k == none)).flatMap (fun k=>(g k).2.1)++os)->QE n Q .normal L w):fj P n ops Q nw cs ks xs bs ds S T w0 es os ent [] g L:=
 fun a ha w f=>h w f a ha
theorem cG {i:Nat} {r:Q2} {g:Gt} {d:Nat} {f:Op} {ty:TypeId} {pos:String} {after:Array Edge} {v:Value} (k:ops[i]? = some ⟨some d,f,ty,pos,after,none⟩) (o:nw i=false)
  (t:∀w Sb wb,Fz S w0 Sb wb->Rds Sb wb es->Off T es->St Sb wb w os->OpV P n L w ⟨some d,f,ty,pos,after,none⟩ v w) (z:Nat.blt d n=true) (h:fj P n ops Q nw cs ks xs bs ds S T w0 es os ent r g ((d,v) :: L)):fj P n ops Q nw cs ks xs bs ds S T w0 es os ent (i :: r) g L:=fun a ha=>by
 simp only[lxM,k,o,Bool.false_eq_true,if_false]
 refine⟨v,.inl ⟨by simp[Region.wanted],fun w' j=>?_⟩,h _ (ha.put z)⟩
 obtain⟨Sb,wb,A,B,F,G⟩:=j
 exact t w' Sb wb A B F G a ha
def ru (ops:Array Oper) (nw:Nat->Bool) (n:Nat):Nat->Env->Q2->Option (Env×Q2)
 | 0,L,l=>some (L,l)
 | m+1,L,i :: l=>match ops[i]? with
  | some ⟨some d,op,_,_,_,none⟩=>bif !nw i&&Nat.blt d n then (match lA L op with
   | some v=>ru ops nw n m ((d,v) :: L) l
   | none=>none) else none
  | _=>none
 | _+1,_,[]=>none
theorem eB {g:Gt}:∀(m:Nat) {L f:Env} {l l':Q2},ru ops nw n m L l=some (f,l')->fj P n ops Q nw cs ks xs bs ds S T w0 es os ent l' g f->fj P n ops Q nw cs ks xs bs ds S T w0 es os ent l g L
 | 0,L,f,l,l',h,k=>by simp only[ru]at h; cases h; exact k
 | m+1,L,f,[],l',h,k=>by simp[ru]at h
 | m+1,L,f,i :: l,l',h,k=>by
  simp only[ru]at h
  split at h
  ·rename_i d j ty pos after o
   cases hb:!nw i&&Nat.blt d n with
   | false=>rw[hb]at h; cases h
   | true=>
    rw[hb]at h
    simp only[cond_true]at h
    rw[Bool.and_eq_true]at hb
    cases hv:lA L j with
    | none=>rw[hv]at h; cases h
    | some v=>rw[hv]at h; exact cG o (by simpa using hb.1) (fun w _ _ _ _ _ _=>oU hv) hb.2 (eB m h k)
  ·cases h
theorem gD (E:List Th->Value->List OE->List OE->Prop) (j:List Th) (t ck bw:List OE) {i:Nat} {r:Q2} {g:Gt} {d:Nat} {z:Op} {ty:TypeId} {pos:String} {after:Array Edge} (K:ops[i]? = some ⟨some d,z,ty,pos,after,none⟩) (M:nw i=true) (o:∀h v x y,ent i h v x y=E h v x y)
  (A:coM ops.size cs g i++xs i=t) (B:ckM ks g i=ck) (k:brM ops.size bs xs i++os=bw) (f:(ds i).map g=j) (F:∃v x y,E j v x y)
  (N:∀w Sl Tl,Fz Sl w Sl w->TOk Sl Tl w->Rds Sl w (ck++es)->Off Tl (ck++es)->St Sl w w (t++bw)->OpX P n L w ⟨some d,z,ty,pos,after,none⟩ (fun v w'=>∃x y,E j v x y/\SfT Sl Tl w w' y (x++bw))) (O:Nat.blt d n=true)
  (h:∀v x y,E j v x y->fj P n ops Q nw cs ks xs bs ds S T w0 es os ent r (fk g i (v,x,y)) ((d,v) :: L)):fj P n ops Q nw cs ks xs bs ds S T w0 es os ent (i :: r) g L:=fun a ha=>by
 simp only[lxM,K,M,if_true]
 refine⟨⟨by simp[Region.wanted],fun w Sl Tl X R G I J=>?_⟩,by simp only[o,f]; exact F,fun v x y he=>h v x y (by rwa [o,f]at he) _ (ha.put O)⟩
 rw[A,k]at J
 rw[k]
 rw[B]at G I
 obtain⟨v,w',U,x,y,he,V⟩:=N w Sl Tl Fz.start R G I J
 exact .inl ⟨v,w',x,y,.inl (U a ha),by rw[o,f]; exact he,V⟩
theorem iC (E:List Th->Value->List OE->List OE->Prop) (k:List Th) (A ck bw:List OE) {i:Nat} {r:Q2} {g:Gt} {d:Nat} {f:FuncId} {B:List Operand} {N:Array TypeId} {vs:List Value} {ty:TypeId} {pos:String} {after:Array Edge}
  (O:ops[i]? = some ⟨some d,.call ⟨.value (.func f),B.toArray,N⟩,ty,pos,after,none⟩) (R:nw i=true) (z:∀h v x y,ent i h v x y=E h v x y)
  (F:coM ops.size cs g i++xs i=A) (G:ckM ks g i=ck) (t:brM ops.size bs xs i++os=bw) (j:(ds i).map g=k) (I:∃v x y,E k v x y) (hg:gr P f=true) (o:L.evs B=some vs)
  (U:∀w Sl Tl,Fz Sl w Sl w->TOk Sl Tl w->Rds Sl w (ck++es)->Off Tl (ck++es)->St Sl w w (A++bw)->Calls P f vs.toArray w (Ret fun v w'=>∃x y,E k v x y/\SfT Sl Tl w w' y (x++bw))) (V:Nat.blt d n=true)
  (h:∀v x y,E k v x y->fj P n ops Q nw cs ks xs bs ds S T w0 es os ent r (fk g i (v,x,y)) ((d,v) :: L)):fj P n ops Q nw cs ks xs bs ds S T w0 es os ent (i :: r) g L:=fun a ha=>by
 simp only[lxM,O,R,if_true]
 refine⟨⟨by simp[Region.wanted],fun w Sl Tl Y X J K M=>?_⟩,by simp only[z,j]; exact I,fun v x y he=>h v x y (by rwa [z,j]at he) _ (ha.put V)⟩
 rw[F,t]at M
 rw[t]
 rw[G]at J K
 refine .inr ⟨f,vs.toArray,pW rfl hg (ha.evs o),?_⟩
 have:=U w Sl Tl Fz.start X J K M
 simp only[z,j]
 exact this
theorem et (E:List Th->Value->List OE->List OE->Prop) (k:List Th) (A ck bw:List OE) {i:Nat} {r:Q2} {g:Gt} {d:Nat} {f:FuncId} {B:List Operand} {N:Array TypeId} {vs:List Value} {ty:TypeId} {pos:String} {after:Array Edge}
  (O:ops[i]? = some ⟨some d,.call ⟨.value (.func f),B.toArray,N⟩,ty,pos,after,none⟩) (R:nw i=true) (z:∀h v x y,ent i h v x y=E h v x y)
  (F:coM ops.size cs g i++xs i=A) (G:ckM ks g i=ck) (t:brM ops.size bs xs i++os=bw) (j:(ds i).map g=k) (I:∃v x y,E k v x y) (hg:gr P f=true) (o:L.evs B=some vs)
  (U:∀w Sl Tl,Fr S w0 w->Fz Sl w Sl w->TOk Sl Tl w->Rds Sl w (ck++es)->Off Tl (ck++es)->St Sl w w (A++bw)->Calls P f vs.toArray w (Ret fun v w'=>∃x y,E k v x y/\SfT Sl Tl w w' y (x++bw))) (V:Nat.blt d n=true)
  (h:∀v x y,E k v x y->fj P n ops Q nw cs ks xs bs ds S T w0 es os ent r (fk g i (v,x,y)) ((d,v) :: L)):fj P n ops Q nw cs ks xs bs ds S T w0 es os ent (i :: r) g L:=fun a ha=>by
 simp only[lxM,O,R,if_true]
 refine⟨⟨by simp[Region.wanted],fun w Sl Tl X Y J K M=>?_⟩,by simp only[z,j]; exact I,fun v x y he=>h v x y (by rwa [z,j]at he) _ (ha.put V)⟩
 rw[F,t]at M
 rw[t]
 rw[G]at J K
 refine .inr ⟨f,vs.toArray,pW rfl hg (ha.evs o),?_⟩
 have:=U w Sl Tl X Fz.start Y J K M
 simp only[z,j]
 exact this
theorem yv (E:List Th->Value->List OE->List OE->Prop) (o:List Th) (B ck bw:List OE) {i:Nat} {r:Q2} {g:Gt} {d:Nat} {F:Operand} {f:FuncId} {j:List Value} {G:List Operand} {R:Array TypeId} {vs:List Value} {ty:TypeId} {pos:String} {after:Array Edge}
  (U:ops[i]? = some ⟨some d,.call ⟨.value F,G.toArray,R⟩,ty,pos,after,none⟩) (V:nw i=true) (A:∀h v x y,ent i h v x y=E h v x y)
  (I:coM ops.size cs g i++xs i=B) (J:ckM ks g i=ck) (z:brM ops.size bs xs i++os=bw) (k:(ds i).map g=o) (K:∃v x y,E o v x y) (hx:L.ev F=some (.func (.func f) #[] j.toArray)) (hg:gr P f=true) (t:L.evs G=some vs)
  (X:∀w Sl Tl,Fz Sl w Sl w->TOk Sl Tl w->Rds Sl w (ck++es)->Off Tl (ck++es)->St Sl w w (B++bw)->Calls P f (vs++j).toArray w (Ret fun v w'=>∃x y,E o v x y/\SfT Sl Tl w w' y (x++bw))) (Y:Nat.blt d n=true)
  (h:∀v x y,E o v x y->fj P n ops Q nw cs ks xs bs ds S T w0 es os ent r (fk g i (v,x,y)) ((d,v) :: L)):fj P n ops Q nw cs ks xs bs ds S T w0 es os ent (i :: r) g L:=fun a ha=>by
 simp only[lxM,U,V,if_true]
 refine⟨⟨by simp[Region.wanted],fun w Sl Tl hF Z M N O=>?_⟩,by simp only[A,k]; exact K,fun v x y he=>h v x y (by rwa [A,k]at he) _ (ha.put Y)⟩
 rw[I,z]at O
 rw[z]
 rw[J]at M N
 refine .inr ⟨f,(vs++j).toArray,z7 rfl (ha.ev hx) hg (ha.evs t),?_⟩
 have:=X w Sl Tl Fz.start Z M N O
 simp only[A,k]
 exact this
theorem nY (E:List Th->Value->List OE->List OE->Prop) (j:List Th) (t ck bw:List OE) {i:Nat} {r:Q2} {g:Gt} {z:Op} {ty:TypeId} {pos:String} {after:Array Edge} (K:ops[i]? = some ⟨none,z,ty,pos,after,none⟩) (M:nw i=true) (o:∀h v x y,ent i h v x y=E h v x y)
  (A:coM ops.size cs g i++xs i=t) (B:ckM ks g i=ck) (k:brM ops.size bs xs i++os=bw) (f:(ds i).map g=j) (F:∃v x y,E j v x y)
  (N:∀w Sl Tl,Fz Sl w Sl w->TOk Sl Tl w->Rds Sl w (ck++es)->Off Tl (ck++es)->St Sl w w (t++bw)->OpY P n L w ⟨none,z,ty,pos,after,none⟩ (fun w'=>∃x y,E j undef x y/\SfT Sl Tl w w' y (x++bw)))
  (h:∀v x y,E j v x y->fj P n ops Q nw cs ks xs bs ds S T w0 es os ent r (fk g i (v,x,y)) L):fj P n ops Q nw cs ks xs bs ds S T w0 es os ent (i :: r) g L:=fun a ha=>by
 simp only[lxM,K,M,if_true]
 refine⟨⟨by simp[Region.wanted],fun w Sl Tl V O G I J=>?_⟩,by simp only[o,f]; exact F,fun v x y he=>h v x y (by rwa [o,f]at he) _ ha⟩
 rw[A,k]at J
 rw[k]
 rw[B]at G I
 obtain⟨w',R,x,y,he,U⟩:=N w Sl Tl Fz.start O G I J
 exact .inl ⟨undef,w',x,y,.inr ⟨rfl,R a ha⟩,by rw[o,f]; exact he,U⟩
theorem mn {o:Oper} {w:World} {φ ψ:World->Prop} (h:OpY P n L w o φ) (hi:∀w',φ w'->ψ w'):OpY P n L w o ψ:=by
 obtain⟨w',f,g⟩:=h
 exact⟨w',f,hi w' g⟩
theorem cR {P:Program} {f:FuncId} {args:Array Value} {w:World} {φ ψ:Value->World->Prop} (h:Calls P f args w (Ret φ)) (hi:∀v w',φ v w'->ψ v w'):Calls P f args w (Ret ψ):=
 h.mono fun e w' he=>by
  cases e with
  | returned v=>exact hi v w' he
  | panicked c=>exact he.elim
  | outgrown=>exact he.elim
theorem lS {o:Oper} {w:World} {φ ψ:Value->World->Prop} (h:OpX P n L w o φ) (hi:∀v w',φ v w'->ψ v w'):OpX P n L w o ψ:=by
 obtain⟨v,w',f,g⟩:=h
 exact⟨v,w',f,hi v w' g⟩
theorem yl {o:Oper} {w:World} {v:Value} {ψ:Value->World->Prop} (h:OpV P n L w o v w) (hi:ψ v w):OpX P n L w o ψ:=⟨v,w,h,hi⟩
def F7 (ops:Array Oper) (nw:Nat->Bool) (cs:Nat->Option Nat) (ks bs ds:Nat->Q2):Bool:=
 (List.range ops.size).all fun k=>((match cs k with | none=>true | some c=>nw k&&Nat.blt c ops.size&&nw c&&dh ops ops.size c k)&&(ks k).all fun c=>Nat.blt c ops.size&&nw c&&dh ops ops.size k c)&&((ds k).all fun c=>dh ops ops.size k c)&&(bs k).all fun c=>Nat.blt c ops.size&&dh ops ops.size c k
theorem dl {c:Prop} [Decidable c] {A B:List Th->Value->List OE->List OE->Prop} (f:∀h v x y,A h v x y->∀o∈y,o.ns=true) (g:∀h v x y,B h v x y->∀o∈y,o.ns=true):∀h v x y,(if c then A else B) h v x y->∀o∈y,o.ns=true:=by
 by_cases hc:c
 ·rw[if_pos hc]; exact f
 ·rw[if_neg hc]; exact g
theorem cx {y:List OE} (h:y.all OE.ns=true):∀o∈y,o.ns=true:=List.all_eq_true.1 h
theorem gm {id:Nat} {l:List Oper} {w:World} (nw:Nat->Bool) (cs:Nat->Option Nat) (ks:Nat->Q2) (xs:Nat->List OE) (bs ds:Nat->Q2) (ent:Nat->List Th->Value->List OE->List OE->Prop) (K:SfT S T w0 w es ((List.range l.length).flatMap xs++os)) (F:∀k,nw k=false->xs k=[]) (M:TOk S T w0) (G:es.all OE.ns=true)
  (I:∀i h v x y,ent i h v x y->∀o∈y,o.ns=true) (hm:P.follows .mixedOrders=true)
  (z:(nG l.toArray&&vY l.toArray&&uS l.toArray (fun _=>true))=true) (N:F7 l.toArray nw cs ks bs ds=true)
  (h:fj P n l.toArray Q nw cs ks xs bs ds S T w0 es os ent (List.range l.length) (fun _=>(undef,[],[])) L):wpC P n (.region id l.toArray true) Q L w:=
 fun a ha=>by
  simp only[Bool.and_eq_true]at z
  have t:=sT z.1.2
  refine wp_region_any hm ?_
  have g:∀k,k<l.toArray.size->_:=fun k f=>List.all_eq_true.1 N k (List.mem_range.2 f)
  refine nZ (fun c k hc f=>?_) F M (cx G) I (pv z.1.1) (fun k c f hc=>?_) (fun c oc _ k O=>vu t _ _ _ O) (fun c k hc f=>?_) (fun c k hc f=>?_) t (fun i j A R U V J X Y=>(sB z.2 i j A R U V J X Y).1) _ (List.range l.length) _ (fun _=>(undef,[],[])) a _ (by simp) List.pairwise_lt_range (by simp) (fun j J hj hl=>?_) (fun i=>?_) (fun k _ _ o Z=>by cases Z) ?_ (h a ha)
  ·have:=g c hc
   simp only[Bool.and_eq_true]at this
   have:=List.all_eq_true.1 this.2 k f
   simp only[Bool.and_eq_true]at this
   exact⟨by have:=this.1; rwa [Nat.blt_eq]at this,this.2⟩
  ·have:=g k f
   simp only[hc,Bool.and_eq_true]at this
   have:=this.1.1.1
   exact⟨this.1.1.1,by have:=this.1.1.2; rwa [Nat.blt_eq]at this,this.1.2,this.2⟩
  ·have:=g c hc
   simp only[Bool.and_eq_true]at this
   have:=List.all_eq_true.1 this.1.1.2 k f
   simp only[Bool.and_eq_true]at this
   exact⟨by have:=this.1.1; rwa [Nat.blt_eq]at this,this.1.2,this.2⟩
  ·have:=g c hc
   simp only[Bool.and_eq_true]at this
   exact List.all_eq_true.1 this.1.2 k f
  ·rw[Array.getD_eq_getD_getElem?,Array.getElem?_replicate]at hl
   split at hl <;> simp at hl
  ·rw[Array.getD_eq_getD_getElem?,Array.getElem?_replicate]
   by_cases A:i<l.length
   ·simp[A]
   ·simp[A]
  ·have B:∀k,(Array.replicate l.toArray.size false).getD k false=false:=fun k=>by
    rw[Array.getD_eq_getD_getElem?,Array.getElem?_replicate]; split <;> rfl
   have e:(List.range l.toArray.size).filter (d8 nw cs (Array.replicate l.toArray.size false))=[]:=by
    refine List.filter_eq_nil_iff.2 fun k f=>?_
    unfold d8
    rw[B]; simp
   have e2:(List.range l.toArray.size).filter (fun k=>nw k&&(Array.replicate l.toArray.size false).getD k false)=[]:=by
    refine List.filter_eq_nil_iff.2 fun k f=>?_
    rw[B]; simp
   have e3:(List.range l.toArray.size).filter (fun k=>!(Array.replicate l.toArray.size false).getD k false)=List.range l.toArray.size:=by
    refine List.filter_eq_self.2 fun k f=>?_
    rw[B]; rfl
   rw[e,e2,e3]
   obtain⟨Sb,wb,hZ,hA,hP,hS⟩:=K
   exact⟨Sb,wb,hZ,hA,hP,by simpa using hS.drew⟩
end
end Go.Gk
end

section
namespace Go.Gk
open Go Go.RowKit
def lenV (v:Value):Nat:=match v with
 | .slice _ n _=>n
 | _=>0
def io (v:Value) (sz lo hi:Nat) (vp:Value):Prop:=(∃a n c a' c',v=.slice a n c/\vp=.slice a' (hi - lo) c'/\hi - lo<=c'/\(lo<hi->a'=a.map (·.add (lo*sz))))/\lo<=hi/\hi<=lenV v
section
variable {w w0:World} {S:Q2} {τ:Type} {e:Enc τ} {v vp:Value} {l:List τ} {lo hi:Nat}
theorem Gd (a:Option Addr) (f:Nat):a=a.map (·.add (0*f)):=by cases a <;> simp[Addr.add]
theorem RO.lenV (h:RO w e v l):lenV v=l.length:=by obtain⟨a,c,rfl,_⟩:=h; rfl
theorem RO.whole (h:RO w e v l):io v e.sz 0 l.length v:=by
 have hl:=h.lenV
 obtain⟨a,c,rfl,hc,_⟩:=h
 exact⟨⟨a,_,c,a,c,rfl,by simp,by omega,fun _=>Gd a _⟩,Nat.zero_le _,by rw[hl]; exact Nat.le_refl _⟩
theorem RO.part (h:RO w e v l) (f:lo<=hi) (g:hi<=l.length):io v e.sz lo hi (slV v e.sz lo hi):=by
 have hl:=h.lenV
 obtain⟨a,c,rfl,hc,_⟩:=h
 exact⟨⟨a,_,c,_,_,rfl,rfl,by omega,fun i=>if_neg (by omega)⟩,f,by rw[hl]; exact g⟩
theorem io.cut {f k:Nat} (j:io v f lo hi vp) (z:k<=hi - lo):io v f (lo+k) hi (slV vp f k (hi - lo)):=by
 obtain⟨⟨a,n,c,h,g,rfl,rfl,hc,ha⟩,A,o⟩:=j
 refine⟨⟨a,n,c,if g=k then h else h.map (·.add (k*f)),g - k,rfl,?_,?_,fun t=>?_⟩,by omega,o⟩
 ·simp only[slV]; rw[show hi - lo - k=hi - (lo+k) by omega]
 ·omega
 ·have i:¬g=k:=by omega
  rw[if_neg i,ha (by omega),Option.map_map]
  cases a with
  | none=>rfl
  | some x=>
   simp only[Option.map_some,Function.comp,Nat.add_mul]
   congr 1
   unfold Addr.add
   by_cases e1:lo*f=0 <;> by_cases e2:k*f=0 <;> simp[e1,e2,Nat.add_assoc]
theorem RO.po (h:RO w e v l) (A:io v e.sz lo hi vp):RO w e vp ((l.drop lo).take (hi - lo)):=by
 have hl:=h.lenV
 obtain⟨⟨a,n,c,B,F,rfl,rfl,hc,ha⟩,K,G⟩:=A
 obtain⟨M,N,o,J,I⟩:=h
 injection o with o e2 e3
 subst o e3
 simp only[Gk.lenV]at G hl
 have f:((l.drop lo).take (hi - lo)).length=hi - lo:=by simp; omega
 refine⟨B,F,by rw[f],by rw[f]; exact hc,fun g=>?_⟩
 have t:lo<hi:=by
  rcases Nat.lt_or_ge lo hi with z | z
  ·exact z
  ·rw[show hi - lo=0 by omega]at g; simp at g
 have hn:l≠[]:=by rintro rfl; simp at g
 obtain⟨b,off,rfl,k⟩:=I hn
 refine⟨b,off+lo*e.sz,by rw[ha t]; simp[dC],fun j u i=>?_⟩
 rw[e.fl_take,e.fl_drop,List.getElem?_take]at i
 split at i
 ·rw[List.getElem?_drop]at i
  have:=k _ _ i
  rw[Nat.add_assoc]
  exact this
 ·cases i
theorem RP.po (h:RP S w e v l) (g:io v e.sz lo hi vp):RP S w e vp ((l.drop lo).take (hi - lo)):=by
 refine⟨h.1.po g,fun f k o hb=>?_⟩
 have hl:=h.1.lenV
 have hn:l≠[]:=by rintro rfl; simp at f
 refine h.2 hn k o ?_
 obtain⟨⟨a,n,c,t,z,rfl,rfl,hc,ha⟩,A,B⟩:=g
 have i:lo<hi:=by
  rcases Nat.lt_or_ge lo hi with j | j
  ·exact j
  ·rw[show hi - lo=0 by omega]at f; simp at f
 rw[ha i]at hb
 cases a with
 | none=>simp[Value.ownBlock]at hb
 | some x=>simp[Value.ownBlock]at hb ⊢; rw[<-hb]; unfold Addr.add; split <;> rfl
theorem Ci (h:RO w e v l) (k:io v e.sz lo hi vp) {j:Nat} (z:j<hi - lo):ixA vp e.sz j=ixA v e.sz (lo+j):=by
 obtain⟨⟨a,n,c,A,B,rfl,rfl,hc,ha⟩,F,g⟩:=k
 obtain⟨G,I,f,t,o⟩:=h
 injection f with f e2 e3
 subst f e2 e3
 simp only[Gk.lenV]at g
 have i:l≠[]:=by rintro rfl; simp at g; omega
 obtain⟨b,off,rfl,_⟩:=o i
 rw[ha (by omega)]
 simp[ixA,dC,Nat.add_mul,Nat.add_assoc]
end
section
variable {P:Program} {n:Nat} {L:Env} {w w0:World} {S:Q2} {os:List OE} {d:Option Tmp} {ty:TypeId} {pos:String} {after:Array Edge}
theorem qc {x y:Operand} {T:TypeId} {τ:Type} {e:Enc τ} {z:Value} {bytes:Nat} {v vp u:Value} {l:List τ} {lo hi:Nat} {i:Nat} {j:Int} {t t':τ} (o:TI P T z 1 bytes)
  (hx:L.ev x=some (pP (ixA vp e.sz j.toNat))) (hy:L.ev y=some u) (h:St S w0 w os) (f:os[i]? = some (own e v l)) (k:io v e.sz lo hi vp) (hg:aC ((l.drop lo).take (hi - lo)) j=some t') (A:e.cells t=[u]) :
  OpY P n L w ⟨none,.store T x y,ty,pos,after,none⟩ (fun w'=>St S w0 w' (os.set i (own e v (l.set (lo+j.toNat) t)))):=by
 have g:RO w e v l:=(h.ok _ (List.mem_of_getElem? f)).ro
 have B:=(dR hg).2.1
 have hl:=g.lenV
 have:=k.2.2
 rw[List.length_take,List.length_drop]at B
 rw[Ci g k (by omega)]at hx
 exact qC o hx hy A h f (by omega)
end
section
variable {P:Program} {n:Nat} {L:Env} {w w0:World} {S:Q2} {os:List OE} {d:Option Tmp} {ty:TypeId} {pos:String} {after:Array Edge}
theorem uz {x y:Operand} {T T2 E:TypeId} {τ:Type} {e:Enc τ} {z:Value} {bytes:Nat} {u:Value} {m:List τ} (i:P.underlying T=some (.slice E)) (j:P.underlying T2=some (.slice E)) (A:TI P E z e.sz bytes) (B:z.cells.size=e.sz) (o:bytes<=65536) (f:0<bytes)
  (hx:L.ev x=some (.slice none 0 0)) (hy:L.ev y=some u) (t:St S w0 w os) (F:RO w e u m) (hb:m.length*bytes<=225000000000000) :
  OpX P n L w ⟨d,.call ⟨.builtin .append,#[x,y],#[T,T2]⟩,ty,pos,after,none⟩ (fun g w'=>St S w0 w' (own e g m :: os)):=by
 have hn:(own e (.slice none 0 0) ([]:List τ)).ok S w0.heap.size w:=⟨by simp,.inl ⟨rfl,rfl⟩⟩
 obtain⟨g,w',G,I,J,K⟩:=jU (ty:=ty) i A B o f hn F t.fr.size (by simpa using hb)
 refine ez g w' (fun a ha=>?_) (t.push (by simpa [OE.blk,Value.ownBlock] using J) I fun k M=>?_)
 ·have N:(Builtin.append_ #[T,T2] ty #[.slice none 0 0,u]).run P w=(Builtin.append_ #[T,T] ty #[.slice none 0 0,u]).run P w:=by
   simp[Builtin.append_,run_underlying i,run_underlying j]
  simp[execOp,resolve,invoke,builtin,ha.ev hx,ha.ev hy,N,G]
 ·rcases K k M with h | h
  ·simp[OE.blk,Value.ownBlock]at h
  ·exact h
theorem yW {x y:Operand} {T T2 E:TypeId} {τ:Type} {e:Enc τ} {z:Value} {bytes:Nat} {u:Value} {m r:List τ} (h:P.underlying T=some (.slice E)) (g:P.underlying T2=some (.slice E)) (i:TI P E z e.sz bytes) (f:(Nat.beq z.cells.size e.sz&&Nat.ble bytes 65536&&Nat.blt 0 bytes)=true)
  (hx:L.ev x=some (.slice none 0 0)) (hy:L.ev y=some u) (j:St S w0 w os) (k:RO w e u m) (hg:apO bytes [] m=some r) :
  OpX P n L w ⟨d,.call ⟨.builtin .append,#[x,y],#[T,T2]⟩,ty,pos,after,none⟩ (fun o w'=>St S w0 w' (own e o r :: os)):=by
 obtain⟨rfl,hb⟩:=mK hg
 simp only[Bool.and_eq_true,Nat.blt_eq]at f
 exact uz h g i (Nat.eq_of_beq_eq_true f.1.1) (Nat.le_of_ble_eq_true f.1.2) f.2 hx hy j k (by simpa using hb)
end
section
variable {P:Program} {n:Nat} {L:Env} {w:World} {Q:Exit->Act->World->Prop}
theorem Ab {c:Code} (h:wpC P n c (Exit.noGoto Q) L w):wpC P n (.scope c) Q L w:=fun a ha=>wp_scope_straight (h a ha)
theorem zD {l:Nat} (h:QE n Q .normal L w):wpC P n (.label l) Q L w:=fun a ha=>wp_label (h a ha)
theorem BR (h:QE n Q .normal L w):QE n (Exit.noGoto Q) .normal L w:=h
theorem vK (h:QE n Q .ret L w):QE n (Exit.noGoto Q) .ret L w:=h
end
end Go.Gk
end

section
namespace Go.Gk
open Go Go.RowKit
section
variable {P:Program} {n:Nat} {L:Env} {w:World} {Q:Exit->Act->World->Prop}
theorem yo {c rest:Code} (l:Nat) (f:findLabel c l=some rest) (h:wpC P n c (Exit.jump l (fun a w=>rest.wp P (Exit.noGoto Q) a w) Q) L w):wpC P n (.scope c) Q L w:=fun a ha=>
 wp_scope_jumps l _ (fun _ _=>0) f (h a ha) fun a w g=>wp_mono g fun e a w q=>by cases e <;> first | exact q | exact q.elim
theorem B9 {l:Nat} (h:QE n Q (.goto l) L w):wpC P n (.goto l) Q L w:=fun a ha=>wp_goto (h a ha)
theorem Bw {l:Nat} {J:Act->World->Prop} (h:QE n Q .ret L w):QE n (Exit.jump l J Q) .ret L w:=h
theorem BT {l:Nat} {rest:Code} (h:wpC P n rest (Exit.noGoto Q) L w):QE n (Exit.jump l (fun a w=>rest.wp P (Exit.noGoto Q) a w) Q) (.goto l) L w:=fun a ha=>⟨rfl,h a ha⟩
theorem zo {K:Act->World->Prop} {l:Nat} (h:QE n Q (.goto l) L w):QE n (Exit.then K Q) (.goto l) L w:=h
end
section
variable {P:Program} {n:Nat} {L:Env} {w:World} {S:Q2} {d:Option Tmp} {ty:TypeId} {pos:String} {after:Array Edge}
theorem FH {x y z u:Operand} {T E:TypeId} {k i f:IntKind} {lo hi:Int} {τ:Type} {e:Enc τ} {v z0:Value} {l r:List τ} {bytes:Nat} (j:P.underlying T=some (.slice E)) (o:TI P E z0 e.sz bytes)
  (hx:L.ev x=some v) (hy:L.ev y=some (.int f lo)) (t:L.ev z=some (.int k hi)) (A:L.ev u=some (.int i hi)) (h:RO w e v l) (hg:slO l lo hi=some r) :
  OpV P n L w ⟨d,.slice T x (some y) (some z) (some u),ty,pos,after,none⟩ (slV3 v e.sz lo.toNat hi.toNat hi.toNat) w:=fun a ha=>by
 obtain⟨b,c,rfl,hc,_⟩:=h
 obtain⟨K,g,_,hs,_⟩:=o.get
 obtain⟨⟨B,F,M⟩,rfl⟩:=cH hg
 have G:hi<=(c:Int):=by omega
 have I:(hi.toNat:Int)=hi:=Int.toNat_of_nonneg (by omega)
 have J:0<=hi:=by omega
 have N:(lo.toNat:Int)=lo:=Int.toNat_of_nonneg (by omega)
 have O:lo.toNat<=hi.toNat:=by omega
 simp[execOp,ha.ev hx,ha.ev hy,ha.ev t,ha.ev A,Instr.sliceAt,Instr.slice,run_underlying j,Instr.sliceBounds,run_sliceBound,B,F,G,I,J,sizeOf,typeInfo,g,hs,slV3]
theorem RO.g_sl3 {τ:Type} {e:Enc τ} {v:Value} {l r:List τ} {lo hi:Int} (h:RO w e v l) (hg:slO l lo hi=some r):RO w e (slV3 v e.sz lo.toNat hi.toNat hi.toNat) r:=by
 obtain⟨⟨g,i,f⟩,rfl⟩:=cH hg
 exact h.sub3 (by omega) f (Nat.le_refl _)
theorem RP.g_sl3 {τ:Type} {e:Enc τ} {v:Value} {l r:List τ} {lo hi:Int} (h:RP S w e v l) (hg:slO l lo hi=some r):RP S w e (slV3 v e.sz lo.toNat hi.toNat hi.toNat) r:=by
 refine⟨h.1.g_sl3 hg,fun f k g hb=>?_⟩
 obtain⟨_,rfl⟩:=cH hg
 refine h.2 (fun e=>f (by rw[e]; simp)) k g ?_
 obtain⟨a,c,rfl,_⟩:=h.1
 cases a with
 | none=>simp[slV3,Value.ownBlock]at hb
 | some x=>
  by_cases hc:hi.toNat=lo.toNat
  ·simpa [slV3,hc,Value.ownBlock] using hb
  ·simp[slV3,hc,Value.ownBlock]at hb ⊢
   rw[<-hb]; unfold Addr.add; split <;> rfl
end
end Go.Gk
end

section
namespace Go.Gk
open Go Go.RowKit
section
variable {P:Program} {n:Nat} {L:Env} {w w0:World} {S:Q2} {os:List OE} {d:Option Tmp} {ty:TypeId} {pos:String} {after:Array Edge}
theorem F6 {x:Operand} {T E:TypeId} {b m:Nat} (h:P.underlying T=some (.array m E)) (f:(P.info? E).map (·.size)=some 1) (hx:L.ev x=some (pB b 0)) :
  OpV P n L w ⟨d,.slice T x none none none,ty,pos,after,none⟩ (.slice (some ⟨b,0,none⟩) m m) w:=fun a ha=>by
 cases hi':P.info? E with
 | none=>rw[hi']at f; cases f
 | some inf=>
  have g:inf.size=1:=by rw[hi']at f; simpa using f
  simp[execOp,ha.ev hx,Instr.sliceAt,Instr.sureAddr,run_underlying h,Instr.sliceBounds,run_sliceBound,sizeOf,typeInfo,hi',g,Addr.add]
theorem St.bxOwn {τ:Type} {e:Enc τ} {l:List τ} {b i m:Nat} (h:St S w0 w os) (hi:os[i]? = some (.bx b (e.fl l))) (hm:l.length=m) (hs:e.sz=1) (t:Nat.ble m 1000=true) :
  St S w0 w (os.set i (own e (.slice (some ⟨b,0,none⟩) m m) l)):=by
 have j:=h.ok _ (List.mem_of_getElem? hi)
 obtain⟨z,T,f,hg,g⟩:=j
 subst hm
 have hl:(e.fl l).length=l.length:=by rw[e.fl_length,hs,Nat.mul_one]
 have o:f.size=l.length:=by rw[<-hl,<-g]; simp
 have B:=Nat.le_of_ble_eq_true t
 refine h.set hi (Fr.refl _ _) ⟨e.fl_length l,.inr ⟨b,l.length,f,T,rfl,z,.of hg,Nat.le_refl _,by unfold maxLen; omega,by rw[hs,o]; omega,?_⟩⟩ fun k A=>.inl A
 rw[hs,Nat.mul_one,g,<-hl,List.take_length]
theorem sL (T:TypeId) (x:Int) (y:UInt64) (k:Nat) (h:y.toNat=k):bL P .shr T (vI x) (v64 y) (vI (eA x k)):=by subst h; exact B2 T x y
theorem GA.part {τ:Type} {g:Nat} {e:Enc τ} {l l1:List τ} {off:Nat} (h:GA S w0 g e l) (k:Fr S w0 w) (o:((e.fl l).drop off).take (e.fl l1).length=e.fl l1):∀j u,(e.fl l1)[j]? = some u->w.cell? ⟨g,off+j,none⟩=some u:=fun j u f=>by
 have i:j<(e.fl l1).length:=(List.getElem?_eq_some_iff.1 f).1
 rw[<-o,List.getElem?_take,if_pos i,List.getElem?_drop]at f
 have:=h.cells k (off+j) u f
 rwa [Nat.zero_add]at this
theorem RO.pcut {τ:Type} {e:Enc τ} {v vp:Value} {l y:List τ} {lo hi:Nat} {k:Int} (h:RO w e v l) (f:io v e.sz lo hi vp) (hg:drO ((l.drop lo).take (hi - lo)) k=some y) :
  io v e.sz (lo+k.toNat) hi (slV vp e.sz k.toNat ((l.drop lo).take (hi - lo)).length):=by
 obtain⟨⟨j,i⟩,_⟩:=iz hg
 have hl:=h.lenV
 have g:((l.drop lo).take (hi - lo)).length=hi - lo:=by have:=f.2.1; have:=f.2.2; simp; omega
 rw[g]at i ⊢
 exact f.cut i
end
end Go.Gk
end
