import Derived.Test.YtkickcbphbgldaaGreatDoorGkI
import Derived.Scope
import Derived.ScopeJumps
set_option linter.unusedVariables false
set_option linter.unusedSimpArgs false
set_option linter.unusedSectionVars false

section
namespace Go.Gk
open Go Go.RowKit
def Up (cs:List Value) (off:Nat) (xs cs' xs':List Value):Prop:=∃A B,cs=A++(xs++B)∧cs'=A++(xs'++B)∧A.length=off
theorem Up.here {xs xs' B:List Value}:Up (xs++B) 0 xs (xs'++B) xs':=⟨[],B,rfl,rfl,rfl⟩
theorem Up.last {xs xs':List Value}:Up xs 0 xs xs' xs':=⟨[],[],by simp,by simp,rfl⟩
theorem Up.skip {cs cs' xs xs' A:List Value} {k off o:Nat} (hA:A.length=k) (h:Up cs off xs cs' xs') (ho:k+off=o):Up (A++cs) o xs (A++cs') xs':=by
 obtain ⟨C,B,h1,h2,h3⟩:=h
 exact ⟨A++C,B,by rw [h1,List.append_assoc],by rw [h2,List.append_assoc],by rw [List.length_append,hA,h3,ho]⟩
theorem Up.get {cs cs' xs':List Value} {off:Nat} {u:Value} (h:Up cs off [u] cs' xs'):cs[off]? = some u:=by
 obtain ⟨A,B,rfl,_,rfl⟩:=h
 simp
theorem Up.get0 {cs:List Value} {off:Nat} {u:Value} (h:Up cs off [u] cs [u]):cs[off]? = some u:=h.get
theorem Up.gets {cs cs' xs xs':List Value} {off:Nat} (h:Up cs off xs cs' xs') {j:Nat} {u:Value} (hj:xs[j]? = some u):cs[off+j]? = some u:=by
 obtain ⟨A,B,rfl,_,rfl⟩:=h
 rw [List.getElem?_append_right (by omega),Nat.add_sub_cancel_left,List.getElem?_append_left (List.getElem?_eq_some_iff.1 hj).1]
 exact hj
theorem Up.spl {cs cs' xs xs':List Value} {off:Nat} (h:Up cs off xs cs' xs') (hl:xs'.length=xs.length):spl cs off xs'=cs':=by
 obtain ⟨A,B,rfl,rfl,rfl⟩:=h
 unfold Go.Gk.spl
 rw [List.take_left,hl,←List.append_assoc A xs B,List.drop_left' (by simp),List.append_assoc]
theorem Up.le {cs cs' xs xs':List Value} {off:Nat} (h:Up cs off xs cs' xs'):off+xs.length≤cs.length:=by
 obtain ⟨A,B,rfl,rfl,rfl⟩:=h
 simp only [List.length_append]; omega
section
variable {τ:Type} {e:Enc τ} {l:List τ}
theorem zd {j:Int} {t t':τ} {u u':Value} (hy:aB l j=some t) (hu:e.cells t=[u]) (hu':e.cells t'=[u']):Up (e.fl l) (j.toNat*1) [u] (e.fl (l.set j.toNat t')) [u']:=by
 obtain ⟨h0,hlt,hg⟩:=dz hy
 have hl:l=l.take j.toNat++(t :: l.drop (j.toNat+1)):=by
  have h1:l[j.toNat]=t:=by rw [List.getElem?_eq_getElem hlt]at hg; exact Option.some.inj hg
  rw [←h1,←List.drop_eq_getElem_cons hlt,List.take_append_drop]
 have hs:l.set j.toNat t'=l.take j.toNat++(t' :: l.drop (j.toNat+1)):=by
  rw [List.set_eq_take_append_cons_drop,if_pos hlt]
 refine ⟨e.fl (l.take j.toNat),e.fl (l.drop (j.toNat+1)),?_,?_,?_⟩
 ·conv=>lhs; rw [hl]
  rw [e.fl_append]; congr 1
  simp [Enc.fl,hu]
 ·rw [hs,e.fl_append]; congr 1
  simp [Enc.fl,hu']
 ·have hsz:e.sz=1:=by rw [←e.len t,hu]; rfl
  rw [e.fl_length,hsz,List.length_take]; omega
theorem Up.sub {cs cs' ys ys' xs xs':List Value} {off k:Nat} (h:Up cs off ys cs' ys') (g:Up ys k xs ys' xs'):Up cs (off+k) xs cs' xs':=by
 obtain ⟨A,B,rfl,rfl,rfl⟩:=h
 obtain ⟨C,D,rfl,rfl,rfl⟩:=g
 exact ⟨A++C,D++B,by simp,by simp,by simp⟩
theorem Up.elt {cs cs':List Value} {off:Nat} {j:Int} {t t':τ} {u u':Value} (h:Up cs off (e.fl l) cs' (e.fl (l.set j.toNat t'))) (hy:aB l j=some t) (hu:e.cells t=[u]) (hu':e.cells t'=[u']):Up cs (off+j.toNat*1) [u] cs' [u']:=
 h.sub (zd hy hu hu')
theorem Up.elr {cs:List Value} {off:Nat} {j:Int} {t:τ} {u:Value} (h:Up cs off (e.fl l) cs (e.fl l)) (hy:aB l j=some t) (hu:e.cells t=[u]):cs[off+j.toNat*1]? = some u:=by
 obtain ⟨h0,hlt,hg⟩:=dz hy
 have hsz:e.sz=1:=by rw [←e.len t,hu]; rfl
 have:=e.fl_get l j.toNat t hg 0 (by omega)
 rw [hsz,hu]at this
 exact h.gets (by simpa using this)
theorem bJ {j:Int} {t:τ} {m:Nat} (hy:aB l j=some t) (hl:l.length=m):0≤j∧j<(m:Int):=by
 obtain ⟨h0,hlt,_⟩:=dz hy
 omega
theorem bj {m:Nat} (hl:l.length=m) (hs:e.sz=1):(e.fl l).length=m:=by rw [e.fl_length,hs,Nat.mul_one,hl]
theorem ej {A B:List Value} {a b c:Nat} (h1:A.length=a) (h2:B.length=b) (h:a+b=c):(A++B).length=c:=by rw [List.length_append,h1,h2,h]
theorem j6:∀u∈e.fl l,u.oneCell'=true:=e.fl_one l
theorem mo {A B:List Value} (h1:∀u∈A,u.oneCell'=true) (h2:∀u∈B,u.oneCell'=true):∀u∈A++B,u.oneCell'=true:=fun u hu=>by
 rcases List.mem_append.1 hu with h | h
 ·exact h1 u h
 ·exact h2 u h
theorem fx {v:Value} (h:v.oneCell'=true):∀u∈[v],u.oneCell'=true:=fun u hu=>by
 simp at hu; subst hu; exact h
theorem mi {j:Int} {t:τ} {u:Value} (hy:aB l j=some t) (hu:e.cells t=[u]):((e.fl l).toArray)[j.toNat*1]? = some u:=by
 have:=Up.elr (cs:=e.fl l) (off:=0) Up.last hy hu
 simpa using this
end
section
variable {P:Program} {n:Nat} {L:Env} {w w0:World} {Q:Exit→Act→World→Prop} {S:List Nat} {os:List OE}
variable {d:Option Tmp} {ty:TypeId} {pos:String} {after:Array Edge}
theorem bL {T E:TypeId} {m:Nat} {x y:Operand} {b off:Nat} {k:IntKind} {i:Int} (hT:P.underlying T=some (.array m E)) (hE:(P.info? E).map (·.size)=some 1)
  (hx:L.ev x=some (pB b off)) (hy:L.ev y=some (.int k i)) (h:0≤i∧i<(m:Int)):OpV P n L w ⟨d,.indexAddr T x y,ty,pos,after,none⟩ (pB b (off+i.toNat*1)) w:=
 zA hT hE hx hy h.1 h.2
theorem iY {T:TypeId} {D:TypeDesc} {x:Operand} {b off m:Nat} {us:List Value} (hT:P.underlying T=some D) (hD:(match D with | .struct _ | .array _ _=>true | _=>false)=true)
  (hi:(P.info? T).map (·.size)=some m) (hl:us.length=m) (hx:L.ev x=some (pB b off)) (hc:∀j u,us[j]? = some u→w.cell? ⟨b,off+j,none⟩=some u) :
  OpV P n L w ⟨d,.load T x,ty,pos,after,none⟩ (.agg us.toArray) w:=bO hT hD (by rw [hl]; exact hi) hx hc
theorem St.bxg (h:St S w0 w os) (i:Nat) {b:Nat} {cs:List Value} (hi:os[i]? = some (.bx b cs)) {off:Nat} {u:Value} (hu:cs[off]? = some u):w.cell? ⟨b,off,none⟩=some u:=(h.bxc i hi off).trans hu
theorem St.bxgs (h:St S w0 w os) (i:Nat) {b:Nat} {cs xs cs' xs':List Value} (hi:os[i]? = some (.bx b cs)) {off:Nat} (hu:Up cs off xs cs' xs'):∀j u,xs[j]? = some u→w.cell? ⟨b,off+j,none⟩=some u:=
 fun j u hj=>(h.bxc i hi _).trans (hu.gets hj)
theorem St.bxgs0 (h:St S w0 w os) (i:Nat) {b:Nat} {cs xs:List Value} (hi:os[i]? = some (.bx b cs)) {off:Nat} (hu:Up cs off xs cs xs):∀j u,xs[j]? = some u→w.cell? ⟨b,off+j,none⟩=some u:=h.bxgs i hi hu
theorem St.bxroA {τ:Type} {e:Enc τ} {l:List τ} {b off m:Nat} {cs:List Value} (h:St S w0 w os) (i:Nat) (hi:os[i]? = some (.bx b cs)) (hl:l.length=m) (hu:Up cs off (e.fl l) cs (e.fl l)):RO w e (.slice (some ⟨b,off,none⟩) m m) l:=by
 subst hl
 exact ⟨_,_,rfl,Nat.le_refl _,fun _=>⟨b,off,rfl,h.bxgs i hi hu⟩⟩
theorem eD {T:TypeId} {x y:Operand} {b off i m:Nat} {v:Value} {cs xs cs' xs':List Value} (hi:os[i]? = some (.bx b cs)) (hsz:(P.info? T).map (·.size)=some m)
  (hx:L.ev x=some (pB b off)) (hy:L.ev y=some v) (hv:v.cells.toList=xs') (hu:Up cs off xs cs' xs') (hm:xs.length=m) (hm':xs'.length=m) (h1:∀u∈xs',u.oneCell'=true) (hS:St S w0 w os) :
  OpY P n L w ⟨none,.store T x y,ty,pos,after,none⟩ (fun w'=>St S w0 w' (os.set i (.bx b cs'))):=by
 obtain ⟨T',cur,hg,hcs,hS'⟩:=hS.setB (off:=off) (us:=xs') hi
 rw [hu.spl (by omega)]at hS'
 refine oX _ (fun a ha=>?_) hS'
 cases hq:P.info? T with
 | none=>simp [hq]at hsz
 | some inf=>
  have hs:inf.size=xs'.length:=by rw [hm']; simpa [hq] using hsz
  have hle:off+0+xs'.length≤cur.size:=by
   have:=hu.le
   rw [←hcs]at this
   simp only [Array.length_toList]at this
   omega
  have hst:=run_storeCells_at P b off T' xs' 0 cur w hg hle h1
  have hvl:v.cells.size=xs'.length:=by rw [←hv]; simp
  simp only [Nat.add_zero]at hst
  simp [execOp,Instr.storeAt,ha.ev hx,ha.ev hy,Instr.sureAddr,storeVar,sizeOf,typeInfo,hq,hs,hv,hvl,hst]
theorem kn {T E:TypeId} {m:Nat} {x y:Operand} {cs:Array Value} {k:IntKind} {i:Int} {u:Value} {D:TypeDesc} (hT:P.underlying T=some (.array m E)) (hE:P.underlying E=some D)
  (hD:(match D with | .struct _ | .array _ _=>true | _=>false)=false) (hsz:(P.info? E).map (·.size)=some 1)
  (hx:L.ev x=some (.agg cs)) (hy:L.ev y=some (.int k i)) (h:0≤i∧i<(m:Int)) (hu:cs[i.toNat*1]? = some u):OpV P n L w ⟨d,.index T x y,ty,pos,after,none⟩ u w:=
 zI hT hE hD hsz hx hy h.1 h.2 hu
theorem yt {b off m lo hi:Nat}:slV (.slice (some ⟨b,off,none⟩) m m) 1 lo hi=.slice (some (if m=lo then ⟨b,off,none⟩ else (⟨b,off,none⟩:Addr).add (lo*1))) (hi - lo) (m - lo):=by
 simp only [slV]
 split <;> rfl
theorem Ab {x y z:Operand} {T E:TypeId} {k k':IntKind} {lo hi:Int} {τ:Type} {e:Enc τ} {l r:List τ} {b off m:Nat} (hT:P.underlying T=some (.array m E)) (hE:(P.info? E).map (·.size)=some 1) (hs:e.sz=1)
  (hx:L.ev x=some (pB b off)) (hy:L.ev y=some (.int k lo)) (hz:L.ev z=some (.int k' hi)) (hm:l.length=m) (hg:slO l lo hi=some r) :
  OpV P n L w ⟨d,.slice T x (some y) (some z) none,ty,pos,after,none⟩ (slV (.slice (some ⟨b,off,none⟩) m m) e.sz lo.toNat hi.toNat) w:=fun a ha=>by
 obtain ⟨⟨h0,h1,h2⟩,_⟩:=cy hg
 cases hi':P.info? E with
 | none=>rw [hi']at hE; cases hE
 | some inf=>
  have hs1:inf.size=1:=by rw [hi']at hE; simpa using hE
  have e1:lo≤hi:=by omega
  have e2:hi≤(m:Int):=by omega
  have e3:0≤hi:=by omega
  have e4:lo≤(m:Int):=by omega
  have e5:(hi.toNat:Int)=hi:=by omega
  rw [hs,yt]
  simp [execOp,ha.ev hx,ha.ev hy,ha.ev hz,Instr.sliceAt,Instr.sureAddr,run_underlying hT,Instr.sliceBounds,run_sliceBound,h0,e1,e2,e3,e4,e5,sizeOf,typeInfo,hi',hs1]
theorem Bc {x y:Operand} {T E:TypeId} {k:IntKind} {lo:Int} {τ:Type} {e:Enc τ} {l r:List τ} {b off m:Nat} (hT:P.underlying T=some (.array m E)) (hE:(P.info? E).map (·.size)=some 1) (hs:e.sz=1)
  (hx:L.ev x=some (pB b off)) (hy:L.ev y=some (.int k lo)) (hm:l.length=m) (hg:drO l lo=some r) :
  OpV P n L w ⟨d,.slice T x (some y) none none,ty,pos,after,none⟩ (slV (.slice (some ⟨b,off,none⟩) m m) e.sz lo.toNat l.length) w:=fun a ha=>by
 obtain ⟨⟨h0,h2⟩,_⟩:=f0 hg
 cases hi':P.info? E with
 | none=>rw [hi']at hE; cases hE
 | some inf=>
  have hs1:inf.size=1:=by rw [hi']at hE; simpa using hE
  have e2:lo≤(m:Int):=by omega
  rw [hs,hm,yt]
  simp [execOp,ha.ev hx,ha.ev hy,Instr.sliceAt,Instr.sureAddr,run_underlying hT,Instr.sliceBounds,run_sliceBound,h0,e2,sizeOf,typeInfo,hi',hs1]
theorem wC {x y:Operand} {T T2 E:TypeId} {τ:Type} {e:Enc τ} {z:Value} {bytes:Nat} {u:Value} {l m:List τ} {i lo hi b off q:Nat} {cs cs':List Value} (hT:P.underlying T=some (.slice E)) (hE:TI P E z e.sz bytes) (hsz:e.sz=1)
  (hx:L.ev x=some (slV (.slice (some ⟨b,off,none⟩) q q) e.sz lo hi)) (hy:L.ev y=some u) (hS:St S w0 w os) (hi':os[i]? = some (.bx b cs)) (hq:l.length=q) (hup:Up cs off (e.fl l) cs' (e.fl (cpL l m lo hi))) (hu:RO w e u m) (h1:lo≤hi) (h2:hi≤l.length) :
  OpX P n L w ⟨d,.call ⟨.builtin .copy,#[x,y],#[T,T2]⟩,ty,pos,after,none⟩ (fun r w'=>r=vI (min m.length (hi - lo):Nat)∧St S w0 w' (os.set i (.bx b cs'))):=by
 obtain ⟨inf,hi2,_,hs,_⟩:=hE.get
 have hk:=iI (P:=P) hu (min m.length (hi - lo)) (Nat.min_le_left _ _)
 obtain ⟨ua,uc,rfl,huc,hur⟩:=hu
 obtain ⟨A,B,hA,hA',hAl⟩:=hup
 have hcells:e.fl (m.take (min m.length (hi - lo)))=(e.fl m).take (min m.length (hi - lo)):=by rw [e.fl_take,hsz,Nat.mul_one]
 have hlen:(e.fl (m.take (min m.length (hi - lo)))).length=min m.length (hi - lo):=by rw [e.fl_length,hsz]; simp
 have hcp:cpL l m lo hi=l.take lo++m.take (min m.length (hi - lo))++l.drop (lo+min m.length (hi - lo)):=by
  unfold cpL
  congr 2
  by_cases h:m.length≤hi - lo
  ·rw [Nat.min_eq_left h,List.take_of_length_le h,List.take_of_length_le (Nat.le_refl _)]
  ·rw [Nat.min_eq_right (by omega)]
 have hnew:spl cs (off+lo) (e.fl (m.take (min m.length (hi - lo))))=cs':=by
  have hll:l=l.take lo++(l.drop lo).take (min m.length (hi - lo))++l.drop (lo+min m.length (hi - lo)):=by
   rw [List.append_assoc,←List.drop_drop,List.take_append_drop,List.take_append_drop]
  have hup2:Up cs (off+lo) (e.fl ((l.drop lo).take (min m.length (hi - lo)))) cs' (e.fl (m.take (min m.length (hi - lo)))):=by
   refine ⟨A++e.fl (l.take lo),e.fl (l.drop (lo+min m.length (hi - lo)))++B,?_,?_,?_⟩
   ·rw [hA]
    conv=>lhs; rw [hll]
    simp [e.fl_append]
   ·rw [hA',hcp]; simp [e.fl_append]
   ·rw [List.length_append,hAl,e.fl_length,hsz,List.length_take]; omega
  refine hup2.spl ?_
  rw [hlen,e.fl_length,hsz,List.length_take,List.length_drop]; omega
 obtain ⟨T',cur,hg,hcs,hS'⟩:=hS.setB (off:=off+lo) (us:=e.fl (m.take (min m.length (hi - lo)))) hi'
 rw [hnew]at hS'
 have hcur:off+lo+min m.length (hi - lo)≤cur.size:=by
  have:cur.size=cs.length:=by rw [←hcs]; simp
  rw [this,hA,List.length_append,List.length_append,hAl,e.fl_length,hsz]; omega
 by_cases hcl:q=lo
 ·have hz:hi - lo=0:=by omega
  refine dK (vI 0) w (fun a ha=>?_) ⟨by rw [hz]; simp,?_⟩
  ·have hv0:slV (.slice (some ⟨b,off,none⟩) q q) e.sz lo hi=.slice (some ⟨b,off,none⟩) (hi - lo) (q - lo):=by simp [slV,hcl]
   rw [hv0]at hx
   simp only [hz,Nat.min_zero]at hk hx
   have hr:(Builtin.copy_ #[T,T2] ty #[.slice (some ⟨b,off,none⟩) 0 (q - lo),.slice ua m.length uc]).run P w=.ok (vI 0) w:=by
    simp [Builtin.copy_,run_underlying hT,Builtin.lenOf,sizeOf,typeInfo,hi2,hs,hk,goInt,Enc.fl,storeCells]
   simp [execOp,resolve,invoke,builtin,ha.ev hx,ha.ev hy,hr]
  ·have:cs'=cs:=by
    rw [←hnew,hz]; simp [spl,Enc.fl]
   rw [this]
   have hsame:os.set i (.bx b cs)=os:=rT hi'
   rw [hsame]; exact hS
 ·have hv0:slV (.slice (some ⟨b,off,none⟩) q q) e.sz lo hi=.slice (some ⟨b,off+lo,none⟩) (hi - lo) (q - lo):=by simp [slV,hcl,cc,hsz]
  rw [hv0]at hx
  have hst:=run_storeCells_at P b (off+lo) T' (e.fl (m.take (min m.length (hi - lo)))) 0 cur w hg (by rw [hlen]; omega) (e.fl_one _)
  simp only [Nat.add_zero]at hst
  refine dK _ _ (fun a ha=>?_) ⟨rfl,hS'⟩
  have hr:(Builtin.copy_ #[T,T2] ty #[.slice (some ⟨b,off+lo,none⟩) (hi - lo) (q - lo),.slice ua m.length uc]).run P w=.ok (vI (min m.length (hi - lo):Nat)) (w.setRow b (cur.toList.take (off+lo)++e.fl (m.take (min m.length (hi - lo)))++cur.toList.drop (off+lo+(e.fl (m.take (min m.length (hi - lo)))).length)).toArray):=by
   simp [Builtin.copy_,run_underlying hT,Builtin.lenOf,sizeOf,typeInfo,hi2,hs,hk,hst,goInt]
  simp [execOp,resolve,invoke,builtin,ha.ev hx,ha.ev hy,hr]
def GA {τ:Type} (S:List Nat) (w0:World) (g:Nat) (e:Enc τ) (l:List τ):Prop:=(∀j u,(e.fl l)[j]? = some u→w0.cell? ⟨g,j,none⟩=some u)∧g ∉ S
theorem GA.cells {τ:Type} {g:Nat} {e:Enc τ} {l:List τ} (h:GA S w0 g e l) (hf:Fr S w0 w):∀j u,(e.fl l)[j]? = some u→w.cell? ⟨g,0+j,none⟩=some u:=fun j u hj=>by
 have:=h.1 j u hj
 rw [Nat.zero_add,hf.cell (gV this) h.2]
 exact this
theorem GA.cell {τ:Type} {g:Nat} {e:Enc τ} {l:List τ} (h:GA S w0 g e l) (hf:Fr S w0 w) {j:Int} {t:τ} {u:Value} (hy:aB l j=some t) (hu:e.cells t=[u]):w.cell? ⟨g,0+j.toNat*1,none⟩=some u:=
 h.cells hf _ u (by have:=Up.elr (cs:=e.fl l) (off:=0) Up.last hy hu; simpa using this)
theorem GA.now {τ:Type} {g:Nat} {e:Enc τ} {l:List τ} (h:GA S w0 g e l) (hf:Fr S w0 w):GA [] w g e l:=⟨fun j u hj=>by have:=h.cells hf j u hj; simpa using this,by simp⟩
theorem GA.give {τ:Type} {g:Nat} {e:Enc τ} {l:List τ} {os0:List OE} (h:GA S w0 g e l) (hne:0<(e.fl l).length) (hS:St S w0 w (os0++os)):GA (db os0) w g e l:=by
 refine ⟨fun j u hj=>by have:=h.cells hS.fr j u hj; simpa using this,fun hk=>?_⟩
 obtain ⟨o,ho,hob⟩:=cg.1 hk
 have h1:=((hS.ok o (List.mem_append_left _ ho)).lt hob).2
 rcases h1 with h1 | h1
 ·have:=gV (h.1 0 _ (List.getElem?_eq_getElem hne))
  simp only at this
  omega
 ·exact h.2 h1
theorem rK {x z u:Operand} {T E:TypeId} {k k':IntKind} {hi m:Int} {τ:Type} {e:Enc τ} {v z0:Value} {l:List τ} {bytes:Nat} (hT:P.underlying T=some (.slice E)) (hE:TI P E z0 e.sz bytes)
  (hx:L.ev x=some v) (hz:L.ev z=some (.int k hi)) (hu:L.ev u=some (.int k' m)) (h:RO w e v l) (hg:0≤hi∧hi.toNat≤l.length∧m=hi) :
  OpV P n L w ⟨d,.slice T x none (some z) (some u),ty,pos,after,none⟩ (slV3 v e.sz 0 hi.toNat hi.toNat) w:=fun a ha=>by
 obtain ⟨b,c,rfl,hc,_⟩:=h
 obtain ⟨inf,hi',_,hs,_⟩:=hE.get
 obtain ⟨h0,h1,rfl⟩:=hg
 have e2:m≤(c:Int):=by omega
 have e3:(m.toNat:Int)=m:=Int.toNat_of_nonneg (by omega)
 simp [execOp,ha.ev hx,ha.ev hz,ha.ev hu,Instr.sliceAt,Instr.slice,run_underlying hT,Instr.sliceBounds,run_sliceBound,h0,e2,e3,sizeOf,typeInfo,hi',hs,slV3]
theorem OE.ok.cut3 {B:Nat} {τ:Type} {e:Enc τ} {v:Value} {l:List τ} {k:Nat} (h:(own e v l).ok S B w) (hk:k≤l.length):(own e (slV3 v e.sz 0 k k) (l.take k)).ok S B w:=by
 refine ⟨e.fl_length _,?_⟩
 rcases h.2 with ⟨rfl,hn⟩ | ⟨g,cap,cur,T,rfl,hf,hg,hnc,hcm,hcs,htake⟩
 ·have:k=0:=by omega
  subst this
  exact .inl ⟨by simp [slV3],by simp⟩
 ·have hv:slV3 (.slice (some ⟨g,0,none⟩) l.length cap) e.sz 0 k k=.slice (some ⟨g,0,none⟩) k k:=by
   simp [slV3,cc]
  have hkl:(l.take k).length=k:=by simp; omega
  refine .inr ⟨g,k,cur,T,by rw [hv,hkl],hf,hg,by rw [hkl]; exact Nat.le_refl _,by omega,Nat.le_trans (Nat.mul_le_mul_right _ (by omega)) hcs,?_⟩
  rw [hkl,e.fl_take,←htake,List.take_take,Nat.min_eq_left (Nat.mul_le_mul_right _ hk)]
theorem St.trunc3 {τ:Type} {e:Enc τ} {v:Value} {l:List τ} {i k:Nat} (h:St S w0 w os) (hi:os[i]? = some (own e v l)) (hk:k≤l.length):St S w0 w (os.set i (own e (slV3 v e.sz 0 k k) (l.take k))):=by
 refine h.set hi (Fr.refl _ _) ((h.ok _ (List.mem_of_getElem? hi)).cut3 hk) fun q hq=>.inl ?_
 have hok:=h.ok _ (List.mem_of_getElem? hi)
 rcases hok.2 with ⟨rfl,hn⟩ | ⟨g,cap,cur,T,rfl,_⟩
 ·simp [OE.blk,slV3,Value.ownBlock]at hq
 ·simpa [OE.blk,slV3,cc,Value.ownBlock] using hq
end
end Go.Gk
end

section
namespace Go.Gk
open Go Go.RowKit
section
variable {S:List Nat} {w0 w:World} {os os0:List OE} {b:Nat} {cs:List Value}
def RB (S:List Nat) (w0:World) (b:Nat) (cs:List Value):Prop:=(∀j u,cs[j]? = some u→w0.cell? ⟨b,j,none⟩=some u)∧b ∉ S∧b<w0.heap.size
theorem RB.cells (h:RB S w0 b cs) (hf:Fr S w0 w):∀j u,cs[j]? = some u→w.cell? ⟨b,0+j,none⟩=some u:=fun j u hj=>by
 have:=h.1 j u hj
 rw [Nat.zero_add,hf.cell (gV this) h.2.1]
 exact this
theorem RB.cell (h:RB S w0 b cs) (hf:Fr S w0 w) (j:Nat) {u:Value} (hj:cs[j]? = some u):w.cell? ⟨b,0+j,none⟩=some u:=h.cells hf j u hj
theorem RB.now (h:RB S w0 b cs) (hf:Fr S w0 w):RB [] w b cs:=
 ⟨fun j u hj=>by have:=h.cells hf j u hj; simpa using this,by simp,Nat.lt_of_lt_of_le h.2.2 hf.size⟩
theorem RB.give (h:RB S w0 b cs) (hS:St S w0 w (os0++os)):RB (db os0) w b cs:=by
 refine ⟨fun j u hj=>by have:=h.cells hS.fr j u hj; simpa using this,fun hk=>?_,Nat.lt_of_lt_of_le h.2.2 hS.fr.size⟩
 obtain ⟨o,ho,hob⟩:=cg.1 hk
 have h1:=((hS.ok o (List.mem_append_left _ ho)).lt hob).2
 rcases h1 with h1 | h1
 ·have:=h.2.2
  omega
 ·exact h.2.1 h1
theorem St.rb (hS:St S w0 w os) (i:Nat) (hi:os[i]? = some (.bx b cs)):RB [] w b cs:=by
 obtain ⟨hf,T,cur,hg,hcs⟩:=hS.ok _ (List.mem_of_getElem? hi)
 exact ⟨fun j u hj=>by rw [hS.bxc i hi]; exact hj,by simp,(Array.getElem?_eq_some_iff.1 hg).1⟩
theorem St.giveB (hS:St S w0 w (os0++os)) (i:Nat) (hi:os[i]? = some (.bx b cs)):RB (db os0) w b cs:=by
 have hm:=List.mem_of_getElem? hi
 have hi':(os0++os)[os0.length+i]? = some (.bx b cs):=by rw [List.getElem?_append_right (by omega)]; simpa using hi
 obtain ⟨h1,_,h3⟩:=hS.rb _ hi'
 refine ⟨h1,fun hk=>?_,h3⟩
 obtain ⟨o,ho,hob⟩:=cg.1 hk
 exact (List.pairwise_append.1 hS.dj).2.2 o ho _ hm b hob rfl
end
theorem sO {τ:Type} (k:Nat) (l:List τ):(l.take k).length≤l.length:=by rw [List.length_take]; exact Nat.min_le_right _ _
theorem wB (a:Addr) (k:Nat):a.add (0*k)=a:=by
 rw [Nat.zero_mul]
 unfold Addr.add
 cases a with
 | mk b off sp=>cases sp <;> simp
theorem jn (a:Option Addr) (k:Nat):a.map (·.add (0*k))=a:=by
 cases a with
 | none=>rfl
 | some a=>simp only [Option.map_some,wB]
theorem RO.full {w:World} {τ:Type} {e:Enc τ} {v:Value} {l:List τ} (h:RO w e v l):v=slV v e.sz 0 l.length:=by
 obtain ⟨a,c,rfl,hc,_⟩:=h
 simp only [slV,Nat.sub_zero,jn,ite_self]
theorem RO.cut3 {w:World} {τ:Type} {e:Enc τ} {v:Value} {l:List τ} (h:RO w e v l) (k m:Nat):Go.Gk.slV3 (slV v e.sz 0 k) e.sz 0 m m=Go.Gk.slV3 v e.sz 0 m m:=by
 obtain ⟨a,c,rfl,hc,_⟩:=h
 simp only [slV,Go.Gk.slV3,Nat.sub_zero,jn,ite_self]
theorem RO.tk3 {w:World} {τ:Type} {e:Enc τ} {v:Value} {l:List τ} (h:RO w e v l) {k:Nat} (hk:k≤l.length):RO w e (slV3 v e.sz 0 k k) (l.take k):=by
 have:=h.sub3 (lo:=0) (hi:=k) (m:=k) (Nat.zero_le _) hk (Nat.le_refl _)
 simpa using this
theorem RP.tk3 {S:List Nat} {w:World} {τ:Type} {e:Enc τ} {v:Value} {l:List τ} (h:RP S w e v l) {k:Nat} (hk:k≤l.length):RP S w e (slV3 v e.sz 0 k k) (l.take k):=by
 refine ⟨h.1.tk3 hk,fun hl j hj hb=>?_⟩
 have hne:l≠[]:=by rintro rfl; simp at hl
 refine h.2 hne j hj ?_
 obtain ⟨a,c,rfl,hc,_⟩:=h.1
 have hb':rG (.slice a k k)=some j:=by simpa only [Go.Gk.slV3,Nat.sub_zero,jn,ite_self] using hb
 cases a <;> exact hb'
end Go.Gk
end

section
namespace Go.Gk
open Go Go.RowKit
section
variable {S Sb:List Nat} {w0 wb w w':World} {es es1 os os0 osF osK:List OE}
def OE.kept (S:List Nat) (w:World):OE→Prop
 | .bx b cs=>RB S w b cs
 | .rd v sz n cs=>cs.length=n*sz∧∃a c,v=.slice a n c∧n≤c ∧
   (n≠0→∃b off,a=some ⟨b,off,none⟩∧b<w.heap.size∧b ∉ S∧∀j u,cs[j]? = some u→w.cell? ⟨b,off+j,none⟩=some u)
 | .sl ..=>True
def OE.kp:OE→OE
 | .sl v sz n cs=>.rd v sz n cs
 | o=>o
theorem OE.kept.to {o:OE} {S':List Nat} (h:o.kept S w) (hf:Fr S w w') (hS:∀k,k<w.heap.size→k ∉ S→k ∉ S'):o.kept S' w':=by
 cases o with
 | sl v sz n cs=>trivial
 | bx b cs=>
  obtain ⟨h1,h2,h3⟩:=h
  refine ⟨fun j u hj=>?_,hS _ h3 h2,Nat.lt_of_lt_of_le h3 hf.size⟩
  rw [hf.cell h3 h2]
  exact h1 j u hj
 | rd v sz n cs=>
  obtain ⟨hl,a,c,rfl,hc,hx⟩:=h
  refine ⟨hl,a,c,rfl,hc,fun hn=>?_⟩
  obtain ⟨b,off,rfl,hb,hs,hcell⟩:=hx hn
  refine ⟨b,off,rfl,Nat.lt_of_lt_of_le hb hf.size,hS _ hb hs,fun j u hj=>?_⟩
  rw [hf.cell hb hs]
  exact hcell j u hj
theorem OE.kept.fr {o:OE} (h:o.kept S w) (hf:Fr S w w'):o.kept S w':=h.to hf fun _ _ h=>h
theorem OE.kept.blk {o:OE} (h:o.kept S w) (ho:∀v sz n cs,o≠.sl v sz n cs) {k:Nat} (hk:o.blk=some k):k<w.heap.size∧k ∉ S:=by
 cases o with
 | sl v sz n cs=>exact absurd rfl (ho v sz n cs)
 | bx b cs=>simp [OE.blk]at hk; subst hk; exact ⟨h.2.2,h.2.1⟩
 | rd v sz n cs=>
  obtain ⟨hl,a,c,rfl,hc,hx⟩:=h
  simp only [OE.blk]at hk
  split at hk
  ·cases hk
  ·rename_i hn
   obtain ⟨b,off,rfl,hb,hs,_⟩:=hx hn
   simp [Value.ownBlock]at hk
   subst hk
   exact ⟨hb,hs⟩
theorem OE.ok.kept {o:OE} {B:Nat} (h:o.ok S B w) {S':List Nat} (hd:∀k,o.blk=some k→k ∉ S'):o.kp.kept S' w:=by
 cases o with
 | sl v sz n cs=>
  refine ⟨h.1,?_⟩
  rcases h.2 with ⟨rfl,rfl⟩ | ⟨g,cap,cur,T,rfl,hf,hg,hnc,hcm,hcs,htake⟩
  ·exact ⟨none,0,rfl,Nat.le_refl _,fun h=>absurd rfl h⟩
  ·refine ⟨_,cap,rfl,hnc,fun _=>⟨g,0,rfl,hg.lt,hd g rfl,fun j u hj=>?_⟩⟩
   rw [←htake,List.getElem?_take]at hj
   split at hj
   ·rw [Nat.zero_add,hg.cell j]
    simpa using hj
   ·cases hj
 | rd v sz n cs=>
  obtain ⟨hl,a,c,rfl,hc,hx⟩:=h
  refine ⟨hl,a,c,rfl,hc,fun hn=>?_⟩
  obtain ⟨b,off,rfl,hb,_,hcell⟩:=hx hn
  exact ⟨b,off,rfl,hb,hd b (by simp [OE.blk,hn,Value.ownBlock]),hcell⟩
 | bx b cs=>
  obtain ⟨hf,T,cur,hg,hcs⟩:=h
  have hlt:=(Array.getElem?_eq_some_iff.1 hg).1
  refine ⟨fun j u hj=>?_,hd b rfl,hlt⟩
  rw [cell_of_row w b j cur T _ hg,←Array.getElem?_toList,hcs]
  exact hj
def Rds (S:List Nat) (w:World) (es:List OE):Prop:=∀o∈es,o.kept S w
structure Fz (S:List Nat) (w0:World) (Sb:List Nat) (wb:World):Prop where
 fr:Fr S w0 wb
 sb:∀b∈Sb,fre S w0.heap.size b
def Sf (S:List Nat) (w0 w:World) (es os:List OE):Prop:=∃Sb wb,Fz S w0 Sb wb∧Rds Sb wb es∧St Sb wb w os
theorem Rds.nil:Rds S w []:=fun o h=>by cases h
theorem Rds.cons {o:OE} (h:o.kept S w) (hr:Rds S w es):Rds S w (o :: es):=fun p hp=>by
 rcases List.mem_cons.1 hp with rfl | hp
 ·exact h
 ·exact hr p hp
theorem Rds.app (h:Rds S w es) (h1:Rds S w es1):Rds S w (es++es1):=fun p hp=>(List.mem_append.1 hp).elim (h p) (h1 p)
theorem RB.kept {b:Nat} {cs:List Value} (h:RB S w b cs):(OE.bx b cs).kept S w:=h
theorem RP.kept {τ:Type} {e:Enc τ} {v:Value} {l:List τ} (hz:0<e.sz) (h:RP S w e v l):(red e v l).kept S w:=by
 refine ⟨e.fl_length l,?_⟩
 obtain ⟨a,c,rfl,hc,hr⟩:=h.1
 refine ⟨a,c,rfl,hc,fun hn=>?_⟩
 have hl:l≠[]:=by rintro rfl; exact hn rfl
 obtain ⟨b,off,rfl,hcell⟩:=hr hl
 have hne:0<(e.fl l).length:=by
  rw [e.fl_length]
  exact Nat.mul_pos (List.length_pos_iff.2 hl) hz
 exact ⟨b,off,rfl,gV (hcell 0 _ (List.getElem?_eq_getElem hne)),fun hb=>h.2 hl b hb rfl,hcell⟩
theorem OE.kept.rp {τ:Type} {e:Enc τ} {v:Value} {l:List τ} (h:(red e v l).kept S w):RP S w e v l:=by
 obtain ⟨_,a,c,rfl,hc,hcell⟩:=h
 refine ⟨⟨a,c,rfl,hc,fun hl=>?_⟩,fun hl k hk hb=>?_⟩
 ·obtain ⟨b,off,h1,_,_,h2⟩:=hcell (by simpa using hl)
  exact ⟨b,off,h1,h2⟩
 ·obtain ⟨b,off,rfl,_,hs,_⟩:=hcell (by simpa using hl)
  have:b=k:=by simpa [Value.ownBlock] using hb
  exact hs (this ▸ hk)
def jJ (es:List OE) (k:Nat):Option OE:=es[es.length - 1 - k]?
theorem Rds.rp (h:Rds S w es) (k:Nat) {τ:Type} {e:Enc τ} {v:Value} {l:List τ} (hk:jJ es k=some (red e v l)):RP S w e v l:=(h _ (List.mem_of_getElem? hk)).rp
theorem Rds.rb (h:Rds S w es) (k:Nat) {b:Nat} {cs:List Value} (hk:jJ es k=some (.bx b cs)):RB S w b cs:=h _ (List.mem_of_getElem? hk)
theorem Rds.pick {es':List OE} (h:Rds S w es) (ix:List Nat) (he:es'.map some=ix.map (fun i=>jJ es i)):Rds S w es':=fun o ho=>by
 have h1:some o∈es'.map some:=List.mem_map_of_mem ho
 rw [he]at h1
 obtain ⟨i,_,hi⟩:=List.mem_map.1 h1
 exact h o (List.mem_of_getElem? hi)
theorem Sf.of (hA:Rds S w0 es) (hS:St S w0 w os):Sf S w0 w es os:=⟨S,w0,⟨Fr.refl _ _,fun b hb=>.inr hb⟩,hA,hS⟩
theorem Sf.mk' (hF:Fz S w0 Sb wb) (hA:Rds Sb wb es) (hS:St Sb wb w os):Sf S w0 w es os:=⟨Sb,wb,hF,hA,hS⟩
theorem Fz.start:Fz S w0 S w0:=⟨Fr.refl _ _,fun b hb=>.inr hb⟩
theorem Fz.st (hF:Fz S w0 Sb wb) (hS:St Sb wb w os):St S w0 w os:=by
 have hfre:∀k,fre Sb wb.heap.size k→fre S w0.heap.size k:=by
  intro k hk
  rcases hk with hk | hk
  ·exact .inl (Nat.le_trans hF.fr.size hk)
  ·exact hF.sb k hk
 refine ⟨hF.fr.step hS.fr hF.sb,fun o ho=>(hS.ok o ho).re fun k _ hf=>hfre k hf,hS.dj⟩
end
end Go.Gk
namespace Go.Gk
open Go Go.RowKit
theorem OE.kept.nil {S:List Nat} {w:World} {τ:Type} {e:Enc τ}:(red e (.slice none 0 0) ([]:List τ)).kept S w:=⟨by simp,none,0,rfl,Nat.le_refl _,fun h=>absurd rfl h⟩
theorem Rds.nth {S:List Nat} {w:World} {es:List OE} (h:Rds S w es) (k:Nat) {o:OE} (hk:jJ es k=some o):o.kept S w:=h _ (List.mem_of_getElem? hk)
def jY {α:Type} (x:Option α) (p:Prop) (q:α→Prop):Prop:=match x with
 | none=>p
 | some c=>q c
theorem qD {α:Type} {p:Prop} {q:α→Prop} (h:p):jY none p q:=h
theorem nt {α:Type} {c:α} {p:Prop} {q:α→Prop} (h:q c):jY (some c) p q:=h
theorem eN {α:Type} {p:Prop} {q:α→Prop} (h:jY none p q):p:=h
theorem eO {α:Type} {c:α} {p:Prop} {q:α→Prop} (h:jY (some c) p q):q c:=h
end Go.Gk
namespace Go.Gk
open Go Go.RowKit
def OE.ns:OE→Bool
 | .sl ..=>false
 | _=>true
def Off (T:List Nat) (es:List OE):Prop:=∀o∈es,∀b,o.blk=some b→b ∉ T
def TOk (S T:List Nat) (w0:World):Prop:=∀b∈T,b<w0.heap.size∧b ∉ S
def SfT (S T:List Nat) (w0 w:World) (es os:List OE):Prop:=∃Sb wb,Fz S w0 Sb wb∧Rds Sb wb es∧Off T es∧St Sb wb w os
section
variable {S T Sb:List Nat} {w0 wb w w':World} {es es1 os os0 osF osK:List OE}
theorem TOk.nil:TOk S [] w0:=fun b h=>by cases h
theorem Off.nil:Off T []:=fun o h=>by cases h
theorem Off.emp:Off [] es:=fun o _ b _ h=>by cases h
theorem Off.cons {o:OE} (h:∀b,o.blk=some b→b ∉ T) (hr:Off T es):Off T (o :: es):=fun p hp=>by
 rcases List.mem_cons.1 hp with rfl | hp
 ·exact h
 ·exact hr p hp
theorem Off.app (h:Off T es) (h1:Off T es1):Off T (es++es1):=fun p hp=>(List.mem_append.1 hp).elim (h p) (h1 p)
theorem OE.kept.off {o:OE} (h:o.kept T w) (hn:o.ns=true):∀b,o.blk=some b→b ∉ T:=fun b hb=>(h.blk (fun v sz n cs e=>by rw [e]at hn; cases hn) hb).2
theorem OE.kept.all {o:OE} (h:o.kept T w):o.kept [] w:=h.to (Fr.refl _ _) fun _ _ _=>by simp
theorem OE.kept.more {o:OE} (h:o.kept Sb w) (hn:∀b,o.blk=some b→b ∉ T):o.kept (T++Sb) w:=by
 cases o with
 | sl v sz n cs=>trivial
 | bx b cs=>
  obtain ⟨h1,h2,h3⟩:=h
  exact ⟨h1,fun hb=>(List.mem_append.1 hb).elim (hn b rfl) h2,h3⟩
 | rd v sz n cs=>
  obtain ⟨hl,a,c,rfl,hc,hx⟩:=h
  refine ⟨hl,a,c,rfl,hc,fun hne=>?_⟩
  obtain ⟨b,off,rfl,hb,hs,hcell⟩:=hx hne
  exact ⟨b,off,rfl,hb,fun hbb=>(List.mem_append.1 hbb).elim (hn b (by simp [OE.blk,hne,Value.ownBlock])) hs,hcell⟩
theorem Rds.off (h:Rds T w es) (hn:es.all OE.ns=true):Off T es:=fun o ho=>(h o ho).off (List.all_eq_true.1 hn o ho)
theorem Rds.all (h:Rds T w es):Rds [] w es:=fun o ho=>(h o ho).all
theorem Rds.rpT (h:Rds Sb w es) (hP:Off T es) (k:Nat) {τ:Type} {e:Enc τ} {v:Value} {l:List τ} (hk:jJ es k=some (red e v l)):RP (T++Sb) w e v l:=
 ((h _ (List.mem_of_getElem? hk)).more (hP _ (List.mem_of_getElem? hk))).rp
theorem Rds.rbT (h:Rds Sb w es) (hP:Off T es) (k:Nat) {b:Nat} {cs:List Value} (hk:jJ es k=some (.bx b cs)):RB (T++Sb) w b cs:=
 (h _ (List.mem_of_getElem? hk)).more (hP _ (List.mem_of_getElem? hk))
theorem OE.blk_kp (o:OE):∀b,o.kp.blk=some b→o.blk=some b:=fun b h=>by
 cases o with
 | sl v sz n cs=>
  simp only [OE.kp,OE.blk]at h ⊢
  split at h
  ·cases h
  ·exact h
 | bx b cs=>exact h
 | rd v sz n cs=>exact h
theorem Fz.offF (hF:Fz S w0 Sb wb) (hT:TOk S T w0) (hP:Off T es) (hS:St Sb wb w (osF++osK)):Off T (osF.map OE.kp++es):=by
 refine Off.app (fun o ho b hb hbT=>?_) hP
 obtain ⟨q,hq,rfl⟩:=List.mem_map.1 ho
 have h1:=(((hF.st hS).ok q (List.mem_append_left _ hq)).lt (OE.blk_kp q b hb)).2
 obtain ⟨h2,h3⟩:=hT b hbT
 rcases h1 with h1 | h1
 ·omega
 ·exact h3 h1
theorem Fz.frzK (hF:Fz S w0 Sb wb) (hT:TOk S T w0) (hA:Rds Sb wb es) (hP:Off T es) (hS:St Sb wb w (osF++osK)) :
  Fz S w0 (db osK) w∧Rds (db osK) w (osF.map OE.kp++es)∧Off T (osF.map OE.kp++es)∧St (db osK) w w osK:=by
 have hst:=hF.st hS
 have hp:=List.pairwise_append.1 hS.dj
 refine ⟨⟨hst.fr,fun b hb=>?_⟩,Rds.app ?_ ?_,hF.offF hT hP hS,?_⟩
 ·obtain ⟨o,ho,hob⟩:=cg.1 hb
  exact ((hst.ok o (List.mem_append_right _ ho)).lt hob).2
 ·intro p hp'
  obtain ⟨o,ho,rfl⟩:=List.mem_map.1 hp'
  refine (hS.ok o (List.mem_append_left _ ho)).kept fun k hk hx=>?_
  obtain ⟨q,hq,hqb⟩:=cg.1 hx
  exact hp.2.2 o ho q hq k hk hqb
 ·intro o ho
  refine (hA o ho).to hS.fr fun k hk hs hx=>?_
  obtain ⟨q,hq,hqb⟩:=cg.1 hx
  rcases ((hS.ok q (List.mem_append_right _ hq)).lt hqb).2 with h | h
  ·omega
  ·exact hs h
 ·exact ⟨Fr.refl _ _,fun o ho=>(hS.ok o (List.mem_append_right _ ho)).re fun k hk _=>.inr (cg.2 ⟨o,ho,hk⟩),hp.2.1⟩
theorem Fz.frzT (hF:Fz S w0 Sb wb) (hT:TOk S T w0) (hA:Rds Sb wb es) (hP:Off T es) (hS:St Sb wb w (osF++osK)) :
  ∃Sb' wb',Fz S w0 Sb' wb'∧Rds Sb' wb' (osF.map OE.kp++es)∧Off T (osF.map OE.kp++es)∧St Sb' wb' w osK:=by
 obtain ⟨h1,h2,h3,h4⟩:=hF.frzK hT hA hP hS
 exact ⟨_,_,h1,h2,h3,h4⟩
theorem Fz.okT (hF:Fz S w0 (db osK) w) (hT:TOk S T w0) (hS:St (db osK) w w osK):TOk [] (T++db osK) w:=fun b hb=>by
 refine ⟨?_,by simp⟩
 rcases List.mem_append.1 hb with hb | hb
 ·exact Nat.lt_of_lt_of_le (hT b hb).1 hF.fr.size
 ·obtain ⟨o,ho,hob⟩:=cg.1 hb
  exact ((hS.ok o ho).lt hob).1
theorem Fz.callK (hF:Fz S w0 (db osK) w) (hA:Rds (db osK) w es) (hP:Off T es) (hS:St (db osK) w w osK) (hC:St [] w w' []) (hR:Rds (T++db osK) w' es1) (hn:es1.all OE.ns=true) :
  ∃Sb' wb',Fz S w0 Sb' wb'∧Rds Sb' wb' (es1++es)∧Off T (es1++es)∧St Sb' wb' w' osK:=by
 have h4:St (db osK) w w' osK:=by have:=hS.call hC; rwa [List.nil_append]at this
 have hb:∀b∈db osK,b<w.heap.size:=fun b hb=>by
  obtain ⟨o,ho,hob⟩:=cg.1 hb
  exact ((hS.ok o ho).lt hob).1
 refine ⟨db osK,w',⟨(hF.st h4).fr,hF.sb⟩,Rds.app (fun o ho=>(hR o ho).to (Fr.refl _ _) fun k _ hk hx=>hk (List.mem_append_right _ hx)) (fun o ho=>(hA o ho).fr h4.fr),?_,?_⟩
 ·refine Off.app (fun o ho b hb hx=>?_) hP
  exact (hR o ho).off (List.all_eq_true.1 hn o ho) b hb (List.mem_append_left _ hx)
 ·exact ⟨Fr.refl _ _,fun o ho=>(h4.ok o ho).re fun k hk _=>.inr (cg.2 ⟨o,ho,hk⟩),h4.dj⟩
theorem Fz.outT (hF:Fz [] w0 Sb wb) (hT:TOk [] T w0) (hA:Rds Sb wb es) (hP:Off T es) (hS:St Sb wb w os):St [] w0 w []∧Rds T w (os.map OE.kp++es):=by
 obtain ⟨h1,h2,h3,h4⟩:=Fz.frzK (osK:=[]) hF hT hA hP (by rw [List.append_nil]; exact hS)
 refine ⟨h1.st h4,fun o ho=>?_⟩
 have:=(h2 o ho).more (h3 o ho)
 exact this.to (Fr.refl _ _) fun k _ hk hx=>hk (List.mem_append_left _ hx)
theorem SfT.mk' (hF:Fz S w0 Sb wb) (hA:Rds Sb wb es) (hP:Off T es) (hS:St Sb wb w os):SfT S T w0 w es os:=⟨Sb,wb,hF,hA,hP,hS⟩
theorem Off.pick {es':List OE} (h:Off T es) (ix:List Nat) (he:es'.map some=ix.map (fun i=>jJ es i)):Off T es':=fun o ho=>by
 have h1:some o∈es'.map some:=List.mem_map_of_mem ho
 rw [he]at h1
 obtain ⟨i,_,hi⟩:=List.mem_map.1 h1
 exact h o (List.mem_of_getElem? hi)
theorem Off.nth (h:Off T es) (k:Nat) {o:OE} (hk:jJ es k=some o):∀b,o.blk=some b→b ∉ T:=h _ (List.mem_of_getElem? hk)
end
end Go.Gk
namespace Go.Gk
open Go Go.RowKit
section
variable {P:Program} {n:Nat} {L:Env} {w:World}
theorem wd {fn:Func} {r1 r2 r3:ResultVar} {v1 v2 v3:Value} {φ:Value→World→Prop} (hres:fn.results=#[r1,r2,r3]) (h1:RV P L w r1 v1) (h2:RV P L w r2 v2) (h3:RV P L w r3 v3) (h:φ (.tuple #[v1,v2,v3]) w):QE n (bodyPost P fn (Ret φ)) .ret L w:=fun a ha=>by
 refine ⟨ha.defers,.tuple #[v1,v2,v3],?_,h⟩
 cases r1 <;> cases r2 <;> cases r3
 ·have g1:=ha.get _ _ h1
  have g2:=ha.get _ _ h2
  have g3:=ha.get _ _ h3
  simp [results,hres,g1,g2,g3]
 ·have g1:=ha.get _ _ h1
  have g2:=ha.get _ _ h2
  obtain ⟨b3,g3,k3⟩:=h3
  have g3:=ha.get _ _ g3
  simp [results,hres,g1,g2,g3,k3,du]
 ·have g1:=ha.get _ _ h1
  obtain ⟨b2,g2,k2⟩:=h2
  have g2:=ha.get _ _ g2
  have g3:=ha.get _ _ h3
  simp [results,hres,g1,g2,k2,g3,du]
 ·have g1:=ha.get _ _ h1
  obtain ⟨b2,g2,k2⟩:=h2
  have g2:=ha.get _ _ g2
  obtain ⟨b3,g3,k3⟩:=h3
  have g3:=ha.get _ _ g3
  simp [results,hres,g1,g2,k2,g3,k3,du]
 ·obtain ⟨b1,g1,k1⟩:=h1
  have g1:=ha.get _ _ g1
  have g2:=ha.get _ _ h2
  have g3:=ha.get _ _ h3
  simp [results,hres,g1,k1,g2,g3,du]
 ·obtain ⟨b1,g1,k1⟩:=h1
  have g1:=ha.get _ _ g1
  have g2:=ha.get _ _ h2
  obtain ⟨b3,g3,k3⟩:=h3
  have g3:=ha.get _ _ g3
  simp [results,hres,g1,k1,g2,g3,k3,du]
 ·obtain ⟨b1,g1,k1⟩:=h1
  have g1:=ha.get _ _ g1
  obtain ⟨b2,g2,k2⟩:=h2
  have g2:=ha.get _ _ g2
  have g3:=ha.get _ _ h3
  simp [results,hres,g1,k1,g2,k2,g3,du]
 ·obtain ⟨b1,g1,k1⟩:=h1
  have g1:=ha.get _ _ g1
  obtain ⟨b2,g2,k2⟩:=h2
  have g2:=ha.get _ _ g2
  obtain ⟨b3,g3,k3⟩:=h3
  have g3:=ha.get _ _ g3
  simp [results,hres,g1,k1,g2,k2,g3,k3,du]
end
end Go.Gk
end

section
namespace Go.Gk
open Go Go.RowKit
section
variable {P:Program} {n:Nat} {L:Env} {w w' w0:World} {S:List Nat} {os:List OE}
variable {d:Option Tmp} {ty:TypeId} {pos:String} {after:Array Edge}
theorem r9 {T E ty:TypeId} {τ:Type} {e:Enc τ} {z:Value} {bytes:Nat} {v:Value} {l:List τ} {t0:τ} {B:Nat} (hT:P.underlying T=some (.slice E)) (hE:TI P E z e.sz bytes) (hsz:e.sz=1) (h0:e.cells t0=[z]) (hz:z.cells=#[z])
  (ho:(own e v l).ok S B w):∃w',(Builtin.clear_ #[T] ty #[v]).run P w=.ok (.tuple #[]) w'∧(own e v (List.replicate l.length t0)).ok S B w'∧Fr (own e v l).blk.toList w w':=by
 obtain ⟨inf,hi',hzr,hs,_⟩:=hE.get
 by_cases hl0:l.length=0
 ·have hl:l=[]:=List.eq_nil_of_length_eq_zero hl0
  subst hl
  refine ⟨w,?_,ho,Fr.refl _ _⟩
  rcases ho.2 with ⟨rfl,hn⟩ | ⟨g,cap,cur,T',rfl,_⟩
  ·simp [Builtin.clear_,run_underlying hT]
  ·simp [Builtin.clear_,run_underlying hT]
 rcases ho.2 with ⟨rfl,hn⟩ | ⟨g,cap,cur,T',rfl,hfr,hg,hnc,hcm,hcs,htake⟩
 ·exact absurd hn hl0
 ·have hfl:e.fl (List.replicate l.length t0)=List.replicate l.length z:=by
   rw [Enc.fl,List.flatMap_replicate,h0]
   generalize l.length=m
   induction m with
   | zero=>rfl
   | succ m ih=>simp_all [List.replicate_succ]
  have hzc:(Builtin.zeroCells z.cells l.length).toList=List.replicate l.length z:=by
   rw [hz]
   simp [Builtin.zeroCells]
   apply List.ext_getElem
   ·simp
   ·intro i h1 h2
    simp [Nat.mod_one]
  have hlen:(e.fl (List.replicate l.length t0)).length=l.length:=by rw [hfl]; simp
  have hcur:l.length≤cur.size:=by rw [hsz]at hcs; omega
  have hst:=dH P g 0 T' (e.fl (List.replicate l.length t0)) 0 cur w hg (by rw [hlen]; omega) (e.fl_one _)
  simp only [Nat.add_zero,List.take_zero,List.nil_append,Nat.zero_add]at hst
  obtain ⟨nr,hnr⟩:∃nr,nr=(e.fl (List.replicate l.length t0)++cur.toList.drop (e.fl (List.replicate l.length t0)).length).toArray:=⟨_,rfl⟩
  rw [←hnr]at hst
  rw [hfl]at hst
  refine ⟨w.setRow g nr,?_,⟨e.fl_length _,.inr ⟨g,cap,nr,T',by rw [List.length_replicate],hfr,hg.set _ ?_,?_,hcm,?_,?_⟩⟩,Fr.setRow w g _⟩
  ·obtain ⟨m,hm⟩:∃m,l.length=m+1:=⟨l.length - 1,by omega⟩
   rw [hm]at hst hzc ⊢
   simp [Builtin.clear_,run_underlying hT,zeroValue,typeInfo,hi',hzr,hzc,hst]
  ·rw [hnr]
   simp only [List.size_toArray,List.length_append,List.length_drop,Array.length_toList]
   omega
  ·rw [List.length_replicate]; exact hnc
  ·rw [hnr]
   simp only [List.size_toArray,List.length_append,List.length_drop,Array.length_toList]
   omega
  ·rw [hnr,List.length_replicate,List.toList_toArray,hsz,Nat.mul_one,List.take_append_of_le_length (by rw [hlen]; exact Nat.le_refl _),List.take_of_length_le (by rw [hlen]; exact Nat.le_refl _)]
theorem zP {x:Operand} {T E:TypeId} {τ:Type} {e:Enc τ} {z:Value} {bytes:Nat} {v:Value} {l:List τ} {i:Nat} (t0:τ) (hT:P.underlying T=some (.slice E)) (hE:TI P E z e.sz bytes) (hsz:e.sz=1) (h0:e.cells t0=[z]) (hz:z.cells=#[z])
  (hx:L.ev x=some v) (hS:St S w0 w os) (hi':os[i]? = some (own e v l)) :
  OpX P n L w ⟨d,.call ⟨.builtin .clear,#[x],#[T]⟩,ty,pos,after,none⟩ (fun r w'=>r=.tuple #[]∧St S w0 w' (os.set i (own e v (List.replicate l.length t0)))):=by
 obtain ⟨w',hr,h3,h4⟩:=r9 (ty:=ty) hT hE hsz h0 hz (hS.ok _ (List.mem_of_getElem? hi'))
 refine dK _ w' (fun a ha=>?_) ⟨rfl,hS.set hi' h4 h3 fun k hk=>.inl hk⟩
 simp [execOp,resolve,invoke,builtin,ha.ev hx,hr]
theorem zZ {Q:Exit→Act→World→Prop} {ops:Array Oper} {rest:List Oper} {op:Op} {Φ:Value→World→Prop} (hv:OpX P n L w ⟨none,op,ty,pos,after,none⟩ Φ)
  (h:∀v w',Φ v w'→wpR P n ops Q rest L w'):wpR P n ops Q (⟨none,op,ty,pos,after,none⟩ :: rest) L w:=fun a ha=>by
 obtain ⟨v,w',h1,h2⟩:=hv
 unfold wpList
 rw [if_pos (by simp [Region.wanted])]
 refine .inl ?_
 unfold Oper.wp
 rw [h1 a ha]
 exact h v w' h2 _ ha
end
end Go.Gk
end

section
namespace Go.Gk
open Go Go.RowKit
section
variable {P:Program} {ops:Array Oper} {Q:Exit→Act→World→Prop} {nw:Nat→Bool} {cs:Nat→Option Nat} {S:List Nat} {w0:World} {os:List OE} {ent:Nat→Value→OE}
def uG (P:Program) (ops:Array Oper) (S:List Nat) (w0:World) (ent:Nat→Value→OE) (co:List OE) (o:Oper) (i:Nat) (a:Act):Prop:=
 Region.wanted o (yielded ops a.tmps)=true∧∀w os',St S w0 w (co++os')→(∃v w',(execOp a.eval o).run P w=.ok (.value v) w'∧St S w0 w' (ent i v :: os')) ∨
  ∃f args,(execOp a.eval o).run P w=.ok (.enter f args) w∧Calls P f args w (Ret fun v w'=>St S w0 w' (ent i v :: os'))
theorem uG.of_same {co:List OE} {o:Oper} {i:Nat} {a a':Act} (hy:uG P ops S w0 ent co o i a) (he:execOp a'.eval o=execOp a.eval o)
  (hw:Region.wanted o (yielded ops a'.tmps)=Region.wanted o (yielded ops a.tmps)):uG P ops S w0 ent co o i a':=by
 unfold uG at *
 rw [he,hw]
 exact hy
def dx (nw:Nat→Bool) (cs:Nat→Option Nat) (listed:Array Bool) (k:Nat):Bool:=nw k&&listed.getD k false&&(match cs k with | none=>true | some c=>!listed.getD c false)
theorem iP {p q:Nat→Bool} (l:List Nat):(l.filter p).Perm (l.filter (fun k=>p k&&q k)++l.filter (fun k=>p k&&!q k)):=by
 have:=(List.filter_append_perm q (l.filter p)).symm
 rw [List.filter_filter,List.filter_filter]at this
 refine this.trans ?_
 have e1:(fun a=>q a&&p a)=(fun k=>p k&&q k):=by funext k; exact Bool.and_comm _ _
 have e2:(fun a=>(!q a)&&p a)=(fun k=>p k&&!q k):=by funext k; exact Bool.and_comm _ _
 rw [e1,e2]
theorem rQ {n j:Nat} (h:j<n) {p:Nat→Bool} (hp:p j=true):(List.range n).filter (fun k=>p k&&k == j)=[j]:=by
 have h1:(List.range n).filter (fun k=>p k&&k == j)=(List.range n).filter (fun k=>k == j):=by
  refine List.filter_congr fun k _=>?_
  by_cases hk:k=j
  ·subst hk; simp [hp]
  ·simp [hk]
 rw [h1]
 have h2:=List.filter_beq (l:=List.range n) j
 rw [h2,List.nodup_range.count,if_pos (List.mem_range.2 h)]; rfl
variable {n:Nat} {L:Env}
theorem qB (hlow:∀j oj,ops[j]? = some oj→∀e∈oj.after,Region.binds .any e=true→e.on<j):∀(f j k:Nat),cO ops f j k=true→k<j
 | 0,_,_,h=>by simp [cO]at h
 | f+1,j,k,h=>by
  simp only [cO]at h
  cases hj:ops[j]? with
  | none=>simp [hj]at h
  | some oj=>
   simp only [hj,List.any_eq_true,Bool.and_eq_true,Bool.or_eq_true]at h
   obtain ⟨e,he,hb,h | h⟩:=h
   ·have:=hlow j oj hj e (by simpa using he) hb
    have:=Nat.eq_of_beq_eq_true h; omega
   ·have:=hlow j oj hj e (by simpa using he) hb
    have:=qB hlow f e.on k h; omega
end
end Go.Gk
end

section
namespace Go.Gk
open Go Go.RowKit
abbrev Th:=Value×List OE×List OE
abbrev Gt:=Nat→Th
def ew (g:Gt) (i:Nat) (v:Th):Gt:=fun k=>if k=i then v else g k
theorem wn {g:Gt} {i j:Nat} {u v:Th} (h:i≠j):ew (ew g i u) j v=ew (ew g j v) i u:=by
 funext k
 unfold ew
 by_cases h1:k=i <;> by_cases h2:k=j <;> simp_all
theorem iQ {α β:Type} {f g:α→List β}:∀{l:List α},(∀k∈l,f k=g k)→l.flatMap f=l.flatMap g
 | [],_=>rfl
 | k :: l,h=>by rw [List.flatMap_cons,List.flatMap_cons,h k (List.mem_cons_self ..),iQ fun x hx=>h x (List.mem_cons_of_mem _ hx)]
theorem lP (g:Gt) (i:Nat) (v:Th):ew g i v i=v:=if_pos rfl
theorem iZ {g:Gt} {i k:Nat} {v:Th} (h:k≠i):ew g i v k=g k:=if_neg h
section
variable {S T Sl Tl:List Nat} {w0 w w':World} {es es1 os os1 rest lent:List OE}
theorem Rds.sub (h:Rds S w es) (hs:∀o∈es1,o∈es):Rds S w es1:=fun o ho=>h o (hs o ho)
theorem Off.sub (h:Off T es) (hs:∀o∈es1,o∈es):Off T es1:=fun o ho=>h o (hs o ho)
theorem OE.kept.to' {o:OE} {S':List Nat} (h:o.kept S w) (hf:Fr S w w') (hS:∀k,k<w.heap.size→o.blk=some k→k ∉ S→k ∉ S'):o.kept S' w':=by
 cases o with
 | sl v sz n cs=>trivial
 | bx b cs=>
  obtain ⟨h1,h2,h3⟩:=h
  refine ⟨fun j u hj=>?_,hS _ h3 rfl h2,Nat.lt_of_lt_of_le h3 hf.size⟩
  rw [hf.cell h3 h2]
  exact h1 j u hj
 | rd v sz n cs=>
  obtain ⟨hl,a,c,rfl,hc,hx⟩:=h
  refine ⟨hl,a,c,rfl,hc,fun hn=>?_⟩
  obtain ⟨b,off,rfl,hb,hs,hcell⟩:=hx hn
  refine ⟨b,off,rfl,Nat.lt_of_lt_of_le hb hf.size,hS _ hb (by simp [OE.blk,hn,Value.ownBlock]) hs,fun j u hj=>?_⟩
  rw [hf.cell hb hs]
  exact hcell j u hj
theorem SfT.tail (h:SfT S T w0 w (es1++es) (os1++os)):SfT S T w0 w es os:=by
 obtain ⟨Sb,wb,hZ,hA,hP,hS⟩:=h
 exact ⟨Sb,wb,hZ,hA.sub (fun o ho=>List.mem_append_right _ ho),hP.sub (fun o ho=>List.mem_append_right _ ho),hS.tail⟩
theorem SfT.tail' (h:SfT S T w0 w es (os1++os)):SfT S T w0 w es os:=by
 obtain ⟨Sb,wb,hZ,hA,hP,hS⟩:=h
 exact ⟨Sb,wb,hZ,hA,hP,hS.tail⟩
theorem SfT.perm (h:SfT S T w0 w es os) (h1:∀o∈es1,o∈es) (h2:os.Perm os1):SfT S T w0 w es1 os1:=by
 obtain ⟨Sb,wb,hZ,hA,hP,hS⟩:=h
 exact ⟨Sb,wb,hZ,hA.sub h1,hP.sub h1,hS.perm h2⟩
theorem x6 {Sb:List Nat} {wb:World} {o:OE} (hk:o.kept Sb wb) (hn:o.ns=true) {b:Nat} (hb:o.blk=some b):b<wb.heap.size∧b ∉ Sb:=
 hk.blk (fun v sz n cs e=>by rw [e]at hn; cases hn) hb
theorem SfT.lend (h:SfT S T w0 w es (lent++rest)) (hT:TOk S T w0) (hn:∀o∈es,o.ns=true) :
  TOk (db lent) (T++db rest) w∧Rds (db lent) w es∧Off (T++db rest) es∧St (db lent) w w lent:=by
 obtain ⟨Sb,wb,hZ,hA,hP,hS⟩:=h
 have hst:=hZ.st hS
 have hdj:=(List.pairwise_append.1 hS.dj).2.2
 refine ⟨fun b hb=>?_,fun o ho=>(hA o ho).to hS.fr fun k hk hs hx=>?_,fun o ho b hb hx=>?_,hS.give⟩
 ·rcases List.mem_append.1 hb with hb | hb
  ·obtain ⟨h1,h2⟩:=hT b hb
   refine ⟨Nat.lt_of_lt_of_le h1 hst.fr.size,fun hx=>?_⟩
   obtain ⟨o,ho,hob⟩:=cg.1 hx
   rcases ((hst.ok o (List.mem_append_left _ ho)).lt hob).2 with h3 | h3
   ·omega
   ·exact h2 h3
  ·obtain ⟨o,ho,hob⟩:=cg.1 hb
   refine ⟨((hst.ok o (List.mem_append_right _ ho)).lt hob).1,fun hx=>?_⟩
   obtain ⟨q,hq,hqb⟩:=cg.1 hx
   exact hdj q hq o ho b hqb hob
 ·obtain ⟨q,hq,hqb⟩:=cg.1 hx
  rcases ((hS.ok q (List.mem_append_left _ hq)).lt hqb).2 with h | h
  ·omega
  ·exact hs h
 ·rcases List.mem_append.1 hx with hx | hx
  ·exact hP o ho b hb hx
  ·obtain ⟨q,hq,hqb⟩:=cg.1 hx
   have h2:=((hS.ok q (List.mem_append_right _ hq)).lt hqb).2
   have h3:=x6 (hA o ho) (hn o ho) hb
   rcases h2 with h2 | h2
   ·omega
   ·exact h3.2 h2
theorem SfT.unlend (h:SfT S T w0 w es (lent++rest)) (hn:∀o∈es,o.ns=true) (hn1:∀o∈es1,o.ns=true)
  (h':SfT (db lent) (T++db rest) w w' es1 os1):SfT S T w0 w' (es1++es) (os1++rest):=by
 obtain ⟨Sb,wb,hZ,hA,hP,hS⟩:=h
 obtain ⟨Sc,wc,hZ',hA',hP',hS'⟩:=h'
 have hst:=hZ'.st hS'
 have hb:St Sb wb w' (os1++rest):=hS.back hst
 have hstb:=hZ.st hb
 refine ⟨db (os1++rest),w',⟨hstb.fr,fun b hb'=>?_⟩,Rds.app (fun o ho=>?_) (fun o ho=>?_),Off.app (fun o ho b hb hx=>hP' o ho b hb (List.mem_append_left _ hx)) hP,
  Fr.refl _ _,fun o ho=>(hb.ok o ho).re fun k hk _=>.inr (cg.2 ⟨o,ho,hk⟩),hb.dj⟩
 ·obtain ⟨o,ho,hob⟩:=cg.1 hb'
  exact ((hstb.ok o ho).lt hob).2
 ·refine (hA' o ho).to' hS'.fr fun k hk hob hs hx=>?_
  obtain ⟨q,hq,hqb⟩:=cg.1 hx
  rcases List.mem_append.1 hq with hq | hq
  ·rcases ((hS'.ok q hq).lt hqb).2 with h | h
   ·omega
   ·exact hs h
  ·exact hP' o ho k hob (List.mem_append_right _ (cg.2 ⟨q,hq,hqb⟩))
 ·refine (hA o ho).to hb.fr fun k hk hs hx=>?_
  obtain ⟨q,hq,hqb⟩:=cg.1 hx
  rcases ((hb.ok q hq).lt hqb).2 with h | h
  ·omega
  ·exact hs h
end
section
variable {P:Program} {ops:Array Oper} {Q:Exit→Act→World→Prop} {nw:Nat→Bool} {cs:Nat→Option Nat} {ks:Nat→List Nat} {xs:Nat→List OE} {bs:Nat→List Nat} {S T:List Nat} {w0:World} {es os:List OE} {ent:Nat→List Th→Value→List OE→List OE→Prop} {ds:Nat→List Nat}
def coM (n:Nat) (cs:Nat→Option Nat) (g:Gt) (j:Nat):List OE:=((List.range n).filter (fun k=>cs k == some j)).flatMap (fun k=>(g k).2.1)
def ckM (ks:Nat→List Nat) (g:Gt) (j:Nat):List OE:=(ks j).flatMap (fun k=>(g k).2.2)
def brM (n:Nat) (bs:Nat→List Nat) (xs:Nat→List OE) (j:Nat):List OE:=((List.range n).filter (fun k=>(bs j).contains k)).flatMap xs
def TrM (P:Program) (ops:Array Oper) (es os:List OE) (ent:Nat→List Th→Value→List OE→List OE→Prop) (hs:List Th) (co ck:List OE) (o:Oper) (i:Nat) (a:Act):Prop:=
 Region.wanted o (yielded ops a.tmps)=true∧∀w Sl Tl,TOk Sl Tl w→Rds Sl w (ck++es)→Off Tl (ck++es)→St Sl w w (co++os) →
  (∃v w' x y,((execOp a.eval o).run P w=.ok (.value v) w'∨v=undef∧(execOp a.eval o).run P w=.ok .skip w')∧ent i hs v x y∧SfT Sl Tl w w' y (x++os)) ∨
  ∃f args,(execOp a.eval o).run P w=.ok (.enter f args) w∧Calls P f args w (Ret fun v w'=>∃x y,ent i hs v x y∧SfT Sl Tl w w' y (x++os))
theorem TrM.of_same {hs:List Th} {co ck:List OE} {o:Oper} {i:Nat} {a a':Act} (hy:TrM P ops es os ent hs co ck o i a) (he:execOp a'.eval o=execOp a.eval o)
  (hw:Region.wanted o (yielded ops a'.tmps)=Region.wanted o (yielded ops a.tmps)):TrM P ops es os ent hs co ck o i a':=by
 unfold TrM at *
 rw [he,hw]
 exact hy
def lxM (P:Program) (ops:Array Oper) (Q:Exit→Act→World→Prop) (nw:Nat→Bool) (cs:Nat→Option Nat) (ks:Nat→List Nat) (xs:Nat→List OE) (bs ds:Nat→List Nat) (S T:List Nat) (w0:World) (es os:List OE) (ent:Nat→List Th→Value→List OE→List OE→Prop):List Nat→Gt→Act→Prop
 | [],g,a=>∀w,SfT S T w0 w (((List.range ops.size).filter nw).flatMap (fun k=>(g k).2.2)++es) (((List.range ops.size).filter (fun k=>nw k&&cs k == none)).flatMap (fun k=>(g k).2.1)++os)→Q .normal a w
 | i :: r,g,a=>match ops[i]? with
  | none=>lxM P ops Q nw cs ks xs bs ds S T w0 es os ent r g a
  | some o=>if nw i then TrM P ops es (brM ops.size bs xs i++os) ent ((ds i).map g) (coM ops.size cs g i++xs i) (ckM ks g i) o i a∧(∃v x y,ent i ((ds i).map g) v x y)∧∀v x y,ent i ((ds i).map g) v x y→lxM P ops Q nw cs ks xs bs ds S T w0 es os ent r (ew g i (v,x,y)) (a.put o.dst v)
   else ∃v,Ins P ops (fun w=>SfT S T w0 w es os) o v a∧lxM P ops Q nw cs ks xs bs ds S T w0 es os ent r g (a.put o.dst v)
theorem tI {n i j:Nat} {g:Gt} {v:Th} (h:cs i≠some j):coM n cs (ew g i v) j=coM n cs g j:=by
 unfold coM
 refine iQ fun k hk=>?_
 have h1:cs k=some j:=by simpa using (List.mem_filter.1 hk).2
 have hne:k≠i:=fun e=>h (by rw [←e]; exact h1)
 rw [iZ hne]
theorem tl {i j:Nat} {g:Gt} {v:Th} (h:i ∉ ks j):ckM ks (ew g i v) j=ckM ks g j:=by
 unfold ckM
 refine iQ fun k hk=>?_
 have hne:k≠i:=fun e=>h (by rw [←e]; exact hk)
 rw [iZ hne]
theorem j0 {i j:Nat} {g:Gt} {v:Th} (h:i ∉ ds j):(ds j).map (ew g i v)=(ds j).map g:=by
 refine List.map_congr_left fun k hk=>?_
 have hne:k≠i:=fun e=>h (by rw [←e]; exact hk)
 rw [iZ hne]
theorem xq (hs:kG ops) (hne0:∃w,SfT S T w0 w es os) {i j:Nat} {r:List Nat} {g:Gt} {a:Act}
  (hij:∀oi oj,ops[i]? = some oi→ops[j]? = some oj→oi.apart ops oj=true) (hcc:cs i≠some j∧cs j≠some i) (hkk:i ∉ ks j∧j ∉ ks i) (hdd:i ∉ ds j∧j ∉ ds i) (hne:i≠j)
  (h:lxM P ops Q nw cs ks xs bs ds S T w0 es os ent (i :: j :: r) g a):lxM P ops Q nw cs ks xs bs ds S T w0 es os ent (j :: i :: r) g a:=by
 cases hi:ops[i]? with
 | none=>
  simp only [lxM,hi]at h
  cases hj:ops[j]? with
  | none=>simp only [lxM,hi,hj]at h ⊢; exact h
  | some oj=>simp only [lxM,hi,hj]at h ⊢; exact h
 | some oi=>
  cases hj:ops[j]? with
  | none=>simp only [lxM,hi,hj]at h ⊢; exact h
  | some oj=>
   obtain ⟨p1,p2,p3⟩:=Oper.apart_spec (hij oi oj hi hj)
   have hsi:=fun cs b=>hs i oi cs b hi
   have hsj:=fun cs b=>hs j oj cs b hj
   simp only [lxM,hi,hj]at h ⊢
   by_cases hni:nw i=true
   ·rw [if_pos hni]at h
    obtain ⟨hN,hex,hall⟩:=h
    by_cases hnj:nw j=true
    ·simp only [hni,hnj,if_true]at hall ⊢
     obtain ⟨v0,x0,y0,he0⟩:=hex
     have h0:=(hall v0 x0 y0 he0).1
     have h00:=(hall v0 x0 y0 he0).2.1
     rw [tI hcc.1,tl hkk.1,j0 hdd.1]at h0
     rw [j0 hdd.1]at h00
     refine ⟨h0.of_same (execOp_put oj hsj a oi.dst v0 p1).symm (wanted_put oj a oi.dst v0 p1).symm,h00,fun v x y he=>⟨?_,?_,fun u x' y' he'=>?_⟩⟩
     ·rw [tI hcc.2,tl hkk.2,j0 hdd.2]; exact hN.of_same (execOp_put oi hsi a oj.dst v p3) (wanted_put oi a oj.dst v p3)
     ·rw [j0 hdd.2]; exact ⟨v0,x0,y0,he0⟩
     rw [j0 hdd.2]at he'
     have:=(hall u x' y' he').2.2 v x y (by rw [j0 hdd.1]; exact he)
     rw [wn hne]at this
     rw [←Act.put_comm a u v p2]; exact this
    ·simp only [hni,hnj,if_true,if_false]at hall ⊢
     have get:∀u x y,ent i ((ds i).map g) u x y→∃v,Ins P ops (fun w=>SfT S T w0 w es os) oj v a∧lxM P ops Q nw cs ks xs bs ds S T w0 es os ent r (ew g i (u,x,y)) ((a.put oi.dst u).put oj.dst v):=fun u x y he=>by
      obtain ⟨v,hv,h3⟩:=hall u x y he
      exact ⟨v,hv.of_same (execOp_put oj hsj a oi.dst u p1).symm (wanted_put oj a oi.dst u p1).symm,h3⟩
     obtain ⟨v0,x0,y0,he0⟩:=hex
     obtain ⟨v,hv,_⟩:=get v0 x0 y0 he0
     refine ⟨v,hv,?_⟩
     refine ⟨hN.of_same (execOp_put oi hsi a oj.dst v p3) (wanted_put oi a oj.dst v p3),⟨v0,x0,y0,he0⟩,fun u x y he=>?_⟩
     obtain ⟨v',hv',h3⟩:=get u x y he
     obtain ⟨w,hw⟩:=hne0
     have:v'=v:=Ins.unique (w:=w) hw hv' hv
     subst this
     rw [←Act.put_comm a u v' p2]; exact h3
   ·rw [if_neg hni]at h
    obtain ⟨v,hv,h⟩:=h
    by_cases hnj:nw j=true
    ·simp only [hni,hnj,if_true,if_false]at h ⊢
     obtain ⟨hN,hex,hall⟩:=h
     refine ⟨hN.of_same (execOp_put oj hsj a oi.dst v p1).symm (wanted_put oj a oi.dst v p1).symm,hex,fun u x y he=>⟨v,hv.of_same (execOp_put oi hsi a oj.dst u p3) (wanted_put oi a oj.dst u p3),?_⟩⟩
     rw [←Act.put_comm a v u p2]; exact hall u x y he
    ·simp only [hni,hnj,if_false]at h ⊢
     obtain ⟨u,hu,h3⟩:=h
     refine ⟨u,hu.of_same (execOp_put oj hsj a oi.dst v p1).symm (wanted_put oj a oi.dst v p1).symm,v,hv.of_same (execOp_put oi hsi a oj.dst u p3) (wanted_put oi a oj.dst u p3),?_⟩
     rw [←Act.put_comm a v u p2]; exact h3
theorem px (hs:kG ops) (hne0:∃w,SfT S T w0 w es os) {j:Nat}:∀(l1 l2:List Nat) (g:Gt) (a:Act),(∀i∈l1,i≠j∧(cs i≠some j∧cs j≠some i)∧(i ∉ ks j∧j ∉ ks i)∧(i ∉ ds j∧j ∉ ds i)∧∀oi oj,ops[i]? = some oi→ops[j]? = some oj→oi.apart ops oj=true) →
   lxM P ops Q nw cs ks xs bs ds S T w0 es os ent (l1++j :: l2) g a→lxM P ops Q nw cs ks xs bs ds S T w0 es os ent (j :: (l1++l2)) g a
 | [],_,_,_,_,h=>h
 | i :: l1,l2,g,a,hall,h=>by
  have ih:∀g a,lxM P ops Q nw cs ks xs bs ds S T w0 es os ent (l1++j :: l2) g a→lxM P ops Q nw cs ks xs bs ds S T w0 es os ent (j :: (l1++l2)) g a:=fun g a h=>
   px hs hne0 l1 l2 g a (fun k hk=>hall k (by simp [hk])) h
  have h1:lxM P ops Q nw cs ks xs bs ds S T w0 es os ent (i :: j :: (l1++l2)) g a:=by
   rw [List.cons_append]at h
   cases hi:ops[i]? with
   | none=>
    unfold lxM at h ⊢
    simp only [hi]at h ⊢
    exact ih _ _ h
   | some oi=>
    unfold lxM at h ⊢
    simp only [hi]at h ⊢
    by_cases hn:nw i=true
    ·rw [if_pos hn]at h ⊢
     exact ⟨h.1,h.2.1,fun v x y he=>ih _ _ (h.2.2 v x y he)⟩
    ·rw [if_neg hn]at h ⊢
     obtain ⟨v,hv,h⟩:=h
     exact ⟨v,hv,ih _ _ h⟩
  have hi:=hall i (by simp)
  exact xq hs hne0 hi.2.2.2.2 hi.2.1 hi.2.2.1 hi.2.2.2.1 hi.1 h1
theorem q7 {n:Nat} {nw:Nat→Bool} {g:Gt} {listed:Array Bool} {k:Nat} (hk:k<n) (hn:nw k=true) (hl:listed.getD k false=true) {o:OE} (ho:o∈(g k).2.2) :
  o∈((List.range n).filter (fun k=>nw k&&listed.getD k false)).flatMap (fun k=>(g k).2.2):=
 List.mem_flatMap.2 ⟨k,List.mem_filter.2 ⟨List.mem_range.2 hk,by rw [hn,hl]; rfl⟩,ho⟩
theorem xo {α:Type} (A B C D E:List α):((A++B)++((C++D)++E)).Perm (((A++C)++E)++(B++D)):=by
 simp only [List.append_assoc]
 refine List.Perm.append_left A ?_
 refine (List.perm_append_comm_assoc B C (D++E)).trans (List.Perm.append_left C ?_)
 rw [←List.append_assoc]
 exact List.perm_append_comm
theorem wF {α:Type} (A E B D:List α):((A++E)++(B++D)).Perm ((A++B)++(D++E)):=by
 simp only [List.append_assoc]
 refine List.Perm.append_left A ?_
 refine List.perm_append_comm.trans ?_
 rw [List.append_assoc]
theorem vD {α:Type} (A B C D1 D2 E:List α):((A++B)++((C++(D1++D2))++E)).Perm (((A++C)++(D1++E))++(B++D2)):=by
 have h:=xo A B (C++D1) D2 E
 simp only [List.append_assoc]at h ⊢
 exact h
theorem uY {α:Type} (A B D1 D2 E:List α):((A++(D1++E))++(B++D2)).Perm ((A++B)++((D1++D2)++E)):=by
 refine (wF A (D1++E) B D2).trans ?_
 rw [List.append_assoc D1]
 exact (List.perm_append_comm_assoc D2 D1 E).append_left _
theorem lF (hbs:∀c k,c<ops.size→k∈bs c→k<ops.size∧cO ops ops.size k c=true) (hxs:∀k,nw k=false→xs k=[]) (hT:TOk S T w0) (hes:∀o∈es,o.ns=true) (hns:∀i h v x y,ent i h v x y→∀o∈y,o.ns=true) (hs:kG ops)
  (hcs:∀k c,k<ops.size→cs k=some c→nw k=true∧c<ops.size∧nw c=true∧cO ops ops.size c k=true) (hself:∀c oc,ops[c]? = some oc→∀k,cO ops ops.size c k=true→k<c)
  (hks:∀c k,c<ops.size→k∈ks c→k<ops.size∧nw k=true∧cO ops ops.size c k=true) (hds:∀c k,c<ops.size→k∈ds c→cO ops ops.size c k=true)
  (hlow:∀j oj,ops[j]? = some oj→∀e∈oj.after,Region.binds .any e=true→e.on<j)
  (hchk:∀i j,i<j→j<ops.size→cO ops ops.size j i=false→∀oi oj,ops[i]? = some oi→ops[j]? = some oj→oi.apart ops oj=true) :
  ∀(m:Nat) (l:List Nat) (listed:Array Bool) (g:Gt) (a:Act) (w:World),l.length=m→l.Pairwise (·<·)→listed.size=ops.size→closed ops listed →
   (∀i,i∈l↔i<ops.size∧listed.getD i true=false)→(∀k,nw k=true→listed.getD k false=true→∀o∈(g k).2.2,o.ns=true) →
   SfT S T w0 w (((List.range ops.size).filter (fun k=>nw k&&listed.getD k false)).flatMap (fun k=>(g k).2.2)++es) (((List.range ops.size).filter (dx nw cs listed)).flatMap (fun i=>(g i).2.1)++(((List.range ops.size).filter (fun k=>!listed.getD k false)).flatMap xs++os)) →
   lxM P ops Q nw cs ks xs bs ds S T w0 es os ent l g a→wpAny P .any ops Q m listed a w
 | 0,l,listed,g,a,w,hm,_,hsz,_,hmem,hgn,hS,h=>by
  have hl:l=[]:=List.eq_nil_of_length_eq_zero hm
  subst hl
  have hall:∀k,k<ops.size→listed.getD k false=true:=fun k hk=>by
   cases hl:listed.getD k false with
   | true=>rfl
   | false=>
    have hks:k<listed.size:=by omega
    have:k∈([]:List Nat):=(hmem k).2 ⟨hk,by simp [hks]at hl ⊢; exact hl⟩
    cases this
  refine ⟨?_,?_⟩
  ·refine List.eq_nil_iff_forall_not_mem.2 fun i hi=>?_
   obtain ⟨hun,o,ho',_⟩:=mem_ready.1 hi
   have:=(hmem i).2 ⟨(Array.getElem?_eq_some_iff.1 ho').1,hun⟩
   cases this
  ·have e:(List.range ops.size).filter (dx nw cs listed)=(List.range ops.size).filter (fun k=>nw k&&cs k == none):=by
    refine List.filter_congr fun k hk=>?_
    have hk:=List.mem_range.1 hk
    unfold dx
    rw [hall k hk,Bool.and_true]
    cases hc:cs k with
    | none=>rfl
    | some c=>
     show (nw k&&!listed.getD c false)=(nw k&&(some c == none))
     rw [hall c (hcs k c hk hc).2.1]; rfl
   have e2:(List.range ops.size).filter (fun k=>nw k&&listed.getD k false)=(List.range ops.size).filter nw:=by
    refine List.filter_congr fun k hk=>?_
    rw [hall k (List.mem_range.1 hk),Bool.and_true]
   have e3:(List.range ops.size).filter (fun k=>!listed.getD k false)=[]:=by
    refine List.filter_eq_nil_iff.2 fun k hk=>?_
    rw [hall k (List.mem_range.1 hk)]; simp
   rw [e,e2,e3]at hS
   exact h w hS
 | m+1,l,listed,g,a,w,hm,hsort,hsz,hcl,hmem,hgn,hS,h=>by
  refine ⟨fun hnil=>?_,fun j hj=>?_⟩
  ·exfalso
   cases l with
   | nil=>simp at hm
   | cons i r=>
    obtain ⟨his,hun⟩:=(hmem i).1 (by simp)
    have hi:i∈Region.ready .any ops listed:=by
     refine mem_ready.2 ⟨hun,ops[i],by simp [his],fun e he hb=>?_⟩
     have hlt:=hlow i ops[i] (by simp [his]) e he hb
     cases hl:listed.getD e.on false with
     | true=>rfl
     | false=>
      have hes:e.on<listed.size:=by rw [hsz]; omega
      have hl':listed.getD e.on true=false:=by simp [hes]at hl ⊢; exact hl
      have hm2:=(hmem e.on).2 ⟨by omega,hl'⟩
      rcases List.mem_cons.1 hm2 with h1 | h1
      ·omega
      ·have:=(List.pairwise_cons.1 hsort).1 e.on h1
       omega
    rw [hnil]at hi
    cases hi
  ·obtain ⟨hun,oj,hoj,hall⟩:=mem_ready.1 hj
   have hjs:j<ops.size:=(Array.getElem?_eq_some_iff.1 hoj).1
   have hjl:j∈l:=(hmem j).2 ⟨hjs,hun⟩
   obtain ⟨l1,l2,rfl⟩:=List.append_of_mem hjl
   have hlt:∀i∈l1,i<j:=fun i hi=>(List.pairwise_append.1 hsort).2.2 i hi j (by simp)
   have hnr:∀i∈l1++l2,cO ops ops.size j i=false:=fun i hi=>by
    cases hr:cO ops ops.size j i with
    | false=>rfl
    | true=>
     have h2:=dq hcl ops.size j i oj hoj hall hr
     have h3:=(hmem i).1 (by rcases List.mem_append.1 hi with h | h <;> simp [h])
     rw [Array.getD_eq_getD_getElem?]at h2
     have h4:=h3.2
     rw [Array.getD_eq_getD_getElem?]at h4
     have:i<listed.size:=by rw [hsz]; exact h3.1
     simp [this]at h2 h4
     rw [h2]at h4; cases h4
   have hcc:∀i∈l1,cs i≠some j∧cs j≠some i:=fun i hi=>by
    have his:=((hmem i).1 (by simp [hi])).1
    refine ⟨fun hc=>?_,fun hc=>?_⟩
    ·have:=(hcs i j his hc).2.2.2
     rw [hnr i (by simp [hi])]at this; cases this
    ·obtain ⟨_,h5,_,h6⟩:=hcs j i hjs hc
     have:=hself i ops[i] (by simp [h5]) j h6
     have:=hlt i hi; omega
   have hkk:∀i∈l1,i ∉ ks j∧j ∉ ks i:=fun i hi=>by
    have his:=((hmem i).1 (by simp [hi])).1
    refine ⟨fun hc=>?_,fun hc=>?_⟩
    ·have:=(hks j i hjs hc).2.2
     rw [hnr i (by simp [hi])]at this; cases this
    ·have h6:=(hks i j his hc).2.2
     have:=hself i ops[i] (by simp [his]) j h6
     have:=hlt i hi; omega
   have hdd:∀i∈l1,i ∉ ds j∧j ∉ ds i:=fun i hi=>by
    have his:=((hmem i).1 (by simp [hi])).1
    refine ⟨fun hc=>?_,fun hc=>?_⟩
    ·have:=hds j i hjs hc
     rw [hnr i (by simp [hi])]at this; cases this
    ·have h6:=hds i j his hc
     have:=hself i ops[i] (by simp [his]) j h6
     have:=hlt i hi; omega
   have h1:=px hs ⟨w,hS.tail.tail' ⟩ l1 l2 g a (fun i hi=>⟨Nat.ne_of_lt (hlt i hi),hcc i hi,hkk i hi,hdd i hi,fun oi oj' hoi hoj'=>by
    refine hchk i j (hlt i hi) hjs ?_ oi oj' hoi hoj'
    cases hr:cO ops ops.size j i with
    | false=>rfl
    | true=>
     have h2:=dq hcl ops.size j i oj hoj hall hr
     have h3:=((hmem i).1 (by simp [hi])).2
     rw [Array.getD_eq_getD_getElem?]at h2 h3
     have:i<listed.size:=by rw [hsz]; exact Nat.lt_trans (hlt i hi) hjs
     simp [this]at h2 h3
     rw [h2]at h3; cases h3⟩) h
   have hsort':(l1++l2).Pairwise (·<·):=by
    refine hsort.sublist ?_
    exact List.Sublist.append_left (List.sublist_cons_self j l2) l1
   have hlen:(l1++l2).length=m:=by simp at hm ⊢; omega
   have hcl':closed ops (listed.setIfInBounds j true):=by
    intro k ok hk hl e he hb
    by_cases hkj:j=k
    ·subst hkj
     have:ok=oj:=Option.some.inj (hk.symm.trans hoj)
     subst this
     exact getD_set_true (hall e he hb)
    ·rw [getD_set_ne false hkj]at hl
     exact getD_set_true (hcl k ok hk hl e he hb)
   have hnd:j ∉ l1++l2:=by
    intro hx
    rcases List.mem_append.1 hx with hx | hx
    ·exact absurd (hlt j hx) (Nat.lt_irrefl _)
    ·have:=(List.pairwise_append.1 hsort).2.1
     have:=(List.pairwise_cons.1 this).1 j hx
     exact absurd this (Nat.lt_irrefl _)
   have hmem':∀i,i∈l1++l2↔i<ops.size∧(listed.setIfInBounds j true).getD i true=false:=by
    intro i
    by_cases hij:j=i
    ·subst hij
     constructor
     ·intro hx; exact absurd hx hnd
     ·intro hx
      have:=iD (listed:=listed) (i:=j) (by rw [hsz]; exact hjs) true
      rw [this]at hx; cases hx.2
    ·rw [getD_set_ne true hij,←hmem i]
     simp only [List.mem_append,List.mem_cons]
     constructor
     ·rintro (hx | hx)
      ·exact .inl hx
      ·exact .inr (.inr hx)
     ·rintro (hx | hx | hx)
      ·exact .inl hx
      ·exact absurd hx.symm hij
      ·exact .inr hx
   have hlj:listed.getD j false=false:=by
    have:j<listed.size:=by omega
    simp [this]at hun ⊢; exact hun
   have hgd:∀k,(listed.setIfInBounds j true).getD k false=if k=j then true else listed.getD k false:=fun k=>by
    by_cases hkj:k=j
    ·subst hkj; rw [if_pos rfl]; exact iD (by omega) false
    ·rw [if_neg hkj,getD_set_ne false (fun e=>hkj e.symm)]
   have hlj0:listed.getD j false=false:=hlj
   have hX:(((List.range ops.size).filter (fun k=>!listed.getD k false)).flatMap xs).Perm (xs j++((List.range ops.size).filter (fun k=>!(listed.setIfInBounds j true).getD k false)).flatMap xs):=by
    have hp0:=iP (p:=fun k=>!listed.getD k false) (q:=fun k=>k == j) (List.range ops.size)
    rw [rQ hjs (by rw [hlj0]; rfl)]at hp0
    have e4:(List.range ops.size).filter (fun k=>!listed.getD k false&&!(k == j))=(List.range ops.size).filter (fun k=>!(listed.setIfInBounds j true).getD k false):=by
     refine List.filter_congr fun k hk=>?_
     rw [hgd]
     by_cases hkj:k=j
     ·subst hkj; simp
     ·rw [if_neg hkj]; simp [hkj]
    rw [e4]at hp0
    have h8:=hp0.flatMap_right (f:=xs)
    rw [List.flatMap_append]at h8
    simpa using h8
   obtain ⟨X,hXe⟩:∃X,((List.range ops.size).filter (fun k=>!(listed.setIfInBounds j true).getD k false)).flatMap xs=X:=⟨_,rfl⟩
   rw [hXe]at hX
   have hBu:∀k,(bs j).contains k=true→k<ops.size∧listed.getD k false=false∧k≠j:=fun k hk=>by
    have hk':k∈bs j:=by simpa using hk
    obtain ⟨h5,h6⟩:=hbs j k hjs hk'
    refine ⟨h5,?_,fun e=>?_⟩
    ·cases hl:listed.getD k false with
     | false=>rfl
     | true=>
      have h7:=dq hcl ops.size k j ops[k] (by simp [h5]) (fun e he hb=>hcl k ops[k] (by simp [h5]) hl e he hb) h6
      rw [hlj0]at h7; cases h7
    ·have:=hself k ops[k] (by simp [h5]) j h6
     omega
   obtain ⟨X2,hX2⟩:∃X2,X.Perm (brM ops.size bs xs j++X2):=by
    have hp0:=iP (p:=fun k=>!(listed.setIfInBounds j true).getD k false) (q:=fun k=>(bs j).contains k) (List.range ops.size)
    have e5:(List.range ops.size).filter (fun k=>!(listed.setIfInBounds j true).getD k false&&(bs j).contains k)=(List.range ops.size).filter (fun k=>(bs j).contains k):=by
     refine List.filter_congr fun k hk=>?_
     cases hq:(bs j).contains k with
     | false=>rw [Bool.and_false]
     | true=>
      obtain ⟨_,h6,h7⟩:=hBu k hq
      rw [hgd,if_neg h7,h6]; rfl
    rw [e5]at hp0
    have h8:=hp0.flatMap_right (f:=xs)
    rw [List.flatMap_append,hXe]at h8
    exact ⟨_,h8⟩
   simp only [lxM,hoj]at h1
   by_cases hn:nw j=true
   ·rw [if_pos hn]at h1
    obtain ⟨⟨hw,hrun⟩,_,hall'⟩:=h1
    obtain ⟨R,hR⟩:∃R,(List.range ops.size).filter (fun k=>dx nw cs listed k&&!(cs k == some j))=R:=⟨_,rfl⟩
    have hco:(List.range ops.size).filter (fun k=>dx nw cs listed k&&cs k == some j)=(List.range ops.size).filter (fun k=>cs k == some j):=by
     refine List.filter_congr fun k hk=>?_
     have hk:=List.mem_range.1 hk
     by_cases hc:cs k=some j
     ·obtain ⟨h3,_,_,h4⟩:=hcs k j hk hc
      have h5:listed.getD k false=true:=by
       have h2:=dq hcl ops.size j k oj hoj hall h4
       rw [Array.getD_eq_getD_getElem?]at h2 ⊢
       have:k<listed.size:=by omega
       simp [this]at h2 ⊢; exact h2
      have:dx nw cs listed k=true:=by unfold dx; rw [h3,h5,hc]; simp [hlj]
      simp [this,hc]
     ·simp [hc]
    have hp:=iP (p:=dx nw cs listed) (q:=fun k=>cs k == some j) (List.range ops.size)
    rw [hco,hR]at hp
    obtain ⟨K,hK⟩:∃K,((List.range ops.size).filter (fun k=>nw k&&listed.getD k false)).flatMap (fun k=>(g k).2.2)=K:=⟨_,rfl⟩
    have hKn:∀o∈K++es,o.ns=true:=fun o ho=>by
     rcases List.mem_append.1 ho with ho | ho
     ·rw [←hK]at ho
      obtain ⟨k,hk,ho⟩:=List.mem_flatMap.1 ho
      have:=(List.mem_filter.1 hk).2
      simp only [Bool.and_eq_true]at this
      exact hgn k this.1 this.2 o ho
     ·exact hes o ho
    rw [hK]at hS
    have hS2:SfT S T w0 w (K++es) ((coM ops.size cs g j++xs j++(brM ops.size bs xs j++os))++(R.flatMap (fun i=>(g i).2.1)++X2)):=by
     refine hS.perm (fun o ho=>ho) ?_
     have h2:((List.range ops.size).filter (dx nw cs listed)).flatMap (fun i=>(g i).2.1) |>.Perm (coM ops.size cs g j++R.flatMap (fun i=>(g i).2.1)):=by
      have:=hp.flatMap_right (f:=fun i=>(g i).2.1)
      rw [List.flatMap_append]at this
      exact this
     exact (h2.append ((hX.trans (hX2.append_left _)).append_right os)).trans (vD _ _ _ _ _ _)
    obtain ⟨l1',l2',l3',l4'⟩:=hS2.lend hT hKn
    have hckm:∀o∈ckM ks g j++es,o∈K++es:=fun o ho=>by
     rcases List.mem_append.1 ho with ho | ho
     ·refine List.mem_append_left _ ?_
      obtain ⟨k,hk,ho⟩:=List.mem_flatMap.1 ho
      obtain ⟨h5,h6,h7⟩:=hks j k hjs hk
      have h2:=dq hcl ops.size j k oj hoj hall h7
      rw [←hK]
      exact q7 h5 h6 h2 ho
     ·exact List.mem_append_right _ ho
    have hcj:∀c,cs j=some c→listed.getD c false=false:=fun c hc=>by
     obtain ⟨_,h5,_,h6⟩:=hcs j c hjs hc
     cases hl:listed.getD c false with
     | false=>rfl
     | true=>
      have h7:=dq hcl ops.size c j ops[c] (by simp [h5]) (fun e he hb=>hcl c ops[c] (by simp [h5]) hl e he hb) h6
      rw [hlj]at h7; cases h7
    have hRj:∀k∈R,k≠j:=fun k hk e=>by
     rw [←hR]at hk
     have:=(List.mem_filter.1 hk).2
     rw [e]at this
     unfold dx at this
     rw [hlj]at this
     simp at this
    have hne:∀v,((List.range ops.size).filter (dx nw cs (listed.setIfInBounds j true))).flatMap (fun i=>(ew g j v i).2.1) |>.Perm (v.2.1++R.flatMap (fun i=>(g i).2.1)):=fun v=>by
     have hp2:=iP (p:=dx nw cs (listed.setIfInBounds j true)) (q:=fun k=>k == j) (List.range ops.size)
     have haj:dx nw cs (listed.setIfInBounds j true) j=true:=by
      unfold dx
      rw [hn,hgd,if_pos rfl]
      cases hc:cs j with
      | none=>rfl
      | some c=>
       have hcne:c≠j:=fun e=>by
        obtain ⟨_,h5,_,h6⟩:=hcs j c hjs hc
        have:=hself c ops[c] (by simp [h5]) j h6
        omega
       simp only [hgd,if_neg hcne,hcj c hc]; rfl
     rw [rQ hjs haj]at hp2
     have hrest:(List.range ops.size).filter (fun k=>dx nw cs (listed.setIfInBounds j true) k&&!(k == j))=R:=by
      rw [←hR]
      refine List.filter_congr fun k hk=>?_
      by_cases hkj:k=j
      ·subst hkj
       have:dx nw cs listed k=false:=by unfold dx; rw [hlj]; simp
       simp [this]
      ·unfold dx
       rw [hgd,if_neg hkj]
       cases hc:cs k with
       | none=>simp [hkj]
       | some c=>
        by_cases hcj2:c=j
        ·subst hcj2; simp only [hgd,if_true]; simp
        ·simp only [hgd,if_neg hcj2]
         have:(some c == some j)=false:=by simp [hcj2]
         simp [this,hkj]
     rw [hrest]at hp2
     have h8:=hp2.flatMap_right (f:=fun i=>(ew g j v i).2.1)
     rw [List.flatMap_append]at h8
     refine h8.trans (List.Perm.of_eq ?_)
     simp only [List.flatMap_cons,List.flatMap_nil,List.append_nil]
     rw [lP]
     congr 1
     refine iQ fun k hk=>?_
     rw [iZ (hRj k hk)]
    have hkp:∀v:Th,∀o∈((List.range ops.size).filter (fun k=>nw k&&(listed.setIfInBounds j true).getD k false)).flatMap (fun k=>(ew g j v k).2.2)++es,o∈v.2.2++(K++es):=fun v o ho=>by
     rcases List.mem_append.1 ho with ho | ho
     ·obtain ⟨k,hk,ho⟩:=List.mem_flatMap.1 ho
      obtain ⟨hk1,hk2⟩:=List.mem_filter.1 hk
      simp only [Bool.and_eq_true]at hk2
      by_cases hkj:k=j
      ·subst hkj; rw [lP]at ho; exact List.mem_append_left _ ho
      ·rw [iZ hkj]at ho
       rw [hgd,if_neg hkj]at hk2
       refine List.mem_append_right _ (List.mem_append_left _ ?_)
       rw [←hK]
       exact q7 (List.mem_range.1 hk1) hk2.1 hk2.2 ho
     ·exact List.mem_append_right _ (List.mem_append_right _ ho)
    have hgn':∀v:Th,(∀o∈v.2.2,o.ns=true)→∀k,nw k=true→(listed.setIfInBounds j true).getD k false=true→∀o∈(ew g j v k).2.2,o.ns=true:=fun v hv k hk hl o ho=>by
     by_cases hkj:k=j
     ·subst hkj; rw [lP]at ho; exact hv o ho
     ·rw [iZ hkj]at ho
      rw [hgd,if_neg hkj]at hl
      exact hgn k hk hl o ho
    unfold wpOp
    simp only [hoj]
    rw [if_pos hw]
    left
    have go:∀v x y w',ent j ((ds j).map g) v x y→SfT (db (coM ops.size cs g j++xs j++(brM ops.size bs xs j++os))) (T++db (R.flatMap (fun i=>(g i).2.1)++X2)) w w' y (x++(brM ops.size bs xs j++os))→wpAny P .any ops Q m (listed.setIfInBounds j true) (a.put oj.dst v) w':=fun v x y w' he hS'=>by
     have hyn:=hns j _ v x y he
     have h9:=hS2.unlend hKn hyn hS'
     refine lF hbs hxs hT hes hns hs hcs hself hks hds hlow hchk m (l1++l2) _ (ew g j (v,x,y)) _ w' hlen hsort' (by simp [hsz]) hcl' hmem' (hgn' (v,x,y) hyn) ?_ (hall' v x y he)
     refine h9.perm (hkp (v,x,y)) ?_
     rw [hXe]
     refine List.Perm.trans ?_ ((hne (v,x,y)).append_right (X++os)).symm
     exact (uY _ _ _ _ _).trans ((hX2.symm.append_right os).append_left _)
    rcases hrun w _ _ l1' (l2'.sub hckm) (l3'.sub hckm) l4' with ⟨v,w',x,y,hr | ⟨rfl,hr⟩,he,hS'⟩ | ⟨f,args,hr,hC⟩
    ·unfold Oper.wp
     rw [hr]
     exact go v x y w' he hS'
    ·unfold Oper.wp
     rw [hr]
     exact go undef x y w' he hS'
    ·unfold Oper.wp
     rw [hr]
     refine Calls.mono hC fun e w' he=>?_
     cases e with
     | returned v=>obtain ⟨x,y,he,hS'⟩:=he; exact go v x y w' he hS'
     | panicked c=>exact he.elim
     | outgrown=>exact he.elim
   ·rw [if_neg hn]at h1
    obtain ⟨v,hv,h2⟩:=h1
    have hn':nw j=false:=by simpa using hn
    have hal:(List.range ops.size).filter (dx nw cs (listed.setIfInBounds j true))=(List.range ops.size).filter (dx nw cs listed):=by
     refine List.filter_congr fun k hk=>?_
     have hk:=List.mem_range.1 hk
     unfold dx
     rw [hgd]
     by_cases hkj:k=j
     ·subst hkj; rw [hn']; rfl
     ·rw [if_neg hkj]
      cases hc:cs k with
      | none=>rfl
      | some c=>
       have hcne:c≠j:=fun e=>by
        have:=(hcs k c hk hc).2.2.1
        rw [e,hn']at this; cases this
       simp only [hgd,if_neg hcne]
    have hkl:(List.range ops.size).filter (fun k=>nw k&&(listed.setIfInBounds j true).getD k false)=(List.range ops.size).filter (fun k=>nw k&&listed.getD k false):=by
     refine List.filter_congr fun k hk=>?_
     rw [hgd]
     by_cases hkj:k=j
     ·subst hkj; rw [hn']; rfl
     ·rw [if_neg hkj]
    have ih:wpAny P .any ops Q m (listed.setIfInBounds j true) (a.put oj.dst v) w:=
     lF hbs hxs hT hes hns hs hcs hself hks hds hlow hchk m (l1++l2) _ g _ w hlen hsort' (by simp [hsz]) hcl' hmem' (fun k hk hl=>by
      rw [hgd]at hl
      by_cases hkj:k=j
      ·subst hkj; rw [hn']at hk; cases hk
      ·rw [if_neg hkj]at hl; exact hgn k hk hl) (by rw [hal,hkl,hXe]; rw [hxs j hn',List.nil_append]at hX; exact hS.perm (fun o ho=>ho) ((hX.append_right os).append_left _)) h2
    unfold wpOp
    simp only [hoj]
    rcases hv with ⟨hw,hv⟩ | ⟨hw,rfl⟩
    ·rw [if_pos hw]
     left
     unfold Oper.wp
     rw [hv w hS.tail.tail']
     exact ih
    ·rw [if_neg (by rw [hw]; simp)]
     exact ih
variable {n:Nat} {L:Env}
def fL (P:Program) (n:Nat) (ops:Array Oper) (Q:Exit→Act→World→Prop) (nw:Nat→Bool) (cs:Nat→Option Nat) (ks:Nat→List Nat) (xs:Nat→List OE) (bs ds:Nat→List Nat) (S T:List Nat) (w0:World) (es os:List OE) (ent:Nat→List Th→Value→List OE→List OE→Prop) (l:List Nat) (g:Gt) (L:Env):Prop:=
 ∀a,Rep n L a→lxM P ops Q nw cs ks xs bs ds S T w0 es os ent l g a
theorem kv {g:Gt} (h:∀w,SfT S T w0 w (((List.range ops.size).filter nw).flatMap (fun k=>(g k).2.2)++es) (((List.range ops.size).filter (fun k=>nw k&&cs k == none)).flatMap (fun k=>(g k).2.1)++os)→QE n Q .normal L w):fL P n ops Q nw cs ks xs bs ds S T w0 es os ent [] g L:=
 fun a ha w hw=>h w hw a ha
theorem bU {i:Nat} {r:List Nat} {g:Gt} {d:Nat} {op:Op} {ty:TypeId} {pos:String} {after:Array Edge} {v:Value} (ho:ops[i]? = some ⟨some d,op,ty,pos,after,none⟩) (hf:nw i=false)
  (hv:∀w Sb wb,Fz S w0 Sb wb→Rds Sb wb es→Off T es→St Sb wb w os→OpV P n L w ⟨some d,op,ty,pos,after,none⟩ v w) (hd:Nat.blt d n=true) (h:fL P n ops Q nw cs ks xs bs ds S T w0 es os ent r g ((d,v) :: L)):fL P n ops Q nw cs ks xs bs ds S T w0 es os ent (i :: r) g L:=fun a ha=>by
 simp only [lxM,ho,hf,Bool.false_eq_true,if_false]
 refine ⟨v,.inl ⟨by simp [Region.wanted],fun w' hw'=>?_⟩,h _ (ha.put hd)⟩
 obtain ⟨Sb,wb,hZ,hA,hP,hS⟩:=hw'
 exact hv w' Sb wb hZ hA hP hS a ha
theorem jb (E:List Th→Value→List OE→List OE→Prop) (hh:List Th) (co ck bw:List OE) {i:Nat} {r:List Nat} {g:Gt} {d:Nat} {op:Op} {ty:TypeId} {pos:String} {after:Array Edge} (ho:ops[i]? = some ⟨some d,op,ty,pos,after,none⟩) (hf:nw i=true) (hE:∀h v x y,ent i h v x y=E h v x y)
  (hco:coM ops.size cs g i++xs i=co) (hck:ckM ks g i=ck) (hbw:brM ops.size bs xs i++os=bw) (hhh:(ds i).map g=hh) (hex:∃v x y,E hh v x y)
  (hv:∀w Sl Tl,Fz Sl w Sl w→TOk Sl Tl w→Rds Sl w (ck++es)→Off Tl (ck++es)→St Sl w w (co++bw)→OpX P n L w ⟨some d,op,ty,pos,after,none⟩ (fun v w'=>∃x y,E hh v x y∧SfT Sl Tl w w' y (x++bw))) (hd:Nat.blt d n=true)
  (h:∀v x y,E hh v x y→fL P n ops Q nw cs ks xs bs ds S T w0 es os ent r (ew g i (v,x,y)) ((d,v) :: L)):fL P n ops Q nw cs ks xs bs ds S T w0 es os ent (i :: r) g L:=fun a ha=>by
 simp only [lxM,ho,hf,if_true]
 refine ⟨⟨by simp [Region.wanted],fun w Sl Tl hT hA hP hS=>?_⟩,by simp only [hE,hhh]; exact hex,fun v x y he=>h v x y (by rwa [hE,hhh]at he) _ (ha.put hd)⟩
 rw [hco,hbw]at hS
 rw [hbw]
 rw [hck]at hA hP
 obtain ⟨v,w',h1,x,y,he,h2⟩:=hv w Sl Tl Fz.start hT hA hP hS
 exact .inl ⟨v,w',x,y,.inl (h1 a ha),by rw [hE,hhh]; exact he,h2⟩
theorem eP (E:List Th→Value→List OE→List OE→Prop) (hh:List Th) (co ck bw:List OE) {i:Nat} {r:List Nat} {g:Gt} {d:Nat} {f:FuncId} {zs:List Operand} {ts:Array TypeId} {vs:List Value} {ty:TypeId} {pos:String} {after:Array Edge}
  (ho:ops[i]? = some ⟨some d,.call ⟨.value (.func f),zs.toArray,ts⟩,ty,pos,after,none⟩) (hf:nw i=true) (hE:∀h v x y,ent i h v x y=E h v x y)
  (hco:coM ops.size cs g i++xs i=co) (hck:ckM ks g i=ck) (hbw:brM ops.size bs xs i++os=bw) (hhh:(ds i).map g=hh) (hex:∃v x y,E hh v x y) (hg:jf P f=true) (hargs:L.evs zs=some vs)
  (hv:∀w Sl Tl,Fz Sl w Sl w→TOk Sl Tl w→Rds Sl w (ck++es)→Off Tl (ck++es)→St Sl w w (co++bw)→Calls P f vs.toArray w (Ret fun v w'=>∃x y,E hh v x y∧SfT Sl Tl w w' y (x++bw))) (hd:Nat.blt d n=true)
  (h:∀v x y,E hh v x y→fL P n ops Q nw cs ks xs bs ds S T w0 es os ent r (ew g i (v,x,y)) ((d,v) :: L)):fL P n ops Q nw cs ks xs bs ds S T w0 es os ent (i :: r) g L:=fun a ha=>by
 simp only [lxM,ho,hf,if_true]
 refine ⟨⟨by simp [Region.wanted],fun w Sl Tl hT hA hP hS=>?_⟩,by simp only [hE,hhh]; exact hex,fun v x y he=>h v x y (by rwa [hE,hhh]at he) _ (ha.put hd)⟩
 rw [hco,hbw]at hS
 rw [hbw]
 rw [hck]at hA hP
 refine .inr ⟨f,vs.toArray,rf rfl hg (ha.evs hargs),?_⟩
 have:=hv w Sl Tl Fz.start hT hA hP hS
 simp only [hE,hhh]
 exact this
theorem uS (E:List Th→Value→List OE→List OE→Prop) (hh:List Th) (co ck bw:List OE) {i:Nat} {r:List Nat} {g:Gt} {d:Nat} {zx:Operand} {f:FuncId} {cap:List Value} {zs:List Operand} {ts:Array TypeId} {vs:List Value} {ty:TypeId} {pos:String} {after:Array Edge}
  (ho:ops[i]? = some ⟨some d,.call ⟨.value zx,zs.toArray,ts⟩,ty,pos,after,none⟩) (hf:nw i=true) (hE:∀h v x y,ent i h v x y=E h v x y)
  (hco:coM ops.size cs g i++xs i=co) (hck:ckM ks g i=ck) (hbw:brM ops.size bs xs i++os=bw) (hhh:(ds i).map g=hh) (hex:∃v x y,E hh v x y) (hx:L.ev zx=some (.func (.func f) #[] cap.toArray)) (hg:jf P f=true) (hargs:L.evs zs=some vs)
  (hv:∀w Sl Tl,Fz Sl w Sl w→TOk Sl Tl w→Rds Sl w (ck++es)→Off Tl (ck++es)→St Sl w w (co++bw)→Calls P f (vs++cap).toArray w (Ret fun v w'=>∃x y,E hh v x y∧SfT Sl Tl w w' y (x++bw))) (hd:Nat.blt d n=true)
  (h:∀v x y,E hh v x y→fL P n ops Q nw cs ks xs bs ds S T w0 es os ent r (ew g i (v,x,y)) ((d,v) :: L)):fL P n ops Q nw cs ks xs bs ds S T w0 es os ent (i :: r) g L:=fun a ha=>by
 simp only [lxM,ho,hf,if_true]
 refine ⟨⟨by simp [Region.wanted],fun w Sl Tl hT hA hP hS=>?_⟩,by simp only [hE,hhh]; exact hex,fun v x y he=>h v x y (by rwa [hE,hhh]at he) _ (ha.put hd)⟩
 rw [hco,hbw]at hS
 rw [hbw]
 rw [hck]at hA hP
 refine .inr ⟨f,(vs++cap).toArray,wG rfl (ha.ev hx) hg (ha.evs hargs),?_⟩
 have:=hv w Sl Tl Fz.start hT hA hP hS
 simp only [hE,hhh]
 exact this
theorem u9 (E:List Th→Value→List OE→List OE→Prop) (hh:List Th) (co ck bw:List OE) {i:Nat} {r:List Nat} {g:Gt} {op:Op} {ty:TypeId} {pos:String} {after:Array Edge} (ho:ops[i]? = some ⟨none,op,ty,pos,after,none⟩) (hf:nw i=true) (hE:∀h v x y,ent i h v x y=E h v x y)
  (hco:coM ops.size cs g i++xs i=co) (hck:ckM ks g i=ck) (hbw:brM ops.size bs xs i++os=bw) (hhh:(ds i).map g=hh) (hex:∃v x y,E hh v x y)
  (hv:∀w Sl Tl,Fz Sl w Sl w→TOk Sl Tl w→Rds Sl w (ck++es)→Off Tl (ck++es)→St Sl w w (co++bw)→OpY P n L w ⟨none,op,ty,pos,after,none⟩ (fun w'=>∃x y,E hh undef x y∧SfT Sl Tl w w' y (x++bw)))
  (h:∀v x y,E hh v x y→fL P n ops Q nw cs ks xs bs ds S T w0 es os ent r (ew g i (v,x,y)) L):fL P n ops Q nw cs ks xs bs ds S T w0 es os ent (i :: r) g L:=fun a ha=>by
 simp only [lxM,ho,hf,if_true]
 refine ⟨⟨by simp [Region.wanted],fun w Sl Tl hT hA hP hS=>?_⟩,by simp only [hE,hhh]; exact hex,fun v x y he=>h v x y (by rwa [hE,hhh]at he) _ ha⟩
 rw [hco,hbw]at hS
 rw [hbw]
 rw [hck]at hA hP
 obtain ⟨w',h1,x,y,he,h2⟩:=hv w Sl Tl Fz.start hT hA hP hS
 exact .inl ⟨undef,w',x,y,.inr ⟨rfl,h1 a ha⟩,by rw [hE,hhh]; exact he,h2⟩
theorem tO {o:Oper} {w:World} {φ ψ:World→Prop} (h:OpY P n L w o φ) (hi:∀w',φ w'→ψ w'):OpY P n L w o ψ:=by
 obtain ⟨w',h1,h2⟩:=h
 exact ⟨w',h1,hi w' h2⟩
theorem ep {P:Program} {f:FuncId} {args:Array Value} {w:World} {φ ψ:Value→World→Prop} (h:Calls P f args w (Ret φ)) (hi:∀v w',φ v w'→ψ v w'):Calls P f args w (Ret ψ):=
 h.mono fun e w' he=>by
  cases e with
  | returned v=>exact hi v w' he
  | panicked c=>exact he.elim
  | outgrown=>exact he.elim
theorem mq {o:Oper} {w:World} {φ ψ:Value→World→Prop} (h:OpX P n L w o φ) (hi:∀v w',φ v w'→ψ v w'):OpX P n L w o ψ:=by
 obtain ⟨v,w',h1,h2⟩:=h
 exact ⟨v,w',h1,hi v w' h2⟩
theorem Bd {o:Oper} {w:World} {v:Value} {ψ:Value→World→Prop} (h:OpV P n L w o v w) (hi:ψ v w):OpX P n L w o ψ:=⟨v,w,h,hi⟩
def Bi (ops:Array Oper) (nw:Nat→Bool) (cs:Nat→Option Nat) (ks bs ds:Nat→List Nat):Bool:=
 (List.range ops.size).all fun k=>((match cs k with | none=>true | some c=>nw k&&Nat.blt c ops.size&&nw c&&cO ops ops.size c k)&&(ks k).all fun c=>Nat.blt c ops.size&&nw c&&cO ops ops.size k c)&&((ds k).all fun c=>cO ops ops.size k c)&&(bs k).all fun c=>Nat.blt c ops.size&&cO ops ops.size c k
theorem eZ {c:Prop} [Decidable c] {A B:List Th→Value→List OE→List OE→Prop} (h1:∀h v x y,A h v x y→∀o∈y,o.ns=true) (h2:∀h v x y,B h v x y→∀o∈y,o.ns=true):∀h v x y,(if c then A else B) h v x y→∀o∈y,o.ns=true:=by
 by_cases hc:c
 ·rw [if_pos hc]; exact h1
 ·rw [if_neg hc]; exact h2
theorem dF {y:List OE} (h:y.all OE.ns=true):∀o∈y,o.ns=true:=List.all_eq_true.1 h
theorem ia {id:Nat} {l:List Oper} {w:World} (nw:Nat→Bool) (cs:Nat→Option Nat) (ks:Nat→List Nat) (xs:Nat→List OE) (bs ds:Nat→List Nat) (ent:Nat→List Th→Value→List OE→List OE→Prop) (hQ:SfT S T w0 w es ((List.range l.length).flatMap xs++os)) (hxs:∀k,nw k=false→xs k=[]) (hT:TOk S T w0) (hes:es.all OE.ns=true)
  (hns:∀i h v x y,ent i h v x y→∀o∈y,o.ns=true) (hm:P.follows .mixedOrders=true)
  (hB:(lE l.toArray&&ru l.toArray&&rX l.toArray (fun _=>true))=true) (hK:Bi l.toArray nw cs ks bs ds=true)
  (h:fL P n l.toArray Q nw cs ks xs bs ds S T w0 es os ent (List.range l.length) (fun _=>(undef,[],[])) L):wpC P n (.region id l.toArray true) Q L w:=
 fun a ha=>by
  simp only [Bool.and_eq_true]at hB
  have hlow:=pv hB.1.2
  refine wp_region_any hm ?_
  have hK':∀k,k<l.toArray.size→_:=fun k hk=>List.all_eq_true.1 hK k (List.mem_range.2 hk)
  refine lF (fun c k hc hk=>?_) hxs hT (dF hes) hns (mP hB.1.1) (fun k c hk hc=>?_) (fun c oc _ k hr=>qB hlow _ _ _ hr) (fun c k hc hk=>?_) (fun c k hc hk=>?_) hlow (fun i j h1 h2 h3 oi oj h4 h5=>(pj hB.2 i j h1 h2 h3 oi oj h4 h5).1) _ (List.range l.length) _ (fun _=>(undef,[],[])) a _ (by simp) List.pairwise_lt_range (by simp) (fun j oj hj hl=>?_) (fun i=>?_) (fun k _ _ o ho=>by cases ho) ?_ (h a ha)
  ·have:=hK' c hc
   simp only [Bool.and_eq_true]at this
   have:=List.all_eq_true.1 this.2 k hk
   simp only [Bool.and_eq_true]at this
   exact ⟨by have:=this.1; rwa [Nat.blt_eq]at this,this.2⟩
  ·have:=hK' k hk
   simp only [hc,Bool.and_eq_true]at this
   have:=this.1.1.1
   exact ⟨this.1.1.1,by have:=this.1.1.2; rwa [Nat.blt_eq]at this,this.1.2,this.2⟩
  ·have:=hK' c hc
   simp only [Bool.and_eq_true]at this
   have:=List.all_eq_true.1 this.1.1.2 k hk
   simp only [Bool.and_eq_true]at this
   exact ⟨by have:=this.1.1; rwa [Nat.blt_eq]at this,this.1.2,this.2⟩
  ·have:=hK' c hc
   simp only [Bool.and_eq_true]at this
   exact List.all_eq_true.1 this.1.2 k hk
  ·rw [Array.getD_eq_getD_getElem?,Array.getElem?_replicate]at hl
   split at hl <;> simp at hl
  ·rw [Array.getD_eq_getD_getElem?,Array.getElem?_replicate]
   by_cases h1:i<l.length
   ·simp [h1]
   ·simp [h1]
  ·have h0:∀k,(Array.replicate l.toArray.size false).getD k false=false:=fun k=>by
    rw [Array.getD_eq_getD_getElem?,Array.getElem?_replicate]; split <;> rfl
   have e:(List.range l.toArray.size).filter (dx nw cs (Array.replicate l.toArray.size false))=[]:=by
    refine List.filter_eq_nil_iff.2 fun k hk=>?_
    unfold dx
    rw [h0]; simp
   have e2:(List.range l.toArray.size).filter (fun k=>nw k&&(Array.replicate l.toArray.size false).getD k false)=[]:=by
    refine List.filter_eq_nil_iff.2 fun k hk=>?_
    rw [h0]; simp
   have e3:(List.range l.toArray.size).filter (fun k=>!(Array.replicate l.toArray.size false).getD k false)=List.range l.toArray.size:=by
    refine List.filter_eq_self.2 fun k hk=>?_
    rw [h0]; rfl
   rw [e,e2,e3]
   obtain ⟨Sb,wb,hZ,hA,hP,hS⟩:=hQ
   exact ⟨Sb,wb,hZ,hA,hP,by simpa using hS.drew⟩
end
end Go.Gk
end

section
namespace Go.Gk
open Go Go.RowKit
def lenV (v:Value):Nat:=match v with
 | .slice _ n _=>n
 | _=>0
def lW (v:Value) (sz lo hi:Nat) (vp:Value):Prop:=(vp=slV v sz lo hi∨vp=v∧lo=0∧hi=lenV v)∧lo≤hi∧hi≤lenV v
section
variable {w w0:World} {S:List Nat} {τ:Type} {e:Enc τ} {v vp:Value} {l:List τ} {lo hi:Nat}
theorem RO.lenV (h:RO w e v l):lenV v=l.length:=by obtain ⟨a,c,rfl,_⟩:=h; rfl
theorem RO.whole (h:RO w e v l):lW v e.sz 0 l.length v:=⟨.inr ⟨rfl,rfl,h.lenV.symm⟩,Nat.zero_le _,by rw [h.lenV]; exact Nat.le_refl _⟩
theorem RO.part (h:RO w e v l) (h1:lo≤hi) (h2:hi≤l.length):lW v e.sz lo hi (slV v e.sz lo hi):=⟨.inl rfl,h1,by rw [h.lenV]; exact h2⟩
theorem RO.po (h:RO w e v l) (hp:lW v e.sz lo hi vp):RO w e vp ((l.drop lo).take (hi - lo)):=by
 obtain ⟨h0,h1,h2⟩:=hp
 have hl:=h.lenV
 rcases h0 with rfl | ⟨rfl,rfl,rfl⟩
 ·exact h.sub h1 (by omega)
 ·rw [hl,List.drop_zero,Nat.sub_zero,List.take_length]; exact h
theorem RP.po (h:RP S w e v l) (hp:lW v e.sz lo hi vp):RP S w e vp ((l.drop lo).take (hi - lo)):=by
 obtain ⟨h0,h1,h2⟩:=hp
 have hl:=h.1.lenV
 rcases h0 with rfl | ⟨rfl,rfl,rfl⟩
 ·exact h.sub h1 (by omega)
 ·rw [hl,List.drop_zero,Nat.sub_zero,List.take_length]; exact h
theorem xW (h:RO w e v l) (hp:lW v e.sz lo hi vp) {j:Nat} (hj:j<hi - lo):ixA vp e.sz j=ixA v e.sz (lo+j):=by
 obtain ⟨h0,h1,h2⟩:=hp
 have hl:=h.lenV
 obtain ⟨a,c,rfl,hc,hr⟩:=h
 rcases h0 with rfl | ⟨rfl,rfl,rfl⟩
 ·have hne:l≠[]:=by rintro rfl; simp [Gk.lenV]at h2; omega
  obtain ⟨b,off,rfl,_⟩:=hr hne
  have hcl:¬c=lo:=by omega
  simp [slV,hcl,ixA,cc,Nat.add_mul,Nat.add_assoc]
 ·simp
end
section
variable {P:Program} {n:Nat} {L:Env} {w w0:World} {S:List Nat} {os:List OE} {d:Option Tmp} {ty:TypeId} {pos:String} {after:Array Edge}
theorem rE {x y:Operand} {T:TypeId} {τ:Type} {e:Enc τ} {z:Value} {bytes:Nat} {v vp u:Value} {l:List τ} {lo hi:Nat} {i:Nat} {j:Int} {t t':τ} (hT:TI P T z 1 bytes)
  (hx:L.ev x=some (pP (ixA vp e.sz j.toNat))) (hy:L.ev y=some u) (hS:St S w0 w os) (hi':os[i]? = some (own e v l)) (hp:lW v e.sz lo hi vp) (hg:aB ((l.drop lo).take (hi - lo)) j=some t') (hu:e.cells t=[u]) :
  OpY P n L w ⟨none,.store T x y,ty,pos,after,none⟩ (fun w'=>St S w0 w' (os.set i (own e v (l.set (lo+j.toNat) t)))):=by
 have hro:RO w e v l:=(hS.ok _ (List.mem_of_getElem? hi')).ro
 have hj:=(dz hg).2.1
 have hl:=hro.lenV
 have:=hp.2.2
 rw [List.length_take,List.length_drop]at hj
 rw [xW hro hp (by omega)]at hx
 exact n6 hT hx hy hu hS hi' (by omega)
end
section
variable {P:Program} {n:Nat} {L:Env} {w w0:World} {S:List Nat} {os:List OE} {d:Option Tmp} {ty:TypeId} {pos:String} {after:Array Edge}
theorem qT {x y:Operand} {T T2 E:TypeId} {τ:Type} {e:Enc τ} {z:Value} {bytes:Nat} {u:Value} {m:List τ} (hT:P.underlying T=some (.slice E)) (hT2:P.underlying T2=some (.slice E)) (hE:TI P E z e.sz bytes) (hz:z.cells.size=e.sz) (hby:bytes≤65536) (hby0:0<bytes)
  (hx:L.ev x=some (.slice none 0 0)) (hy:L.ev y=some u) (hS:St S w0 w os) (hu:RO w e u m) (hb:m.length*bytes≤225000000000000) :
  OpX P n L w ⟨d,.call ⟨.builtin .append,#[x,y],#[T,T2]⟩,ty,pos,after,none⟩ (fun v' w'=>St S w0 w' (own e v' m :: os)):=by
 have hn:(own e (.slice none 0 0) ([]:List τ)).ok S w0.heap.size w:=⟨by simp,.inl ⟨rfl,rfl⟩⟩
 obtain ⟨v',w',hr,h1,h2,h3⟩:=iA (ty:=ty) hT hE hz hby hby0 hn hu hS.fr.size (by simpa using hb)
 refine dK v' w' (fun a ha=>?_) (hS.push (by simpa [OE.blk,Value.ownBlock] using h2) h1 fun k hk=>?_)
 ·have h4:(Builtin.append_ #[T,T2] ty #[.slice none 0 0,u]).run P w=(Builtin.append_ #[T,T] ty #[.slice none 0 0,u]).run P w:=by
   simp [Builtin.append_,run_underlying hT,run_underlying hT2]
  simp [execOp,resolve,invoke,builtin,ha.ev hx,ha.ev hy,h4,hr]
 ·rcases h3 k hk with h | h
  ·simp [OE.blk,Value.ownBlock]at h
  ·exact h
theorem uK {x y:Operand} {T T2 E:TypeId} {τ:Type} {e:Enc τ} {z:Value} {bytes:Nat} {u:Value} {m r:List τ} (hT:P.underlying T=some (.slice E)) (hT2:P.underlying T2=some (.slice E)) (hE:TI P E z e.sz bytes) (hz:(Nat.beq z.cells.size e.sz&&Nat.ble bytes 65536&&Nat.blt 0 bytes)=true)
  (hx:L.ev x=some (.slice none 0 0)) (hy:L.ev y=some u) (hS:St S w0 w os) (hu:RO w e u m) (hg:apO bytes [] m=some r) :
  OpX P n L w ⟨d,.call ⟨.builtin .append,#[x,y],#[T,T2]⟩,ty,pos,after,none⟩ (fun v' w'=>St S w0 w' (own e v' r :: os)):=by
 obtain ⟨rfl,hb⟩:=kK hg
 simp only [Bool.and_eq_true,Nat.blt_eq]at hz
 exact qT hT hT2 hE (Nat.eq_of_beq_eq_true hz.1.1) (Nat.le_of_ble_eq_true hz.1.2) hz.2 hx hy hS hu (by simpa using hb)
end
section
variable {P:Program} {n:Nat} {L:Env} {w:World} {Q:Exit→Act→World→Prop}
theorem v7 {c:Code} (h:wpC P n c (Exit.noGoto Q) L w):wpC P n (.scope c) Q L w:=fun a ha=>wp_scope_straight (h a ha)
theorem vt {l:Nat} (h:QE n Q .normal L w):wpC P n (.label l) Q L w:=fun a ha=>wp_label (h a ha)
theorem yj (h:QE n Q .normal L w):QE n (Exit.noGoto Q) .normal L w:=h
theorem qr (h:QE n Q .ret L w):QE n (Exit.noGoto Q) .ret L w:=h
end
end Go.Gk
end

section
namespace Go.Gk
open Go Go.RowKit
section
variable {P:Program} {n:Nat} {L:Env} {w:World} {Q:Exit→Act→World→Prop}
theorem uu {c rest:Code} (l:Nat) (hf:findLabel c l=some rest) (h:wpC P n c (Exit.jump l (fun a w=>rest.wp P (Exit.noGoto Q) a w) Q) L w):wpC P n (.scope c) Q L w:=fun a ha=>
 wp_scope_jumps l _ (fun _ _=>0) hf (h a ha) fun a w hJ=>wp_mono hJ fun e a w q=>by cases e <;> first | exact q | exact q.elim
theorem wR {l:Nat} (h:QE n Q (.goto l) L w):wpC P n (.goto l) Q L w:=fun a ha=>wp_goto (h a ha)
theorem xY {l:Nat} {J:Act→World→Prop} (h:QE n Q .ret L w):QE n (Exit.jump l J Q) .ret L w:=h
theorem xR {l:Nat} {rest:Code} (h:wpC P n rest (Exit.noGoto Q) L w):QE n (Exit.jump l (fun a w=>rest.wp P (Exit.noGoto Q) a w) Q) (.goto l) L w:=fun a ha=>⟨rfl,h a ha⟩
theorem we {K:Act→World→Prop} {l:Nat} (h:QE n Q (.goto l) L w):QE n (Exit.then K Q) (.goto l) L w:=h
end
section
variable {P:Program} {n:Nat} {L:Env} {w:World} {S:List Nat} {d:Option Tmp} {ty:TypeId} {pos:String} {after:Array Edge}
theorem Bl {x y z u:Operand} {T E:TypeId} {k k' k'':IntKind} {lo hi:Int} {τ:Type} {e:Enc τ} {v z0:Value} {l r:List τ} {bytes:Nat} (hT:P.underlying T=some (.slice E)) (hE:TI P E z0 e.sz bytes)
  (hx:L.ev x=some v) (hy:L.ev y=some (.int k'' lo)) (hz:L.ev z=some (.int k hi)) (hu:L.ev u=some (.int k' hi)) (h:RO w e v l) (hg:slO l lo hi=some r) :
  OpV P n L w ⟨d,.slice T x (some y) (some z) (some u),ty,pos,after,none⟩ (slV3 v e.sz lo.toNat hi.toNat hi.toNat) w:=fun a ha=>by
 obtain ⟨b,c,rfl,hc,_⟩:=h
 obtain ⟨inf,hi',_,hs,_⟩:=hE.get
 obtain ⟨⟨h0,h1,h2⟩,rfl⟩:=cy hg
 have e2:hi≤(c:Int):=by omega
 have e3:(hi.toNat:Int)=hi:=Int.toNat_of_nonneg (by omega)
 have e4:0≤hi:=by omega
 have e5:(lo.toNat:Int)=lo:=Int.toNat_of_nonneg (by omega)
 have e6:lo.toNat≤hi.toNat:=by omega
 simp [execOp,ha.ev hx,ha.ev hy,ha.ev hz,ha.ev hu,Instr.sliceAt,Instr.slice,run_underlying hT,Instr.sliceBounds,run_sliceBound,h0,h1,e2,e3,e4,sizeOf,typeInfo,hi',hs,slV3]
theorem RO.g_sl3 {τ:Type} {e:Enc τ} {v:Value} {l r:List τ} {lo hi:Int} (h:RO w e v l) (hg:slO l lo hi=some r):RO w e (slV3 v e.sz lo.toNat hi.toNat hi.toNat) r:=by
 obtain ⟨⟨h0,h1,h2⟩,rfl⟩:=cy hg
 exact h.sub3 (by omega) h2 (Nat.le_refl _)
theorem RP.g_sl3 {τ:Type} {e:Enc τ} {v:Value} {l r:List τ} {lo hi:Int} (h:RP S w e v l) (hg:slO l lo hi=some r):RP S w e (slV3 v e.sz lo.toNat hi.toNat hi.toNat) r:=by
 refine ⟨h.1.g_sl3 hg,fun hne k hk hb=>?_⟩
 obtain ⟨_,rfl⟩:=cy hg
 refine h.2 (fun e=>hne (by rw [e]; simp)) k hk ?_
 obtain ⟨a,c,rfl,_⟩:=h.1
 cases a with
 | none=>simp [slV3,Value.ownBlock]at hb
 | some x=>
  by_cases hc:hi.toNat=lo.toNat
  ·simpa [slV3,hc,Value.ownBlock] using hb
  ·simp [slV3,hc,Value.ownBlock]at hb ⊢
   rw [←hb]; unfold Addr.add; split <;> rfl
end
end Go.Gk
end
