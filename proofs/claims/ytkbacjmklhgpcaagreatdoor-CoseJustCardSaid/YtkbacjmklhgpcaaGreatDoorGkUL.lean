import Derived.Test.YtkbacjmklhgpcaaGreatDoorGkP0
import Derived.Test.YtkbacjmklhgpcaaGreatDoorGkFman
set_option linter.unusedVariables false
set_option linter.unusedSimpArgs false
set_option linter.unusedSectionVars false
section
namespace Go.Gk.Bn
open Go Go.Gk Go.Gk.Sh
def Cof (m a x r:Nat):Prop:=(m:Int) ∣ (x:Int)*a - r
theorem Cof.step {m a x y r s q t:Nat} (R:Cof m a x r) (U:Cof m a y s) (A:0<m) (B:r=q*s+t):Cof m a ((x+m - q*y%m)%m) t:=by
 unfold Cof at *
 obtain⟨V,Y⟩:=R
 obtain⟨X,Z⟩:=U
 have G:=bH (q*y) A
 have I:((q*y%m:Nat):Int)=q*y - m*((q*y / m:Nat):Int):=by
  have:=de (q*y) m
  have z:((q*y:Nat):Int)=((m*(q*y / m)+q*y%m:Nat):Int):=by rw[this]
  rw[iI,dp,dp m]at z
  omega
 obtain⟨N,J⟩:∃N,x+m - q*y%m=N:=⟨_,rfl⟩
 have j:(N:Int)=x+m - ((q*y%m:Nat):Int):=by omega
 have O:((N%m:Nat):Int)=N - m*((N / m:Nat):Int):=by
  have:=de N m
  have z:(N:Int)=((m*(N / m)+N%m:Nat):Int):=by rw[this]
  rw[iI,dp]at z
  omega
 rw[J]
 have k:(t:Int)=r - q*s:=by rw[B]; push_cast; omega
 refine⟨V - q*X+a+a*((q*y / m:Nat):Int) - a*((N / m:Nat):Int),?_⟩
 rw[O,j,I,k]
 generalize ((q*y / m:Nat):Int)=k1
 generalize ((N / m:Nat):Int)=k2
 clear I O k B G A J j
 grobner
theorem Cof.le {m a x r:Nat} (h:Cof m a x r) (z:0<m) (j:r=1):a*(x%m)%m=1%m:=by
 subst j
 obtain⟨c,e⟩:=h
 have k:((a*x:Nat):Int)=1+m*c:=by push_cast; rw[Int.mul_comm]; omega
 have y:(((a*x)%m:Nat):Int)=((1%m:Nat):Int):=by
  rw[ch,k,Int.add_mul_emod_self_left]; rfl
 rw[dI,jk,<-dI]
 exact Int.natCast_inj.1 y
theorem Cg (n0:Bool) (j:L00) (x:Int) (h:nl x<=50000000000000):F.Uw n0 j (bi x).1 (bi x).2=some (bi (x.natAbs:Int)):=by
 unfold F.Uw
 have k:(bi x).2=ar (x.natAbs:Int).natAbs:=by rw[cG]; rfl
 rw[DU (bi x).2 h,aa,k,kW _ _ _ (x.natAbs:Int) (fun _=>by simp),aa]
theorem Ra (s a b d t:Int) (h:s*t<=0) (hd:0<=d):(s - d*t).natAbs=s.natAbs+d.natAbs*t.natAbs:=by
 rcases Int.lt_trichotomy t 0 with k | k | k
 ·have hs:0<=s:=by
   rcases Int.lt_or_le s 0 with j | j
   ·have:=Int.mul_pos_of_neg_of_neg j k; omega
   ·exact j
  have z:0<=d*-t:=fR hd (by omega)
  have y:(d*-t).natAbs=d.natAbs*t.natAbs:=by rw[Int.natAbs_mul,Int.natAbs_neg]
  rw[<-y]
  have A:s - d*t=s+d*-t:=by rw[Int.mul_neg]; omega
  rw[A]; omega
 ·subst k; simp
 ·have hs:s<=0:=by
   rcases Int.lt_or_le 0 s with j | j
   ·have:=Int.mul_pos j k; omega
   ·exact j
  have z:0<=d*t:=fR hd (by omega)
  have y:(d*t).natAbs=d.natAbs*t.natAbs:=Int.natAbs_mul ..
  rw[<-y]; omega
theorem OH (s d t:Int) (h:s*t<=0) (hd:0<=d):t*(s - d*t)<=0:=by
 have k:0<=d*(t*t):=fR hd (by rcases Int.le_total 0 t with j | j; exact fR j j; exact Int.mul_nonneg_of_nonpos_of_nonpos j j)
 have j:t*(s - d*t)=s*t - d*(t*t):=by grobner
 omega
theorem Ao (m a:Nat) (N:1<m) (y:nl (m:Int)<=1000000) (O:0<a) (R:a<m) (hg:Nat.gcd a m=1):∀n q p:Nat,∀s t:Int,q<=n->q<=m->p<=m->0<p->s*t<=0->s.natAbs<=m->t.natAbs<=m ->
  s.natAbs*q+t.natAbs*p=m->(m:Int) ∣ s*a - p->(m:Int) ∣ t*a - q->Nat.gcd p q=1 ->
  ∃z:Int,z.natAbs<=m/\(m:Int) ∣ z*a - 1/\loop (F.XQ false [] false [] (bi (a:Int)).1 (bi (a:Int)).2 (bi (m:Int)).1 (bi (m:Int)).2)
   ((bi (p:Int)).1,(bi (p:Int)).2,(bi (q:Int)).1,(bi (q:Int)).2,(bi s).1,(bi s).2,(bi t).1,(bi t).2)=some ((bi 1).1,(bi 1).2,(bi z).1,(bi z).2)
 | n,q,p,s,t,hqn,hqm,hpm,hp0,hst,hs,ht,hb,d1,d2,hgg=>by
  have L:∀k:Int,k.natAbs<=m->nl k<=1000000:=fun k hk=>ba (kR (by omega)) y
  by_cases h0:q=0
  ·subst h0
   rw[Nat.gcd_zero_right]at hgg
   subst hgg
   refine⟨s,hs,by simpa using d1,?_⟩
   refine cb ?_
   unfold F.XQ
   dsimp only
   have l1:=L s hs; have l2:=L (a:Int) (by omega); have l3:=Bp (a:Int) s; have l4:=GN ((1:Nat):Int) ((a:Int)*s); have l5:=L ((1:Nat):Int) (by omega)
   rw[ae (by rw[show (bi ((0:Nat):Int)).2=[] from cI]; decide),ae (by rw[bi1 (by omega)]; decide),A4 _ _ _ _ (by omega),aa,
    EA _ _ (by omega) (by omega),aa]
   have j:∀x:Int,nl x<=70000000->∃r,F.Yx (bi x).1 (bi x).2 (bi (m:Int)).1 (bi (m:Int)).2=some r:=fun x hx=>by
    have e:F.Yx (bi x).1 (bi x).2 (bi (m:Int)).1 (bi (m:Int)).2=af (F.V6 (bi x).1 (bi x).2 (bi x).1 (bi x).2 (bi (m:Int)).1 (bi (m:Int)).2 false []) fun A=>some (A.1,A.2.1):=rfl
    rw[e,rV _ _ _ _ _ _ (by omega) (by omega) (by omega),aa]
    exact⟨_,rfl⟩
   obtain⟨r,hr⟩:=j (((1:Nat):Int) - (a:Int)*s) (by omega)
   rw[hr,aa,B4 _ _ _ (by omega),aa,B4 _ _ _ (by omega),aa]
   rfl
  ·cases n with
   | zero=>omega
   | succ n=>
    have j:=de p q
    have b9:=bH p (show 0<q by omega)
    have b4:p / q<=m:=ba (dy _ _) hpm
    have U:Int.tdiv (p:Int) (q:Int)=((p / q:Nat):Int):=by rw[bJ (dx p)]; rfl
    have V:Int.tmod (p:Int) (q:Int)=((p%q:Nat):Int):=by rw[cn (dx p)]; rfl
    have I:Nat.gcd q (p%q)=1:=by rw[fy,<-Nat.gcd_rec,fy]; exact hgg
    generalize p / q=k at *
    generalize p%q=r at *
    have J:=Ra s 0 0 (k:Int) t hst (by omega)
    rw[cG]at J
    have B:t.natAbs*r+(s - (k:Int)*t).natAbs*q=m:=by
     rw[J,<-hb]
     have h3:t.natAbs*p=t.natAbs*(q*(k)+r):=by rw[j]
     rw[h3,aE,aU]
     have h4:k*t.natAbs*q=t.natAbs*(q*(k)):=by
      rw[aM (k) t.natAbs,aF,aM (k) q]
     rw[h4]; omega
    have G:(s - (k:Int)*t).natAbs<=m:=by
     have:=eJ (s - (k:Int)*t).natAbs (show 0<q by omega)
     omega
    obtain⟨c1,ce⟩:=d1
    obtain⟨X,Y⟩:=d2
    have d3:(m:Int) ∣ (s - (k:Int)*t)*a - (r:Int):=by
     refine⟨c1 - (k:Int)*X,?_⟩
     have h5:(p:Int)=q*(k:Int)+(r:Int):=by
      have:=da (fun x:Nat=>(x:Int)) j
      simp only[iI,dp]at this
      exact this.symm
     generalize (k:Int)=k at *
     generalize (r:Int)=k2 at *
     clear J B G hb hst hs ht U V
     grobner
    obtain⟨z,hz,Z,ac⟩:=Ao m a N y O R hg n r q t (s - (k:Int)*t) (by omega) (by omega) hqm (by omega) (OH _ _ _ hst (by omega)) ht G B ⟨X,Y⟩ d3
     I
    refine⟨z,hz,Z,?_⟩
    rw[<-ac]
    refine bn ?_
    unfold F.XQ
    dsimp only
    have l1:=L (p:Int) (by omega); have l2:=L (q:Int) (by omega); have l3:=L s hs; have l4:=L t ht; have l5:=L (k:Int) (by omega)
    have l6:=Bp (k:Int) t
    rw[ag (by have:=mG.2 h0; rw[show (bi (q:Int)).2=ar q by rw[bi2,cG]]; simp only[ak]; omega),rV _ _ _ _ _ _ (by omega) (by omega) (by omega),aa,U,V]
    dsimp only
    rw[A4 _ _ _ _ (by omega),aa,HY _ _ _ _ (by omega) (by omega),aa]
    rfl
theorem zb (n0:Bool) (O:L00) (a m:Nat) (A:1<m) (j:nl (m:Int)<=1000000) (ha:nl (a:Int)<=1000000) (hg:Nat.gcd a m=1) :
  ∃v:Nat,v<m/\a*v%m=1/\F.Wk n0 O (bi (a:Int)).1 (bi (a:Int)).2 (bi (m:Int)).1 (bi (m:Int)).2=some (bi (v:Int)):=by
 have B:=bH a (show 0<m by omega)
 have k:Nat.gcd (a%m) m=1:=by rw[<-Nat.gcd_rec,fy]; exact hg
 have y:0<a%m:=by
  rcases bQ (a%m) with h | h
  ·rw[h,Nat.gcd_zero_left]at k; omega
  ·exact h
 obtain⟨z,hz,G,I⟩:=Ao m (a%m) A j y B k m m (a%m) 1 0 (ax _) (ax _) (by omega) y (by omega) (by omega) (by omega) (by simp) ⟨0,by simp⟩ ⟨-1,by omega⟩ k
 have lz:nl z<=1000000:=ba (kR (by omega)) j
 have J:=iF z (show (m:Int)≠0 by omega)
 have X:=Int.emod_lt_of_pos z (show (0:Int)<m by omega)
 refine⟨(z%m).toNat,by omega,?_,?_⟩
 ·obtain⟨c,hc⟩:=G
  have N:((a*(z%m).toNat%m:Nat):Int)=1:=by
   rw[ch,dp,ik J,show (a:Int)*(z%m)%m=(a:Int)*z%m by rw[Int.mul_emod,Int.emod_emod,<-Int.mul_emod]]
   have R:(a:Int)*z%m=(((a%m:Nat):Int)*z)%m:=by rw[ch,Int.mul_emod,Int.mul_emod ((a:Int)%m) z,Int.emod_emod]
   rw[R,show ((a%m:Nat):Int)*z=1+m*c by rw[Int.mul_comm]; omega,Int.add_mul_emod_self_left]
   exact gn (by omega) (by omega)
  omega
 ·unfold F.Wk
  rw[Cg _ _ _ (by omega),aa,cG,Ie _ _ _ _ (by omega) (by omega) (by omega) (fun h=>by omega),aa]
  have e:((a:Int)%(m:Int))=((a%m:Nat):Int):=by rw[ch]
  rw[e]
  unfold F.ZK F.aas
  have N:((bi ((a%m:Nat):Int)).2.length:Int)≠0:=by
   rw[bi2,cG]; have:=mG.2 (show a%m≠0 by omega); omega
  have U:((bi (m:Int)).2.length:Int)≠0:=by
   rw[bi2,cG]; have:=mG.2 (show m≠0 by omega); omega
  have l1:nl ((a%m:Nat):Int)<=1000000:=ba (kR (by omega)) j
  rw[ae (by simpa using N),ae (by simpa using U),Cg _ _ _ (by omega),aa,Cg _ _ _ (by omega),aa,cG,cG,
   mZ 1 (by decide) (by decide),aa,mZ 0 (by decide) (by decide),aa,I,aa,aa]
  dsimp only
  rw[vd 1 1 (by have:=Bz; omega) (by have:=Bz; omega),aa,ae (by decide),Ie _ _ _ _ (by omega) (by omega) (by omega) (fun h=>by omega),aa]
  have V:z%(m:Int)=(((z%m).toNat:Nat):Int):=by omega
  rw[<-V]
end Go.Gk.Bn
end
section
namespace Go.Gk.Ec
section ring
variable {p:Nat} [NeZero p]
theorem jY {a b:Fin p} (h:a - b=0):a=b:=by grobner
theorem HV (a:Fin p):a*0=0:=by grobner
theorem Np (a:Fin p):a+-a=0:=by grobner
structure Ln (a b x1 y1 x2 y2 s x3 y3:Fin p):Prop where
 hy:y2=y1+s*(x2 - x1)
 ha:a=s*(y1+y2) - x1*x1 - x1*x2 - x2*x2
 hb:b=y1*y1 - x1*x1*x1 - a*x1
 hx:x3=s*s - x1 - x2
 hz:y3=s*(x1 - x3) - y1
variable {a b x1 y1 x2 y2 s x3 y3:Fin p}
theorem Ln.on1 (h:Ln a b x1 y1 x2 y2 s x3 y3):y1*y1=x1*x1*x1+a*x1+b:=by
 have hb:=h.hb
 clear h; subst hb; grobner
theorem Ln.on2 (h:Ln a b x1 y1 x2 y2 s x3 y3):y2*y2=x2*x2*x2+a*x2+b:=by
 obtain⟨j,ha,hb,hx,hz⟩:=h
 subst j ha hb hx hz; grobner
theorem Ln.on3 (h:Ln a b x1 y1 x2 y2 s x3 y3):y3*y3=x3*x3*x3+a*x3+b:=by
 obtain⟨j,ha,hb,hx,hz⟩:=h
 subst j ha hb hx hz; grobner
theorem Ln.symm (h:Ln a b x1 y1 x2 y2 s x3 y3):Ln a b x2 y2 x1 y1 s x3 y3:=by
 obtain⟨j,ha,hb,hx,hz⟩:=h
 refine⟨?_,?_,?_,?_,?_⟩ <;> (subst j ha hb hx hz; grobner)
theorem Ln.neg (h:Ln a b x1 y1 x2 y2 s x3 y3):Ln a b x1 (-y1) x2 (-y2) (-s) x3 (-y3):=by
 obtain⟨j,ha,hb,hx,hz⟩:=h
 refine⟨?_,?_,?_,?_,?_⟩ <;> (subst j ha hb hx hz; grobner)
theorem Ln.xS {j y g xS z:Fin p} (h:Ln a b x1 y1 x2 y2 s x3 y3) (k:Ln a b x3 y3 j y g xS z) :
  xS=(s+g)*(s+g) - 2*(x3+s*g) - x1 - x2 - j:=by
 have A:=h.hx
 have B:=k.hx
 clear h k
 subst A B; grobner
end ring
structure Fld (p:Nat) [NeZero p]:Prop where
 nz:∀u v:Fin p,u*v=0->u=0\/v=0
 iv:∀u:Fin p,u≠0->∃v:Fin p,u*v=1
 two:(2:Fin p)≠0
variable {p:Nat} [NeZero p]
open Classical in
noncomputable def rcp (u:Fin p):Fin p:=if h:∃v:Fin p,u*v=1 then Classical.choose h else 0
theorem Fld.mul_iv (F:Fld p) {u:Fin p} (h:u≠0):u*rcp u=1:=by
 unfold rcp
 rw[dif_pos (F.iv u h)]
 exact gR (F.iv u h)
theorem Fld.cancel (F:Fld p) {u v w:Fin p} (h:u≠0) (e:u*v=u*w):v=w:=by
 rcases F.nz u (v - w) (by grobner) with j | j
 ·exact (h j).elim
 ·exact jY j
theorem Fld.iv_uniq (F:Fld p) {u v:Fin p} (e:u*v=1):v=rcp u:=by
 have h:u≠0:=by
  intro j
  have:(2:Fin p)=0:=by subst j; grobner
  exact F.two this
 exact F.cancel h (e.trans (F.mul_iv h).symm)
theorem Fld.dbl (F:Fld p) {u:Fin p} (h:u+u=0):u=0:=by
 rcases F.nz 2 u (by grobner) with j | j
 ·exact (F.two j).elim
 ·exact j
abbrev Pt (p:Nat):=Option (Fin p×Fin p)
def On (a b:Fin p):Pt p->Prop
 | none=>True
 | some (x,y)=>y*y=x*x*x+a*x+b
def neg:Pt p->Pt p
 | none=>none
 | some (x,y)=>some (x,-y)
def rA (x1 y1 x2 s:Fin p):Pt p:=some (s*s - x1 - x2,s*(x1 - (s*s - x1 - x2)) - y1)
noncomputable def add (a:Fin p):Pt p->Pt p->Pt p
 | none,Q=>Q
 | some P,none=>some P
 | some (x1,y1),some (x2,y2)=>
  if x1=x2 then (if y1+y2=0 then none else rA x1 y1 x2 ((3*(x1*x1)+a)*rcp (2*y1)))
  else rA x1 y1 x2 ((y2 - y1)*rcp (x2 - x1))
theorem oV (a x1 y1 x2 y2:Fin p):add a (some (x1,y1)) (some (x2,y2)) =
  if x1=x2 then (if y1+y2=0 then none else rA x1 y1 x2 ((3*(x1*x1)+a)*rcp (2*y1)))
  else rA x1 y1 x2 ((y2 - y1)*rcp (x2 - x1)):=rfl
structure Cv (p:Nat) [NeZero p] (a b:Fin p):Prop extends Fld p where
 odd:∀x:Fin p,x*x*x+a*x+b≠0
variable {a b:Fin p}
theorem KG (P:Pt p):add a P none=P:=by cases P <;> rfl
theorem On.neg {P:Pt p} (h:On a b P):On a b (neg P):=by
 rcases P with _ | ⟨x,y⟩
 ·trivial
 ·unfold On Ec.neg at *
  dsimp only at *
  grobner
theorem Cv.y_ne (C:Cv p a b) {x y:Fin p} (h:On a b (some (x,y))):y≠0:=by
 intro j
 apply C.odd x
 unfold On at h
 dsimp only at h
 rw[<-h,j,HV]
theorem Fld.ln (C:Fld p) {x1 y1 x2 y2:Fin p} (y:On a b (some (x1,y1))) (j:On a b (some (x2,y2))) (h:¬(x1=x2/\y1+y2=0)) :
  ∃s x3 y3,Ln a b x1 y1 x2 y2 s x3 y3/\add a (some (x1,y1)) (some (x2,y2))=some (x3,y3):=by
 unfold On at y j
 dsimp only at y j
 rw[oV]
 unfold rA
 by_cases hx:x1=x2
 ·rw[ag hx,ae (fun q=>h ⟨hx,q⟩)]
  refine⟨((3*(x1*x1)+a)*rcp (2*y1)),_,_,?_,rfl⟩
  have A:(y1 - y2)*(y1+y2)=0:=by subst hx; grobner
  have I:y2=y1:=by
   rcases C.nz _ _ A with q | q
   ·exact (jY q).symm
   ·exact (h ⟨hx,q⟩).elim
  subst hx I
  have B:y2≠0:=by intro k; apply h; refine⟨rfl,?_⟩; rw[k]; grobner
  have j:2*y2≠0:=by
   intro k; rcases C.nz _ _ k with q | q
   ·exact C.two q
   ·exact B q
  have e:=C.mul_iv j
  generalize rcp (2*y2)=z at e ⊢
  refine⟨by grobner,?_,?_,rfl,rfl⟩
  ·have:(3*(x1*x1)+a)*z*(y2+y2)=3*(x1*x1)+a:=by
    have:y2+y2=2*y2:=by grobner
    rw[this]; clear this
    generalize 2*y2=w at *
    grobner
   rw[this]; clear this
   grobner
  ·clear e; grobner
 ·rw[ae hx]
  refine⟨(y2 - y1)*rcp (x2 - x1),_,_,?_,rfl⟩
  have G:x2 - x1≠0:=fun k=>hx (jY k).symm
  have e:=C.mul_iv G
  generalize rcp (x2 - x1)=z at e ⊢
  have hs:(y2 - y1)*z*(x2 - x1)=y2 - y1:=by generalize x2 - x1=w at *; clear y j; grobner
  generalize (y2 - y1)*z=s at hs ⊢
  clear e
  refine⟨?_,?_,?_,rfl,rfl⟩
  ·rw[hs]; grobner
  ·have:(x2 - x1)*a=(x2 - x1)*(s*(y1+y2) - x1*x1 - x1*x2 - x2*x2):=by
    have:(x2 - x1)*(s*(y1+y2) - x1*x1 - x1*x2 - x2*x2)=s*(x2 - x1)*(y1+y2) - (x2 - x1)*(x1*x1+x1*x2+x2*x2):=by clear y j hs; grobner
    rw[this,hs]; clear this hs
    grobner
   exact C.cancel G this
  ·clear hs; grobner
end Go.Gk.Ec
end
section
namespace Go.Gk.Ec
variable {p:Nat} [NeZero p] {a b:Fin p}
theorem Fld.on_add (C:Fld p) {P Q:Pt p} (hP:On a b P) (j:On a b Q):On a b (add a P Q):=by
 rcases P with _ | ⟨x1,y1⟩
 ·exact j
 rcases Q with _ | ⟨x2,y2⟩
 ·exact hP
 by_cases h:x1=x2/\y1+y2=0
 ·rw[oV,ag h.1,ag h.2]; trivial
 ·obtain⟨s,x3,y3,hl,e⟩:=C.ln hP j h
  rw[e]; exact hl.on3
theorem Cv.off (C:Cv p a b) {x1 y1 x2 y2 s y A x3 y3 g xS J:Fin p} (h:Ln a b x1 y1 x2 y2 s y A) (j:Ln a b y A x3 y3 g xS J)
  (n1:x3≠x1) (B:x3≠x2):y3 - y1 - s*(x3 - x1)≠0:=by
 intro e
 have N:y3=y1+s*(x3 - x1):=by clear h j; grobner
 have G:=j.on2
 have hx:(x3 - x1)*((x3 - x2)*(x3 - y))=0:=by
  have ha:=h.ha
  have hb:=h.hb
  have hy:=h.hy
  have hp:=h.hx
  clear h j n1 B e
  subst hy ha hb hp N
  grobner
 rcases C.nz _ _ hx with q | q
 ·exact n1 (jY q)
 rcases C.nz _ _ q with q | q
 ·exact B (jY q)
 have I:=jY q
 have O:=h.hz
 have R:=j.hy
 have k:=j.on1
 have z:A≠0:=C.y_ne (x:=y) (by unfold On; exact k)
 apply z
 apply C.dbl
 clear h j G hx k z
 subst I
 grobner
theorem Cv.last (C:Cv p a b) {xS y j z m k c x1 x2 x3:Fin p} (B:k≠0) (eS:xS=k*k - 2*m - x1 - x2 - x3) (A:j=k*k - 2*m - x1 - x2 - x3)
  (hS:xS*xS+m*xS+k*y+c=0) (hT:j*j+m*j+k*z+c=0):xS=j/\y=z:=by
 have e:xS=j:=by rw[eS,A]
 clear eS A
 subst e
 refine⟨rfl,C.cancel B ?_⟩
 grobner
end Go.Gk.Ec
end
section
namespace Go.Gk.Ec
variable {p:Nat} [NeZero p] {a b:Fin p}
theorem Fld.same_x (C:Fld p) {x y z:Fin p} (j:On a b (some (x,y))) (k:On a b (some (x,z))):z=y\/z=-y:=by
 unfold On at j k
 dsimp only at j k
 have:(z - y)*(z+y)=0:=by grobner
 rcases C.nz _ _ this with q | q
 ·exact .inl (jY q)
 ·exact .inr (by grobner)
theorem sub3 {u x y z:Fin p}:u - x - y - z=u - z - x - y:=by grobner
end Go.Gk.Ec
end
section
namespace Go.Gk.Pr
def Prm (p:Nat):Prop:=1<p/\∀d,d ∣ p->d=1\/d=p
theorem Prm.coprime {p a:Nat} (h:Prm p) (ha:¬p ∣ a):Nat.Coprime p a:=by
 rcases h.2 _ (jg p a) with e | e
 ·exact e
 ·exact (ha (e ▸ gl p a)).elim
theorem Prm.dvd_mul {p a b:Nat} (h:Prm p) (hd:p ∣ a*b):p ∣ a\/p ∣ b:=by
 by_cases ha:p ∣ a
 ·exact .inl ha
 ·exact .inr ((h.coprime ha).dvd_of_dvd_mul_left hd)
theorem rL:∀n d:Nat,d<=n->1<d->∃r,Prm r/\r ∣ d
 | 0,d,h,h1=>by omega
 | n+1,d,h,h1=>by
  by_cases hp:Prm d
  ·exact⟨d,hp,Nat.dvd_refl d⟩
  ·have:∃e,e ∣ d/\e≠1/\e≠d:=by
    refine gZ fun hn=>hp ⟨h1,fun e j=>?_⟩
    by_cases k:e=1
    ·exact .inl k
    by_cases y:e=d
    ·exact .inr y
    exact (hn ⟨e,j,k,y⟩).elim
   obtain⟨e,j,k,y⟩:=this
   have A:=gi (by omega) j
   have B:e≠0:=by rintro rfl; exact (by omega:d≠0) (Nat.zero_dvd.1 j)
   obtain⟨r,z,hd⟩:=rL n e (by omega) (by omega)
   exact⟨r,z,Nat.dvd_trans hd j⟩
def md:List Nat->Nat
 | []=>1
 | x :: l=>x*md l
theorem Fk {l j:List Nat} (h:l.Perm j):md l=md j:=by
 induction h with
 | nil=>rfl
 | cons x _ ih=>simp only[md]; rw[ih]
 | swap x y l=>simp only[md]; rw[<-aF,<-aF,aM y x]
 | trans _ _ ih1 ih2=>rw[ih1,ih2]
theorem yx (r a:Nat):∀l:List Nat,md (l.map (fun x=>a*x%r))%r=a^l.length*md l%r
 | []=>by simp[md]
 | x :: l=>by
  have j:=yx r a l
  simp only[db,md,bY,bo]
  rw[dI,j,jk,<-dI]
  congr 1
  rw[aF a x,aM a,aM (a^l.length) a]
  simp only[aF,aM,dF]
theorem yJ {r:Nat} (h:Prm r):∀l:List Nat,(∀x∈l,¬r ∣ x)->¬r ∣ md l
 | [],_=>by simp[md]; have:=h.1; omega
 | x :: l,hl=>fun hd=>by
  rcases h.dvd_mul hd with j | j
  ·exact hl x (fk ..) j
  ·exact yJ h l (fun y k=>hl y (fC _ k)) j
theorem rF {r a b:Nat} (h:a%r=b%r) (j:b<=a):r ∣ a - b:=eY (Nat.sub_mod_eq_zero_of_mod_eq h)
theorem qr {r a x y:Nat} (h:Prm r) (ha:¬r ∣ a) (e:a*x%r=a*y%r):x%r=y%r:=by
 have z:∀x y:Nat,y<=x->a*x%r=a*y%r->x%r=y%r:=fun x y j e=>by
  have B:=rF e (bj a j)
  rw[<-Nat.mul_sub]at B
  rcases h.dvd_mul B with A | A
  ·exact (ha A).elim
  ·obtain⟨k,G⟩:=A
   have:x=y+r*k:=by omega
   rw[this,g8]
 rcases Nat.le_total y x with j | j
 ·exact z x y j e
 ·exact (z y x j e.symm).symm
theorem MP {r b:Nat} (m n:Nat):b^m%r=1%r->b^n%r=1%r->b^(Nat.gcd m n)%r=1%r:=by
 refine Nat.gcd.induction (P:=fun m n=>b^m%r=1%r->b^n%r=1%r->b^(Nat.gcd m n)%r=1%r) m n (fun n _ h=>by rwa [Nat.gcd_zero_left]) (fun m n A y j k=>?_)
 rw[Nat.gcd_rec]
 refine y ?_ j
 have z:b^n=(b^m)^(n / m)*b^(n%m):=by rw[<-cu,<-bU,de]
 rw[z,dI,Nat.pow_mod,j,<-Nat.pow_mod,Nat.one_pow,<-dI,cy]at k
 exact k
theorem tZ:∀{l j:List Nat},l.Nodup->(∀x∈l,x∈j)->j.length<=l.length->l.Perm j
 | [],j,_,_,h=>by
  have:j=[]:=bp (by simpa using h)
  rw[this]
 | x :: l,j,hn,hs,h=>by
  have hx:=hs x (fk ..)
  have hp:=List.perm_cons_erase hx
  have k:=List.nodup_cons.1 hn
  have hl:=hp.length_eq
  refine List.Perm.trans (List.Perm.cons x (tZ k.2 (fun y z=>?_) ?_)) hp.symm
  ·have A:y≠x:=by rintro rfl; exact k.1 z
   exact (List.mem_erase_of_ne A).2 (hs y (fC _ z))
  ·simp only[bY]at h hl; omega
theorem GR {r a:Nat} (h:Prm r) (ha:¬r ∣ a):a^(r - 1)%r=1:=by
 have N:=h.1
 have G:∀x,0<x->x<r->¬r ∣ x:=fun x O j hd=>by have:=gi O hd; omega
 have I:((List.range' 1 (r - 1)).map (fun x=>a*x%r)).Nodup:=by
  refine List.pairwise_map.2 (List.Pairwise.imp_of_mem (R:=(·≠·)) ?_ (List.nodup_range' (s:=1) (n:=r - 1)))
  intro x y hx A J e
  have:=i0.1 hx
  have:=i0.1 A
  have j:=qr h ha e
  rw[az (by omega),az (by omega)]at j
  exact J j
 have B:∀y∈(List.range' 1 (r - 1)).map (fun x=>a*x%r),y∈List.range' 1 (r - 1):=by
  intro y A
  obtain⟨x,hx,rfl⟩:=jx.1 A
  have:=i0.1 hx
  have j:=bH (a*x) (show 0<r by omega)
  refine i0.2 ⟨?_,by omega⟩
  rcases bQ (a*x%r) with k | k
  ·rcases h.dvd_mul (eY k) with z | z
   ·exact (ha z).elim
   ·exact (G x (by omega) (by omega) z).elim
  ·exact k
 have hp:((List.range' 1 (r - 1)).map (fun x=>a*x%r)).Perm (List.range' 1 (r - 1)):=tZ I B (by simp)
 have j:=yx r a (List.range' 1 (r - 1))
 rw[Fk hp,List.length_range']at j
 have hc:=yJ h (List.range' 1 (r - 1)) (fun x hx=>by have:=i0.1 hx; exact G x (by omega) (by omega))
 have k:(md (List.range' 1 (r - 1)))*(a^(r - 1))%r=(md (List.range' 1 (r - 1)))*1%r:=by rw[cE,j,aM]
 have z:=qr h hc k
 rwa [az N]at z
def frc {α:Type} (n:Nat) (k:Nat->α):α:=match n with
 | 0=>k 0
 | m+1=>k (m+1)
theorem Of {α:Type} (n:Nat) (k:Nat->α):frc n k=k n:=by cases n <;> rfl
def pwG (m a e:Nat):Nat->Nat->Nat
 | 0,acc=>acc
 | k+1,acc=>frc (bif Nat.beq (e / 2^k%2) 0 then acc*acc%m else acc*acc%m*a%m) (pwG m a e k)
theorem Gm (m a e:Nat):∀k acc:Nat,acc=a^(e / 2^k)%m->pwG m a e k acc=a^e%m
 | 0,acc,h=>by rw[h]; simp[pwG]
 | k+1,acc,h=>by
  unfold pwG
  rw[Of]
  refine Gm m a e k _ ?_
  have j:e / 2^k=2*(e / 2^(k+1))+e / 2^k%2:=by
   rw[bo,<-dN]; omega
  generalize e / 2^k%2=c at j ⊢
  rw[j,h]
  have y:(a^(e / 2^(k+1))%m)*(a^(e / 2^(k+1))%m)%m=a^(2*(e / 2^(k+1)))%m:=by
   rw[<-dI,<-bU]; congr 2; omega
  rw[y]
  cases hb:Nat.beq c 0 with
  | true=>
   have:=bK hb
   subst this; rfl
  | false=>
   have hc:c=1:=by
    have z:c<2:=by
     have:c=e / 2^k - 2*(e / 2^(k+1)):=by omega
     rw[this,bo,<-dN]; omega
    have A:c≠0:=by rintro rfl; cases hb
    omega
   subst hc
   show a^(2*(e / 2^(k+1)))%m*a%m=_
   rw[bo a,dI,jk,<-dI]
def pw (m a e:Nat):Nat:=pwG m a e (Nat.log2 e+1) (1%m)
theorem Qs (m a e:Nat):pw m a e=a^e%m:=by
 unfold pw
 refine Gm _ _ _ _ _ ?_
 rw[cA Nat.lt_log2_self,gB]
def Hq (n:Nat):Bool:=Nat.blt 1 n&&Nat.blt n 16384&&(List.range 128).all fun d=>Nat.blt d 2 || Nat.ble n d || !Nat.beq (n%d) 0
theorem km {n:Nat} (h:Hq n=true):Prm n:=by
 unfold Hq at h
 simp only[aK,fN]at h
 obtain⟨⟨B,R⟩,G⟩:=h
 have y:∀d,d ∣ n->2<=d->d<128->n<=d:=fun d hd k z=>by
  have:=ci.1 G d (dH.2 z)
  simp only[fD,fN,Bool.not_eq_true']at this
  rcases this with (j | j) | j
  ·omega
  ·exact ao j
  ·rw[Nat.mod_eq_zero_of_dvd hd]at j; cases j
 refine⟨B,fun d hd=>?_⟩
 by_cases e1:d=1
 ·exact .inl e1
 by_cases e2:d=n
 ·exact .inr e2
 exfalso
 obtain⟨e,A⟩:=hd
 have I:d≠0:=by rintro rfl; omega
 have J:e≠0:=by rintro rfl; omega
 have N:e≠1:=by rintro rfl; omega
 have O:d<n:=by
  have k:d ∣ n:=⟨e,A⟩
  have:=gi (by omega) k; omega
 by_cases k:d<128
 ·have:=y d ⟨e,A⟩ (by omega) k; omega
 ·have z:e<128:=by
   rcases bX e 128 with h | h
   ·exact h
   ·have:=ef (show 128<=d by omega) h; omega
  have j:=y e ⟨d,by rw[aM]; exact A⟩ (by omega) z
  have U:=ef (show 2<=d by omega) (ax e)
  omega
def wH (N:Nat):List (Nat×Nat)->Nat->Option Nat
 | [],F=>some F
 | (q,a) :: l,F=>if Nat.beq (Nat.gcd F q) 1&&Nat.beq ((N - 1)%q) 0&&Nat.beq (pw N a (N - 1)) 1&&Nat.beq (Nat.gcd (pw N a ((N - 1) / q)+N - 1) N) 1 then wH N l (F*q) else none
def chk (N:Nat) (l:List (Nat×Nat)):Bool:=Nat.blt 1 N&&match wH N l 1 with
 | none=>false
 | some F=>Nat.blt N (F*F)
theorem Qg {N q a r:Nat} (hN:1<N) (z:Prm q) (A:Prm r) (hd:r ∣ N) (J:q ∣ N - 1) (O:a^(N - 1)%N=1) (R:Nat.gcd (a^((N - 1) / q)%N+N - 1) N=1):q ∣ r - 1:=by
 refine gZ fun hn=>?_
 have hg:=z.coprime hn
 have j:=A.1
 have y:(a^((N - 1) / q))^q%r=1%r:=by
  rw[<-cu,Nat.div_mul_cancel J]
  have:a^(N - 1)%N%r=a^(N - 1)%r:=Nat.mod_mod_of_dvd _ hd
  rw[<-this,O]
 have B:¬r ∣ a^((N - 1) / q):=fun hx=>by
  have U:(a^((N - 1) / q))^q%r=0:=by
   rw[Nat.pow_mod,Nat.mod_eq_zero_of_dvd hx,Nat.zero_pow (by have:=z.1; omega)]; exact jB _
  rw[U,az j]at y
  cases y
 have V:=GR A B
 have G:=MP (r:=r) (b:=a^((N - 1) / q)) q (r - 1) y (by rw[V,az j])
 rw[show Nat.gcd q (r - 1)=1 from hg,Nat.pow_one]at G
 have X:r ∣ a^((N - 1) / q)%N+N - 1:=by
  have Y:(a^((N - 1) / q)%N)%r=1%r:=by rw[Nat.mod_mod_of_dvd _ hd]; exact G
  obtain⟨k,Z⟩:=hd
  have h7:(a^((N - 1) / q)%N+N)%r=1%r:=by
   rw[Nat.add_mod,Y,Nat.mod_eq_zero_of_dvd ⟨k,Z⟩,bm,jk]
  exact rF h7 (by omega)
 have I:=Nat.dvd_gcd X hd
 rw[R]at I
 have:=gi (by decide) I
 omega
theorem Ht {N r:Nat} (A:1<N) (B:Prm r) (hd:r ∣ N):∀(l:List (Nat×Nat)) (F G:Nat),(∀q∈l,Prm q.1)->F ∣ r - 1->wH N l F=some G->G ∣ r - 1
 | [],F,G,_,hF,h=>by simp[wH]at h; exact h ▸ hF
 | (q,a) :: l,F,G,hl,hF,h=>by
  simp only[wH]at h
  split at h
  ·rename_i hc
   simp only[aK]at hc
   obtain⟨⟨⟨y,z⟩,j⟩,k⟩:=hc
   have y:=bK y
   have z:=bK z
   have j:=bK j
   have k:=bK k
   rw[Qs]at j k
   have I:=Qg A (hl (q,a) (fk ..)) B hd (eY z) j k
   exact Ht A B hd l (F*q) G (fun x hx=>hl x (fC _ hx)) (Nat.Coprime.mul_dvd_of_dvd_of_dvd y hF I) h
  ·cases h
theorem f7 {N:Nat} (l:List (Nat×Nat)) (hl:∀q∈l,Prm q.1) (h:chk N l=true):Prm N:=by
 unfold chk at h
 simp only[aK,fN]at h
 obtain⟨B,h⟩:=h
 cases hF:wH N l 1 with
 | none=>rw[hF]at h; cases h
 | some F=>
  rw[hF]at h
  have J:N<F*F:=by simpa using h
  have j:∀d,d ∣ N->1<d->F<d:=fun d hd y=>by
   obtain⟨r,z,k⟩:=rL d d (ax d) y
   have A:=Ht B z (Nat.dvd_trans k hd) l 1 F hl (Nat.one_dvd _) hF
   have I:=gi (by have:=z.1; omega) A
   have V:=gi (by omega) k
   have:=z.1
   omega
  refine⟨B,fun d hd=>?_⟩
  by_cases e1:d=1
  ·exact .inl e1
  by_cases e2:d=N
  ·exact .inr e2
  exfalso
  obtain⟨e,G⟩:=hd
  have O:d≠0:=by rintro rfl; omega
  have R:e≠0:=by rintro rfl; omega
  have U:e≠1:=by rintro rfl; omega
  have y:=j d ⟨e,G⟩ (by omega)
  have A:=j e ⟨d,by rw[aM]; exact G⟩ (by omega)
  have I:=ef (cz y) (cz A)
  omega
theorem R7:Prm 3:=km (by decide +kernel)
theorem RY:Prm 5:=km (by decide +kernel)
theorem R5:Prm 7:=km (by decide +kernel)
theorem Rb:Prm 11:=km (by decide +kernel)
theorem Q9:Prm 43:=km (by decide +kernel)
theorem Pz:Prm 139:=km (by decide +kernel)
theorem P9:Prm 197:=km (by decide +kernel)
theorem N3:Prm 211:=km (by decide +kernel)
theorem PM:Prm 233:=km (by decide +kernel)
theorem O3:Prm 311:=km (by decide +kernel)
theorem Pa:Prm 313:=km (by decide +kernel)
theorem OJ:Prm 337:=km (by decide +kernel)
theorem Oa:Prm 421:=km (by decide +kernel)
theorem GW:Prm 881:=km (by decide +kernel)
theorem N6:Prm 937:=km (by decide +kernel)
theorem Nd:Prm 3023:=km (by decide +kernel)
theorem Ny:Prm 3677:=km (by decide +kernel)
theorem Mv:Prm 4349:=km (by decide +kernel)
theorem GJ:Prm 704251:=f7 [(313,2),(5,2)] (by
 intro q j
 simp only[aG,aR,bE]at j
 rcases j with rfl | rfl
 ·exact Pa
 ·exact RY) (by decide +kernel)
theorem I2:Prm 78283:=f7 [(4349,2)] (by
 intro q j
 simp only[aG,aR,bE]at j
 rw[j]; exact Mv) (by decide +kernel)
theorem qF:Prm 46076956964474543:=f7 [(704251,2),(78283,2)] (by
 intro q j
 simp only[aG,aR,bE]at j
 rcases j with rfl | rfl
 ·exact GJ
 ·exact I2) (by decide +kernel)
theorem xG:Prm 66417393611:=f7 [(3677,2),(197,2)] (by
 intro q j
 simp only[aG,aR,bE]at j
 rcases j with rfl | rfl
 ·exact Ny
 ·exact P9) (by decide +kernel)
theorem tI:Prm 11290956913871:=f7 [(66417393611,2)] (by
 intro q j
 simp only[aG,aR,bE]at j
 rw[j]; exact xG) (by decide +kernel)
theorem kc:Prm 774023187263532362759620327192479577272145303:=f7 [(46076956964474543,2),(11290956913871,2)] (by
 intro q j
 simp only[aG,aR,bE]at j
 rcases j with rfl | rfl
 ·exact qF
 ·exact tI) (by decide +kernel)
theorem jR:Prm 835945042244614951780389953367877943453916927241:=f7 [(774023187263532362759620327192479577272145303,2)] (by
 intro q j
 simp only[aG,aR,bE]at j
 rw[j]; exact kc) (by decide +kernel)
theorem gq:Prm 115792089210356248762697446949407573530086143415290314195533631308867097853951:=f7 [(835945042244614951780389953367877943453916927241,2)] (by
 intro q j
 simp only[aG,aR,bE]at j
 rw[j]; exact jR) (by decide +kernel)
theorem G9:Prm 155317:=f7 [(43,2),(7,2),(3,3)] (by
 intro q j
 simp only[aG,aR,bE]at j
 rcases j with rfl | rfl | rfl
 ·exact Q9
 ·exact R5
 ·exact R7) (by decide +kernel)
theorem z8:Prm 191039911:=f7 [(155317,2)] (by
 intro q j
 simp only[aG,aR,bE]at j
 rw[j]; exact G9) (by decide +kernel)
theorem qx:Prm 208150935158385979:=f7 [(191039911,2),(3023,2)] (by
 intro q j
 simp only[aG,aR,bE]at j
 rcases j with rfl | rfl
 ·exact z8
 ·exact Nd) (by decide +kernel)
theorem nc:Prm 2624747550333869278416773953:=f7 [(208150935158385979,2)] (by
 intro q j
 simp only[aG,aR,bE]at j
 rw[j]; exact qx) (by decide +kernel)
theorem GV:Prm 104471:=f7 [(337,2)] (by
 intro q j
 simp only[aG,aR,bE]at j
 rw[j]; exact OJ) (by decide +kernel)
theorem EO:Prm 3969899:=f7 [(104471,2)] (by
 intro q j
 simp only[aG,aR,bE]at j
 rw[j]; exact GV) (by decide +kernel)
theorem uF:Prm 1002328039319:=f7 [(3969899,2)] (by
 intro q j
 simp only[aG,aR,bE]at j
 rw[j]; exact EO) (by decide +kernel)
theorem gu:Prm 115792089210356248762697446949407573529996955224135760342422259061068512044369:=f7 [(2624747550333869278416773953,2),(1002328039319,2)] (by
 intro q j
 simp only[aG,aR,bE]at j
 rcases j with rfl | rfl
 ·exact nc
 ·exact uF) (by decide +kernel)
theorem Hg:Prm 363557:=f7 [(937,2)] (by
 intro q j
 simp only[aG,aR,bE]at j
 rw[j]; exact N6) (by decide +kernel)
theorem By:Prm 532247449:=f7 [(363557,2)] (by
 intro q j
 simp only[aG,aR,bE]at j
 rw[j]; exact Hg) (by decide +kernel)
theorem tC:Prm 44925942675193:=f7 [(532247449,2)] (by
 intro q j
 simp only[aG,aR,bE]at j
 rw[j]; exact By) (by decide +kernel)
theorem oo:Prm 35581458644053887931343:=f7 [(44925942675193,2)] (by
 intro q j
 simp only[aG,aR,bE]at j
 rw[j]; exact tC) (by decide +kernel)
theorem mP:Prm 23964610537191310276190549303:=f7 [(35581458644053887931343,2)] (by
 intro q j
 simp only[aG,aR,bE]at j
 rw[j]; exact oo) (by decide +kernel)
theorem my:Prm 862725979338887169942859774909:=f7 [(23964610537191310276190549303,2)] (by
 intro q j
 simp only[aG,aR,bE]at j
 rw[j]; exact mP) (by decide +kernel)
theorem ma:Prm 20705423504133292078628634597817:=f7 [(862725979338887169942859774909,2)] (by
 intro q j
 simp only[aG,aR,bE]at j
 rw[j]; exact my) (by decide +kernel)
theorem kD:Prm 413244619895455989650825325680172591660047:=f7 [(20705423504133292078628634597817,2)] (by
 intro q j
 simp only[aG,aR,bE]at j
 rw[j]; exact ma) (by decide +kernel)
theorem kq:Prm 12397338596863679689524759770405177749801411:=f7 [(413244619895455989650825325680172591660047,2)] (by
 intro q j
 simp only[aG,aR,bE]at j
 rw[j]; exact kD) (by decide +kernel)
theorem K6:Prm 21407:=f7 [(139,2),(11,2)] (by
 intro q j
 simp only[aG,aR,bE]at j
 rcases j with rfl | rfl
 ·exact Pz
 ·exact Rb) (by decide +kernel)
theorem A3:Prm 246608641:=f7 [(21407,2)] (by
 intro q j
 simp only[aG,aR,bE]at j
 rw[j]; exact K6) (by decide +kernel)
theorem B0:Prm 105957871:=f7 [(881,2),(211,2)] (by
 intro q j
 simp only[aG,aR,bE]at j
 rcases j with rfl | rfl
 ·exact GW
 ·exact N3) (by decide +kernel)
theorem oW:Prm 529709925838459440593:=f7 [(246608641,2),(105957871,2)] (by
 intro q j
 simp only[aG,aR,bE]at j
 rcases j with rfl | rfl
 ·exact A3
 ·exact B0) (by decide +kernel)
theorem eR:Prm 19173790298027098165721053155794528970226934547887232785722672956982046098136719667167519737147526097:=f7 [(12397338596863679689524759770405177749801411,2),(529709925838459440593,2)] (by
 intro q j
 simp only[aG,aR,bE]at j
 rcases j with rfl | rfl
 ·exact kq
 ·exact oW) (by decide +kernel)
theorem d9:Prm 39402006196394479212279040100143613805079739270465446667948293404245721771496870329047266088258938001861606973112319:=f7 [(19173790298027098165721053155794528970226934547887232785722672956982046098136719667167519737147526097,2)] (by
 intro q j
 simp only[aG,aR,bE]at j
 rw[j]; exact eR) (by decide +kernel)
theorem Ai:Prm 272109983:=f7 [(421,2),(233,2)] (by
 intro q j
 simp only[aG,aR,bE]at j
 rcases j with rfl | rfl
 ·exact Oa
 ·exact PM) (by decide +kernel)
theorem we:Prm 228572385721:=f7 [(272109983,2)] (by
 intro q j
 simp only[aG,aR,bE]at j
 rw[j]; exact Ai) (by decide +kernel)
theorem tB:Prm 23314383343543:=f7 [(228572385721,2)] (by
 intro q j
 simp only[aG,aR,bE]at j
 rw[j]; exact we) (by decide +kernel)
theorem oX:Prm 426632512014427833817:=f7 [(23314383343543,2)] (by
 intro q j
 simp only[aG,aR,bE]at j
 rw[j]; exact tB) (by decide +kernel)
theorem nf:Prm 1495199339761412565498084319:=f7 [(426632512014427833817,2)] (by
 intro q j
 simp only[aG,aR,bE]at j
 rw[j]; exact oX) (by decide +kernel)
theorem mL:Prm 17942392077136950785977011829:=f7 [(1495199339761412565498084319,2)] (by
 intro q j
 simp only[aG,aR,bE]at j
 rw[j]; exact nf) (by decide +kernel)
theorem E9:Prm 9863677:=f7 [(881,2),(311,2)] (by
 intro q j
 simp only[aG,aR,bE]at j
 rcases j with rfl | rfl
 ·exact GW
 ·exact O3) (by decide +kernel)
theorem tH:Prm 37344768852931:=f7 [(9863677,2)] (by
 intro q j
 simp only[aG,aR,bE]at j
 rw[j]; exact E9) (by decide +kernel)
theorem qW:Prm 55942463741690639:=f7 [(37344768852931,2)] (by
 intro q j
 simp only[aG,aR,bE]at j
 rw[j]; exact tH) (by decide +kernel)
theorem iR:Prm 1059392654943455286185473617842338478315215895509773412096307:=f7 [(17942392077136950785977011829,2),(55942463741690639,2)] (by
 intro q j
 simp only[aG,aR,bE]at j
 rcases j with rfl | rfl
 ·exact mL
 ·exact qW) (by decide +kernel)
theorem f8:Prm 3055465788140352002733946906144561090641249606160407884365391979704929268480326390471:=f7 [(1059392654943455286185473617842338478315215895509773412096307,2)] (by
 intro q j
 simp only[aG,aR,bE]at j
 rw[j]; exact iR) (by decide +kernel)
theorem eb:Prm 39402006196394479212279040100143613805079739270465446667946905279627659399113263569398956308152294913554433653942643:=f7 [(3055465788140352002733946906144561090641249606160407884365391979704929268480326390471,2)] (by
 intro q j
 simp only[aG,aR,bE]at j
 rw[j]; exact f8) (by decide +kernel)
end Go.Gk.Pr
end
section
namespace Go.Gk.Ec
open Go.Gk.Pr
variable {p:Nat} [NeZero p]
theorem rk:0<p:=eF (NeZero.ne p)
def fz (z:Int):Fin p:=⟨(z%p).toNat,by
 have h1:=Int.emod_lt_of_pos z (show (0:Int)<p by have:=rk (p:=p); omega)
 have h2:=iF z (show (p:Int)≠0 by have:=rk (p:=p); omega)
 omega⟩
theorem nt (z:Int):((fz (p:=p) z).val:Int)=z%p:=by
 have j:=iF z (show (p:Int)≠0 by have:=rk (p:=p); omega)
 show (((z%p).toNat:Nat):Int)=_
 omega
theorem AQ {a:Fin p} {z:Int} (h:(a.val:Int)%p=z%p):a=fz z:=by
 apply iN
 have:=nt (p:=p) z
 have j:=gn (a:=(a.val:Int)) (b:=p) (by omega) (by have:=a.isLt; omega)
 omega
theorem qq (a:Fin p):fz (a.val:Int)=a:=(AQ rfl).symm
theorem nK (z:Int):fz (p:=p) (z%p)=fz z:=by
 apply iN
 show ((z%p%p).toNat)=(z%p).toNat
 rw[Int.emod_emod]
theorem wx (x y:Int):fz (p:=p) (x+y)=fz x+fz y:=by
 refine (AQ ?_).symm
 rw[Fin.val_add,ch,iI,nt,nt,Int.emod_emod,<-Int.add_emod]
theorem sr (x y:Int):fz (p:=p) (x*y)=fz x*fz y:=by
 refine (AQ ?_).symm
 rw[Fin.val_mul,ch,dp,nt,nt,Int.emod_emod,<-Int.mul_emod]
theorem NK:fz (p:=p) 0=0:=by
 apply iN
 show ((0:Int)%p).toNat=_
 rw[Int.zero_emod]; rfl
theorem H3 (x y:Int):fz (p:=p) (x - y)=fz x - fz y:=by
 have h:=wx (p:=p) (x - y) y
 rw[show x - y+y=x by omega]at h
 rw[h]; grobner
theorem uW (n:Nat):fz (p:=p) (n:Int)=Fin.ofNat p n:=by
 apply iN
 show ((n:Int)%p).toNat=n%p
 rw[<-ch]; rfl
theorem FN {z:Int}:fz (p:=p) z=0↔z%p=0:=by
 constructor
 ·intro h
  have:=nt (p:=p) z
  rw[h]at this
  simpa using this.symm
 ·intro h
  have:=nK (p:=p) z
  rw[<-this,h,NK]
theorem NZ (hp:Prm p) (A:2<p):Fld p:=by
 have y:∀u:Fin p,u≠0->¬p ∣ u.val:=fun u hu hd=>by
  apply hu
  apply iN
  have k:=u.isLt
  have:(0:Fin p).val=0:=by simp
  rw[this]
  rcases bQ u.val with h | h
  ·exact h
  ·have:=gi h hd; omega
 refine⟨fun u v h=>?_,fun u hu=>?_,fun h=>?_⟩
 ·by_cases hu:u=0
  ·exact .inl hu
  ·right
   have z:p ∣ u.val*v.val:=by
    have:=da Fin.val h
    rw[Fin.val_mul]at this
    have k:(0:Fin p).val=0:=by simp
    rw[k]at this
    exact eY this
   rcases hp.dvd_mul z with j | j
   ·exact (y u hu j).elim
   ·refine gZ fun B=>y v B j
 ·refine⟨⟨u.val^(p - 2)%p,bH _ (by omega)⟩,?_⟩
  apply iN
  rw[Fin.val_mul]
  have z:(1:Fin p).val=1%p:=rfl
  have G:1%p=1:=az (by omega)
  rw[z,G]
  have j:=GR hp (y u hu)
  show u.val*(u.val^(p - 2)%p)%p=1
  rw[dI,jk,<-dI,aM,<-bo,show (p - 2).succ=p - 1 by omega]
  exact j
 ·have j:=da Fin.val h
  have I:(2:Fin p).val=2%p:=rfl
  have k:(0:Fin p).val=0:=by simp
  rw[I,k,az A]at j
  cases j
open Classical in
noncomputable def jac (X Y Z:Fin p):Pt p:=if Z=0 then none else some (X*(rcp Z*rcp Z),Y*(rcp Z*(rcp Z*rcp Z)))
theorem lB (X Y:Fin p):jac X Y 0=none:=ag rfl
theorem Fld.jac_of (F:Fld p) {X Y Z x y:Fin p} (hz:Z≠0) (hx:X=x*(Z*Z)) (j:Y=y*(Z*(Z*Z))):jac X Y Z=some (x,y):=by
 have e:=F.mul_iv hz
 unfold jac
 rw[ae hz]
 generalize rcp Z=i at e ⊢
 have k:X*(i*i)=x:=by subst hx; clear j; grobner
 have z:Y*(i*(i*i))=y:=by subst j; clear hx k; grobner
 rw[k,z]
theorem Fld.of_jac (F:Fld p) (X Y:Fin p) {Z:Fin p} (hz:Z≠0):∃x y,X=x*(Z*Z)/\Y=y*(Z*(Z*Z))/\jac X Y Z=some (x,y):=by
 have e:=F.mul_iv hz
 refine⟨X*(rcp Z*rcp Z),Y*(rcp Z*(rcp Z*rcp Z)),?_,?_,ae hz⟩
 ·generalize rcp Z=i at e ⊢; grobner
 ·generalize rcp Z=i at e ⊢; grobner
theorem Fld.mul_ne (F:Fld p) {u v:Fin p} (hu:u≠0) (j:v≠0):u*v≠0:=fun h=>(F.nz u v h).elim hu j
theorem Fld.jac_dbl (F:Fld p) {X Y Z O z s m R U:Fin p} (hz:Z≠0) (A:O=Z*Z) (B:z=Y*Y) (G:s=4*(X*z)) (j:m=3*((X - O)*(X+O))) (I:R=m*m - 2*s) (J:U=m*(s - R) - 8*(z*z)) :
  jac R U (2*(Y*Z))=add (-3) (jac X Y Z) (jac X Y Z):=by
 obtain⟨x,y,hx,k,hj⟩:=F.of_jac X Y hz
 rw[hj,oV,ag rfl]
 by_cases y0:y+y=0
 ·have:y=0:=F.dbl y0
  rw[ag y0,k,this,show (2:Fin p)*(0*(Z*(Z*Z))*Z)=0 by grobner,lB]
 ·rw[ae y0]
  have N:y≠0:=by rintro rfl; exact y0 (by grobner)
  have V:2*y≠0:=F.mul_ne F.two N
  have e:=F.mul_iv V
  obtain⟨l,hl⟩:∃l,(3*(x*x)+-3)*rcp (2*y)=l:=⟨_,rfl⟩
  have hs:l*(2*y)=3*(x*x) - 3:=by rw[<-hl]; generalize rcp (2*y)=i at e; clear hl A B G j I J hx k; grobner
  rw[hl]
  clear hl e
  unfold rA
  have hm:m=l*(2*y)*(Z*Z*(Z*Z)):=by rw[hs]; subst A hx; clear hs B G I J; rw[j]; clear j; grobner
  have ac:2*(Y*Z)≠0:=by rw[k]; exact F.mul_ne F.two (F.mul_ne (F.mul_ne N (F.mul_ne hz (F.mul_ne hz hz))) hz)
  refine F.jac_of ac ?_ ?_
  ·clear hs j A; subst I hm G B hx k; clear J; grobner
  ·clear hs j A; subst J I hm G B hx k; grobner
theorem Fld.jac_add (F:Fld p) {X1 Y1 j X2 Y2 k u1 u2 s1 s2 h r hh ad v x' y':Fin p} (z1:j≠0) (z2:k≠0) (V:u1=X1*(k*k)) (X:u2=X2*(j*j)) (Y:s1=Y1*(k*(k*k))) (Z:s2=Y2*(j*(j*j)))
  (e5:h=u2 - u1) (e6:r=s2 - s1) (O:hh=h*h) (e8:ad=h*hh) (R:v=u1*hh) (y:x'=r*r - ad - 2*v) (z:y'=r*(v - x') - s1*ad) (hn:h≠0) (a:Fin p) :
  jac x' y' (h*(j*k))=add a (jac X1 Y1 j) (jac X2 Y2 k):=by
 obtain⟨x1,y1,B,G,b4⟩:=F.of_jac X1 Y1 z1
 obtain⟨x2,y2,I,J,b5⟩:=F.of_jac X2 Y2 z2
 have hW:=F.mul_ne z1 z2
 have A:h=(x2 - x1)*(j*k*(j*k)):=by subst e5 V X B I; clear Y Z e6 O e8 R y z hn G J; grobner
 have N:r=(y2 - y1)*(j*k*(j*k*(j*k))):=by subst e6 Y Z G J; clear V X e5 O e8 R y z hn B I A; grobner
 have U:u1=x1*(j*k*(j*k)):=by subst V B; clear X Y Z e5 e6 O e8 R y z hn A N G J I; grobner
 have ap:s1=y1*(j*k*(j*k*(j*k))):=by subst Y G; clear X V Z e5 e6 O e8 R y z hn A N B J I U; grobner
 have hx:x1≠x2:=by
  rintro rfl
  apply hn; rw[A]; grobner
 have hd:x2 - x1≠0:=fun h0=>hx (jY h0).symm
 rw[b4,b5,oV,ae hx]
 have e:=F.mul_iv hd
 obtain⟨l,hl⟩:∃l,(y2 - y1)*rcp (x2 - x1)=l:=⟨_,rfl⟩
 have hs:l*(x2 - x1)=y2 - y1:=by
  rw[<-hl]; generalize rcp (x2 - x1)=i at e
  generalize x2 - x1=d at *; clear hl V X Y Z e5 e6 O e8 R y z B I G J A N U ap hn; grobner
 rw[hl]
 clear hl e
 unfold rA
 have bx:h*(j*k)≠0:=F.mul_ne hn hW
 rw[<-hs]at N
 clear V X Y Z e5 e6 B G I J b4 b5 hs
 refine F.jac_of bx ?_ ?_
 ·clear hn bx hW hd hx z ap; subst y R e8 O A N U; generalize j*k=W; grobner
 ·clear hn bx hW hd hx; subst z y R e8 O A N U ap; generalize j*k=W; grobner
end Go.Gk.Ec
end
section
namespace Go.Gk.Ec
open Go.Gk.Pr
variable {p:Nat} [NeZero p] {a b:Fin p}
noncomputable def mul (a:Fin p):Nat->Pt p->Pt p
 | 0,_=>none
 | k+1,P=>add a (mul a k P) P
end Go.Gk.Ec
end
section
namespace Go.Gk.Ec
open Go.Gk.Pr
section
variable {p:Nat} [NeZero p]
abbrev T3:=Nat×Nat×Nat
end
end Go.Gk.Ec
end
section
namespace Go.Gk.Bn
open Go Go.Gk Go.Gk.Sh Go.Gk.Ec Go.Gk.Pr
instance cP_nz (c:Int):NeZero (cP c):=⟨by have:=(kC c).2.2.2.2.2.1; omega⟩
theorem pb (c:Int):Prm (cP c):=by
 unfold cP
 split
 ·exact gq
 ·exact d9
theorem A9 (c:Int):Prm (cN c):=by
 unfold cN
 split
 ·exact gu
 ·exact eb
theorem sO (c:Int):Fld (cP c):=NZ (pb c) (by have:=(kC c).2.2.2.2.2.1; omega)
section
variable {p:Nat} [NeZero p]
def be (u:Fin p):Bool×L00:=bi (u.val:Int)
theorem HA {x y:Int}:fz (p:=p) x=fz y↔x%p=y%p:=by
 constructor
 ·intro h
  rw[<-nt (p:=p) x,h,nt]
 ·intro h
  rw[<-nK x,h,nK]
theorem pD (z:Int):be (fz (p:=p) z)=bi (z%p):=by unfold be; rw[nt]
theorem HH:fz (p:=p) 1=1:=uW 1
theorem ng (u:Fin p) (hpl:nl (p:Int)<=1000):nl (u.val:Int)<=1000:=ba (kR (by have:=u.isLt; omega)) hpl
theorem nI (u:Fin p):F.TM (be u).1 (be u).2=some (if u=0 then 0 else 1):=by
 unfold be
 rw[wU]
 by_cases h:u=0
 ·have j:(0:Fin p).val=0:=by simp
  rw[ag h,h,j,ag (by rfl)]
 ·have k:u.val≠0:=fun e=>h (iN (by rw[e]; simp))
  rw[ae h,ae (by omega),ae (by omega)]
variable (b0:Bool) (b1:L00) (n0:Bool) (n1:L00) (x0:Bool) (x1:L00) (y0:Bool) (y1:L00) (s:Int) (hpl:nl (p:Int)<=1000)
include hpl
theorem uw (u v:Fin p):F.S0 (bi (p:Int)).1 (bi (p:Int)).2 b0 b1 n0 n1 x0 x1 y0 y1 s (be u).1 (be u).2 (be v).1 (be v).2=some (be (u*v)):=by
 have j:=ng u hpl; have k:=ng v hpl
 have y:=fR (dx u.val) (dx v.val)
 unfold be
 rw[qf p b0 b1 n0 n1 x0 x1 y0 y1 s rk hpl _ _ (by omega) (fun h=>by omega),Fin.val_mul,ch,dp]
theorem Bw (u v:Fin p):F.Tx (bi (p:Int)).1 (bi (p:Int)).2 b0 b1 n0 n1 x0 x1 y0 y1 s (be u).1 (be u).2 (be v).1 (be v).2=some (be (u - v)):=by
 have k:=ng u hpl; have y:=ng v hpl
 have j:be (u - v)=bi (((u.val:Int) - (v.val:Int))%p):=by rw[<-pD,H3,qq,qq]
 rw[j]
 unfold be
 rw[Ea p b0 b1 n0 n1 x0 x1 y0 y1 s rk hpl _ _ (by omega) (by omega)]
theorem vF (k:Nat) (y:k<=1000) (u:Fin p):F.TQ (bi (p:Int)).1 (bi (p:Int)).2 b0 b1 n0 n1 x0 x1 y0 y1 s (k:Int) (be u).1 (be u).2=some (be (Fin.ofNat p k*u)):=by
 have z:=ng u hpl
 have j:be (Fin.ofNat p k*u)=bi (((k:Int)*(u.val:Int))%p):=by rw[<-pD,sr,qq,uW]
 rw[j]
 unfold be
 rw[xV p b0 b1 n0 n1 x0 x1 y0 y1 s rk hpl (k:Int) _ (by omega) (by omega) (by omega) (by omega)]
theorem JX (u v:Fin p):(af (F.WI false [] (be u).1 (be u).2 (be v).1 (be v).2) fun x=>F.Uk (bi (p:Int)).1 (bi (p:Int)).2 b0 b1 n0 n1 x0 x1 y0 y1 s x.1 x.2)=some (be (u+v)):=by
 have k:=ng u hpl; have y:=ng v hpl
 have j:be (u+v)=bi (((u.val:Int)+(v.val:Int))%p):=by rw[<-pD,wx,qq,qq]
 have z:=Bh (u.val:Int) (v.val:Int)
 rw[j]
 unfold be
 rw[Oo _ _ _ _ (by omega) (by omega),aa,ti p b0 b1 n0 n1 x0 x1 y0 y1 s rk hpl _ (by omega) (fun _=>by omega)]
omit hpl in
def rY (X Y Z:Fin p):Fin p×Fin p×Fin p:=
 if Z=0 then (X,Y,Z) else
  let zz:=Z*Z; let yy:=Y*Y; let s:=4*(X*yy); let m:=3*((X - zz)*(X+zz)); let x:=m*m - 2*s
  (x,m*(s - x) - 8*(yy*yy),2*(Y*Z))
omit hpl in
def p8 (X1 Y1 Z1 X2 Y2 Z2:Fin p):Fin p×Fin p×Fin p:=
 if Z1=0 then (X2,Y2,Z2) else if Z2=0 then (X1,Y1,Z1) else
  let u1:=X1*(Z2*Z2); let s1:=Y1*(Z2*(Z2*Z2)); let h:=X2*(Z1*Z1) - u1; let r:=Y2*(Z1*(Z1*Z1)) - s1
  if h=0 then (if r=0 then rY X1 Y1 Z1 else (0,0,0)) else
   let hh:=h*h; let hhh:=h*hh; let v:=u1*hh; let x:=r*r - hhh - 2*v
   (x,r*(v - x) - s1*hhh,h*(Z1*Z2))
omit hpl in
def bt (t:Fin p×Fin p×Fin p):Bool×L00×Bool×L00×Bool×L00:=((be t.1).1,(be t.1).2,(be t.2.1).1,(be t.2.1).2,(be t.2.2).1,(be t.2.2).2)
omit hpl in
noncomputable def jpt (t:Fin p×Fin p×Fin p):Pt p:=jac t.1 t.2.1 t.2.2
omit hpl in
theorem sg0 {u:Fin p}:(((if u=0 then (0:Int) else 1) == 0)=true)↔u=0:=by
 by_cases h:u=0
 ·rw[ag h]; simp[h]
 ·rw[ae h]; simp[h]
theorem wm (X Y Z:Fin p):F.V0 (bi (p:Int)).1 (bi (p:Int)).2 b0 b1 n0 n1 x0 x1 y0 y1 s (be X).1 (be X).2 (be Y).1 (be Y).2 (be Z).1 (be Z).2=some (bt (rY X Y Z)):=by
 have mul:=uw b0 b1 n0 n1 x0 x1 y0 y1 s hpl
 have sub:=Bw b0 b1 n0 n1 x0 x1 y0 y1 s hpl
 have j:=fun k A=>vF b0 b1 n0 n1 x0 x1 y0 y1 s hpl k A
 have B:=JX b0 b1 n0 n1 x0 x1 y0 y1 s hpl
 unfold F.V0
 rw[nI,aa]
 by_cases h:Z=0
 ·rw[ag (sg0.2 h)]
  unfold rY
  rw[ag h]; rfl
 ·rw[ae (fun q=>h (sg0.1 q)),mul,aa,mul,aa,mul,aa]
  have t4:=j 4 (by decide); have t3:=j 3 (by decide); have y:=j 2 (by decide); have z:=j 8 (by decide)
  have G:((4:Nat):Int)=4:=rfl
  have I:((3:Nat):Int)=3:=rfl
  have J:((2:Nat):Int)=2:=rfl
  have e8:((8:Nat):Int)=8:=rfl
  rw[G]at t4; rw[I]at t3; rw[J]at y; rw[e8]at z
  rw[t4,aa,sub,aa]
  have hb:∀{α β γ:Type} (x:Option α) (f:α->Option β) (g:β->Option γ),(af x fun a=>af (f a) g)=af (af x f) g:=fun x f g=>by cases x <;> rfl
  rw[hb,B,aa,mul,aa,t3,aa,mul,aa,y,aa,sub,aa,sub,aa,mul,aa,mul,aa,z,aa,sub,aa,mul,aa,y,aa]
  unfold rY
  rw[ae h]
  rfl
theorem Dy (X1 y j z A k:Fin p):F.Uu (bi (p:Int)).1 (bi (p:Int)).2 b0 b1 n0 n1 x0 x1 y0 y1 s (be X1).1 (be X1).2 (be y).1 (be y).2 (be j).1 (be j).2 (be z).1 (be z).2 (be A).1 (be A).2 (be k).1 (be k).2=some (bt (p8 X1 y j z A k)):=by
 have mul:=uw b0 b1 n0 n1 x0 x1 y0 y1 s hpl
 have sub:=Bw b0 b1 n0 n1 x0 x1 y0 y1 s hpl
 have B:=vF b0 b1 n0 n1 x0 x1 y0 y1 s hpl 2 (by decide)
 have G:((2:Nat):Int)=2:=rfl
 rw[G]at B
 unfold F.Uu p8
 rw[nI,aa]
 by_cases h1:j=0
 ·rw[ag (sg0.2 h1),ag h1]; rfl
 rw[ae (fun q=>h1 (sg0.1 q)),ae h1,nI,aa]
 by_cases h2:k=0
 ·rw[ag (sg0.2 h2),ag h2]; rfl
 rw[ae (fun q=>h2 (sg0.1 q)),ae h2,mul,aa,mul,aa,mul,aa,mul,aa,mul,aa,mul,aa,mul,aa,mul,aa,sub,aa,sub,aa,nI,aa]
 dsimp only
 by_cases h3:z*(j*j) - X1*(k*k)=0
 ·rw[ag (sg0.2 h3),ag h3,nI,aa]
  by_cases h4:A*(j*(j*j)) - y*(k*(k*k))=0
  ·rw[ag (sg0.2 h4),ag h4,wm b0 b1 n0 n1 x0 x1 y0 y1 s hpl,aa]
  ·rw[ae (fun q=>h4 (sg0.1 q)),ae h4]
   unfold F.Ud
   rw[aa]
   have I:be (0:Fin p)=(false,[]):=by
    unfold be
    have:(0:Fin p).val=0:=by simp
    rw[this]
    exact da (fun l=>(false,l)) cI
   unfold bt
   dsimp only
   rw[I]
 ·rw[ae (fun q=>h3 (sg0.1 q)),ae h3,mul,aa,mul,aa,mul,aa,mul,aa,sub,aa,B,aa,sub,aa,sub,aa,mul,aa,mul,aa,sub,aa,mul,aa,mul,aa]
  rfl
end
section
variable {p:Nat} [NeZero p]
theorem Em (F:Fld p) (t:Fin p×Fin p×Fin p):jpt (rY t.1 t.2.1 t.2.2)=Ec.add (-3) (jpt t) (jpt t):=by
 obtain⟨X,Y,Z⟩:=t
 unfold jpt rY
 by_cases h:Z=0
 ·subst h
  rw[ag rfl,lB]; rfl
 ·rw[ae h]
  exact F.jac_dbl h rfl rfl rfl rfl rfl rfl
theorem D3 (F:Fld p) {b:Fin p} (t u:Fin p×Fin p×Fin p) (X:On (-3) b (jpt t)) (hu:On (-3) b (jpt u)):jpt (p8 t.1 t.2.1 t.2.2 u.1 u.2.1 u.2.2)=Ec.add (-3) (jpt t) (jpt u):=by
 obtain⟨X1,z,j⟩:=t
 obtain⟨B,G,A⟩:=u
 unfold p8
 dsimp only
 by_cases h1:j=0
 ·subst h1
  rw[ag rfl]
  show _=Ec.add (-3) (jac X1 z 0) _
  rw[lB]; rfl
 rw[ae h1]
 by_cases h2:A=0
 ·subst h2
  rw[ag rfl]
  show _=Ec.add (-3) _ (jac B G 0)
  rw[lB,KG]
 rw[ae h2]
 by_cases h3:B*(j*j) - X1*(A*A)=0
 ·rw[ag h3]
  obtain⟨x1,y1,I,J,k⟩:=F.of_jac X1 z h1
  obtain⟨x2,y2,N,O,y⟩:=F.of_jac B G h2
  have R:=F.mul_ne h1 h2
  have Y:x1=x2:=by
   refine F.cancel (F.mul_ne R R) ?_
   subst I N; clear J O k y X hu; grobner
  have U:On (-3) b (some (x1,y1)):=by rw[<-k]; exact X
  have V:On (-3) b (some (x2,y2)):=by rw[<-y]; exact hu
  subst Y
  by_cases h4:G*(j*(j*j)) - z*(A*(A*A))=0
  ·rw[ag h4]
   have Z:y1=y2:=by
    refine F.cancel (F.mul_ne R (F.mul_ne R R)) ?_
    subst J O; clear k y X hu U V I N h3; grobner
   have e:=Em F (X1,z,j)
   refine e.trans ?_
   show Ec.add (-3) (jac X1 z j) (jac X1 z j)=Ec.add (-3) (jac X1 z j) (jac B G A)
   rw[k,y,Z]
  ·rw[ae h4]
   have ab:y1+y2=0:=by
    rcases F.same_x U V with q | q
    ·exfalso; apply h4
     subst J O q; clear k y X hu U V I N h3 h4; grobner
    ·rw[q,Np]
   show jac 0 0 0=Ec.add (-3) (jac X1 z j) (jac B G A)
   rw[lB,k,y,oV,ag rfl,ag ab]
 ·rw[ae h3]
  exact F.jac_add h1 h2 rfl rfl rfl rfl rfl rfl rfl rfl rfl rfl rfl h3 (-3)
end
section
variable {p:Nat} [NeZero p]
def rl (u:Fin p):L00:=ar u.val
def rep (P:Pt p):L00×L00×Bool:=match P with
 | none=>([],[],true)
 | some (x,y)=>(rl x,rl y,false)
theorem AX (u:Fin p):val (rl u)=u.val:=ay _
theorem O8 (F:Fld p) (hp:Prm p) {Z:Fin p} {v:Nat} (j:v<p) (h:Z.val*v%p=1):(⟨v,j⟩:Fin p)=rcp Z:=by
 apply F.iv_uniq
 apply iN
 rw[Fin.val_mul]
 show Z.val*v%p=1%p
 rw[h,az hp.1]
theorem Nn (hp:Prm p) {Z:Fin p} (h:Z≠0):Nat.gcd Z.val p=1:=by
 have hz:Z.val≠0:=fun e=>h (iN (by rw[e]; simp))
 have j:¬p ∣ Z.val:=fun hd=>by have:=gi (by omega) hd; have:=Z.isLt; omega
 rw[fy]
 exact hp.coprime j
theorem DN (hpl:nl (p:Int)<=1000) (u:Fin p):F.Ut (be u).1 (be u).2=some (rl u):=by
 have:=ng u hpl
 unfold be
 rw[Hf _ (by omega)]; rfl
theorem Ka (b0:Bool) (b1:L00) (n0:Bool) (n1:L00) (x0:Bool) (x1:L00) (y0:Bool) (y1:L00) (s:Int) (hpl:nl (p:Int)<=1000) (D:Fld p) (hp:Prm p) (X Y Z:Fin p) :
  F.UF (bi (p:Int)).1 (bi (p:Int)).2 b0 b1 n0 n1 x0 x1 y0 y1 s (be X).1 (be X).2 (be Y).1 (be Y).2 (be Z).1 (be Z).2=some (rep (jac X Y Z)):=by
 have mul:=uw b0 b1 n0 n1 x0 x1 y0 y1 s hpl
 unfold F.UF jac
 rw[nI,aa]
 by_cases h:Z=0
 ·rw[ag (sg0.2 h),ag h]; rfl
 ·rw[ae (fun q=>h (sg0.1 q)),ae h]
  have hz:=ng Z hpl
  obtain⟨v,y,k,j⟩:=zb false [] Z.val p hp.1 (by omega) (by omega) (Nn hp h)
  have e:bi (v:Int)=be (rcp Z):=by rw[<-O8 D hp y k]; rfl
  rw[e]at j
  rw[show F.Wk false [] (be Z).1 (be Z).2 (bi (p:Int)).1 (bi (p:Int)).2=some (be (rcp Z)) from j,aa,mul,aa,mul,aa,DN hpl,aa,mul,aa,mul,aa,DN hpl,aa]
  rfl
end
section
variable (c:Int) (hc:isC c)
theorem Bv (u:Fin (cP c)):(rl u).length<=12:=tl c (cz u.isLt)
include hc
def ue (X Y:L00) (inf:Bool):Pt (cP c):=if inf then none else some (fz (val X:Int),fz (val Y:Int))
theorem Dp (x y:Nat) (hx:x<cP c) (k:y<cP c):onN (cP c) (cB c) x y=true↔On (-3) (fz (cB c:Int)) (some (fz (p:=cP c) (x:Int),fz (y:Int))):=by
 have hp:=(kC c).2.2.2.2.2.1
 unfold onN
 rw[ai hx,ai k,dP,dP,decide_eq_true_iff]
 obtain⟨A,hA⟩:∃A,x*(x*x%cP c)%cP c=A:=⟨_,rfl⟩
 obtain⟨B,j⟩:∃B,3*x%cP c=B:=⟨_,rfl⟩
 have R:B<cP c:=by rw[<-j]; exact bH _ (by omega)
 have z:fz (p:=cP c) (A:Int)=fz x*(fz x*fz x):=by rw[<-hA,ch,nK,dp,sr,ch,nK,dp,sr]
 have G:fz (p:=cP c) (B:Int)=3*fz x:=by
  rw[<-j,ch,nK,dp,sr]
  congr 1
 have I:fz (p:=cP c) (cP c:Int)=0:=FN.2 (Int.emod_self)
 rw[hA,j]
 have J:fz (p:=cP c) ((((A+cP c - B)%cP c+cB c:Nat)):Int)=fz x*(fz x*fz x) - 3*fz x+fz (cB c:Int):=by
  rw[iI,wx,ch,nK,show ((A+cP c - B:Nat):Int)=(A:Int)+cP c - B by omega,H3,wx,z,G,I]
  grobner
 have N:fz (p:=cP c) ((y*y:Nat):Int)=fz y*fz y:=by rw[dp,sr]
 have O:y*y%cP c=((A+cP c - B)%cP c+cB c)%cP c↔fz (p:=cP c) ((y*y:Nat):Int)=fz ((((A+cP c - B)%cP c+cB c:Nat)):Int):=by
  rw[HA,<-ch,<-ch]
  exact Int.natCast_inj.symm
 rw[O,J,N]
 unfold On
 dsimp only
 constructor
 ·intro h; rw[h]; grobner
 ·intro h; rw[h]; grobner
end
abbrev bF (c:Int):Fin (cP c):=fz (cB c:Int)
theorem E2 {c:Int} {X Y:L00} {q:Bool} (h:onS c X Y q=true):isC c:=by
 unfold onS at h
 split at h
 ·assumption
 ·cases h
theorem DA {c:Int} {X Y:L00} (h:onS c X Y false=true):val X<cP c/\val Y<cP c/\onN (cP c) (cB c) (val X) (val Y)=true:=by
 have hc:=E2 h
 unfold onS at h
 rw[ag hc,ae (by decide)]at h
 exact⟨(Gz h).1,(Gz h).2,h⟩
theorem PP {c:Int} {X Y:L00} {q:Bool} (h:onS c X Y q=true):On (-3) (bF c) (ue c X Y q):=by
 unfold ue
 cases q with
 | true=>rw[ag rfl]; trivial
 | false=>
  obtain⟨j,k,y⟩:=DA h
  rw[ae (by decide)]
  exact (Dp c (E2 h) _ _ j k).1 y
theorem lz {l:L00} (h:val l=0):ar (val l)=[]:=by rw[h]; exact cI
def jT (c:Int) (X Y:L00) (q:Bool):Fin (cP c)×Fin (cP c)×Fin (cP c):=if q then (0,0,0) else (fz (val X:Int),fz (val Y:Int),1)
theorem D6 {p:Nat} [NeZero p]:be (0:Fin p)=(false,[]):=by
 unfold be
 have:(0:Fin p).val=0:=by simp
 rw[this]
 exact da (fun l=>(false,l)) cI
theorem Qd {c:Int} {X Y:L00} {q:Bool} (h:onS c X Y q=true):rdT X Y q=bt (jT c X Y q):=by
 unfold rdT jT bt
 cases q with
 | true=>
  rw[ag rfl,ag rfl]
  dsimp only
  rw[D6]
 | false=>
  obtain⟨z,A,_⟩:=DA h
  have hp:=(pb c).1
  have j:be (fz (p:=cP c) (val X:Int))=bi (val X:Int):=by rw[pD,gn (by omega) (by omega)]
  have k:be (fz (p:=cP c) (val Y:Int))=bi (val Y:Int):=by rw[pD,gn (by omega) (by omega)]
  have y:be (1:Fin (cP c))=bi 1:=by rw[<-HH,pD,gn (by omega) (by omega)]
  rw[ae (by decide),ae (by decide)]
  dsimp only
  rw[j,k,y]
theorem HB (c:Int):(1:Fin (cP c))≠0:=by
 intro h
 have k:(1:Fin (cP c)).val=1%cP c:=rfl
 have y:(0:Fin (cP c)).val=0:=by simp
 have j:=da Fin.val h
 rw[k,y,az (pb c).1]at j
 cases j
theorem Ll (c:Int) (X Y:L00) (q:Bool):jpt (jT c X Y q)=ue c X Y q:=by
 unfold jpt jT ue
 cases q with
 | true=>exact lB _ _
 | false=>
  rw[ae (by decide),ae (by decide)]
  exact (sO c).jac_of (HB c) (by grobner) (by grobner)
theorem PX (c:Int) (t:Fin (cP c)×Fin (cP c)×Fin (cP c)) :
  F.UF (gT c).1 (gT c).2.1 (gT c).2.2.1 (gT c).2.2.2.1 (gT c).2.2.2.2.1 (gT c).2.2.2.2.2.1 (gT c).2.2.2.2.2.2.1 (gT c).2.2.2.2.2.2.2.1 (gT c).2.2.2.2.2.2.2.2.1 (gT c).2.2.2.2.2.2.2.2.2.1 (gT c).2.2.2.2.2.2.2.2.2.2
   (bt t).1 (bt t).2.1 (bt t).2.2.1 (bt t).2.2.2.1 (bt t).2.2.2.2.1 (bt t).2.2.2.2.2=some (rep (jpt t)):=
 Ka _ _ _ _ _ _ _ _ _ (by have:=tj c; omega) (sO c) (pb c) t.1 t.2.1 t.2.2
theorem QJ (c:Int) (t u:Fin (cP c)×Fin (cP c)×Fin (cP c)) :
  F.Uu (gT c).1 (gT c).2.1 (gT c).2.2.1 (gT c).2.2.2.1 (gT c).2.2.2.2.1 (gT c).2.2.2.2.2.1 (gT c).2.2.2.2.2.2.1 (gT c).2.2.2.2.2.2.2.1 (gT c).2.2.2.2.2.2.2.2.1 (gT c).2.2.2.2.2.2.2.2.2.1 (gT c).2.2.2.2.2.2.2.2.2.2
   (bt t).1 (bt t).2.1 (bt t).2.2.1 (bt t).2.2.2.1 (bt t).2.2.2.2.1 (bt t).2.2.2.2.2 (bt u).1 (bt u).2.1 (bt u).2.2.1 (bt u).2.2.2.1 (bt u).2.2.2.2.1 (bt u).2.2.2.2.2=some (bt (p8 t.1 t.2.1 t.2.2 u.1 u.2.1 u.2.2)):=
 Dy _ _ _ _ _ _ _ _ _ (by have:=tj c; omega) t.1 t.2.1 t.2.2 u.1 u.2.1 u.2.2
section
variable {p:Nat} [NeZero p]
end
def gP (c:Int):Pt (cP c):=some (fz (cX c:Int),fz (cY c:Int))
theorem LJ (c:Int) (hc:isC c):On (-3) (bF c) (gP c):=by
 obtain⟨_,_,_,j,k,_⟩:=kC c
 refine (Dp c hc (cX c) (cY c) j k).1 ?_
 rcases hc with rfl | rfl
 ·decide +kernel
 ·decide +kernel
theorem yK (n:Nat) (hn:nl (n:Int)<=1000000000):F.W2 (bi (n:Int)).1 (bi (n:Int)).2=some (nb n:Int):=by
 unfold F.W2
 rw[length_eq _ (by have:(bi (n:Int)).2.length=nl (n:Int):=rfl; omega),aa,bi2,cG,pS]
def bw (n i:Nat):UInt64:=UInt64.ofNat (n / 2^i%2)
theorem Am (n i:Nat):(bw n i == 1)=decide (n / 2^i%2=1):=by
 have h:n / 2^i%2=0\/n / 2^i%2=1:=by omega
 unfold bw
 rcases h with h | h <;> rw[h] <;> rfl
theorem M8 (a:L00) (i:Nat) (hi:i<=4611686018427387904) (ha:a.length<=4611686018427387904):F.Xn a (i:Int)=some (bw (val a) i):=by
 unfold F.Xn F.aag
 have k:wI (Int.tdiv (i:Int) 32)=((i / 32:Nat):Int):=by rw[bJ (by omega),aC (by omega) (by omega)]; omega
 have w2:((UInt64.ofInt (i:Int))%32).toNat=i%32:=by
  rw[dq,UInt64.ofInt,bS]
  have:(32:UInt64).toNat=32:=rfl
  rw[this]; omega
 rw[ae (by simp only[ak]; omega),k]
 dsimp only
 by_cases h:a.length<=i / 32
 ·rw[ag (ai (by omega))]
  have j:=uP a i
  have y:a.getD (i / 32) 0=0:=iO h
  rw[y]at j
  unfold bw
  rw[<-j]
  have:(0:UInt32).toNat=0:=rfl
  rw[this,Nat.zero_div]; rfl
 ·rw[ae (by simp only[ak]; omega),bg (show i / 32<a.length by omega) 0,aa,w2]
  congr 1
  apply cx.1
  have j:((dD (a.getD (i / 32) 0) (i%32)).toUInt64 &&& 1).toNat=val a / 2^i%2:=by
   rw[jh,di,lI,bf (by omega),<-uP]
   have:(1:UInt64).toNat=2^1 - 1:=rfl
   rw[this,fe]
  rw[j]
  unfold bw
  rw[bS]
  omega
theorem Ix (n i:Nat) (hi:i<=4611686018427387904) (hn:nl (n:Int)<=1000000000):F.WN (bi (n:Int)).1 (bi (n:Int)).2 (i:Int)=some (bw n i):=by
 unfold F.WN
 rw[ae (by simp only[ak]; omega),bi1 (by omega),ag (by rfl),M8 _ _ hi (by have:(bi (n:Int)).2.length=nl (n:Int):=rfl; omega),aa,qH,cG]
section
variable {p:Nat} [NeZero p]
def pK (t:Fin p×Fin p×Fin p) (b:Bool) (q:Fin p×Fin p×Fin p):Fin p×Fin p×Fin p:=
 let d:=rY t.1 t.2.1 t.2.2
 if b then p8 d.1 d.2.1 d.2.2 q.1 q.2.1 q.2.2 else d
variable (b0:Bool) (b1:L00) (n0:Bool) (n1:L00) (x0:Bool) (x1:L00) (y0:Bool) (y1:L00) (s:Int) (hpl:nl (p:Int)<=1000)
include hpl
theorem Jb (t:Fin p×Fin p×Fin p) (b:Bool) (q:Fin p×Fin p×Fin p) :
  F.UD (bi (p:Int)).1 (bi (p:Int)).2 b0 b1 n0 n1 x0 x1 y0 y1 s (bt t).1 (bt t).2.1 (bt t).2.2.1 (bt t).2.2.2.1 (bt t).2.2.2.2.1 (bt t).2.2.2.2.2 b (bt q).1 (bt q).2.1 (bt q).2.2.1 (bt q).2.2.2.1 (bt q).2.2.2.2.1 (bt q).2.2.2.2.2=some (bt (pK t b q)):=by
 unfold F.UD F.aaC
 have hd:=wm b0 b1 n0 n1 x0 x1 y0 y1 s hpl t.1 t.2.1 t.2.2
 rw[show F.V0 (bi (p:Int)).1 (bi (p:Int)).2 b0 b1 n0 n1 x0 x1 y0 y1 s (bt t).1 (bt t).2.1 (bt t).2.2.1 (bt t).2.2.2.1 (bt t).2.2.2.2.1 (bt t).2.2.2.2.2=_ from hd,aa]
 unfold pK
 cases b with
 | false=>rfl
 | true=>
  rw[ag rfl]
  generalize rY t.1 t.2.1 t.2.2=d
  have ha:=Dy b0 b1 n0 n1 x0 x1 y0 y1 s hpl d.1 d.2.1 d.2.2 q.1 q.2.1 q.2.2
  rw[show F.Uu (bi (p:Int)).1 (bi (p:Int)).2 b0 b1 n0 n1 x0 x1 y0 y1 s (bt d).1 (bt d).2.1 (bt d).2.2.1 (bt d).2.2.2.1 (bt d).2.2.2.2.1 (bt d).2.2.2.2.2 (bt q).1 (bt q).2.1 (bt q).2.2.1 (bt q).2.2.2.1 (bt q).2.2.2.2.1 (bt q).2.2.2.2.2=_ from ha,aa]
  rfl
omit hpl in
omit hpl in
theorem KX {b:Fin p} (F:Fld p) {t q:Fin p×Fin p×Fin p} (j:On (-3) b (jpt t)) (k:On (-3) b (jpt q)) (c:Bool):jpt (pK t c q)=if c then Ec.add (-3) (Ec.add (-3) (jpt t) (jpt t)) (jpt q) else Ec.add (-3) (jpt t) (jpt t):=by
 have hd:=Em F t
 unfold pK
 cases c with
 | false=>exact hd
 | true=>
  rw[ag rfl,ag rfl,D3 (b:=b) F _ _ (by rw[hd]; exact F.on_add j j) k,hd]
omit hpl in
theorem MK (e k:Nat):e / 2^k=2*(e / 2^(k+1))+(if decide (e / 2^k%2=1) then 1 else 0):=by
 have j:e / 2^(k+1)=e / 2^k / 2:=by rw[bo,dN]
 rw[j]
 by_cases h:e / 2^k%2=1
 ·rw[ai h,ag rfl]; omega
 ·rw[au h,ae (by decide)]; omega
omit hpl in
end
theorem yr (k:L00) (j:k.length<=35184372087808):F.U7 k=some ((bi (val k:Int)).1,(bi (val k:Int)).2,decide (nb (val k)<=1024)):=by
 unfold F.U7
 rw[Ft k j,aa,jO k (by omega),aa]
 congr 3
 by_cases h:nb (val k)<=1024
 ·rw[ai h,ai (by omega)]
 ·rw[au h,au (by omega)]
abbrev J3 (c:Int):=Fin (cP c)×Fin (cP c)×Fin (cP c)
def gJ (c:Int):J3 c:=(fz (cX c:Int),fz (cY c:Int),1)
theorem ES (c:Int):jpt (gJ c)=gP c:=by
 show jac (fz (p:=cP c) (cX c:Int)) (fz (cY c:Int)) 1=_
 exact (sO c).jac_of (HB c) (by grobner) (by grobner)
theorem Cu (c:Int) {v:Nat} (h:v<cP c):be (fz (p:=cP c) (v:Int))=bi (v:Int):=by rw[pD,gn (by omega) (by omega)]
theorem PI (c:Int):be (1:Fin (cP c))=bi 1:=by
 have:=(pb c).1
 rw[<-HH,pD,gn (by omega) (by omega)]
theorem Dv (c:Int):bt ((0,0,0):J3 c)=(false,[],false,[],false,[]):=by
 unfold bt
 dsimp only
 rw[D6]
def gQ (c:Int) (t:J3 c):Bool×L00×Bool×L00×Bool×L00×Bool×L00×Bool×L00×Int×Bool×L00×Bool×L00×Bool×L00:=
 ((gT c).1,(gT c).2.1,(gT c).2.2.1,(gT c).2.2.2.1,(gT c).2.2.2.2.1,(gT c).2.2.2.2.2.1,(gT c).2.2.2.2.2.2.1,(gT c).2.2.2.2.2.2.2.1,(gT c).2.2.2.2.2.2.2.2.1,(gT c).2.2.2.2.2.2.2.2.2.1,(gT c).2.2.2.2.2.2.2.2.2.2,
  (bt t).1,(bt t).2.1,(bt t).2.2.1,(bt t).2.2.2.1,(bt t).2.2.2.2.1,(bt t).2.2.2.2.2)
theorem Ei (c:Int) (t:J3 c):((gQ c t).2.2.2.2.2.2.1,(gQ c t).2.2.2.2.2.2.2.1,(gQ c t).2.2.2.2.2.2.2.2.1,(gQ c t).2.2.2.2.2.2.2.2.2.1,(bi 1).1,(bi 1).2)=bt (gJ c):=by
 obtain⟨_,_,_,j,k,_⟩:=kC c
 unfold bt gJ
 dsimp only
 rw[Cu c j,Cu c k,PI]
 rfl
theorem P6 (c:Int) (t:J3 c) (b:Bool) (q:J3 c) :
  F.UD (gT c).1 (gT c).2.1 (gT c).2.2.1 (gT c).2.2.2.1 (gT c).2.2.2.2.1 (gT c).2.2.2.2.2.1 (gT c).2.2.2.2.2.2.1 (gT c).2.2.2.2.2.2.2.1 (gT c).2.2.2.2.2.2.2.2.1 (gT c).2.2.2.2.2.2.2.2.2.1 (gT c).2.2.2.2.2.2.2.2.2.2
   (bt t).1 (bt t).2.1 (bt t).2.2.1 (bt t).2.2.2.1 (bt t).2.2.2.2.1 (bt t).2.2.2.2.2 b (bt q).1 (bt q).2.1 (bt q).2.2.1 (bt q).2.2.2.1 (bt q).2.2.2.2.1 (bt q).2.2.2.2.2=some (bt (pK t b q)):=
 Jb _ _ _ _ _ _ _ _ _ (by have:=tj c; omega) t b q
def whJ (c:Int) (q:J3 c) (x y:Bool):J3 c:=if x&&y then p8 (gJ c).1 (gJ c).2.1 (gJ c).2.2 q.1 q.2.1 q.2.2 else if y then q else if x then gJ c else (0,0,0)
def xa (c:Int) (m n:Nat) (q:J3 c):Nat->J3 c->J3 c
 | 0,t=>t
 | i+1,t=>xa c m n q i (pK t true (whJ c q (decide (m / 2^i%2=1)) (decide (n / 2^i%2=1))))
theorem QY (c:Int) (q:J3 c) (i:Nat) (hi:i<=1000000000) (t u:J3 c) :
  F.UA (gQ c q) (i:Int) (bt t).1 (bt t).2.1 (bt t).2.2.1 (bt t).2.2.2.1 (bt t).2.2.2.2.1 (bt t).2.2.2.2.2 (bt u)=some (.inl ((i:Int) - 1,bt (pK t true u))):=by
 have w:wI ((i:Int) - 1)=(i:Int) - 1:=aC (by omega) (by omega)
 have h:=P6 c t true u
 unfold F.UA
 generalize bt u=v at h ⊢
 obtain⟨j,k,v3,v4,v5,y⟩:=v
 show af (F.UD _ _ _ _ _ _ _ _ _ _ _ _ _ _ _ _ _ _ _ _ _ _ _ _) _=_
 rw[show F.UD (gQ c q).1 (gQ c q).2.1 (gQ c q).2.2.1 (gQ c q).2.2.2.1 (gQ c q).2.2.2.2.1 (gQ c q).2.2.2.2.2.1 (gQ c q).2.2.2.2.2.2.1 (gQ c q).2.2.2.2.2.2.2.1 (gQ c q).2.2.2.2.2.2.2.2.1 (gQ c q).2.2.2.2.2.2.2.2.2.1 (gQ c q).2.2.2.2.2.2.2.2.2.2.1
  (bt t).1 (bt t).2.1 (bt t).2.2.1 (bt t).2.2.2.1 (bt t).2.2.2.2.1 (bt t).2.2.2.2.2 true j k v3 v4 v5 y=_ from h,aa,w]
 rfl
theorem uY (c:Int) (m n:Nat) (k:nl (m:Int)<=1000000000) (hn:nl (n:Int)<=1000000000) (q:J3 c) (j fn:Bool):∀(i:Nat) (t:J3 c),i<=100000000 ->
  loop (F.Wj (gQ c q) ((bi (m:Int)).1,(bi (m:Int)).2,j) ((bi (n:Int)).1,(bi (n:Int)).2,fn) (bi 1) (bt (p8 (gJ c).1 (gJ c).2.1 (gJ c).2.2 q.1 q.2.1 q.2.2)))
   ((i:Int) - 1,bt t)=some ((rep (jpt (xa c m n q i t))).1,(rep (jpt (xa c m n q i t))).2.1,(rep (jpt (xa c m n q i t))).2.2,0)
 | 0,t,_=>by
  refine cb ?_
  unfold F.Wj
  dsimp only
  rw[ae (by simp)]
  congr 1
  show af (F.UF _ _ _ _ _ _ _ _ _ _ _ _ _ _ _ _ _) _=_
  have h:=PX c t
  rw[show F.UF (gQ c q).1 (gQ c q).2.1 (gQ c q).2.2.1 (gQ c q).2.2.2.1 (gQ c q).2.2.2.2.1 (gQ c q).2.2.2.2.2.1 (gQ c q).2.2.2.2.2.2.1 (gQ c q).2.2.2.2.2.2.2.1 (gQ c q).2.2.2.2.2.2.2.2.1 (gQ c q).2.2.2.2.2.2.2.2.2.1 (gQ c q).2.2.2.2.2.2.2.2.2.2.1
   (bt t).1 (bt t).2.1 (bt t).2.2.1 (bt t).2.2.2.1 (bt t).2.2.2.2.1 (bt t).2.2.2.2.2=_ from h,aa]
  rfl
 | i+1,t,hi=>by
  have e:(((i+1:Nat):Int) - 1)=(i:Int):=by omega
  rw[e]
  have y:F.Wj (gQ c q) ((bi (m:Int)).1,(bi (m:Int)).2,j) ((bi (n:Int)).1,(bi (n:Int)).2,fn) (bi 1) (bt (p8 (gJ c).1 (gJ c).2.1 (gJ c).2.2 q.1 q.2.1 q.2.2)) ((i:Int),bt t)
    = some (.inl ((i:Int) - 1,bt (pK t true (whJ c q (decide (m / 2^i%2=1)) (decide (n / 2^i%2=1)))))):=by
   unfold F.Wj
   show (if decide ((0:Int)<=(i:Int))=true then _ else _)=_
   rw[ag (ai (by omega))]
   dsimp only
   rw[Ix m i (by omega) k,aa,Ix n i (by omega) hn,aa,Am]
   have hK:=fun u=>QY c q i (by omega) t u
   unfold F.ZX whJ
   cases hx:decide (m / 2^i%2=1) with
   | true=>
    rw[ag rfl]
    show (if (bw n i == 1)=true then _ else _)=_
    rw[Am]
    cases hy:decide (n / 2^i%2=1) with
    | true=>
     rw[ag rfl]
     exact hK _
    | false=>
     rw[ae (by decide),ae (by decide),ae (by decide)]
     show F.UA _ _ _ _ _ _ _ _ ((gQ c q).2.2.2.2.2.2.1,(gQ c q).2.2.2.2.2.2.2.1,(gQ c q).2.2.2.2.2.2.2.2.1,(gQ c q).2.2.2.2.2.2.2.2.2.1,(bi 1).1,(bi 1).2)=_
     rw[Ei]
     exact hK _
   | false=>
    rw[ae (by decide)]
    show (if false=true then _ else _)=_
    rw[ae (by decide),Am]
    cases hy:decide (n / 2^i%2=1) with
    | true=>
     rw[ag rfl]
     exact hK _
    | false=>
     rw[ae (by decide)]
     rw[ag (show (!false)=true from rfl)]
     unfold F.Ud
     rw[aa]
     show F.UA _ _ _ _ _ _ _ _ (false,[],false,[],false,[])=_
     rw[<-Dv c]
     exact hK _
  rw[bn y]
  exact uY c m n k hn q j fn i _ (by omega)
theorem DV {n:Nat} (h:nb n<=1024):nl (n:Int)<=33:=by
 refine zM ?_
 rw[cG]
 have j:=(gv n).1
 have k:=aZ (show 0<2 by decide) (show nb n<=32*33 by omega)
 rw[show (4294967296:Nat)=2^32 from rfl,<-cu]
 omega
noncomputable def res {c:Int} (P:Pt (cP c)):L00×L00×Bool×Int:=((rep P).1,(rep P).2.1,(rep P).2.2,0)
theorem yB (n:Nat):eD n n=0:=by unfold eD; rw[ae (by omega),ag rfl]
theorem yn (a b:L00) (m j:Nat) (A B:L00) (ha:a.take m=A) (hb:b.take j=B) (hl:A.length=B.length) (hA:A.length<=4611686018427387904):∀k:Nat,k<=A.length->val (A.drop k)=val (B.drop k)->loop (F.Wz a b m j) ((k:Int) - 1)=some (eD (val A) (val B))
 | 0,_,h=>by
  rw[dQ,dQ]at h
  refine cb ?_
  unfold F.Wz
  rw[ae (by decide),h,yB]
 | k+1,hk,h=>by
  have y:(((k+1:Nat):Int)) - 1=(k:Int):=by omega
  rw[y]
  have w:wI ((k:Int) - 1)=(k:Int) - 1:=aC (by omega) (by omega)
  have hL:F.Wz a b m j (k:Int)=if (A.getD k 0)<(B.getD k 0) then bc (some (-1)) else if (B.getD k 0)<(A.getD k 0) then bc (some 1) else bM ((k:Int) - 1):=by
   unfold F.Wz
   rw[ha,hb,ag (ai (by omega)),bg (show k<A.length by omega) 0,aa,bg (show k<B.length by omega) 0,aa]
   by_cases h1:A.getD k 0<B.getD k 0
   ·rw[ag (ai h1),ag h1]
   ·rw[ae (by rw[ak]; exact h1),ae h1,aa,aa]
    by_cases h2:B.getD k 0<A.getD k 0
    ·rw[ag (ai h2),ag h2]
    ·rw[ae (by rw[ak]; exact h2),ae h2,w]
  by_cases h1:A.getD k 0<B.getD k 0
  ·rw[ag h1]at hL
   have:=oJ A B k h (dv.1 h1)
   rw[cb hL]; unfold eD; rw[ag this]
  ·rw[ae h1]at hL
   by_cases h2:B.getD k 0<A.getD k 0
   ·rw[ag h2]at hL
    have:=oJ B A k h.symm (dv.1 h2)
    rw[cb hL]; unfold eD; rw[ae (by omega),ae (by omega)]
   ·rw[ae h2]at hL
    rw[bn hL]
    refine yn a b m j A B ha hb hl hA k (by omega) ?_
    have z:¬(A.getD k 0).toNat<(B.getD k 0).toNat:=fun q=>h1 (dv.2 q)
    have G:¬(B.getD k 0).toNat<(A.getD k 0).toNat:=fun q=>h2 (dv.2 q)
    rw[eh A k,eh B k,h]; omega
theorem A2 {a b:Nat} (h:(ar a).length<(ar b).length):a<b:=by
 rcases bX a b with j | j
 ·exact j
 ·have:=gz j; omega
theorem ka (a b:L00) (ha:a.length<=4611686018427387904) (hb:b.length<=4611686018427387904):F.Te a b=some (eD (val a) (val b)):=by
 obtain⟨m,y,B,j⟩:=iw a ha
 obtain⟨z,A,G,k⟩:=iw b hb
 have I:(ar (val a)).length<=a.length:=bu (cv a)
 unfold F.Te
 rw[y,aa,A,aa,j,k]
 by_cases hl:(ar (val a)).length<(ar (val b)).length
 ·have:=A2 hl
  rw[ag (ai (by omega))]; unfold eD; rw[ag this]
 ·rw[ae (by rw[ak]; omega)]
  by_cases hl2:(ar (val b)).length<(ar (val a)).length
  ·have:=A2 hl2
   rw[ag (ai (by omega))]; unfold eD; rw[ae (by omega),ae (by omega)]
  ·rw[ae (by rw[ak]; omega),aD,aC (by omega) (by omega)]
   have:=yn a b m z (ar (val a)) (ar (val b)) j k (by omega) (by omega) (ar (val a)).length (ax _) (by rw[bL (by omega),bL (by omega)])
   rw[ay,ay]at this
   exact this
def adS (A B:L00) (x:UInt64×L00) (i:Nat):UInt64×L00:=
 let s:=if i<B.length then (x.1+(A.getD i 0).toUInt64)+(B.getD i 0).toUInt64 else x.1+(A.getD i 0).toUInt64
 (bb s 32,x.2.set i s.toUInt32)
def AdI (A B:L00) (i:Nat) (x:UInt64×L00):Prop:=
 x.2.length=A.length+1/\x.1.toNat<=1/\val (x.2.take i)+4294967296^i*x.1.toNat=val (A.take i)+val (B.take i)
theorem pv {l:L00} {i:Nat} (h:i<l.length):val (l.take (i+1))=val (l.take i)+4294967296^i*(l.getD i 0).toNat:=by
 rw[tX h,ni,aJ,bf (by omega)]
 simp[val]
theorem CP {l:L00} {i:Nat} (h:l.length<=i):l.take (i+1)=l.take i:=by
 rw[aA (by omega),aA (by omega)]
theorem My {A B:L00} {x:UInt64×L00} {i:Nat} (hi:i<A.length) (h:AdI A B i x):AdI A B (i+1) (adS A B x i):=by
 obtain⟨z,R,G⟩:=h
 obtain⟨s,hs⟩:∃s,(if i<B.length then (x.1+(A.getD i 0).toUInt64)+(B.getD i 0).toUInt64 else x.1+(A.getD i 0).toUInt64)=s:=⟨_,rfl⟩
 have e:adS A B x i=(bb s 32,x.2.set i s.toUInt32):=by unfold adS; rw[hs]
 have U:=ej (A.getD i 0); have V:=ej (B.getD i 0)
 have j:s.toNat=x.1.toNat+(A.getD i 0).toNat+(if i<B.length then (B.getD i 0).toNat else 0):=by
  rw[<-hs]
  split
  ·rw[fQ,fQ,di,di]; omega
  ·rw[fQ,di]; omega
 have k:val (B.take (i+1))=val (B.take i)+4294967296^i*(if i<B.length then (B.getD i 0).toNat else 0):=by
  split
  ·rename_i hb; exact pv hb
  ·rename_i hb; rw[CP (by omega)]; omega
 have O:s.toNat<2*4294967296:=by rw[j]; split <;> omega
 rw[e]
 have y:(bb s 32).toNat=s.toNat / 4294967296:=by rw[i9]; rfl
 have I:s.toUInt32.toNat=s.toNat%4294967296:=by rw[UInt64.toNat_toUInt32]
 refine⟨by simpa using z,by show (bb s 32).toNat<=1; rw[y]; omega,?_⟩
 show val ((x.2.set i s.toUInt32).take (i+1))+4294967296^(i+1)*(bb s 32).toNat=_
 rw[pv (by simp; omega),pv hi,k,y]
 have J:(x.2.set i s.toUInt32).take i=x.2.take i:=fL (by omega)
 have N:(x.2.set i s.toUInt32).getD i 0=s.toUInt32:=by
  rw[an,c7 (by omega)]; rfl
 rw[J,N,I,bo]
 obtain⟨P,hP⟩:∃P,(4294967296:Nat)^i=P:=⟨_,rfl⟩
 rw[hP]at G k ⊢
 have hd:=de s.toNat 4294967296
 have X:P*(s.toNat%4294967296)+P*4294967296*(s.toNat / 4294967296)=P*s.toNat:=by
  rw[aF,<-aE,cw,hd]
 have Y:P*s.toNat=P*x.1.toNat+P*(A.getD i 0).toNat+P*(if i<B.length then (B.getD i 0).toNat else 0):=by rw[j,aE,aE]
 omega
theorem Ds (A B:L00) (hl:B.length<=A.length) (hA:A.length<=50000000000000):F.Zr (A,B)=some (ar (val A+val B)):=by
 unfold F.Zr
 dsimp only
 have G:wI ((A.length:Int)+1)=((A.length+1:Nat):Int):=by rw[aC (by omega) (by omega)]; rfl
 have I:mkO 4 ((A.length+1:Nat):Int) ((A.length+1:Nat):Int) (0:UInt32)=some (List.replicate (A.length+1) 0):=by
  unfold mkO
  rw[ag (by omega),am]
 rw[G,I,aa]
 have j:∀(k i:Nat) (x:UInt64×L00),i+k=A.length->AdI A B i x->loop (F.Wl A B) (x.1,(i:Int),x.2)=some (ar (val A+val B)):=by
  intro k
  induction k with
  | zero=>
   intro i x hi hx
   obtain⟨X,Y,J⟩:=hx
   have y:i=A.length:=by omega
   subst y
   refine cb ?_
   unfold F.Wl
   dsimp only
   rw[ae (by rw[ak]; omega),bg (show A.length<x.2.length by omega) 0,aa,aD,am]
   obtain⟨m,p1,p2,p3⟩:=jJ (x.2.set A.length x.1.toUInt32) (by simp; omega)
   rw[p1,aa,p3]
   congr 2
   have N:(x.2.set A.length x.1.toUInt32)=(x.2.set A.length x.1.toUInt32).take (A.length+1):=by rw[aA (by simp; omega)]
   have O:(x.2.set A.length x.1.toUInt32).take A.length=x.2.take A.length:=fL (by omega)
   have R:(x.2.set A.length x.1.toUInt32).getD A.length 0=x.1.toUInt32:=by
    rw[an,c7 (by omega)]; rfl
   have U:x.1.toUInt32.toNat=x.1.toNat:=by rw[UInt64.toNat_toUInt32]; omega
   rw[N,pv (by simp; omega),O,R,U,J,aA (by omega),aA hl]
  | succ k ih=>
   intro i x hi hx
   have w4:wI ((i:Int)+1)=((i+1:Nat):Int):=by rw[aC (by omega) (by omega)]; rfl
   have V:=hx.1
   have z:F.Wl A B (x.1,(i:Int),x.2)=some (.inl ((adS A B x i).1,((i+1:Nat):Int),(adS A B x i).2)):=by
    unfold F.Wl adS
    dsimp only
    rw[ag (ai (by omega)),bg (show i<A.length by omega) 0,aa]
    by_cases hb:i<B.length
    ·rw[ag (ai (by omega)),bg hb 0,aa,aD,ag hb]
     unfold F.ZD
     rw[bg (show i<x.2.length by omega) 0,aa,aD,w4,am]
     rfl
    ·rw[ae (by rw[ak]; omega),ae hb]
     unfold F.ZD
     rw[bg (show i<x.2.length by omega) 0,aa,aD,w4,am]
     rfl
   rw[bn z]
   exact ih (i+1) (adS A B x i) (by omega) (My (by omega) hx)
 exact j A.length 0 (0,List.replicate (A.length+1) 0) (by omega) ⟨by simp,ft 1,by simp[val]⟩
theorem s9 (a b:L00) (ha:a.length<=40000000000000) (hb:b.length<=40000000000000):F.UL a b=some (ar (val a+val b)):=by
 obtain⟨m,j,A,k⟩:=iw a (by omega)
 obtain⟨B,y,G,z⟩:=iw b (by omega)
 have I:(ar (val a)).length<=a.length:=bu (cv a)
 have J:(ar (val b)).length<=b.length:=bu (cv b)
 unfold F.UL
 rw[j,aa,y,aa,k,z]
 by_cases hl:(ar (val a)).length<(ar (val b)).length
 ·rw[ag (ai (by omega)),Ds _ _ (by omega) (by omega),ay,ay,cw]
 ·rw[ae (by rw[ak]; omega),Ds _ _ (by omega) (by omega),ay,ay]
theorem Lj {n:Nat} {k:Nat} (h:(ar n).length<=k):nb n<=32*k:=ba (mz n) (bj 32 h)
end Go.Gk.Bn
end
section
namespace Go.Gk.Bn
open Go Go.Gk Go.Gk.Sh
theorem sZ (x:UInt32):x.toBitVec.msb=decide (2147483648<=x.toNat):=by
 rw[BitVec.msb_eq_decide]; rfl
theorem Nv (x:UInt32):(dD x 31).toNat=if x.toBitVec.msb=true then 1 else 0:=by
 have hx:=ej x
 have:(dD x 31).toNat=x.toNat / 2147483648:=by
  unfold dD
  rw[dr,show min 31 32=31 from rfl]
  omega
 rw[this,sZ]
 by_cases h:2147483648<=x.toNat
 ·rw[ag (ai h)]; omega
 ·rw[ae (by rw[ak]; exact h)]; omega
theorem Ju (a b c:UInt32) (hc:c.toNat<=1):∃d e:UInt32,F.aaM a b c=some (d,e)/\e.toNat<=1/\d.toNat+b.toNat+c.toNat=a.toNat+4294967296*e.toNat:=by
 refine⟨(a - b) - c,_,rfl,?_⟩
 obtain⟨d,hd⟩:∃d,(a - b) - c=d:=⟨_,rfl⟩
 rw[hd]
 have k:d.toNat=(4294967296 - c.toNat+(4294967296 - b.toNat+a.toNat)%4294967296)%4294967296:=by rw[<-hd,UInt32.toNat_sub,UInt32.toNat_sub]
 have ha:=ej a; have hb:=ej b; have y:=ej d
 rw[Nv]
 have j:(((~~~ a) &&& b) ||| ((~~~ (a ^^^ b)) &&& d)).toBitVec.msb=((!a.toBitVec.msb&&b.toBitVec.msb) || (!(a.toBitVec.msb != b.toBitVec.msb)&&d.toBitVec.msb)):=by
  simp[BitVec.msb_or,BitVec.msb_and,BitVec.msb_xor,BitVec.msb_not]
 rw[j,sZ,sZ,sZ]
 by_cases h1:2147483648<=a.toNat <;> by_cases h2:2147483648<=b.toNat <;> by_cases h3:2147483648<=d.toNat <;> simp only[h1,h2,h3,gp,dg] <;> simp <;> omega
theorem ta {l:L00} {lo hi:Nat} (j:lo<=hi) (k:hi<=l.length):((l.drop lo).take (hi - lo)).length=hi - lo:=by
 rw[aJ,ca]; omega
theorem D9 {l:L00} {lo hi i:Nat} (k:hi<=l.length) (j:i<hi - lo):aw ((l.drop lo).take (hi - lo)) (i:Int)=some (l.getD (lo+i) 0):=by
 rw[bg (show i<((l.drop lo).take (hi - lo)).length by rw[aJ,ca]; omega) 0]
 congr 1
 rw[an,List.getElem?_take_of_lt j,dL,<-an]
def TkI (u y:L00) (lo i:Nat) (x:UInt32×L00):Prop:=
 x.2.length=u.length/\x.1.toNat<=1/\(∀k,lo+i<=k->x.2.getD k 0=u.getD k 0)/\val x.2+4294967296^lo*val (y.take i)=val u+4294967296^(lo+i)*x.1.toNat
theorem Kz (u y:L00) (lo hi:Nat) (A:lo<=hi) (B:hi<=u.length) (hu:u.length<=4611686018427387904) (hy:y.length<=4611686018427387904) :
  ∃r,F.UK u lo hi y=some r/\TkI u y lo (hi - lo) r:=by
 have G:∀(k i:Nat) (x:UInt32×L00),i+k=hi - lo->TkI u y lo i x->∃r,loop (F.W7 lo hi u y) (x.1,(i:Int),x.2)=some r/\TkI u y lo (hi - lo) r:=by
  intro k
  induction k with
  | zero=>
   intro i x I hx
   have:i=hi - lo:=by omega
   subst this
   refine⟨x,cb ?_,hx⟩
   unfold F.W7
   dsimp only
   rw[ta A B,ae (by rw[ak]; omega)]
  | succ k ih=>
   intro i x I hx
   obtain⟨R,U,g3,g4⟩:=hx
   have J:i<hi - lo:=by omega
   have w4:wI ((i:Int)+1)=((i+1:Nat):Int):=by rw[aC (by omega) (by omega)]; rfl
   obtain⟨d,e,V,X,Y⟩:=Ju (x.2.getD (lo+i) 0) (y.getD i 0) x.1 U
   have N:F.W7 lo hi u y (x.1,(i:Int),x.2)=some (.inl (e,((i+1:Nat):Int),x.2.set (lo+i) d)):=by
    have hK:F.XG lo hi x.1 (i:Int) x.2 (y.getD i 0)=some (.inl (e,((i+1:Nat):Int),x.2.set (lo+i) d)):=by
     unfold F.XG
     rw[D9 (by omega) J,aa,V,aa,aa,aD,w4,am]; rfl
    unfold F.W7
    dsimp only
    rw[ta A B,ag (ai (by omega))]
    by_cases hb:i<y.length
    ·rw[ag (ai (by omega)),bg hb 0,aa,hK]
    ·rw[ae (by rw[ak]; omega)]
     have:y.getD i 0=0:=by rw[an,c9 (by omega)]; rfl
     rw[this]at hK; exact hK
   rw[bn N]
   refine ih (i+1) (e,x.2.set (lo+i) d) (by omega) ⟨by simpa using R,X,fun O hk=>?_,?_⟩
   ·show (x.2.set (lo+i) d).getD O 0=_
    rw[io (by omega)]; exact g3 O (by omega)
   ·show val (x.2.set (lo+i) d)+_=_+_*e.toNat
    have Z:=jv x.2 (lo+i) d (by omega)
    rw[cK y i,aE,<-aF,<-bU,show lo+(i+1)=(lo+i)+1 by omega,bo]
    obtain⟨j,hP⟩:∃j,(4294967296:Nat)^(lo+i)=j:=⟨_,rfl⟩
    rw[hP]at g4 Z ⊢
    have e1:=da (fun z=>j*z) Y
    simp only[aE]at e1
    rw[aF]
    omega
 exact G (hi - lo) 0 (0,u) (by omega) ⟨rfl,ft 1,fun _ _=>rfl,by simp[val]⟩
theorem BE (u y:L00) (lo hi:Nat) (I:lo<=hi) (J:hi<=u.length) (hu:u.length<=4611686018427387904) (N:y.length<=hi - lo) (A:val u<4294967296^hi) (U:4294967296^lo*val y<=val u) :
  ∃c j,F.UK u lo hi y=some (c,j)/\j.length=u.length/\val j+4294967296^lo*val y=val u:=by
 obtain⟨⟨c,j⟩,O,B,r3,G,z⟩:=Kz u y lo hi I J hu (by omega)
 dsimp only at B r3 G z
 rw[aA N,show lo+(hi - lo)=hi by omega]at z
 refine⟨c,j,O,B,?_⟩
 have hz:val j<4294967296^hi:=rU fun k R=>by rw[G k (by omega)]; exact DM A k R
 rcases bX c.toNat 1 with h | h
 ·have:c.toNat=0:=by omega
  rw[this]at z; omega
 ·have:c.toNat=1:=by omega
  rw[this]at z; omega
theorem Mq (n:Nat) (l:L00) (h:l.length=n):cpL (List.replicate n 0) l 0 (List.replicate n (0:UInt32)).length=l:=by
 unfold cpL
 simp only[bq,f9,bk,h,Nat.min_self,fX,bN]
 rw[aA (by omega),bL (by simp),bP]
theorem tu (a b:L00) (ha:a.length<=40000000000000) (hb:b.length<=40000000000000):F.UN a b=some (if val a<val b then ([],false) else (ar (val a - val b),true)):=by
 obtain⟨m,y,J,z⟩:=iw a (by omega)
 obtain⟨N,A,O,B⟩:=iw b (by omega)
 have R:(ar (val a)).length<=a.length:=bu (cv a)
 unfold F.UN
 rw[ka a b (by omega) (by omega),aa]
 by_cases hl:val a<val b
 ·rw[ag hl]; unfold eD; rw[ag hl,ag (by decide)]
 ·rw[ae hl]; unfold eD
  rw[ae hl,ae (by split <;> decide),y,aa,A,aa,z,B,iK (by omega),aa,am,aD,Mq _ _ rfl]
  have I:(ar (val b)).length<=(ar (val a)).length:=gz (by omega)
  obtain⟨c,j,G,U,t3⟩:=BE (ar (val a)) (ar (val b)) 0 (ar (val a)).length (ft _) (ax _) (by omega) (by omega) (cv _) (by rw[ay,ay]; omega)
  rw[G,aa]
  obtain⟨k,p1,p2,p3⟩:=jJ j (by omega)
  dsimp only
  rw[p1,aa,p3]
  rw[ay,ay,gB,cy]at t3
  rw[show val j=val a - val b by omega]
def MuI (x:UInt32) (y o:L00) (i j:Nat) (s:UInt64×L00):Prop:=
 s.2.length=o.length/\s.1.toNat<=4294967295/\(∀k,i+j<=k->s.2.getD k 0=o.getD k 0)/\val s.2+4294967296^(i+j)*s.1.toNat=val o+4294967296^i*(x.toNat*val (y.take j))
theorem Ff (a b:L00) (m:Nat) (i:Nat) (x:UInt32) (y o:L00) (B:b.take m=y) (ho:i+y.length<o.length) (ac:o.length<=4611686018427387904) :
  ∃c o',MuI x y o i y.length (c,o')/\loop (F.VG b m (i:Int) x) (0,0,o)=some (.inl (((i+1:Nat):Int),o'.set (i+y.length) c.toUInt32)):=by
 have G:∀(k j:Nat) (s:UInt64×L00),j+k=y.length->MuI x y o i j s->∃c o',MuI x y o i y.length (c,o')/\loop (F.VG b m (i:Int) x) (s.1,(j:Int),s.2)=some (.inl (((i+1:Nat):Int),o'.set (i+y.length) c.toUInt32)):=by
  intro k
  induction k with
  | zero=>
   intro j s X hs
   have:j=y.length:=by omega
   subst this
   refine⟨s.1,s.2,hs,cb ?_⟩
   have A:wI ((i:Int)+(y.length:Int))=((i+y.length:Nat):Int):=by rw[aC (by omega) (by omega)]; omega
   have w2:wI ((i:Int)+1)=((i+1:Nat):Int):=by rw[aC (by omega) (by omega)]; rfl
   unfold F.VG
   dsimp only
   have:=hs.1
   rw[B,ae (by rw[ak]; omega),A,w2,bg (show i+y.length<s.2.length by omega) 0,aa,aD,am]; rfl
  | succ k ih=>
   intro j s X hs
   obtain⟨Y,g2,g3,g4⟩:=hs
   have A:wI ((i:Int)+(j:Int))=((i+j:Nat):Int):=by rw[aC (by omega) (by omega)]; omega
   have w2:wI ((j:Int)+1)=((j+1:Nat):Int):=by rw[aC (by omega) (by omega)]; rfl
   obtain⟨t,I⟩:∃t,s.1+((x.toUInt64*(y.getD j 0).toUInt64)+(s.2.getD (i+j) 0).toUInt64)=t:=⟨_,rfl⟩
   have J:F.VG b m (i:Int) x (s.1,(j:Int),s.2)=some (.inl (bb t 32,((j+1:Nat):Int),s.2.set (i+j) t.toUInt32)):=by
    unfold F.VG
    dsimp only
    rw[B,ag (ai (by omega)),bg (show j<y.length by omega) 0,aa,A,bg (show i+j<s.2.length by omega) 0,aa,aD,I,aa,aD,w2,am]; rfl
   rw[bn J]
   have x1:=ej x; have x2:=ej (y.getD j 0); have x3:=ej (s.2.getD (i+j) 0)
   have hp:=ef (show x.toNat<=4294967295 by omega) (show (y.getD j 0).toNat<=4294967295 by omega)
   have N:(x.toUInt64*(y.getD j 0).toUInt64).toNat=x.toNat*(y.getD j 0).toNat:=by rw[sW _ _ (by rw[di,di]; omega),di,di]
   have O:(x.toUInt64*(y.getD j 0).toUInt64+(s.2.getD (i+j) 0).toUInt64).toNat=x.toNat*(y.getD j 0).toNat+(s.2.getD (i+j) 0).toNat:=by rw[lh _ _ (by rw[N,di]; omega),N,di]
   have Z:t.toNat=s.1.toNat+(x.toNat*(y.getD j 0).toNat+(s.2.getD (i+j) 0).toNat):=by rw[<-I,lh _ _ (by rw[O]; omega),O]
   have R:(bb t 32).toNat=t.toNat / 4294967296:=by rw[i9]; rfl
   refine ih (j+1) (bb t 32,s.2.set (i+j) t.toUInt32) (by omega) ⟨by simpa using Y,by show (bb t 32).toNat<=_; rw[R]; omega,fun U hk=>?_,?_⟩
   ·show (s.2.set (i+j) t.toUInt32).getD U 0=_
    rw[io (by omega)]; exact g3 U (by omega)
   ·show val (s.2.set (i+j) t.toUInt32)+_*(bb t 32).toNat=_
    have V:=jv s.2 (i+j) t.toUInt32 (by omega)
    rw[jA]at V
    rw[cK y j,aE,aE,R,show i+(j+1)=(i+j)+1 by omega,bo]
    have e0:4294967296^i*(x.toNat*(4294967296^j*(y.getD j 0).toNat))=4294967296^(i+j)*(x.toNat*(y.getD j 0).toNat):=by
     rw[bU,dF x.toNat,aF]
    rw[e0]
    obtain⟨z,hP⟩:∃z,(4294967296:Nat)^(i+j)=z:=⟨_,rfl⟩
    rw[hP]at g4 V ⊢
    have hd:=de t.toNat 4294967296
    have e3:z*(t.toNat%4294967296)+z*4294967296*(t.toNat / 4294967296)=z*t.toNat:=by
     rw[aF,<-aE,cw,hd]
    have e4:z*t.toNat=z*s.1.toNat+(z*(x.toNat*(y.getD j 0).toNat)+z*(s.2.getD (i+j) 0).toNat):=by rw[Z,aE,aE]
    omega
 exact G y.length 0 (0,o) (by omega) ⟨rfl,ft _,fun _ _=>rfl,by simp[val]⟩
theorem Ee (a b:L00) (ha:a.length<=40000000000000) (hb:b.length<=40000000000000) (hs:(ar (val a)).length+(ar (val b)).length<=50000000000000):F.UP a b=some (ar (val a*val b)):=by
 obtain⟨m,Y,h2,z⟩:=iw a (by omega)
 obtain⟨A,Z,h5,B⟩:=iw b (by omega)
 have la:(ar (val a)).length<=a.length:=bu (cv a)
 have lb:(ar (val b)).length<=b.length:=bu (cv b)
 obtain⟨x,hx⟩:∃x,ar (val a)=x:=⟨_,rfl⟩
 obtain⟨y,I⟩:∃y,ar (val b)=y:=⟨_,rfl⟩
 have vx:val x=val a:=by rw[<-hx,ay]
 have vy:val y=val b:=by rw[<-I,ay]
 rw[hx]at z la hs; rw[I]at B lb hs
 unfold F.UP
 have w0:wI ((x.length:Int)+(y.length:Int))=((x.length+y.length:Nat):Int):=by rw[aC (by omega) (by omega)]; omega
 rw[Y,aa,Z,aa,z,B,w0,iK (by omega),aa,am]
 have J:∀(k i:Nat) (o:L00),i+k=x.length->o.length=x.length+y.length->(∀k,i+y.length<=k->o.getD k 0=0)->val o=val (x.take i)*val y->loop (F.Xo a m b A) ((i:Int),o)=some (ar (val a*val b)):=by
  intro k
  induction k with
  | zero=>
   intro i o hi N _ G
   have:i=x.length:=by omega
   subst this
   refine cb ?_
   unfold F.Xo
   dsimp only
   obtain⟨q,p1,p2,p3⟩:=jJ o (by omega)
   rw[z,ae (by rw[ak]; omega),p1,aa,p3,G,aA (ax _),vx,vy]
  | succ k ih=>
   intro i o hi N hz G
   obtain⟨c,o',⟨O,g2,g3,g4⟩,hl⟩:=Ff a b A i (x.getD i 0) y o B (by omega) (by omega)
   dsimp only at O g2 g3 g4
   have R:F.Xo a m b A ((i:Int),o)=some (.inl (((i+1:Nat):Int),o'.set (i+y.length) c.toUInt32)):=by
    unfold F.Xo
    dsimp only
    rw[z,ag (ai (by omega)),bg (show i<x.length by omega) 0,aa,hl]
   rw[bn R]
   have U:o'.getD (i+y.length) 0=0:=by rw[g3 _ (ax _)]; exact hz _ (ax _)
   have j:=jv o' (i+y.length) c.toUInt32 (by omega)
   have z0:(0:UInt32).toNat=0:=rfl
   rw[U,z0,cp,bm,jA,az (by omega)]at j
   refine ih (i+1) _ (by omega) (by simpa using (O.trans N)) (fun V X=>?_) ?_
   ·rw[io (by omega),g3 V (by omega)]; exact hz V (by omega)
   ·rw[j,g4,aA (ax _),G,cK x i,aU,aF]
 exact J x.length 0 (List.replicate (x.length+y.length) 0) (by omega) (by simp) (fun k _=>by rw[an]; by_cases X:k<x.length+y.length <;> simp[X]) (by rw[gH]; simp[val])
theorem KD (a b d:UInt32) (h:a.toNat<d.toNat):∃q r:UInt32,F.YY a b d=some (q,r)/\q.toNat=(4294967296*a.toNat+b.toNat) / d.toNat/\r.toNat=(4294967296*a.toNat+b.toNat)%d.toNat:=by
 have hb:=ej b; have hd:=ej d
 have j:¬d.toUInt64=0:=fun k=>by
  have:=da UInt64.toNat k
  rw[di]at this; simp at this; omega
 have y:(d != 0)=true:=by
  rw[dC]; intro k; rw[k]at h; simp at h
 have z:¬d<=a:=fun A=>by have:=fa.1 A; omega
 refine⟨(((c8 a.toUInt64 32) ||| b.toUInt64) / d.toUInt64).toUInt32,(((c8 a.toUInt64 32) ||| b.toUInt64)%d.toUInt64).toUInt32,?_,?_,?_⟩
 rotate_left
 ·show ((((c8 a.toUInt64 32) ||| b.toUInt64) / d.toUInt64).toUInt32).toNat=_
  rw[jA,fi,zS,di,az]
  exact Nat.div_lt_of_lt_mul (by rw[aM]; omega)
 ·show ((((c8 a.toUInt64 32) ||| b.toUInt64)%d.toUInt64).toUInt32).toNat=_
  rw[jA,dq,zS,di,az]
  exact fZ (bH _ (by omega)) hd
 ·unfold F.YY F.ZM
  dsimp only
  rw[ag y,ae (by rw[ak]; exact z),aD,grd_true _ j,grd_true _ j,aD,aD]
theorem G8 (x:L00) (d:UInt32) (hd:d.toNat≠0) (hx:x.length<=50000000000000):∃q r,F.Yn x d=some (q,r)/\q.length=x.length/\val q=val x / d.toNat/\r.toNat=val x%d.toNat:=by
 unfold F.Yn
 rw[iK (by omega),aa,aD,am,aC (by omega) (by omega)]
 have G:∀(k:Nat) (o:L00) (r:UInt32),k<=x.length->o.length=x.length->r.toNat<d.toNat->val (o.drop k)*d.toNat+r.toNat=val (x.drop k)->∃q y,loop (F.WU x d) (r,(k:Int) - 1,o)=some (q,y)/\q.length=x.length/\y.toNat<d.toNat/\val q*d.toNat+y.toNat=val x:=by
  intro k
  induction k with
  | zero=>
   intro o r V z A B
   refine⟨o,r,cb ?_,z,A,by simpa using B⟩
   unfold F.WU
   dsimp only
   rw[ae (by decide)]
  | succ k ih=>
   intro o r V z A B
   have X:(((k+1:Nat):Int)) - 1=(k:Int):=by omega
   obtain⟨j,I,Y,Z,J⟩:=KD r (x.getD k 0) d A
   have w:wI ((k:Int) - 1)=(k:Int) - 1:=aC (by omega) (by omega)
   have N:F.WU x d (r,(k:Int),o)=some (.inl (I,(k:Int) - 1,o.set k j)):=by
    unfold F.WU
    dsimp only
    rw[ag (ai (by omega)),bg (show k<x.length by omega) 0,aa,Y,aa,bg (show k<o.length by omega) 0,aa,aD,w,am]; rfl
   rw[X,bn N]
   refine ih (o.set k j) I (by omega) (by simpa using z) (by rw[J]; exact bH _ (by omega)) ?_
   have O:val ((o.set k j).drop k)=j.toNat+4294967296*val (o.drop (k+1)):=by
    rw[eh,List.drop_set_of_lt (by omega)]
    congr 2
    rw[an,c7 (by omega)]; rfl
   rw[O,eh x k,<-B,Z,J]
   have ad:=de (4294967296*r.toNat+(x.getD k 0).toNat) d.toNat
   rw[aU,aM (_ / _),aF,aE]
   omega
 obtain⟨q,r,h1,h2,R,U⟩:=G x.length (List.replicate x.length 0) 0 (ax _) (by simp) (by show 0<_; omega) (by rw[bL (by simp),bL (by omega)]; simp[val])
 refine⟨q,r,h1,h2,?_,?_⟩
 ·rw[<-U,cw,Nat.add_mul_div_right _ _ (by omega),cA R,bk]
 ·rw[<-U,cw,gS,az R]
theorem Oh (x c:UInt32) {s:Nat} (hs:s<32) (hc:c.toNat<2^s):(iP x s ||| c).toNat=x.toNat*2^s%4294967296+c.toNat:=by
 rw[UInt32.toNat_or,tN,bf (by omega)]
 have hp:=nY hs
 have e:x.toNat*2^s%4294967296=2^s*(x.toNat%2^(32 - s)):=by
  rw[aM,<-hp,Nat.mul_mod_mul_left]
 rw[e,Nat.two_pow_add_eq_or_of_lt hc]
theorem OL (x:UInt32) {s:Nat} (hs:s<32):((bb (c8 x.toUInt64 s) 32).toUInt32).toNat=x.toNat*2^s / 4294967296/\x.toNat*2^s / 4294967296<2^s:=by
 have hx:=ej x
 have j:x.toNat*2^s<4294967296*2^s:=Nat.mul_lt_mul_of_pos_right hx (dA s)
 have y:2^s<2^32:=Nat.pow_lt_pow_right (by decide) hs
 have k:x.toNat*2^s / 4294967296<2^s:=Nat.div_lt_of_lt_mul j
 refine⟨?_,k⟩
 rw[jA,i9,kM,di,bf (by omega),show (2:Nat)^min 32 64=4294967296 from rfl]
 rw[az (b:=18446744073709551616) (by omega),az (by omega)]
def UpI (u x:L00) (lo s i:Nat) (t:UInt32×L00):Prop:=
 t.2.length=u.length/\t.2.take lo=u.take lo/\(∀k,lo+i<=k->t.2.getD k 0=u.getD k 0)/\t.1.toNat<2^s/\val ((t.2.drop lo).take i)+4294967296^i*t.1.toNat=2^s*val (x.take i)
theorem PE (u x:L00) (lo hi s:Nat) (hs:s<32) (I:lo<=hi) (J:hi<=u.length) (hu:u.length<=4611686018427387904) (hx:x.length<=4611686018427387904) :
  ∃c A,F.WE u lo hi x (s:Int)=some A/\UpI u x lo s (hi - lo) (c,A):=by
 have N:∀(k i:Nat) (t:UInt32×L00),i+k=hi - lo->UpI u x lo s i t->∃c A,loop (F.WH lo hi u x (s:Int)) (t.1,(i:Int),t.2)=some A/\UpI u x lo s (hi - lo) (c,A):=by
  intro k
  induction k with
  | zero=>
   intro i t O G
   have:i=hi - lo:=by omega
   subst this
   refine⟨t.1,t.2,cb ?_,G⟩
   unfold F.WH
   dsimp only
   rw[ta I J,ae (by rw[ak]; omega)]
  | succ k ih=>
   intro i t O G
   obtain⟨Y,Z,g3,g4,g5⟩:=G
   have R:i<hi - lo:=by omega
   have w4:wI ((i:Int)+1)=((i+1:Nat):Int):=by rw[aC (by omega) (by omega)]; rfl
   obtain⟨z,hz⟩:∃z,iP (x.getD i 0) s ||| t.1=z:=⟨_,rfl⟩
   obtain⟨c,hc⟩:∃c,(bb (c8 (x.getD i 0).toUInt64 s) 32).toUInt32=c:=⟨_,rfl⟩
   have B:=Oh (x.getD i 0) t.1 hs g4
   have y:=OL (x.getD i 0) hs
   rw[hz]at B; rw[hc]at y
   have hK:F.Zp lo hi (s:Int) t.1 (i:Int) t.2 (x.getD i 0)=some (.inl (c,((i+1:Nat):Int),t.2.set (lo+i) z)):=by
    unfold F.Zp
    dsimp only
    rw[grd_true _ (by omega),D9 (by omega) R,aa,aD,am,hz,grd_true _ (by omega),aD,hc,w4,am]; rfl
   have U:F.WH lo hi u x (s:Int) (t.1,(i:Int),t.2)=some (.inl (c,((i+1:Nat):Int),t.2.set (lo+i) z)):=by
    unfold F.WH
    dsimp only
    rw[ta I J,ag (ai (by omega))]
    by_cases hb:i<x.length
    ·rw[ag (ai (by omega)),bg hb 0,aa,hK]
    ·rw[ae (by rw[ak]; omega)]
     rw[iO (by omega)]at hK; exact hK
   rw[bn U]
   refine ih (i+1) (c,t.2.set (lo+i) z) (by omega) ⟨by simpa using Y,?_,fun V hk=>?_,by show c.toNat<_; rw[y.1]; exact y.2,?_⟩
   ·show (t.2.set (lo+i) z).take lo=_
    rw[fL (by omega)]; exact Z
   ·show (t.2.set (lo+i) z).getD V 0=_
    rw[io (by omega)]; exact g3 V (by omega)
   ·show val (((t.2.set (lo+i) z).drop lo).take (i+1))+_*c.toNat=_
    have e1:(t.2.set (lo+i) z).drop lo=(t.2.drop lo).set i z:=by rw[List.drop_set,ae (by omega),show lo+i - lo=i by omega]
    have e2:((t.2.drop lo).set i z).getD i 0=z:=by
     rw[an,c7 (by rw[ca]; omega)]; rfl
    rw[e1,cK,e2,fL (by omega),cK x i,aE,<-g5,B,y.1,bo]
    obtain⟨j,hP⟩:∃j,(4294967296:Nat)^i=j:=⟨_,rfl⟩
    obtain⟨m,X⟩:∃m,(x.getD i 0).toNat*2^s=m:=⟨_,rfl⟩
    rw[hP,X]
    have hd:=de m 4294967296
    have e3:j*(m%4294967296)+j*4294967296*(m / 4294967296)=j*m:=by
     rw[aF,<-aE,cw,hd]
    have e4:2^s*(j*(x.getD i 0).toNat)=j*m:=by rw[<-X,dF,aM (2^s)]
    rw[e4,aE]
    omega
 exact N (hi - lo) 0 (0,u) (by omega) ⟨rfl,rfl,fun _ _=>rfl,dA s,by simp[val]⟩
theorem Gl (u x:L00) (s:Nat) (hs:s<32) (hu:u.length<=4611686018427387904) (hx:x.length<=u.length) (hf:2^s*val x<4294967296^u.length) :
  ∃j,F.WE u 0 u.length x (s:Int)=some j/\j.length=u.length/\val j=2^s*val x:=by
 obtain⟨c,j,z,y,r3,B,A,k⟩:=PE u x 0 u.length s hs (ft _) (ax _) hu (by omega)
 dsimp only at y A k
 rw[f9,dQ,aA (by omega),aA hx]at k
 refine⟨j,z,y,?_⟩
 rcases bQ c.toNat with h | h
 ·rw[h]at k; omega
 ·have:=eJ (4294967296^u.length) h
  omega
theorem uk (u:L00) (s:Nat) (hs:s<32) (hu:u.length<=4611686018427387904):∃y,F.XK u (s:Int)=some y/\y.length=u.length/\val y=val u / 2^s:=by
 have G:=nY hs
 have kd:∀i,(val u / 2^s) / 4294967296^i%4294967296=((u.getD i 0).toNat+4294967296*(u.getD (i+1) 0).toNat) / 2^s%4294967296:=by
  intro i
  rw[dN,aM,<-dN,ky,eh,eh]
  have:(u.getD i 0).toNat+4294967296*((u.getD (i+1) 0).toNat+4294967296*val (u.drop (i+1+1)))=((u.getD i 0).toNat+4294967296*(u.getD (i+1) 0).toNat)+2^s*(4294967296*(2^(32 - s)*val (u.drop (i+1+1)))):=by
   have:2^s*(4294967296*(2^(32 - s)*val (u.drop (i+1+1))))=4294967296*(4294967296*val (u.drop (i+1+1))):=by
    rw[dF,<-aF (2^s),G]
   rw[this,aE]; omega
  rw[this,g9 _ _ (dA s),g8]
 have I:∀(k i:Nat) (o:L00),i+k=u.length->o.length=u.length->(∀j,i<=j->o.getD j 0=u.getD j 0)->val (o.take i)=(val u / 2^s)%4294967296^i ->
   ∃y,loop (F.XB u (s:Int)) ((i:Int),o)=some y/\y.length=u.length/\val y=val u / 2^s:=by
  intro k
  induction k with
  | zero=>
   intro i o hi B _ A
   have:i=u.length:=by omega
   subst this
   refine⟨o,cb ?_,B,?_⟩
   ·unfold F.XB
    dsimp only
    rw[ae (by rw[ak]; omega)]
   ·rw[aA (by omega)]at A
    rw[A,az]
    exact dw (dy _ _) (cv u)
  | succ k ih=>
   intro i o hi B hg A
   have w4:wI ((i:Int)+1)=((i+1:Nat):Int):=by rw[aC (by omega) (by omega)]; rfl
   obtain⟨z,hz⟩:∃z,(bb ((u.getD i 0).toUInt64 ||| (c8 (u.getD (i+1) 0).toUInt64 32)) s).toUInt32=z:=⟨_,rfl⟩
   have J:z.toNat=((u.getD i 0).toNat+4294967296*(u.getD (i+1) 0).toNat) / 2^s%4294967296:=by
    rw[<-hz,jA,i9,vm,bf (by omega)]
   have hK:∀v:UInt64,v=((u.getD i 0).toUInt64 ||| (c8 (u.getD (i+1) 0).toUInt64 32))->F.XV (s:Int) (i:Int) o v=some (.inl (((i+1:Nat):Int),o.set i z)):=by
    rintro v rfl
    unfold F.XV
    dsimp only
    rw[grd_true _ (by omega),bg (show i<o.length by omega) 0,aa,aD,am,am,hz,w4]; rfl
   have N:F.XB u (s:Int) ((i:Int),o)=some (.inl (((i+1:Nat):Int),o.set i z)):=by
    unfold F.XB
    dsimp only
    rw[ag (ai (by omega)),bg (show i<o.length by omega) 0,aa,w4,hg i (ax _)]
    by_cases hb:i+1<o.length
    ·rw[ag (ai (by omega)),bg hb 0,aa,aD,hg (i+1) (by omega),hK _ rfl]
    ·rw[ae (by rw[ak]; omega),hK _ (by
      apply cx.1
      rw[vm,iO (a:=u) (i:=i+1) (by omega),di]; rfl)]
   rw[bn N]
   refine ih (i+1) (o.set i z) (by omega) (by simpa using B) (fun j R=>by rw[io (by omega)]; exact hg j (by omega)) ?_
   have O:(o.set i z).getD i 0=z:=by
    rw[an,c7 (by omega)]; rfl
   rw[cK,O,fL (by omega),A,Nat.mod_pow_succ,kd i,J]
 exact I u.length 0 u (by omega) rfl (fun _ _=>rfl) (by simp[val,Nat.mod_one])
theorem xZ (u v:L00) (hl:u.length=v.length) (hu:u.length<=4611686018427387904):F.VA u v=some (decide (val u<val v)):=by
 have j:∀k:Nat,k<=u.length->val (u.drop k)=val (v.drop k)->loop (F.US u v) ((k:Int) - 1)=some (decide (val u<val v)):=by
  intro k
  induction k with
  | zero=>
   intro _ h
   rw[dQ,dQ]at h
   refine cb ?_
   unfold F.US
   dsimp only
   rw[ae (by decide),au (by omega)]
  | succ k ih=>
   intro A h
   have y:(((k+1:Nat):Int)) - 1=(k:Int):=by omega
   have w:wI ((k:Int) - 1)=(k:Int) - 1:=aC (by omega) (by omega)
   rw[y]
   by_cases hne:u.getD k 0=v.getD k 0
   ·have hL:F.US u v (k:Int)=some (.inl ((k:Int) - 1)):=by
     unfold F.US
     dsimp only
     rw[ag (ai (by omega)),bg (show k<u.length by omega) 0,aa,bg (show k<v.length by omega) 0,aa,ae (by rw[hne]; simp),w]; rfl
    rw[bn hL]
    refine ih (by omega) ?_
    rw[eh u k,eh v k,h,hne]
   ·have hL:F.US u v (k:Int)=bc (some (decide (u.getD k 0<v.getD k 0))):=by
     unfold F.US
     dsimp only
     rw[ag (ai (by omega)),bg (show k<u.length by omega) 0,aa,bg (show k<v.length by omega) 0,aa,ag (by rw[dC]; exact hne),aa,aa]
    rw[cb hL]
    congr 1
    by_cases hlt:u.getD k 0<v.getD k 0
    ·rw[ai hlt,ai (oJ u v k h (dv.1 hlt))]
    ·have z:(v.getD k 0).toNat<(u.getD k 0).toNat:=by
      have a1:¬(u.getD k 0).toNat<(v.getD k 0).toNat:=fun q=>hlt (dv.2 q)
      have a2:(u.getD k 0).toNat≠(v.getD k 0).toNat:=fun q=>hne (cM.1 q)
      omega
     have:=oJ v u k h.symm z
     rw[au hlt,au (by omega)]
 unfold F.VA
 rw[aD,aC (by omega) (by omega)]
 exact j u.length (ax _) (by rw[bL (by omega),bL (by omega)])
theorem H6 (v a:L00) (j z y:UInt32) (h K B V':Nat) (hn:2<=v.length) (ha:v.length<=a.length) (hs:v.length<=70368744177664)
  (R:v.getD (v.length - 1) 0=j) (U:v.getD (v.length - 2) 0=z) (Z:a.getD (v.length - 2) 0=y) (hV:val v=(j.toNat*4294967296+z.toNat)*K+V') (ac:B<K) (b9:V'<K) (ce:1<=j.toNat)
  (ad:(h*4294967296+y.toNat)*K+B<4294967296*val v) (hh:h<=j.toNat*4294967296+4294967295) :
  ∀(m:Nat) (g r:UInt64),g.toNat=m->h=g.toNat*j.toNat+r.toNat->r.toNat<=4294967295->(h*4294967296+y.toNat)*K+B<(g.toNat+1)*val v ->
   ∃A:UInt64,loop (F.U3 a v) (g,r)=some A/\A.toNat<=4294967295/\(h*4294967296+y.toNat)*K+B<(A.toNat+1)*val v:=by
 have x1:=ej j; have x2:=ej z; have x3:=ej y
 have w1:wI ((v.length:Int) - 1)=((v.length - 1:Nat):Int):=by rw[aC (by omega) (by omega)]; omega
 have w2:wI ((v.length:Int) - 2)=((v.length - 2:Nat):Int):=by rw[aC (by omega) (by omega)]; omega
 intro m
 induction m using Nat.strongRecOn with
 | ind m ih=>
  intro g r hm N hr ap
  have G:F.U3 a v (g,r)=F.Xw v g r true->(4294967296<=g.toNat\/r.toNat*4294967296+y.toNat<g.toNat*z.toNat) ->
    ∃A:UInt64,loop (F.U3 a v) (g,r)=some A/\A.toNat<=4294967295/\(h*4294967296+y.toNat)*K+B<(A.toNat+1)*val v:=by
   intro hL J
   have bx:1<=g.toNat:=by
    rcases bQ g.toNat with V | V
    ·rw[V]at J; omega
    ·exact V
   have O:(g - 1).toNat=g.toNat - 1:=by
    rw[eg _ _ (by rw[cL]; exact bx)]; rfl
   have b2:(r+j.toUInt64).toNat=r.toNat+j.toNat:=by rw[lh _ _ (by rw[di]; omega),di]
   have hd:=At (K:=K) (V':=V') N ac J (by rw[<-hV]; exact ad)
   rw[<-hV]at hd
   obtain⟨k,X⟩:∃k,g.toNat=k+1:=⟨g.toNat - 1,by omega⟩
   have Y:h=(g - 1).toNat*j.toNat+(r+j.toUInt64).toNat:=by
    rw[O,b2,N,X,eG,aU]; omega
   have I:(h*4294967296+y.toNat)*K+B<((g - 1).toNat+1)*val v:=by
    rw[O,X,eG,<-X]; exact hd
   unfold F.Xw at hL
   rw[ag rfl,w1,bg (show v.length - 1<v.length by omega) 0,aa,R]at hL
   by_cases hb:4294967296<=(r+j.toUInt64).toNat
   ·rw[ag (ai (by rw[cL]; exact hb))]at hL
    have cf:(g - 1).toNat<4294967296:=by
     have:(g - 1).toNat*j.toNat<4294967296*j.toNat:=by omega
     exact Nat.lt_of_mul_lt_mul_right this
    exact⟨g - 1,cb hL,by omega,I⟩
   ·rw[ae (by simp only[ak,cL]; exact hb)]at hL
    obtain⟨A,q1,q2⟩:=ih (g - 1).toNat (by omega) (g - 1) (r+j.toUInt64) rfl Y (by omega) I
    exact⟨A,(bn hL).trans q1,q2⟩
  by_cases hg:4294967296<=g.toNat
  ·refine G ?_ (.inl hg)
   unfold F.U3
   dsimp only
   rw[ag (ai (by rw[cL]; exact hg))]
  ·have e1:((c8 r 32) ||| y.toUInt64).toNat=4294967296*r.toNat+y.toNat:=BT _ _ hr
   have hp:=ef (show g.toNat<=4294967295 by omega) (show z.toNat<=4294967295 by omega)
   have e2:(g*z.toUInt64).toNat=g.toNat*z.toNat:=by rw[sW _ _ (by rw[di]; omega),di]
   have hL:F.U3 a v (g,r)=F.Xw v g r (decide (((c8 r 32) ||| y.toUInt64)<(g*z.toUInt64))):=by
    unfold F.U3
    dsimp only
    rw[ae (by simp only[ak,cL]; exact hg),w2,bg (show v.length - 2<v.length by omega) 0,aa,bg (show v.length - 2<a.length by omega) 0,aa,U,Z]
   by_cases J:r.toNat*4294967296+y.toNat<g.toNat*z.toNat
   ·rw[show decide (((c8 r 32) ||| y.toUInt64)<(g*z.toUInt64))=true from ai (by rw[bh,e1,e2]; omega)]at hL
    exact G hL (.inr J)
   ·rw[show decide (((c8 r 32) ||| y.toUInt64)<(g*z.toUInt64))=false from au (by rw[bh,e1,e2]; omega)]at hL
    unfold F.Xw at hL
    rw[ae (by decide)]at hL
    exact⟨g,cb hL,by omega,ap⟩
theorem C7 (v a:L00) (hn:2<=v.length) (ha:a.length=v.length+1) (hs:v.length<=70368744177664) (ac:2147483648<=(v.getD (v.length - 1) 0).toNat) (bx:val a<4294967296*val v) :
  ∃g:UInt64,F.Zv a v=some g/\g.toNat<=4294967295/\val a<(g.toNat+1)*val v:=by
 obtain⟨j,B⟩:∃j,v.getD (v.length - 1) 0=j:=⟨_,rfl⟩
 obtain⟨z,N⟩:∃z,v.getD (v.length - 2) 0=z:=⟨_,rfl⟩
 obtain⟨k,O⟩:∃k,a.getD (v.length) 0=k:=⟨_,rfl⟩
 obtain⟨A,R⟩:∃A,a.getD (v.length - 1) 0=A:=⟨_,rfl⟩
 obtain⟨y,U⟩:∃y,a.getD (v.length - 2) 0=y:=⟨_,rfl⟩
 rw[B]at ac
 have x1:=ej j; have x2:=ej z; have y0:=ej k; have y1:=ej A; have y2:=ej y
 have eV:val v=(j.toNat*4294967296+z.toNat)*4294967296^(v.length - 2)+val (v.take (v.length - 2)):=by
  have:=gG v (v.length - 2) (by omega)
  rw[eh,show v.length - 2+1=v.length - 1 by omega,eh,show v.length - 1+1=v.length by omega,eH,jy,B,N]at this
  rw[this,cp,bm,aM (4294967296^_),cw z.toNat,aM 4294967296 j.toNat]
  omega
 have I:val (v.take (v.length - 2))<4294967296^(v.length - 2):=by
  have:=cv (v.take (v.length - 2))
  rwa [aJ,bf (by omega)]at this
 obtain⟨K,hK⟩:∃K,4294967296^(v.length - 2)=K:=⟨_,rfl⟩
 obtain⟨G,V⟩:∃G,val (a.take (v.length - 2))=G:=⟨_,rfl⟩
 have ad:G<K:=by
  have:=cv (a.take (v.length - 2))
  rw[aJ,bf (by omega)]at this
  rw[<-V,<-hK]; exact this
 obtain⟨h,hh⟩:∃h,k.toNat*4294967296+A.toNat=h:=⟨_,rfl⟩
 have eU:val a=(h*4294967296+y.toNat)*K+G:=by
  have J:=gG a (v.length - 2) (by omega)
  rw[eh a (v.length - 2),show v.length - 2+1=v.length - 1 by omega,eh a (v.length - 1),show v.length - 1+1=v.length by omega,eh a v.length,bL (l:=a) (i:=v.length+1) (by omega),jy,V,hK,O,R,U]at J
  rw[J,<-hh,cp,bm,aM K]
  have:y.toNat+4294967296*(A.toNat+4294967296*k.toNat)=(k.toNat*4294967296+A.toNat)*4294967296+y.toNat:=by omega
  rw[this]; omega
 rw[hK]at eV I
 have ap:(h*4294967296+y.toNat)*K+G<4294967296*val v:=by rw[<-eU]; exact bx
 have b4:k.toNat<=j.toNat:=by
  rcases bX j.toNat k.toNat with J | J
  ·exfalso
   have a1:(j.toNat*4294967296+z.toNat+1)*K<=(k.toNat*4294967296)*K:=aT _ (by omega)
   have a2:val v<(j.toNat*4294967296+z.toNat+1)*K:=by rw[eV,aU (j.toNat*4294967296+z.toNat) 1 K,cy]; exact Nat.add_lt_add_left I _
   have a4:=aT K (show 4294967296*(k.toNat*4294967296)<=h*4294967296+y.toNat by omega)
   rw[aF 4294967296]at a4
   omega
  ·exact J
 have X:¬j.toUInt64=0:=by
  intro h0
  have:=da UInt64.toNat h0
  rw[di]at this
  simp at this
  omega
 obtain⟨H,hH⟩:∃H,(c8 k.toUInt64 32) ||| A.toUInt64=H:=⟨_,rfl⟩
 have Y:H.toNat=h:=by rw[<-hH,zS,<-hh]; omega
 have Z:(H / j.toUInt64).toNat=h / j.toNat:=by rw[fi,di,Y]
 have ab:(H%j.toUInt64).toNat=h%j.toNat:=by rw[dq,di,Y]
 have b9:=de h j.toNat
 have ce:=bH h (show 0<j.toNat by omega)
 obtain⟨g,hg,g1,g2⟩:=H6 v a j z y h K G (val (v.take (v.length - 2))) hn (by omega) hs B N U eV ad I (by omega) ap (by omega) _ (H / j.toUInt64) (H%j.toUInt64) rfl
  (by rw[Z,ab,aM]; omega) (by rw[ab]; omega) (by
   rw[Z]
   have a1:h+1<=(h / j.toNat+1)*j.toNat:=by rw[aU,aM (h / j.toNat)]; omega
   have a2:(h+1)*(4294967296*K)<=(h / j.toNat+1)*j.toNat*(4294967296*K):=aT _ a1
   have a3:(h / j.toNat+1)*(j.toNat*(4294967296*K))<=(h / j.toNat+1)*val v:=by
    refine bj _ ?_
    rw[eV,aU,aF]; omega
   have a4:(h*4294967296+y.toNat+1)*K<=(h+1)*(4294967296*K):=by
    rw[<-aF]; exact aT _ (by omega)
   rw[aU (h*4294967296+y.toNat) 1 K,cy]at a4
   rw[aF]at a2
   omega)
 refine⟨g,?_,g1,by rw[eU]; exact g2⟩
 have w1:wI ((v.length:Int) - 1)=((v.length - 1:Nat):Int):=by rw[aC (by omega) (by omega)]; omega
 unfold F.Zv
 rw[bg (show v.length<a.length by omega) 0,aa,w1,bg (show v.length - 1<a.length by omega) 0,aa,aD,O,R,hH,bg (show v.length - 1<v.length by omega) 0,aa,B,grd_true _ X,aa,grd_true _ X,hg]
def PtI (g:UInt64) (v p:L00) (i:Nat) (s:UInt64×L00):Prop:=
 s.2.length=p.length/\s.1.toNat<=4294967295/\val (s.2.take i)+4294967296^i*s.1.toNat=g.toNat*val (v.take i)
theorem DK (v u q p:L00) (j:Int) (g:UInt64) (hg:g.toNat<=4294967295) (hp:p.length=v.length+1) (hv:v.length<=4611686018427387900) :
  ∃p':L00,p'.length=v.length+1/\val p'=g.toNat*val v/\loop (F.Vc v j u q g) (0,0,p) =
   af (slO u j (wI ((wI (j+(v.length:Int)))+1):Int)) fun z=>af (F.VA z p') fun A=>
    if (!A)=true then (bc (af (slO u j (wI ((wI (j+(v.length:Int)))+1):Int)) fun I=>af (F.UK u j.toNat ((wI ((wI (j+(v.length:Int)))+1):Int).toNat) p') fun B=>
     af (aw q j) fun J=>bv (q.set j.toNat g.toUInt32) fun G=>bM (wI (j - 1),B.2,G,p'))) else bM (g - 1,p'):=by
 have O:∀(k i:Nat) (s:UInt64×L00),i+k=v.length->PtI g v p i s->∃p':L00,p'.length=v.length+1/\val p'=g.toNat*val v/\loop (F.Vc v j u q g) (s.1,(i:Int),s.2) =
   af (slO u j (wI ((wI (j+(v.length:Int)))+1):Int)) fun z=>af (F.VA z p') fun A=>
    if (!A)=true then (bc (af (slO u j (wI ((wI (j+(v.length:Int)))+1):Int)) fun I=>af (F.UK u j.toNat ((wI ((wI (j+(v.length:Int)))+1):Int).toNat) p') fun B=>
     af (aw q j) fun J=>bv (q.set j.toNat g.toUInt32) fun G=>bM (wI (j - 1),B.2,G,p'))) else bM (g - 1,p'):=by
  intro k
  induction k with
  | zero=>
   intro i s hi hs
   obtain⟨R,Z,g3⟩:=hs
   have:i=v.length:=by omega
   subst this
   refine⟨s.2.set v.length s.1.toUInt32,by simp; omega,?_,cb ?_⟩
   ·have e0:(s.2.set v.length s.1.toUInt32)=(s.2.set v.length s.1.toUInt32).take (v.length+1):=by rw[aA (by simp; omega)]
    have N:(s.2.set v.length s.1.toUInt32).getD v.length 0=s.1.toUInt32:=by
     rw[an,c7 (by omega)]; rfl
    rw[e0,cK,N,fL (by omega),jA,az (by omega),g3,aA (ax _)]
   ·unfold F.Vc
    dsimp only
    rw[ae (by rw[ak]; omega),bg (show v.length<s.2.length by omega) 0,aa,aD,am]
  | succ k ih=>
   intro i s hi hs
   obtain⟨R,Z,g3⟩:=hs
   have w2:wI ((i:Int)+1)=((i+1:Nat):Int):=by rw[aC (by omega) (by omega)]; rfl
   obtain⟨t,U⟩:∃t,s.1+(g*(v.getD i 0).toUInt64)=t:=⟨_,rfl⟩
   have V:F.Vc v j u q g (s.1,(i:Int),s.2)=some (.inl (bb t 32,((i+1:Nat):Int),s.2.set i t.toUInt32)):=by
    unfold F.Vc
    dsimp only
    rw[ag (ai (by omega)),bg (show i<v.length by omega) 0,aa,aD,U,bg (show i<s.2.length by omega) 0,aa,aD,w2,am]; rfl
   rw[bn V]
   have x2:=ej (v.getD i 0)
   have ap:=ef hg (show (v.getD i 0).toNat<=4294967295 by omega)
   have X:(g*(v.getD i 0).toUInt64).toNat=g.toNat*(v.getD i 0).toNat:=by rw[sW _ _ (by rw[di]; omega),di]
   have m3:t.toNat=s.1.toNat+g.toNat*(v.getD i 0).toNat:=by rw[<-U,lh _ _ (by rw[X]; omega),X]
   have Y:(bb t 32).toNat=t.toNat / 4294967296:=by rw[i9]; rfl
   refine ih (i+1) (bb t 32,s.2.set i t.toUInt32) (by omega) ⟨by simpa using R,by show (bb t 32).toNat<=_; rw[Y]; omega,?_⟩
   show val ((s.2.set i t.toUInt32).take (i+1))+_*(bb t 32).toNat=_
   have N:(s.2.set i t.toUInt32).getD i 0=t.toUInt32:=by
    rw[an,c7 (by omega)]; rfl
   rw[cK,N,fL (by omega),jA,cK v i,aE,<-g3,Y,bo]
   obtain⟨y,hP⟩:∃y,(4294967296:Nat)^i=y:=⟨_,rfl⟩
   rw[hP]
   have hd:=de t.toNat 4294967296
   have e3:y*(t.toNat%4294967296)+y*4294967296*(t.toNat / 4294967296)=y*t.toNat:=by
    rw[aF,<-aE,cw,hd]
   have e4:y*t.toNat=y*s.1.toNat+y*(g.toNat*(v.getD i 0).toNat):=by rw[m3,aE]
   have e5:g.toNat*(y*(v.getD i 0).toNat)=y*(g.toNat*(v.getD i 0).toNat):=by rw[dF]
   rw[e5]
   omega
 exact O v.length 0 (0,p) (by omega) ⟨rfl,ft _,by simp[val]⟩
theorem EL (v u q:L00) (j:Nat) (hj:j+v.length<u.length) (hq:j<q.length) (b4:u.length<=4611686018427387900) (b5:q.length<=4611686018427387900) (G:0<val v) (hu:val u<4294967296^(j+1)*val v) :
  ∀(m:Nat) (g:UInt64) (p:L00),g.toNat=val u / 4294967296^j / val v+m->g.toNat<=4294967295->p.length=v.length+1 ->
   ∃(d:UInt64) (A k:L00),loop (F.WJ v (j:Int) u q) (g,p)=some (.inl ((j:Int) - 1,A,q.set j d.toUInt32,k))/\k.length=v.length+1/\A.length=u.length/\d.toNat<=4294967295 /\
    val A+4294967296^j*(d.toNat*val v)=val u/\val A<4294967296^j*val v:=by
 have U:=cv v
 have I:val u<4294967296^(j+v.length+1):=by
  have:=eO U (ew (n:=j+1) (show 0<4294967296 by decide))
  rw[<-bU,show j+1+v.length=j+v.length+1 by omega]at this
  omega
 have V:wI ((wI ((j:Int)+(v.length:Int)))+1)=((j+v.length+1:Nat):Int):=by
  rw[aC (x:=(j:Int)+(v.length:Int)) (by omega) (by omega),aC (by omega) (by omega)]; omega
 have wk:wI ((j:Int) - 1)=(j:Int) - 1:=aC (by omega) (by omega)
 have J:slO u (j:Int) ((j+v.length+1:Nat):Int)=some ((u.drop j).take (j+v.length+1 - j)):=lP (by omega) (by omega)
 have b6:((u.drop j).take (j+v.length+1 - j)).length=v.length+1:=by rw[aJ,ca]; omega
 have N:val ((u.drop j).take (j+v.length+1 - j))=val u / 4294967296^j:=by
  rw[ky]
  have:=gG (u.drop j) (v.length+1) (by rw[ca]; omega)
  rw[fS,show j+(v.length+1)=j+v.length+1 by omega,lU I,cp,bm]at this
  rw[show j+v.length+1 - j=v.length+1 by omega,this]
 obtain⟨M,z⟩:∃M,val u / 4294967296^j=M:=⟨_,rfl⟩
 have R:=ew (n:=j) (show 0<4294967296 by decide)
 intro m
 induction m with
 | zero=>
  intro g p y hg hp
  rw[bm,z]at y
  obtain⟨k,p1,p2,p3⟩:=DK v u q p (j:Int) g hg hp (by omega)
  have X:g.toNat*val v<=M:=by rw[y]; exact Nat.div_mul_le_self _ _
  have B:=Nat.div_mul_le_self (val u) (4294967296^j)
  rw[z,aM]at B
  have Y:=Nat.lt_div_mul_add R (a:=val u)
  rw[z,aM]at Y
  obtain⟨c,A,t1,t2,t3⟩:=BE u k j (j+v.length+1) (by omega) (by omega) (by omega) (by omega) I (by rw[p2]; exact ba (bj _ X) B)
  refine⟨g,A,k,?_,p1,t2,hg,by rw[<-p2]; exact t3,?_⟩
  ·refine cb ?_
   unfold F.WJ
   dsimp only
   rw[p3,V,J,aa,xZ _ _ (by omega) (by omega),aa,N,z,p2,au (by omega),ag (by rfl),aa,am,am,t1,aa,bg hq 0,aa,aD,wk]
   rfl
  ·have h1:M<(g.toNat+1)*val v:=by
    rw[y]
    have:=Nat.lt_div_mul_add G (a:=M)
    rw[aU,cy]; exact this
   rw[aU,cy]at h1
   have h2:=bj (4294967296^j) (show M+1<=g.toNat*val v+val v by omega)
   rw[aE,cE,aE]at h2
   rw[p2]at t3
   omega
 | succ m ih=>
  intro g p y hg hp
  rw[z]at y
  obtain⟨k,p1,p2,p3⟩:=DK v u q p (j:Int) g hg hp (by omega)
  have O:M<g.toNat*val v:=by
   rcases bX M (g.toNat*val v) with h | h
   ·exact h
   ·have:=(Nat.le_div_iff_mul_le G).2 h
    omega
  have Z:1<=g.toNat:=by
   rcases bQ g.toNat with h | h
   ·rw[h,fu]at O; omega
   ·exact h
  have ab:(g - 1).toNat=g.toNat - 1:=by
   rw[eg _ _ (by rw[cL]; exact Z)]; rfl
  have ac:F.WJ v (j:Int) u q (g,p)=some (.inl (g - 1,k)):=by
   unfold F.WJ
   dsimp only
   rw[p3,V,J,aa,xZ _ _ (by omega) (by omega),aa,N,z,p2,ai O,ae (by decide)]
   rfl
  rw[bn ac]
  exact ih (g - 1) k (by rw[ab,z]; omega) (by omega) p1
theorem Fq (s:Int) (v u q p:L00) (j:Nat) (hn:2<=v.length) (B:2147483648<=(v.getD (v.length - 1) 0).toNat) (U:j+v.length<u.length) (V:j<q.length) (ad:u.length<=70368744177664) (ap:q.length<=70368744177664) (hp:p.length=v.length+1) (z:0<val v) (hu:val u<4294967296^(j+1)*val v) :
  ∃(d:UInt64) (k y:L00),F.Wo s v ((j:Int),u,q,p)=some (.inl ((j:Int) - 1,k,q.set j d.toUInt32,y))/\y.length=v.length+1/\k.length=u.length/\d.toNat<=4294967295 /\
    val k+4294967296^j*(d.toNat*val v)=val u/\val k<4294967296^j*val v:=by
 have J:=cv v
 have N:val u<4294967296^(j+v.length+1):=by
  have:=eO J (ew (n:=j+1) (show 0<4294967296 by decide))
  rw[<-bU,show j+1+v.length=j+v.length+1 by omega]at this
  omega
 have X:wI ((wI ((j:Int)+(v.length:Int)))+1)=((j+v.length+1:Nat):Int):=by
  rw[aC (x:=(j:Int)+(v.length:Int)) (by omega) (by omega),aC (by omega) (by omega)]; omega
 have O:slO u (j:Int) ((j+v.length+1:Nat):Int)=some ((u.drop j).take (j+v.length+1 - j)):=lP (by omega) (by omega)
 have R:((u.drop j).take (j+v.length+1 - j)).length=v.length+1:=by rw[aJ,ca]; omega
 have A:val ((u.drop j).take (j+v.length+1 - j))=val u / 4294967296^j:=by
  rw[ky]
  have:=gG (u.drop j) (v.length+1) (by rw[ca]; omega)
  rw[fS,show j+(v.length+1)=j+v.length+1 by omega,lU N,cp,bm]at this
  rw[show j+v.length+1 - j=v.length+1 by omega,this]
 have G:=ew (n:=j) (show 0<4294967296 by decide)
 have I:val u / 4294967296^j<4294967296*val v:=by
  rw[fh G,aM]
  rw[bo,aF]at hu
  exact hu
 obtain⟨g,Y,Z,g3⟩:=C7 v _ hn R (by omega) B (by rw[A]; exact I)
 rw[A]at g3
 have bx:val u / 4294967296^j / val v<=g.toNat:=by
  have:=(fh z).2 g3
  omega
 obtain⟨d,k,y,r1,r2⟩:=EL v u q j U V (by omega) (by omega) z hu (g.toNat - val u / 4294967296^j / val v) g p (by omega) Z hp
 refine⟨d,k,y,?_,r2⟩
 unfold F.Wo
 dsimp only
 rw[ag (ai (by omega)),X,O,aa,Y,aa,r1]
theorem Hy (s:Nat) (v:L00) (A:Nat) (hn:2<=v.length) (I:2147483648<=(v.getD (v.length - 1) 0).toNat) (hs:s<32) (G:0<val v) :
  ∀(k:Nat) (u q p:L00),k+v.length<=u.length->k<=q.length->u.length<=70368744177664->q.length<=70368744177664->p.length=v.length+1->(∀i,i<k->q.getD i 0=0)->val q*val v+val u=A->val u<4294967296^k*val v ->
   ∃y j:L00,loop (F.Wo (s:Int) v) ((k:Int) - 1,u,q,p)=some (y,(j,v.length))/\y.length=q.length/\j.length=u.length/\val y=A / val v/\val j=A%val v / 2^s:=by
 intro k
 induction k with
 | zero=>
  intro u q p V X R J hp N B z
  rw[gB,cy]at z
  have eq:A / val v=val q:=by rw[<-B,cw,Nat.add_mul_div_right _ _ G,cA z,bk]
  have Y:A%val v=val u:=by rw[<-B,cw,gS,az z]
  obtain⟨j,Z,d2,d3⟩:=uk u s hs (by omega)
  refine⟨q,j,cb ?_,rfl,d2,eq.symm,by rw[Y]; exact d3⟩
  unfold F.Wo
  dsimp only
  rw[ae (by decide),Z,aa,am,grd_true _ ⟨by omega,by omega⟩]
 | succ k ih=>
  intro u q p V X R J hp N B z
  have e1:(((k+1:Nat):Int)) - 1=(k:Int):=by omega
  obtain⟨d,j,p',r1,rp,r2,r5,r3,r4⟩:=Fq (s:Int) v u q p k hn I (by omega) (by omega) R J hp G z
  rw[e1,bn r1]
  obtain⟨y,U,z1,z2,z3,z4⟩:=ih j (q.set k d.toUInt32) p' (by omega) (by simp; omega) (by omega) (by simpa using J) rp (fun i hi=>by rw[io (by omega)]; exact N i (by omega)) (by
   have O:=jv q k d.toUInt32 (by omega)
   rw[N k (by omega)]at O
   have z0:(0:UInt32).toNat=0:=rfl
   rw[z0,cp,bm]at O
   rw[O,jA,az (by omega),aU,aF,<-B]
   omega) r4
  exact⟨y,U,z1,by simpa using z2,by omega,z4⟩
theorem KF (n k:Nat):(List.replicate n (0:UInt32)).getD k 0=0:=by
 rw[an]
 by_cases hk:k<n <;> simp[hk]
theorem IY (x y:L00) (hy:2<=y.length) (G:y.getD (y.length - 1) 0≠0) (c4:y.length<=x.length) (hx:x.length<=50000000000000) :
  ∃q u:L00,F.Za x y=some (q,(u,y.length))/\q.length<=x.length+1/\u.length=x.length+1/\val q=val x / val y/\val u=val x%val y:=by
 obtain⟨j,I⟩:∃j,y.getD (y.length - 1) 0=j:=⟨_,rfl⟩
 rw[I]at G
 have U:j.toNat≠0:=fun h=>G (cM.1 h)
 obtain⟨b1,O⟩:=gv j.toNat
 obtain⟨O,b3⟩:=O U
 have b4:nb j.toNat<=32:=lK (ej j)
 obtain⟨s,hs⟩:∃s,s=32 - nb j.toNat:=⟨_,rfl⟩
 have z:s<32:=by omega
 have V:F.Yo j=some (s:Int):=by
  unfold F.Yo
  rw[Ak,aa,aC (by omega) (by omega)]; congr 1; omega
 have J:val y=val (y.take (y.length - 1))+4294967296^(y.length - 1)*j.toNat:=by
  have:=cK y (y.length - 1)
  rw[show y.length - 1+1=y.length by omega,aA (ax _),I]at this
  exact this
 have X:val (y.take (y.length - 1))<4294967296^(y.length - 1):=by
  have:=cv (y.take (y.length - 1))
  rwa [aJ,bf (by omega)]at this
 obtain⟨Q,A⟩:∃Q,(4294967296:Nat)^(y.length - 1)=Q:=⟨_,rfl⟩
 have Y:(4294967296:Nat)^y.length=4294967296*Q:=by
  have e:(4294967296:Nat)^(y.length - 1+1)=4294967296^(y.length - 1)*4294967296:=bo _ _
  rw[show y.length - 1+1=y.length by omega,A,aM]at e
  exact e
 rw[A]at J X
 have Z:2^s*(j.toNat+1)<=4294967296:=by
  have k:2^s*(j.toNat+1)<=2^s*2^nb j.toNat:=bj _ b1
  rw[<-bU,show s+nb j.toNat=32 by omega]at k
  exact k
 have ab:2147483648<=2^s*j.toNat:=by
  have k:2^s*2^(nb j.toNat - 1)<=2^s*j.toNat:=bj _ O
  rw[<-bU,show s+(nb j.toNat - 1)=31 by omega]at k
  exact k
 have ac:2^s*val y<4294967296^y.length:=by
  have k:val y<(j.toNat+1)*Q:=by rw[J,aU,cy,aM Q]; omega
  have B:2^s*val y<2^s*((j.toNat+1)*Q):=eO k (dA s)
  rw[<-aF]at B
  have R:=aT Q Z
  rw[Y]; omega
 have c5:2147483648*Q<=2^s*val y:=by
  have k:=aT Q ab
  have B:2^s*j.toNat*Q<=2^s*val y:=by
   rw[aF]; refine bj _ ?_; rw[J,aM]; omega
  omega
 have c6:0<Q:=by rw[<-A]; exact ew (by decide)
 obtain⟨v,v1,v2,v3⟩:=Gl (List.replicate y.length 0) y s z (by simp; omega) (by simp) (by rw[bq]; exact ac)
 have ap:2^s*val x<4294967296^(x.length+1):=by
  have k:=cv x
  have B:2^s<=4294967296:=cz (Nat.pow_lt_pow_right (a:=2) (m:=s) (n:=32) (by decide) z)
  have R:=aT (val x) B
  rw[bo]; omega
 obtain⟨u,u1,u2,u3⟩:=Gl (List.replicate (x.length+1) 0) x s z (by simp; omega) (by simp) (by rw[bq]; exact ap)
 rw[bq]at v2 u2
 have N:2147483648<=(v.getD (v.length - 1) 0).toNat:=by
  have e:=cK v (v.length - 1)
  rw[show v.length - 1+1=v.length by omega,aA (ax _),v3]at e
  have hl:=cv (v.take (v.length - 1))
  rw[aJ,bf (by omega),show v.length - 1=y.length - 1 by omega,A]at hl
  rw[show v.length - 1=y.length - 1 by omega,A]at e
  rw[show v.length - 1=y.length - 1 by omega]
  rcases bX (v.getD (y.length - 1) 0).toNat 2147483648 with h | h
  ·have:=bj Q (show (v.getD (y.length - 1) 0).toNat<=2147483647 by omega)
   omega
  ·exact h
 have b5:0<val v:=by rw[v3]; omega
 have hk:val u<4294967296^(x.length - y.length+1)*val v:=by
  rw[u3,v3,dF]
  refine eO ?_ (dA s)
  have k:=cv x
  have B:Q<=val y:=by rw[J]; have:=eJ Q (show 0<j.toNat by omega); omega
  have R:=bj (4294967296^(x.length - y.length+1)) B
  rw[<-A,<-bU,show x.length - y.length+1+(y.length - 1)=x.length by omega]at R
  omega
 obtain⟨q',u',l1,l2,l3,l4,l5⟩:=Hy s v (2^s*val x) (by omega) N z b5 (x.length - y.length+1) u (List.replicate (x.length - y.length+1) 0) (List.replicate (y.length+1) 0) (by omega) (by simp) (by omega) (by simp; omega) (by simp; omega)
  (fun i _=>KF _ _) (by rw[gH,u3]; omega) hk
 rw[bq]at l2
 refine⟨q',u',?_,by omega,by omega,?_,?_⟩
 rotate_left
 ·rw[l4,v3,Nat.mul_div_mul_left _ _ (dA s)]
 ·rw[l5,v3,Nat.mul_mod_mul_left,Nat.mul_div_cancel_left _ (dA s)]
 ·have w1:wI ((y.length:Int) - 1)=((y.length - 1:Nat):Int):=by rw[aC (by omega) (by omega)]; omega
  have w2:wI ((x.length:Int)+1)=((x.length+1:Nat):Int):=by rw[aC (by omega) (by omega)]; omega
  have w3:wI ((wI ((x.length:Int) - (v.length:Int)))+1)=((x.length - y.length+1:Nat):Int):=by
   rw[aC (x:=(x.length:Int) - (v.length:Int)) (by omega) (by omega),aC (by omega) (by omega)]; omega
  have w4:wI ((v.length:Int)+1)=((y.length+1:Nat):Int):=by rw[aC (by omega) (by omega)]; omega
  have w5:wI ((((x.length - y.length+1:Nat)):Int) - 1)=((x.length - y.length+1:Nat):Int) - 1:=aC (by omega) (by omega)
  unfold F.Za
  rw[w1,bg (show y.length - 1<y.length by omega) 0,aa,I,V,aa,iK (by omega),aa,am,v1,aa,w2,iK (by omega),aa,am,u1,aa,w3,iK (by omega),aa,
   w4,iK (by omega),aa,am,am,bq,aD,w5,l1,v2]
theorem CV (u:UInt64):F.YX u=some (ar u.toNat):=by
 unfold F.YX
 obtain⟨m,j,y,k⟩:=jJ [u.toUInt32,(bb u 32).toUInt32] (by simp)
 have hu:u.toNat<18446744073709551616:=u.toNat_lt
 have e:val [u.toUInt32,(bb u 32).toUInt32]=u.toNat:=by
  simp only[gD,jy,jA,i9]
  rw[show (2:Nat)^min 32 64=4294967296 from rfl]
  omega
 rw[j,aa,k,e]
theorem Hz {n:Nat} (h:(ar n).length≠0):(ar n).getD ((ar n).length - 1) 0≠0:=by
 intro k
 obtain⟨l,hl⟩:∃l,ar n=l:=⟨_,rfl⟩
 have y:val l=n:=by rw[<-hl,ay]
 rw[hl]at h k
 have e:=cK l (l.length - 1)
 have z0:(0:UInt32).toNat=0:=rfl
 rw[show l.length - 1+1=l.length by omega,aA (ax _),k,z0,cp,bm,y]at e
 have j:=cv (l.take (l.length - 1))
 rw[aJ,bf (by omega),<-e]at j
 have:=bu j
 rw[hl]at this
 omega
theorem l9 (n:Nat):(ar n).length=0↔n=0:=by
 constructor
 ·intro h
  have:=ay n
  rw[bp h]at this
  exact this.symm
 ·intro h; rw[h,cI]; rfl
theorem rq (a b:L00) (ha:a.length<=40000000000000) (hb:b.length<=40000000000000):F.VJ a b=some (if val b=0 then ([],[],60) else (ar (val a / val b),ar (val a%val b),0)):=by
 obtain⟨m,V,h2,X⟩:=iw a (by omega)
 obtain⟨m',Y,h5,Z⟩:=iw b (by omega)
 have la:(ar (val a)).length<=a.length:=bu (cv a)
 have lb:(ar (val b)).length<=b.length:=bu (cv b)
 unfold F.VJ
 rw[V,aa,Y,aa,X,Z]
 by_cases hb0:val b=0
 ·rw[ag (by rw[hb0,cI]; rfl),ag hb0]
 ·have I:(ar (val b)).length≠0:=fun h=>hb0 ((l9 _).1 h)
  rw[ae (by rw[fo]; omega),ae hb0,ka a b (by omega) (by omega),aa]
  unfold eD
  by_cases hl:val a<val b
  ·have J:apO 4 [] (ar (val a))=some (ar (val a)):=by unfold apO; rw[ag (by simp; omega)]; simp
   rw[ag hl,ag (by decide),J,aa,cA hl,az hl,cI]
  ·rw[ae hl,ae (by split <;> decide)]
   have N:(ar (val b)).length<=(ar (val a)).length:=gz (by omega)
   have z:=Hz I
   by_cases h11:(ar (val b)).length=1
   ·have y:val b=((ar (val b)).getD 0 0).toNat:=by
     have e:=cK (ar (val b)) 0
     rw[bk,aA (by omega),ay]at e
     simpa [val] using e
    obtain⟨q,r,A,s2,B,j⟩:=G8 (ar (val a)) ((ar (val b)).getD 0 0) (by rw[<-y]; exact hb0) (by omega)
    rw[ay,<-y]at B j
    obtain⟨k,p1,p2,p3⟩:=jJ q (by omega)
    rw[ag (by rw[fo]; omega),show (0:Int)=((0:Nat):Int) from rfl,bg (show 0<(ar (val b)).length by omega) 0,aa,A,aa]
    dsimp only
    rw[p1,aa,p3,CV,aa,di,B,j]
   ·obtain⟨q,u,A,s2,B,j,G⟩:=IY (ar (val a)) (ar (val b)) (by omega) z N (by omega)
    rw[ay,ay]at j G
    obtain⟨k,p1,p2,p3⟩:=jJ q (by omega)
    obtain⟨k',p4,p5,p6⟩:=jJ (u.take (ar (val b)).length) (by rw[aJ]; omega)
    have O:val (u.take (ar (val b)).length)=val u:=by
     have e:=gG u (ar (val b)).length (by omega)
     have R:val u<4294967296^(ar (val b)).length:=by
      have U:=cv (ar (val b))
      rw[ay]at U
      rw[G]
      exact fZ (bH _ (by omega)) U
     rw[lU R,cp,bm]at e
     exact e.symm
    rw[ae (by rw[fo]; omega),A,aa]
    dsimp only
    rw[p1,aa,p4,aa,p3,p6,O,j,G]
end Go.Gk.Bn
end
section
namespace Go.Gk.Bn
open Go Go.Gk Go.Gk.Sh Go.Gk.Ec Go.Gk.Pr
theorem tf (a:L00) (ha:a.length<=40000000000000):F.Yd a=some (((nb (val a)+31) / 32:Nat):Int):=by
 have j:nb (val a)<=32*a.length:=ba (mz _) (bj 32 (bu (cv a)))
 unfold F.Yd
 rw[jO a (by omega),aa,aC (x:=((nb (val a):Nat):Int)+31) (by omega) (by omega),bJ (by omega),aC (by omega) (by omega)]
 congr 1
def n6 (l:List L00) (m:L00):Int:=if l.any (fun a=>decide (4096<nb (val a))) then 10 else if val m<2 then 60 else 0
theorem uB (l:List L00) (k:Nat) (I:l.length=k+1) (G:k<=100) (hl:∀a∈l,a.length<=40000000000000):F.T4 l=some (n6 l (l.getD k [])):=by
 have A:∀(n i:Nat),i+n=l.length->loop (F.Vu l) (i:Int)=some (n6 (l.drop i) (l.getD k [])):=by
  intro n
  induction n with
  | zero=>
   intro i hi
   have:i=l.length:=by omega
   subst this
   have z:wI ((l.length:Int) - 1)=(k:Int):=by rw[aC (by omega) (by omega)]; omega
   have J:(l.getD k []).length<=40000000000000:=by
    refine hl _ ?_
    rw[an,av (by omega)]
    exact cV _
   refine cb ?_
   unfold F.Vu n6
   dsimp only
   rw[ae (by rw[ak]; omega),z,bg (show k<l.length by omega) [],aa,jO _ (by omega),aa,eH]
   rw[ae (show ¬(List.any [] fun a=>decide (4096<nb (val a)))=true by simp)]
   congr 1
   by_cases h:val (l.getD k [])<2
   ·have:nb (val (l.getD k []))<=1:=lK (k:=1) h
    rw[ag h,ag (ai (by omega))]
   ·rw[ae h,ae]
    rw[ak]
    intro N
    have hb:=(gv (val (l.getD k []))).1
    have O:=aZ (show 0<2 by decide) (show nb (val (l.getD k []))<=1 by omega)
    omega
  | succ n ih=>
   intro i hi
   have z:wI ((i:Int)+1)=((i+1:Nat):Int):=by rw[aC (by omega) (by omega)]; rfl
   obtain⟨a,ha⟩:∃a,l.getD i []=a:=⟨_,rfl⟩
   have j:a.length<=40000000000000:=by
    refine hl _ ?_
    rw[<-ha,an,av (by omega)]
    exact cV _
   have y:l.drop i=a :: l.drop (i+1):=by
    rw[aS (by omega)]
    congr 1
    rw[<-ha,an,av (by omega)]; rfl
   by_cases hb:4096<nb (val a)
   ·refine (cb (X:=some 10) ?_).trans ?_
    ·unfold F.Vu
     dsimp only
     rw[ag (ai (by omega)),bg (show i<l.length by omega) [],aa,ha,tf a j,aa,ag (ai (by omega))]
    ·unfold n6
     rw[y,ag (by simp[hb])]
   ·have B:F.Vu l (i:Int)=some (.inl ((i+1:Nat):Int)):=by
     unfold F.Vu
     dsimp only
     rw[ag (ai (by omega)),bg (show i<l.length by omega) [],aa,ha,tf a j,aa,ae (by rw[ak]; omega),z]; rfl
    rw[bn B,ih (i+1) (by omega)]
    unfold n6
    rw[y,List.any_cons,au hb,Bool.false_or]
 have:=A l.length 0 (by omega)
 rw[dQ]at this
 exact this
theorem ra {a b m:L00} (ha:nb (val a)<=4096) (hb:nb (val b)<=4096) (j:nb (val m)<=4096) (k:2<=val m) (y:a.length<=40000000000000) (z:b.length<=40000000000000) (A:m.length<=40000000000000):F.T4 [a,b,m]=some 0:=by
 rw[uB [a,b,m] 2 rfl (by decide) (by intro x hx; simp at hx; rcases hx with rfl | rfl | rfl <;> assumption)]
 unfold n6
 rw[ae (by simp; omega),ae (by show ¬val m<2; omega)]
theorem kO (a m:L00) (ha:a.length<=40000000000000) (j:m.length<=40000000000000) (h:val m≠0):F.TA a m=some (ar (val a%val m)):=by
 unfold F.TA
 rw[rq a m ha j,ae h,aa]
theorem ut {x y m:Nat} (hx:x<m) (A:y<m) (j:(ar m).length<=1000) (l:L00) (hl:val l=m) (k:l.length<=40000000000000):F.VV (ar x) (ar y) l=some (ar ((m - y+x)%m)):=by
 have lx:(ar x).length<=1000:=ba (gz (by omega)) j
 have B:(ar y).length<=1000:=ba (gz (by omega)) j
 unfold F.VV F.aaz
 rw[tu _ _ (by omega) (by omega),aa,ay,ay]
 by_cases h:x<y
 ·have z:(ar (x+m)).length<=1001:=by
   have G:=lS x m
   have I:=gz (show x<=m by omega)
   omega
  rw[ag h,ag (by rfl),s9 _ _ (by omega) k,aa,ay,hl,tu _ _ (by omega) (by omega),aa,ay,ay,ae (by omega),az (by omega),show x+m - y=m - y+x by omega]
 ·rw[ae h,ae (show ¬(!true)=true by decide),show m - y+x=(x - y)+m by omega,Nat.add_mod_right,az (by omega)]
section
variable (c:Int)
end
section
variable {c:Int}
end
end Go.Gk.Bn
end
section
namespace Go.Gk.Bn
open Go Go.Gk Go.Gk.Sh
theorem CO {m x y:Nat} (k:m%2=1) (h:2*x%m=2*y%m):x%m=y%m:=by
 have j:∀x:Nat,x%m=((m+1) / 2*(2*x%m))%m:=fun x=>by
  rw[Nat.mul_mod_mod,<-aF,show (m+1) / 2*2=m+1 by omega,aU,cy,Nat.mul_add_mod]
 rw[j x,j y,h]
theorem CQ {m x y v:Nat} (h:(x+v)%m=(y+v)%m):x%m=y%m:=by
 rcases bQ m with z | z
 ·subst z; rw[Nat.mod_zero,Nat.mod_zero]at h ⊢; omega
 ·have j:∀x:Nat,x%m=((x+v)%m+v*(m - 1))%m:=fun x=>by
   rw[Nat.mod_add_mod]
   have:x+v+v*(m - 1)=x+v*m:=by
    obtain⟨k,A⟩:∃k,m=k+1:=⟨m - 1,by omega⟩
    rw[A,eG,aE,cE]; omega
   rw[this,gS]
  rw[j x,j y,h]
def oy (x m:Nat):Nat:=if x%2=1 then (x+m) / 2 else x / 2
theorem AJ {x m:Nat} (hx:x<m):oy x m<m:=by unfold oy; split <;> omega
theorem Gj {x m:Nat} (j:m%2=1):2*oy x m%m=x%m:=by
 unfold oy
 split
 ·rw[show 2*((x+m) / 2)=x+m by omega,Nat.add_mod_right]
 ·rw[show 2*(x / 2)=x by omega]
theorem rD {m a u p:Nat} (j:m%2=1) (hu:u%2=0) (h:p*a%m=u%m):oy p m*a%m=u / 2%m:=by
 refine CO j ?_
 rw[<-aF,dI,Gj j,<-dI,h,show 2*(u / 2)=u by omega]
theorem sf {m a u v p q:Nat} (y:q<=m) (z:v<=u) (j:p*a%m=u%m) (k:q*a%m=v%m):(m - q+p)%m*a%m=(u - v)%m:=by
 refine CQ (v:=v) ?_
 rw[show u - v+v=u by omega,<-j,Nat.add_mod,Nat.mod_mul_mod,<-k,<-Nat.add_mod,<-aU,show m - q+p+q=m+p by omega,aU,aM m,Nat.mul_add_mod_self_right]
theorem uO {u v:Nat} (hu:u%2=0) (k:v%2=1):Nat.gcd (u / 2) v=Nat.gcd u v:=by
 apply Nat.dvd_antisymm
 ·refine Nat.dvd_gcd ?_ (gl _ _)
  exact Nat.dvd_trans (jg _ _) ⟨2,by omega⟩
 ·refine Nat.dvd_gcd ?_ (gl _ _)
  have y:Nat.gcd u v ∣ 2*(u / 2):=by rw[show 2*(u / 2)=u by omega]; exact jg _ _
  refine Nat.Coprime.dvd_of_dvd_mul_left ?_ y
  have z:Nat.gcd (Nat.gcd u v) 2 ∣ 2:=gl _ _
  have A:Nat.gcd (Nat.gcd u v) 2 ∣ v:=Nat.dvd_trans (jg _ _) (gl _ _)
  have j:Nat.gcd (Nat.gcd u v) 2 ∣ v%2:=(Nat.dvd_mod_iff z).2 A
  rw[k]at j
  exact Nat.eq_one_of_dvd_one j
theorem xv {u v:Nat} (h:v<=u):Nat.gcd (u - v) v=Nat.gcd u v:=Nat.gcd_sub_self_left h
theorem OY (x:UInt32):((x &&& 1) == 1)=decide (x.toNat%2=1):=by
 have h:(x &&& 1).toNat=x.toNat%2:=by
  rw[UInt32.toNat_and]
  exact Nat.and_one_is_mod _
 by_cases h1:x.toNat%2=1
 ·rw[ai h1,fo]
  apply cM.1
  rw[h,h1]; rfl
 ·rw[au h1]
  apply Bool.eq_false_iff.2
  intro j
  rw[fo]at j
  rw[j]at h
  exact h1 h.symm
theorem mY (l:L00) (hl:l.length<=4611686018427387904):F.TE l 0=some (decide (val l%2=1)):=by
 have w0:wI (Int.tdiv 0 32)=((0:Nat):Int):=by decide
 have t0:Int.tmod 0 32=0:=by decide
 unfold F.TE
 rw[ag (by decide),w0,t0]
 by_cases h:l.length=0
 ·rw[ae (by rw[ak]; omega),bp h]; rfl
 ·rw[ag (ai (by omega)),bg (show 0<l.length by omega) 0,aa,grd_true _ (by decide)]
  have e:dD (l.getD 0 0) (0:Int).toNat=l.getD 0 0:=by
   apply cM.1
   unfold dD
   rw[dr]
   have:=ej (l.getD 0 0)
   rw[show min (0:Int).toNat 32=0 from rfl,gB,Nat.div_one]
   omega
  rw[e,OY]
  congr 2
  match l,h with
  | x :: r,_=>
   rw[gD]
   show (x.toNat%2=1)=((x.toNat+4294967296*val r)%2=1)
   rw[show (x.toNat+4294967296*val r)%2=x.toNat%2 by omega]
theorem te (l:L00) (hl:l.length<=40000000000000):F.TN l 1=some (ar (val l / 2)):=by
 obtain⟨m,z,J,A⟩:=iw l (by omega)
 have N:(ar (val l)).length<=l.length:=bu (cv l)
 have w0:wI (Int.tdiv (max 1 0) 32)=((0:Nat):Int):=by decide
 have B:Int.tmod (max 1 0) 32=((1:Nat):Int):=by decide
 unfold F.TN
 rw[z,aa,A,w0,B]
 by_cases h:(ar (val l)).length=0
 ·have:val l=0:=(l9 _).1 h
  rw[ag (ai (by omega)),this,Nat.zero_div,cI]
 ·have j:apO 4 [] (ar (val l))=some (ar (val l)):=by unfold apO; rw[ag (by simp; omega)]; simp
  obtain⟨G,I,O,y⟩:=uk (ar (val l)) 1 (by decide) (by omega)
  rw[ay,Nat.pow_one]at y
  obtain⟨k,p1,p2,p3⟩:=jJ G (by omega)
  rw[ae (by rw[ak]; omega),oN (by omega),aa,dQ,j,aa,I,aa,p1,aa,p3,y]
theorem DE (x m:L00) (hx:x.length<=1000) (j:m.length<=1000):F.WZ x m=some (ar (oy (val x) (val m))):=by
 have l1:(ar (val x+val m)).length<=1001:=by
  have k:=lS (val x) (val m)
  have y:(ar (val x)).length<=x.length:=bu (cv x)
  have z:(ar (val m)).length<=m.length:=bu (cv m)
  omega
 unfold F.WZ oy
 rw[mY x (by omega),aa]
 by_cases h:val x%2=1
 ·rw[ag (ai h),ag h,s9 x m (by omega) (by omega),aa,te _ (by omega),aa,ay]
 ·rw[ae (by rw[ak]; exact h),ae h,te x (by omega),aa]
def sub3 (m u v p q:Nat):L00×L00×L00×L00:=
 if v<=u then (ar (u - v),ar v,ar ((m - q+p)%m),ar q) else (ar u,ar (v - u),ar p,ar ((m - p+q)%m))
theorem iC {n m k:Nat} (h:n<=m) (j:(ar m).length<=k):(ar n).length<=k:=ba (gz h) j
theorem PB {m a u p:Nat} (I:m%2=1) (z:(ar m).length<=900) (A:u<=m) (hp:p<m) :
  ∀v q,0<v->v<=m->q<m->q*a%m=v%m->∃j k,0<j/\j<=v/\k<m/\k*a%m=j%m/\(u%2=1->Nat.gcd u j=Nat.gcd u v) /\
   loop (F.XZ (ar m) (ar u) (ar p)) (ar v,ar q)=some (.inl (sub3 m u j p k)):=by
 intro v
 induction v using Nat.strongRecOn with
 | _ v ih=>
  intro q J B y h
  have N:=iC B z
  have O:=iC (cz y) z
  have R:=iC A z
  have U:=iC (cz hp) z
  by_cases ho:v%2=1
  ·refine⟨v,q,J,ax _,y,h,fun _=>rfl,?_⟩
   refine bD ?_
   unfold F.XZ sub3
   dsimp only
   rw[mY _ (by omega),aa,ay,ae (by rw[ai ho]; decide),ka _ _ (by omega) (by omega),aa,ay,ay]
   by_cases hc:v<=u
   ·have hz:0<=eD u v:=by
     unfold eD
     rw[ae (by omega)]
     split <;> decide
    rw[ag (ai hz),ag hc,tu _ _ (by omega) (by omega),aa,ay,ay,ae (by omega),ut hp y (by omega) (ar m) (ay m) (by omega),aa]
    rfl
   ·have hz:¬0<=eD u v:=by
     unfold eD
     rw[ag (by omega)]
     decide
    rw[ae (by rw[ak]; exact hz),ae hc,tu _ _ (by omega) (by omega),aa,ay,ay,ae (by omega),ut y hp (by omega) (ar m) (ay m) (by omega),aa]
    rfl
  ·have G:v%2=0:=by omega
   obtain⟨j,k,a1,a2,a3,a4,a5,a6⟩:=ih (v / 2) (by omega) (oy q m) (by omega) (by omega) (AJ y) (rD I G h)
   refine⟨j,k,a1,by omega,a3,a4,fun hu=>?_,?_⟩
   ·rw[a5 hu,fy,uO G hu,fy]
   ·refine Eq.trans (bn ?_) a6
    unfold F.XZ
    dsimp only
    rw[mY _ (by omega),aa,ay,ag (by rw[au ho]; decide),te _ (by omega),aa,ay,DE _ _ (by omega) (by omega),aa,ay,ay]
    rfl
theorem Qj {m a v q:Nat} (N:m%2=1) (z:(ar m).length<=900) (V:0<v) (G:v<=m) (O:q<m) (R:q*a%m=v%m) :
  ∀u p,0<u->u<=m->p<m->p*a%m=u%m->Nat.gcd u v%2=1->∃k j A y,0<k/\k<=u/\A<m/\A*a%m=k%m/\0<j/\j<=v/\y<m/\y*a%m=j%m /\
   Nat.gcd k j=Nat.gcd u v/\loop (F.Zk (ar m) (ar v) (ar q)) (ar u,ar p)=some (.inl (sub3 m k j A y)):=by
 intro u
 induction u using Nat.strongRecOn with
 | _ u ih=>
  intro p hu I hp h hg
  have lv:=iC G z
  have lq:=iC (cz O) z
  have lu:=iC I z
  have lp:=iC (cz hp) z
  by_cases ho:u%2=1
  ·obtain⟨j,y,a1,a2,a3,a4,a5,a6⟩:=PB (a:=a) N z I hp v q V G O R
   refine⟨u,j,p,y,hu,ax _,hp,h,a1,a2,a3,a4,a5 ho,?_⟩
   refine cb ?_ |>.trans a6
   unfold F.Zk
   dsimp only
   rw[mY _ (by omega),aa,ay,ae (by rw[ai ho]; decide)]
  ·have B:u%2=0:=by omega
   have J:v%2=1:=by
    apply gZ
    intro hc
    have d1:2 ∣ Nat.gcd u v:=Nat.dvd_gcd (eY B) (eY (by omega))
    omega
   obtain⟨k,j,A,y,b1,b2,X,Y,Z,b6,b7,b8,b9,U⟩:=ih (u / 2) (by omega) (oy p m) (by omega) (by omega) (AJ hp) (rD N B h) (by rw[uO B J]; exact hg)
   refine⟨k,j,A,y,b1,by omega,X,Y,Z,b6,b7,b8,by rw[b9,uO B J],?_⟩
   refine Eq.trans (bn ?_) U
   unfold F.Zk
   dsimp only
   rw[mY _ (by omega),aa,ay,ag (by rw[au ho]; decide),te _ (by omega),aa,ay,DE _ _ (by omega) (by omega),aa,ay,ay]
   rfl
theorem HD {m a:Nat} (hm:m%2=1) (V:(ar m).length<=900):∀n u v p q,u+v<=n->u<=m->0<v->v<=m->p<m->q<m->p*a%m=u%m->q*a%m=v%m->Nat.gcd u v%2=1 ->
  ∃x,x<m/\x*a%m=Nat.gcd u v%m/\loop (F.W8 (ar m)) (ar u,ar v,ar p,ar q)=some (ar (Nat.gcd u v),ar x):=by
 intro n
 induction n with
 | zero=>intro u v p q h1 h2 h3; omega
 | succ n ih=>
  intro u v p q hn G hv X hp Y Z I hg
  have lu:=iC G V
  by_cases hu:u=0
  ·subst hu
   rw[Nat.gcd_zero_left]
   refine⟨q,Y,I,?_⟩
   refine bD ?_
   unfold F.W8
   dsimp only
   rw[jO _ (by omega),aa,ay,kS]
   rfl
  ·obtain⟨j,k,A,B,b1,b2,b3,N,b5,b6,b7,O,R,ab⟩:=Qj (a:=a) hm V hv X Y I u p (by omega) G hp Z hg
   have hs:F.W8 (ar m) (ar u,ar v,ar p,ar q)=some (.inl (sub3 m j k A B)):=by
    unfold F.W8
    dsimp only
    have:=(gv u).2 hu
    rw[jO _ (by omega),aa,ay,ag (ai (by omega)),ab]
   have J:0<m:=by omega
   rw[bn hs]
   unfold sub3
   by_cases hc:k<=j
   ·rw[ag hc]
    obtain⟨x,U,y,z⟩:=ih (j - k) k ((m - B+A)%m) B (by omega) (by omega) b5 (by omega) (bH _ J) b7 (sf (by omega) hc N O) O (by rw[xv hc,R]; exact hg)
    rw[xv hc,R]at y z
    exact⟨x,U,y,z⟩
   ·rw[ae hc]
    have e:Nat.gcd j (k - j)=Nat.gcd u v:=by rw[fy,xv (by omega),fy,R]
    obtain⟨x,U,y,z⟩:=ih j (k - j) A ((m - A+B)%m) (by omega) (by omega) (by omega) (by omega) b3 (bH _ J) N (sf (by omega) (by omega) O N) (by rw[e]; exact hg)
    rw[e]at y z
    exact⟨x,U,y,z⟩
theorem Gp (a:L00) (m:Nat) (y:1<m) (z:m%2=1) (N:nb m<=4096) (A:(ar m).length<=900) (O:nb (val a)<=4096) (B:a.length<=40000000000000) (hg:Nat.gcd (val a) m=1) :
  ∃w,w<m/\val a*w%m=1/\F.Ux a (ar m)=some (ar w,0):=by
 have hw:F.T4 [a,ar m]=some 0:=by
  have hl:∀x∈[a,ar m],x.length<=40000000000000:=by
   intro x hx
   simp only[aG,aR,bE]at hx
   rcases hx with h | h
   ·rw[h]; exact B
   ·rw[h]; omega
  rw[uB [a,ar m] 1 rfl (by decide) hl]
  unfold n6
  rw[ae]
  ·rw[show [a,ar m].getD 1 []=ar m from rfl,ay,ae (by omega)]
  ·simp only[List.any_cons,List.any_nil,Bool.or_false,fD,ak,ay]
   omega
 have j:Nat.gcd (val a%m) m=1:=by rw[<-hg,<-Nat.gcd_rec,fy]
 obtain⟨x,k,G,I⟩:=HD (a:=val a%m) z A (val a%m+m) (val a%m) m 1 0 (ax _) (cz (bH _ (by omega))) (by omega) (ax _) y (by omega) (by rw[cy]) (by rw[fu,Nat.mod_self,jB]) (by rw[j])
 rw[j,az y]at G
 rw[j]at I
 have l1:ar 1=[1]:=by rw[kZ (by decide),show 1 / 4294967296=0 by decide,cI]; rfl
 refine⟨x,k,?_,?_⟩
 ·rw[<-G,aM,Nat.mul_mod_mod]
 ·have lx:=iC (cz k) A
  unfold F.Ux
  rw[hw,aa,ae (by decide),kO a _ B (by omega) (by rw[ay]; omega),ay,aa,mY _ (by omega),ay,aa,ag (ai z)]
  have J:F.Vf (ar (val a%m)) (ar m)=some ([1],ar x):=by
   unfold F.Vf
   rw[<-l1,<-cI]at *
   exact I
  rw[J,aa]
  dsimp only
  rw[ka _ _ (by decide) (by decide),yB,aa,ae (by decide),kO _ _ (by omega) (by omega) (by rw[ay]; omega),ay,ay,az k,aa]
end Go.Gk.Bn
end
section
namespace Go.Gk.Bn
open Go Go.Gk Go.Gk.Sh Go.Gk.Ec Go.Gk.Pr
theorem nA {n:Nat} (h:nb n<=4096):(ar n).length<=128:=by
 have j:=(gv n).1
 have k:=aZ (show 0<2 by decide) (show nb n<=32*128 by omega)
 refine bu ?_
 rw[show (4294967296:Nat)=2^32 from rfl,<-cu]
 exact aW j k
theorem xF (a b:L00) (m:Nat) (y:1<m) (z:nb m<=4096) (ha:nb (val a)<=4096) (hb:nb (val b)<=4096) (A:a.length<=40000000000000) (B:b.length<=40000000000000) (G:(ar m).length<=900) :
  F.V9 a b (ar m)=some (ar (val a*val b%m),0):=by
 have l1:=nA ha
 have I:=nA hb
 have hs:(ar (val a*val b)).length<=256:=bu (by
  have j:=cv (ar (val a)); have k:=cv (ar (val b))
  rw[ay]at j k
  have:=Nat.mul_lt_mul'' j k
  rw[<-bU]at this
  exact aW this (aZ (by decide) (by omega)))
 unfold F.V9
 rw[ra ha hb (by rw[ay]; omega) (by rw[ay]; omega) (by omega) (by omega) (by omega),aa,ae (by decide),Ee _ _ (by omega) (by omega) (by omega),aa,
  kO _ _ (by omega) (by omega) (by rw[ay]; omega),aa,ay,ay]
theorem qT (c:Int):1<cN c/\nb (cN c)<=4096/\(ar (cN c)).length<=12/\cN c<cP c/\cP c<4294967296^12:=by
 have h:=kC c
 have l:=tl c (cz h.2.2.1)
 exact⟨(A9 c).1,ba (Lj l) (by decide),l,h.2.2.1,h.1⟩
theorem OD (c:Int):cN c%2=1:=by
 unfold cN
 split <;> decide +kernel
theorem OA {c:Int} {s:Nat} (j:0<s) (h:s<cN c):Nat.gcd s (cN c)=1:=by
 rw[fy]
 exact (A9 c).coprime fun hd=>by have:=gi j hd; omega
theorem oY {c:Int} {s:Nat} (h:s<cN c):nb s<=384:=by
 have j:=Lj (iC (cz h) (qT c).2.2.1)
 omega
theorem vU {n s w v:Nat} (hw:w<n) (k:v<n) (y:s*w%n=1) (z:s*v%n=1):w=v:=by
 have A:s*w*v%n=v%n:=by rw[dI,y,cy,jk]
 have j:s*w*v%n=w%n:=by rw[show s*w*v=(s*v)*w by rw[aF,aM w,<-aF],dI,z,cy,jk]
 rw[A,az k,az hw]at j
 exact j.symm
open Classical in
noncomputable def r9 (c:Int) (s:Nat):Nat:=if h:∃w,w<cN c/\s*w%cN c=1 then Classical.choose h else 0
theorem MR {c:Int} {s w:Nat} (hw:w<cN c) (h:s*w%cN c=1):r9 c s=w:=by
 have hx:∃w,w<cN c/\s*w%cN c=1:=⟨w,hw,h⟩
 unfold r9
 rw[dif_pos hx]
 have j:=gR hx
 exact vU j.1 hw j.2 h
theorem M0 {c:Int} {s:Nat} (l:L00) (hl:val l=s) (j:l.length<=40000000000000) (k:0<s) (h:s<cN c):r9 c s<cN c/\s*r9 c s%cN c=1/\F.Ux l (ar (cN c))=some (ar (r9 c s),0):=by
 obtain⟨n1,y,z,_,_⟩:=qT c
 have hb:=oY h
 obtain⟨w,a1,a2,a3⟩:=Gp l (cN c) n1 (OD c) y (by omega) (by rw[hl]; omega) j (by rw[hl]; exact OA k h)
 rw[hl]at a2
 rw[MR a1 a2]
 exact⟨a1,a2,a3⟩
abbrev isH (a:Int):Prop:=a=1\/a=2\/a=3
theorem uL (a:Int):F.Tr a=some (if isH a then ((Sz a:Nat):Int) else 0):=by
 unfold F.Tr isH
 by_cases h1:a=1
 ·subst h1; rfl
 ·by_cases h2:a=2
  ·subst h2; rfl
  ·by_cases h3:a=3
   ·subst h3; rfl
   ·rw[ae (by simpa using h1),ae (by simpa using h2),ae (by simpa using h3),ae (by omega)]
theorem nq (a:Int):32<=Sz a/\Sz a<=64:=by unfold Sz; split; decide; split <;> decide
theorem mV (a:Int) (D:L01):(gk a D).length=Sz a:=by
 unfold gk si
 split
 ·rename_i h
  unfold zv
  have:=fG (fun i (x:L01)=>x.length=4*i) (fun x i=>x++q32 (((oq a (H0 a) (D++nB (Bk a) D) ((D++nB (Bk a) D).length / Bk a)).1).getD i 0)) (fun i x hx=>by simp only[aQ,q32,bY,dK,hx]; omega) 8 0 [] rfl
  refine Eq.trans this ?_
  unfold Sz
  rw[ag h]
 ·rename_i h
  rw[aJ,ya]; unfold Sz; rw[ae h]; split <;> rfl
def zN (h c:Int) (m:L01):Nat:=beN ((gk h m).take (nS c))
theorem xI (h:Int) (hh:isH h) (m:L01) (j:m.length<=900000000000000):F.Tq h [m]=some (gk h m):=by
 rw[li h hh [m] (by simp) (by simpa using j)]
 simp
theorem Fx (h c:Int) (hh:isH h) (hc:isC c) (m:L01) (k:m.length<=900000000000000):F.Yp h c m=some (ar (zN h c m)):=by
 obtain⟨n1,z,A⟩:=nS4 c
 have hl:=mV h m
 have hz:=nq h
 have e:(min ((gk h m).length:Int) ((nS c:Nat):Int)).toNat=min (Sz h) (nS c):=by omega
 have y:(gk h m).take (min (Sz h) (nS c))=(gk h m).take (nS c):=by
  rcases Nat.le_total (nS c) (Sz h) with j | j
  ·rw[Nat.min_eq_right j]
  ·rw[bf j,aA (by omega),aA (by omega)]
 unfold F.Yp zN
 rw[xI h hh m k,aa,Dr,aa,ag hc,EM,e,grd_true _ ⟨by omega,by omega⟩,y,fx _ (by rw[aJ]; omega),aa]
theorem JS (l:L01):nb (beN l)<=8*l.length:=lK (by rw[<-K2]; exact lF l)
theorem QN (h c:Int) (m:L01):nb (zN h c m)<=512/\(ar (zN h c m)).length<=100:=by
 have hl:=mV h m
 have hz:=nq h
 have l1:((gk h m).take (nS c)).length<=64:=by rw[aJ]; omega
 have j:zN h c m<256^64:=aW (lF _) (aZ (by decide) l1)
 have k:nb (zN h c m)<=8*_:=JS _
 refine⟨by omega,bu (aW j (by decide +kernel))⟩
theorem x8 (a n:L00) (j:a.length<=100000000000000) (ln:n.length<=100000000000000):F.Wx a n=some (decide (0<val a/\val a<val n)):=by
 unfold F.Wx
 rw[jO a j,aa]
 by_cases h:val a=0
 ·rw[h,kS,ae (by decide),au (by omega)]
 ·have:=(gv (val a)).2 h
  rw[ag (ai (by omega)),ka a n (by omega) (by omega),aa]
  unfold eD
  by_cases h2:val a<val n
  ·rw[ag h2,ai (show 0<val a/\val a<val n by omega)]; rfl
  ·rw[ae h2,au (show ¬(0<val a/\val a<val n) by omega)]
   split <;> rfl
theorem Kl (a b:Nat):(eD a b == 0)=decide (a=b):=by
 unfold eD
 by_cases h:a<b
 ·rw[ag h,au (by omega)]; rfl
 ·rw[ae h]
  by_cases h2:a=b
  ·rw[ag h2,ai h2]; rfl
  ·rw[ae h2,au h2]; rfl
theorem NS (X Y:L00) (j:Bool) (r n:L00) (k:X.length<=40000000000000) (y:r.length<=40000000000000) (ln:n.length<=40000000000000) (hn:val n≠0) :
  F.VQ X Y j r n=some (!j&&decide (val X%val n=val r)):=by
 unfold F.VQ
 cases j with
 | true=>rfl
 | false=>
  have l1:(ar (val X%val n)).length<=X.length:=iC (Nat.mod_le _ _) (bu (cv X))
  rw[ae (by decide),rq X n k ln,ae hn,aa]
  dsimp only
  rw[ka _ _ (by omega) (by omega),aa,ay,Kl]
  rfl
def IS {c:Int} (P:Pt (cP c)) (r:Nat):Bool:=match P with
 | none=>false
 | some (x,_)=>decide (x.val%cN c=r)
theorem JH {c:Int} (P:Pt (cP c)) (r:L00) (j:r.length<=40000000000000):F.VQ (rep P).1 (rep P).2.1 (rep P).2.2 r (ar (cN c))=some (IS P (val r)):=by
 obtain⟨n1,k,z,_,_⟩:=qT c
 have hl:(rep P).1.length<=12:=by
  cases P with
  | none=>exact ft _
  | some q=>obtain⟨x,y⟩:=q; exact Bv c x
 rw[NS _ _ _ _ _ (by omega) j (by omega) (by rw[ay]; omega)]
 cases P with
 | none=>rfl
 | some q=>
  obtain⟨x,y⟩:=q
  show some (!false&&decide (val (rl x)%val (ar (cN c))=val r))=some (decide (x.val%cN c=val r))
  rw[AX,ay]
  rfl
def inN (c:Int) (r:Nat):Prop:=0<r/\r<cN c
instance (c:Int) (r:Nat):Decidable (inN c r):=inferInstanceAs (Decidable (0<r/\r<cN c))
theorem Nm {c:Int} {x y:L01} (h:(oh c x y).2.2.2=0):isC c/\oh c x y=(ar (beN x),ar (beN y),false,0)/\onS c (ar (beN x)) (ar (beN y)) false=true/\x.length=nS c/\y.length=nS c:=by
 unfold oh at h ⊢
 split at h
 ·rename_i hc
  rw[ag hc]
  refine⟨hc.1,rfl,?_,hc.2.1,hc.2.2.1⟩
  unfold onS
  rw[ag hc.1,ay,ay]
  exact hc.2.2.2
 ·exact absurd h (by decide)
theorem G1 (b:Bool):F.aaq b=some (if b=true then 91 else 0):=by cases b <;> rfl
theorem wi {l:L01} {k:Nat} (h:l.length<=k) (y:k<=48):(ar (beN l)).length<=100:=by
 have j:beN l<256^48:=aW (lF l) (aZ (by decide) (by omega))
 exact bu (aW j (by decide +kernel))
noncomputable def dV {c:Int} (Q:Pt (cP c)):L01×L01×Int:=match Q with
 | none=>([],[],91)
 | some (x,y)=>(beB (nS c) x.val,beB (nS c) y.val,0)
theorem H9 (a:L00) (m:Nat) (ha:a.length<=35184372087808) (A:m<=16384) (y:val a<256^m):F.Ur a (m:Int)=some (beB m (val a),true):=by
 have hb:nb (val a)<=32*a.length:=ba (mz _) (bj 32 (bu (cv a)))
 have B:(nb (val a)+7) / 8<=m:=GZ y
 obtain⟨k,z,G,v3⟩:=iw a (by omega)
 have hl:(ar (val a)).length<=a.length:=bu (cv a)
 have j:mkO 1 (m:Int) (m:Int) (0:UInt8)=some (List.replicate m 0):=by
  unfold mkO
  rw[ag ⟨by omega,by omega,by omega,by omega⟩,am]
 unfold F.Ur
 rw[ae (by rw[ak]; omega),ae (by rw[ak]; omega),jO a (by omega),aa,aC (x:=((nb (val a):Nat):Int)+7) (by omega) (by omega),bJ (by omega),aC (by omega) (by omega),
  au (show ¬(m:Int)<(((nb (val a):Nat):Int)+7) / 8 by omega)]
 unfold F.Yj
 rw[ae (by decide),j,aa,z,aa,v3,El _ _ (by rw[bq]; omega) (by omega),aa,bq,ay]
def kN (c:Int):Nat:=(ar (cP c)).length
def B2 (c:Int):Nat:=4294967296^(2*kN c)
def muN (c:Int):Nat:=B2 c / cP c
theorem IB (c:Int):1<=kN c/\kN c<=12/\(ar (muN c)).length<=25/\0<cP c:=by
 have h:=kC c
 have l:=tl c (ax (cP c))
 have j:(ar (cP c)).length≠0:=fun q=>by have:=(l9 _).1 q; omega
 refine⟨by unfold kN; omega,l,?_,by omega⟩
 unfold muN B2
 refine bu (dw (dy _ _) ?_)
 exact Nat.pow_lt_pow_right (by decide) (by unfold kN; omega)
section
variable (c:Int)
theorem a12 (m:L00) (k:Int) (u v:Fin (cP c)):F.abU (ar (cP c)) m k (rl u) (rl v)=some (rl (u+v)):=by
 have hp:=(IB c).2.2.2
 have l:=tl c (ax (cP c))
 have l1:=Bv c u; have j:=Bv c v
 have hs:(ar (u.val+v.val)).length<=13:=by
  have:=lS u.val v.val
  unfold rl at l1 j
  omega
 have hu:=u.isLt; have y:=v.isLt
 unfold F.abU
 rw[NA _ _ (by omega) (by omega),aa,AX,AX,M6 _ _ (by omega) (by omega),aa,ay,ay]
 have e:rl (u+v)=ar ((u.val+v.val)%cP c):=rfl
 rw[e]
 by_cases h:u.val+v.val<cP c
 ·have hz:¬0<=eD (u.val+v.val) (cP c):=by unfold eD; rw[ag h]; decide
  rw[ae (by rw[ak]; exact hz),az h]
 ·have hz:0<=eD (u.val+v.val) (cP c):=by unfold eD; rw[ae h]; split <;> decide
  rw[ag (ai hz),J8 _ _ (by omega) (by rw[ay,ay]; omega),aa,ay,ay,Nat.mod_eq_sub_mod (by omega),az (by omega)]
abbrev T3F (c:Int):=Fin (cP c)×Fin (cP c)×Fin (cP c)
def r3 (t:T3F c):L00×L00×L00:=(rl t.1,rl t.2.1,rl t.2.2)
end
end Go.Gk.Bn
end
section
namespace Go.Gk.Ec
variable {p:Nat} [NeZero p] {a b:Fin p}
noncomputable def wq (a:Fin p) (P Q:Pt p) (x y:Bool):Pt p:=if x&&y then add a P Q else if y then Q else if x then P else none
noncomputable def jq (a:Fin p) (P Q:Pt p) (m n:Nat):Nat->Pt p->Pt p
 | 0,T=>T
 | i+1,T=>jq a P Q m n i (add a (add a T T) (wq a P Q (decide (m / 2^i%2=1)) (decide (n / 2^i%2=1))))
theorem QP (C:Fld p) {P Q:Pt p} (hP:On a b P) (j:On a b Q) (x y:Bool):On a b (wq a P Q x y):=by
 unfold wq
 split
 ·exact C.on_add hP j
 ·split
  ·exact j
  ·split
   ·exact hP
   ·trivial
end Go.Gk.Ec
end
section
namespace Go.Gk.Bn
open Go Go.Gk Go.Gk.Sh Go.Gk.Ec Go.Gk.Pr
theorem Lf {c:Int} (hc:isC c) {q:J3 c} (j:On (-3) (bF c) (jpt q)) (x y:Bool):jpt (whJ c q x y)=wq (-3) (gP c) (jpt q) x y:=by
 have hg:=LJ c hc
 unfold whJ wq
 cases x <;> cases y
 ·exact lB _ _
 ·rfl
 ·show jpt (gJ c)=_
  rw[ES]; rfl
 ·show jpt (p8 _ _ _ _ _ _)=_
  rw[D3 (b:=bF c) (sO c) _ _ (by rw[ES]; exact hg) j,ES]
  rfl
theorem H7 {c:Int} (hc:isC c) (m n:Nat) {q:J3 c} (j:On (-3) (bF c) (jpt q)):∀(i:Nat) (t:J3 c),On (-3) (bF c) (jpt t)->jpt (xa c m n q i t)=jq (-3) (gP c) (jpt q) m n i (jpt t)
 | 0,t,h=>rfl
 | i+1,t,h=>by
  have hw:=QP (sO c) (LJ c hc) j (decide (m / 2^i%2=1)) (decide (n / 2^i%2=1))
  have e:=KX (b:=bF c) (sO c) h (q:=whJ c q (decide (m / 2^i%2=1)) (decide (n / 2^i%2=1))) (by rw[Lf hc j]; exact hw) true
  rw[ag rfl,Lf hc j]at e
  unfold xa
  rw[H7 hc m n j i _ (by rw[e]; exact (sO c).on_add ((sO c).on_add h h) hw),e]
  rfl
noncomputable def JQ {c:Int} (P Q:Pt (cP c)) (m n:Nat):Pt (cP c):=jq (-3) P Q m n (max (nb m) (nb n)) none
theorem LV {c:Int}:On (-3) (bF c) (jpt ((0,0,0):J3 c)):=by
 have:jpt ((0,0,0):J3 c)=none:=lB _ _
 rw[this]; trivial
theorem Nw {c:Int} {a k X Y:L00} {q:Bool} (y:onS c X Y q=true) (hb:nb (val a)<=1024) (z:nb (val k)<=1024) (ha:a.length<=35184372087808) (I:k.length<=35184372087808) (hX:X.length<=35184372087808) (J:Y.length<=35184372087808) :
  F.ZH c a k X Y q=some (res (JQ (gP c) (ue c X Y q) (val a) (val k))):=by
 have n1:¬(!true)=true:=by decide
 have hc:=E2 y
 unfold F.ZH
 rw[Jh c X Y q hX J,aa,yr a ha,yr k I,ag hc]
 dsimp only[gW]
 rw[y,ae n1,aa,aa]
 dsimp only
 rw[ai hb,ae n1,ai z,Qd y]
 show F.YO (gQ c (jT c X Y q)) _ _ _=_
 unfold F.YO
 dsimp only
 rw[ae n1,mZ 1 (by decide) (by decide),aa]
 have j:=QJ c (gJ c) (jT c X Y q)
 have A:=Ei c (jT c X Y q)
 rw[<-A]at j
 rw[show F.Uu (gQ c (jT c X Y q)).1 (gQ c (jT c X Y q)).2.1 (gQ c (jT c X Y q)).2.2.1 (gQ c (jT c X Y q)).2.2.2.1 (gQ c (jT c X Y q)).2.2.2.2.1 (gQ c (jT c X Y q)).2.2.2.2.2.1 (gQ c (jT c X Y q)).2.2.2.2.2.2.1 (gQ c (jT c X Y q)).2.2.2.2.2.2.2.1 (gQ c (jT c X Y q)).2.2.2.2.2.2.2.2.1 (gQ c (jT c X Y q)).2.2.2.2.2.2.2.2.2.1 (gQ c (jT c X Y q)).2.2.2.2.2.2.2.2.2.2.1
  (gQ c (jT c X Y q)).2.2.2.2.2.2.1 (gQ c (jT c X Y q)).2.2.2.2.2.2.2.1 (gQ c (jT c X Y q)).2.2.2.2.2.2.2.2.1 (gQ c (jT c X Y q)).2.2.2.2.2.2.2.2.2.1 (bi 1).1 (bi 1).2
  (gQ c (jT c X Y q)).2.2.2.2.2.2.2.2.2.2.2.1 (gQ c (jT c X Y q)).2.2.2.2.2.2.2.2.2.2.2.2.1 (gQ c (jT c X Y q)).2.2.2.2.2.2.2.2.2.2.2.2.2.1 (gQ c (jT c X Y q)).2.2.2.2.2.2.2.2.2.2.2.2.2.2.1 (gQ c (jT c X Y q)).2.2.2.2.2.2.2.2.2.2.2.2.2.2.2.1 (gQ c (jT c X Y q)).2.2.2.2.2.2.2.2.2.2.2.2.2.2.2.2=_ from j,aa]
 unfold F.Ud
 have O:=DV hb; have lk:=DV z
 rw[aa,yK _ (by omega),aa,yK _ (by omega),aa]
 have B:wI (max ((nb (val a):Nat):Int) ((nb (val k):Nat):Int) - 1)=((max (nb (val a)) (nb (val k)):Nat):Int) - 1:=by
  rw[aC (by omega) (by omega)]; omega
 rw[B]
 have hl:=uY c (val a) (val k) (by omega) (by omega) (jT c X Y q) true true (max (nb (val a)) (nb (val k))) (0,0,0) (by omega)
 rw[Dv]at hl
 refine hl.trans ?_
 have G:On (-3) (bF c) (jpt (jT c X Y q)):=by rw[Ll]; exact PP y
 have N:jpt ((0,0,0):J3 c)=none:=lB _ _
 rw[H7 hc _ _ G _ _ LV,Ll,N]
 rfl
theorem LY {τ:Type} (l:List τ) (i r:Nat) (v:τ) (h:i+(r+1)=l.length):(l.set i v).take (i+1)++List.replicate r v=l.take i++List.replicate (r+1) v:=by
 rw[List.take_set,List.take_add_one,av (by omega)]
 have hl:(l.take i).length=i:=by rw[aJ]; omega
 rw[dX _ _ (by omega),hl,Nat.sub_self]
 show l.take i++[v]++_=_
 rw[aN]
 rfl
theorem yH {τ ρ:Type} [Inhabited τ] {f:Int×List τ->Option ((Int×List τ)⊕ρ)} {X:List τ->Option ρ} (v:τ)
  (hf:∀i l,f (i,l)=if (decide (i<(l.length:Int)))=true then (af (aw l (i:Int)) fun _=>bv (l.set (i:Int).toNat v) fun x=>bM (wI (i+1),x)) else bc (X l)) :
  ∀(r i:Nat) (l:List τ),i+r=l.length->l.length<=4611686018427387904->loop f ((i:Int),l)=X (l.take i++List.replicate r v)
 | 0,i,l,h,hl=>by
  refine cb ?_
  rw[hf,ae (by rw[ak]; omega),aA (by omega),List.replicate_zero,bP]
 | r+1,i,l,h,hl=>by
  have w:wI ((i:Int)+1)=((i+1:Nat):Int):=by rw[aC (by omega) (by omega)]; omega
  have hs:f ((i:Int),l)=some (.inl (((i+1:Nat):Int),l.set i v)):=by
   rw[hf,ag (ai (by omega)),bg (show i<l.length by omega) v,aa,aD,am,w]
   rfl
  rw[bn hs,yH v hf r (i+1) (l.set i v) (by rw[dJ]; omega) (by rw[dJ]; exact hl),LY l i r v h]
theorem wz (b:L00) (hb:b.length<=35184372087808):F.abT b=some (b++List.replicate 4 2779096485,b.length):=by
 have k:wI ((b.length:Int)+4)=((b.length+4:Nat):Int):=by rw[aC (by omega) (by omega)]; omega
 have j:mkO 4 ((b.length+4:Nat):Int) ((b.length+4:Nat):Int) (0:UInt32)=some (List.replicate (b.length+4) 0):=by
  unfold mkO
  rw[ag ⟨by omega,by omega,by omega,by omega⟩,am]
 have hc:cpL (List.replicate (b.length+4) (0:UInt32)) b 0 (List.replicate (b.length+4) (0:UInt32)).length=b++List.replicate 4 0:=by
  unfold cpL
  rw[bq,f9,bf (by omega),fX,bN,aA (by omega),bk,List.drop_replicate,dt]
 unfold F.abT
 rw[k,j,aa,aD,hc,yH (f:=F.abE b) (X:=fun l=>grd (0<=((b.length:Int):Int)/\((b.length:Int):Int).toNat<=l.length) (some (l,((b.length:Int):Int).toNat))) 2779096485 (fun i l=>rfl) 4 b.length _ (by simp) (by simp; omega)]
 rw[fE rfl,grd_true _ ⟨by omega,by simp⟩,am]
noncomputable def okJ {c:Int} (z r s:Nat) (Q:Pt (cP c)):Bool:=IS (JQ (gP c) Q (z*r9 c s%cN c) (r*r9 c s%cN c)) r
noncomputable def IF (h c:Int) (x y m sig:L01):Int:=
 if ¬isH h then 111 else if ¬((oh c x y).2.2.2=0) then 90 else if ¬(sig.length=2*nS c) then 91 else
 if ¬(inN c (beN (sig.take (nS c)))/\inN c (beN (sig.drop (nS c)))) then 91 else
 if okJ (zN h c m) (beN (sig.take (nS c))) (beN (sig.drop (nS c))) (ue c (oh c x y).1 (oh c x y).2.1 (oh c x y).2.2.1)=true then 0 else 91
theorem Js (h c:Int) (x y m j:L01) (hm:m.length<=900000000000000) (hs:j.length<=140737488351232):F.XY h c x y m j=some (IF h c x y m j):=by
 obtain⟨n1,z,n3⟩:=nS4 c
 obtain⟨J,N,G,c4,c5⟩:=qT c
 unfold F.XY IF
 rw[uL,aa]
 by_cases hh:isH h
 ·have hz:=nq h
  rw[ag hh,ae (show ¬(((Sz h:Nat):Int) == 0)=true by rw[fo]; omega),ae (not_not_intro hh),xN,aa]
  by_cases hd:(oh c x y).2.2.2=0
  ·obtain⟨hc,d1,d2,d3,d4⟩:=Nm hd
   rw[ae (by rw[hd]; decide),ae (not_not_intro hd),Dr,aa,Ja,aa,ag hc,ag hc,EM,show wI (2*((nS c:Nat):Int))=((2*nS c:Nat):Int) by rw[aC (by omega) (by omega)]; omega]
   by_cases hl:j.length=2*nS c
   ·have O:(j.take (nS c)).length=nS c:=by rw[aJ]; omega
    have R:(j.drop (nS c)).length=nS c:=by rw[ca]; omega
    have b1:=wi (Nat.le_of_eq O) z
    have b2:=wi (Nat.le_of_eq R) z
    have U:slO j ((nS c:Nat):Int) ((2*nS c:Nat):Int)=some (j.drop (nS c)):=by
     unfold slO
     rw[ag ⟨by omega,by omega,by omega⟩,am,am,aA (by omega)]
    rw[ae (by rw[hl]; simp),grd_true _ ⟨by omega,by omega,rfl⟩,U,aa,am,fx _ (by omega),aa,fx _ (by omega),aa,x8 _ _ (by omega) (by omega),aa,ay,ay,
     ae (not_not_intro hl)]
    have A:∀(x2:L00×L00×Bool×Int) (V X Y:L00),F.YU h c m x2 V X Y true=some 91:=fun _ _ _ _=>rfl
    by_cases hr:inN c (beN (j.take (nS c)))
    ·have B:0<beN (j.take (nS c))/\beN (j.take (nS c))<cN c:=hr
     rw[ai B,ae (by decide),x8 _ _ (by omega) (by omega),aa,ay,ay]
     by_cases hs2:inN c (beN (j.drop (nS c)))
     ·have k:0<beN (j.drop (nS c))/\beN (j.drop (nS c))<cN c:=hs2
      rw[ai k,ae (not_not_intro ⟨hr,hs2⟩)]
      obtain⟨I,w2,Z⟩:=M0 (c:=c) (ar (beN (j.drop (nS c)))) (ay _) (by omega) k.1 k.2
      generalize hw:r9 c (beN (j.drop (nS c)))=w at I w2 Z
      have nw:=oY I
      have lw:=iC (cz I) G
      have nr:=oY B.2
      obtain⟨z1,z2⟩:=QN h c m
      have m1:zN h c m*w%cN c<cN c:=bH _ (by omega)
      have m2:beN (j.take (nS c))*w%cN c<cN c:=bH _ (by omega)
      have b5:=oY m1; have b6:=oY m2
      have b7:=iC (cz m1) G; have b8:=iC (cz m2) G
      unfold F.YU
      rw[ae (by decide),Z,aa,Fx h c hh hc m hm,aa]
      dsimp only
      rw[xF _ _ _ J N (by rw[ay]; omega) (by rw[ay]; omega) (by omega) (by omega) (by omega),aa]
      rw[xF _ _ _ J N (by rw[ay]; omega) (by rw[ay]; omega) (by omega) (by omega) (by omega),aa,ay,ay,ay,d1]
      dsimp only
      rw[Nw d2 (by rw[ay]; omega) (by rw[ay]; omega) (by omega) (by omega) (by have:=wi (Nat.le_of_eq d3) z; omega) (by have:=wi (Nat.le_of_eq d4) z; omega),aa,ay,ay]
      show (if ((0:Int) != 0)=true then _ else af (F.VQ (rep _).1 (rep _).2.1 (rep _).2.2 _ _) _)=_
      rw[ae (by decide),JH _ _ (by omega),aa,G1,ay]
      unfold okJ
      rw[hw]
      cases IS (JQ (gP c) (ue c (ar (beN x)) (ar (beN y)) false) (zN h c m*w%cN c) (beN (j.take (nS c))*w%cN c)) (beN (j.take (nS c))) <;> rfl
     ·rw[au (show ¬(0<beN (j.drop (nS c))/\beN (j.drop (nS c))<cN c) from hs2),ag (fun q=>hs2 q.2)]; exact A _ _ _ _
    ·rw[au (show ¬(0<beN (j.take (nS c))/\beN (j.take (nS c))<cN c) from hr),ag (by decide),ag (fun q=>hr q.1)]; exact A _ _ _ _
   ·rw[ag (by rw[dC]; omega),ag hl]
  ·rw[ag (by rw[dC]; exact hd),ag hd]
 ·rw[ae hh,ag (by decide),ag hh]
end Go.Gk.Bn
end
section
namespace Go.Gk.Bn
open Go Go.Gk Go.Gk.Sh
theorem Sw (x:UInt32) (r:Nat) (j:r<32):((dD x r &&& 1) == 1)=decide (x.toNat / 2^r%2=1):=by
 rw[OY,lI,bf (by omega)]
theorem Du (l:L00) (i:Nat) (hi:i<=4611686018427387904) (hl:l.length<=4611686018427387904):F.TE l (i:Int)=some (decide (val l / 2^i%2=1)):=by
 have j:wI (Int.tdiv (i:Int) 32)=((i / 32:Nat):Int):=by rw[bJ (by omega),aC (by omega) (by omega)]; omega
 have w2:Int.tmod (i:Int) 32=((i%32:Nat):Int):=by rw[cn (by omega)]; omega
 unfold F.TE
 rw[ag (ai (by omega)),j,w2,<-uP]
 by_cases h:i / 32<l.length
 ·rw[ag (ai (by omega)),bg h 0,aa,grd_true _ (by omega),am,Sw _ _ (by omega)]
 ·rw[ae (by rw[ak]; omega),an,c9 (by omega)]
  simp
theorem M1 (l:L00) (s:Nat) (hs:s<32) (hl:l.length<=40000000000000):F.TN l (s:Int)=some (ar (val l / 2^s)):=by
 obtain⟨m,z,J,A⟩:=iw l (by omega)
 have N:(ar (val l)).length<=l.length:=bu (cv l)
 have w0:wI (Int.tdiv (max (s:Int) 0) 32)=((0:Nat):Int):=by
  rw[show max (s:Int) 0=(s:Int) by omega,bJ (by omega),aC (by omega) (by omega)]; omega
 have B:Int.tmod (max (s:Int) 0) 32=(s:Int):=by rw[show max (s:Int) 0=(s:Int) by omega,cn (by omega)]; omega
 unfold F.TN
 rw[z,aa,A,w0,B]
 by_cases h:(ar (val l)).length=0
 ·have:val l=0:=(l9 _).1 h
  rw[ag (ai (by omega)),this,Nat.zero_div,cI]
 ·have j:apO 4 [] (ar (val l))=some (ar (val l)):=by unfold apO; rw[ag (by simp; omega)]; simp
  obtain⟨G,I,O,y⟩:=uk (ar (val l)) s hs (by omega)
  rw[ay]at y
  obtain⟨k,p1,p2,p3⟩:=jJ G (by omega)
  rw[ae (by rw[ak]; omega),oN (by omega),aa,dQ,j,aa,I,aa,p1,aa,p3,y]
theorem Sy (e i:Nat):e / 2^i=2*(e / 2^(i+1))+(if decide (e / 2^i%2=1)=true then 1 else 0):=MK e i
theorem AW (z m:Nat) (G:1<m) (I:(ar m).length<=900) (hz:z<m) (e:L00) (le:e.length<=4611686018427387904):∀i:Nat,i<=4000000000000000 ->
  loop (F.Ya e (ar m) (ar z)) (ar (z^(val e / 2^i)%m),(i:Int) - 1)=some (ar (z^val e%m),0)
 | 0,_=>by
  rw[gB,Nat.div_one]
  refine cb ?_
  unfold F.Ya
  dsimp only
  rw[ae (by decide)]
 | i+1,hi=>by
  have j:∀x,x%m<m:=fun x=>bH _ (by omega)
  have J:(((i+1:Nat):Int)) - 1=(i:Int):=by omega
  have w:wI ((i:Int) - 1)=(i:Int) - 1:=aC (by omega) (by omega)
  have A:∀x,x<m->(ar x).length<=900:=fun x hx=>iC (cz hx) I
  have N:∀x y,x<m->y<m->(ar (x*y)).length<=1800:=fun x y hx k=>by
   have G:=pz x y; have O:=A x hx; have R:=A y k
   omega
  have mul:∀x y,x<m->y<m->F.UP (ar x) (ar y)=some (ar (x*y)):=fun x y hx k=>by
   have a1:=A x hx; have a2:=A y k
   rw[Ee _ _ (by omega) (by omega) (by rw[ay,ay]; omega),ay,ay]
  have rest:∀x y,x<m->y<m->F.TA (ar (x*y)) (ar m)=some (ar (x*y%m)):=fun x y hx k=>by
   have a1:=N x y hx k
   rw[kO _ _ (by omega) (by omega) (by rw[ay]; omega),ay,ay]
  rw[J,<-AW z m G I hz e le i (by omega)]
  refine bn ?_
  unfold F.Ya
  dsimp only
  rw[ag (ai (by omega)),mul _ _ (j _) (j _),aa,rest _ _ (j _) (j _),aa,Du _ _ (by omega) le,aa]
  have hb:=Sy (val e) i
  have B:z^(val e / 2^(i+1))%m*(z^(val e / 2^(i+1))%m)%m=z^(2*(val e / 2^(i+1)))%m:=by
   rw[<-dI,<-bU]; congr 2; omega
  by_cases h:val e / 2^i%2=1
  ·rw[ag (ai h)]at hb ⊢
   rw[mul _ _ (j _) hz,aa,rest _ _ (j _) hz,aa]
   unfold F.XU
   dsimp only
   rw[w,B,Nat.mod_mul_mod,<-bo,Nat.succ_eq_add_one,<-hb]
   rfl
  ·have hf:¬decide (val e / 2^i%2=1)=true:=by rw[ak]; exact h
   rw[ae hf]at hb ⊢
   unfold F.XU
   dsimp only
   rw[w,B,<-bm (2*(val e / 2^(i+1))),<-hb]
   rfl
theorem xd (a e:L00) (m:Nat) (k:1<m) (y:nb m<=4096) (z:(ar m).length<=900) (ha:nb (val a)<=4096) (A:nb (val e)<=4096) (j:a.length<=40000000000000) (le:e.length<=40000000000000) :
  F.VI a e (ar m)=some (ar (val a^val e%m),0):=by
 have B:wI (((nb (val e):Nat):Int) - 1)=((nb (val e):Nat):Int) - 1:=aC (by omega) (by omega)
 have G:val e / 2^nb (val e)=0:=cA (gv (val e)).1
 have l1:val ([1]:L00)=1:=rfl
 unfold F.VI
 rw[ra ha A (by rw[ay]; exact y) (by rw[ay]; omega) j le (by omega),aa,ae (by decide),kO a _ j (by omega) (by rw[ay]; omega),aa,kO [1] _ (by decide) (by omega) (by rw[ay]; omega),aa,
  jO e (by omega),aa,B,ay,l1]
 have:=AW (val a%m) m k z (bH _ (by omega)) e (by omega) (nb (val e)) (by omega)
 rw[G,gB]at this
 rw[this,<-Nat.pow_mod]
noncomputable def rZ (m a:Nat):Nat:=if h:∃w,w<m/\a*w%m=1 then Classical.choose h else 0
theorem MY {n s w v:Nat} (hw:w<n) (j:v<n) (k:s*w%n=1) (y:s*v%n=1):w=v:=vU hw j k y
theorem L8 {m a w:Nat} (hw:w<m) (h:a*w%m=1):rZ m a=w:=by
 unfold rZ
 have hx:∃w,w<m/\a*w%m=1:=⟨w,hw,h⟩
 rw[dif_pos hx]
 exact MY (gR hx).1 hw (gR hx).2 h
theorem MA {m a:Nat} (h:0<m):rZ m a<m:=by
 unfold rZ
 split
 ·rename_i hx; exact (gR hx).1
 ·exact h
theorem Ho {m a:Nat} (j:1<m) (hg:Nat.gcd a m≠1):rZ m a=0:=by
 unfold rZ
 rw[dif_neg]
 rintro⟨w,_,h⟩
 apply hg
 have hd:Nat.gcd a m ∣ a*w%m:=(Nat.dvd_mod_iff (gl a m)).2 (Nat.dvd_mul_right_of_dvd (jg a m) w)
 rw[h]at hd
 exact Nat.dvd_one.1 hd
theorem MV (a:L00) (m:Nat) (z:1<m) (j:m%2=1) (G:nb m<=4096) (y:(ar m).length<=900) (I:nb (val a)<=4096) (A:a.length<=40000000000000) :
  F.Ux a (ar m)=some (ar (rZ m (val a)),if Nat.gcd (val a) m=1 then 0 else 61):=by
 by_cases hg:Nat.gcd (val a) m=1
 ·obtain⟨w,R,w2,U⟩:=Gp a m z j G y I A hg
  rw[U,ag hg,L8 R w2]
 ·have hw:F.T4 [a,ar m]=some 0:=by
   have hl:∀x∈[a,ar m],x.length<=40000000000000:=by
    intro x hx
    simp only[aG,aR,bE]at hx
    rcases hx with h | h
    ·rw[h]; exact A
    ·rw[h]; omega
   rw[uB [a,ar m] 1 rfl (by decide) hl]
   unfold n6
   rw[ae]
   ·rw[show [a,ar m].getD 1 []=ar m from rfl,ay,ae (by omega)]
   ·simp only[List.any_cons,List.any_nil,Bool.or_false,fD,ak,ay]
    omega
  have V:Nat.gcd (val a%m) m=Nat.gcd (val a) m:=by rw[<-Nat.gcd_rec,fy]
  have B:Nat.gcd (val a%m) m%2=1:=by
   have:=gl (val a%m) m
   rcases gM (Nat.gcd (val a%m) m) with h | h
   ·obtain⟨k,X⟩:=this
    rw[X,dI,h,fu,jB]at j
    omega
   ·exact h
  obtain⟨x,Y,c2,J⟩:=HD (a:=val a%m) j y (val a%m+m) (val a%m) m 1 0 (ax _) (cz (bH _ (by omega))) (by omega) (ax _) z (by omega) (by rw[cy]) (by rw[fu,Nat.mod_self,jB]) B
  rw[V]at J
  have l1:ar 1=[1]:=by rw[kZ (by decide),show 1 / 4294967296=0 by decide,cI]; rfl
  have N:Nat.gcd (val a) m<=m:=Nat.gcd_le_right _ (by omega)
  have lg:=iC N y
  have lx:=iC (cz Y) y
  have Z:F.Vf (ar (val a%m)) (ar m)=some (ar (Nat.gcd (val a) m),ar x):=by
   unfold F.Vf
   rw[<-l1,<-cI]at *
   exact J
  have O:(eD (Nat.gcd (val a) m) 1 != 0)=true:=by
   rw[dC]; intro h
   have:=Kl (Nat.gcd (val a) m) 1
   rw[h,au hg]at this
   exact absurd this (by decide)
  unfold F.Ux
  rw[hw,aa,ae (by decide),kO a _ A (by omega) (by rw[ay]; omega),ay,aa,mY _ (by omega),ay,aa,ag (ai j),Z,aa]
  dsimp only
  rw[ka _ _ (by omega) (by decide),aa,ay,show val ([1]:L00)=1 from rfl,ag O,ae hg,Ho z hg,cI]
theorem wK (a:L00) (m:Nat) (ha:a.length<=35184372087808) (j:m<=16384):F.Ur a (m:Int)=some (if val a<256^m then (beB m (val a),true) else ([],false)):=by
 by_cases hv:val a<256^m
 ·rw[ag hv]; exact H9 a m ha j hv
 ·have hb:nb (val a)<=32*a.length:=ba (mz _) (bj 32 (bu (cv a)))
  have k:m<(nb (val a)+7) / 8:=by
   rcases bX m (nby (val a)) with h | h
   ·exact h
   ·exact absurd (aW (vV (val a)) (aZ (by decide) h)) hv
  rw[ae hv]
  unfold F.Ur
  rw[ae (by rw[ak]; omega),ae (by rw[ak]; omega),jO a (by omega),aa,aC (x:=((nb (val a):Nat):Int)+7) (by omega) (by omega),bJ (by omega),aC (by omega) (by omega),
   ai (show (m:Int)<(((nb (val a):Nat):Int)+7) / 8 by omega)]
  rfl
theorem Nh (a:L00) (ha:a.length<=40000000000000):∃u,F.YL a=some (u,decide (val a<18446744073709551616))/\(val a<18446744073709551616->u.toNat=val a):=by
 obtain⟨m,J,U,A⟩:=iw a (by omega)
 have hl:=ay (val a)
 unfold F.YL
 rw[J,aa]
 have hU:F.Va a m=fun s=>F.Va a m s:=rfl
 by_cases h:2<(ar (val a)).length
 ·have B:¬val a<18446744073709551616:=fun G=>by
   have:=bu (n:=val a) (k:=2) (by omega)
   omega
  rw[A,ag (ai (by omega)),au B]
  exact⟨0,rfl,fun q=>absurd q B⟩
 ·have G:val a<18446744073709551616:=by
   have I:=cv (ar (val a))
   rw[hl]at I
   refine aW I ?_
   refine ba (aZ (by decide) (show (ar (val a)).length<=2 by omega)) (by decide)
  rw[A,ae (by rw[ak]; omega),ai G]
  have step:∀(s:UInt64) (i:Nat) (x:UInt32),i<2->(ar (val a))[i]? = some x->F.Va a m (s,(i:Int))=some (.inl (s ||| c8 x.toUInt64 (32*i),((i+1:Nat):Int))):=by
   intro s i x hi hx
   have R:i<(ar (val a)).length:=(aP.1 hx).1
   unfold F.Va
   dsimp only
   rw[A,ag (ai (by omega)),lj,hx,aa,aC (x:=32*(i:Int)) (by omega) (by omega),grd_true _ (by omega),aD,aC (by omega) (by omega),show (32*(i:Int)).toNat=32*i by omega]
   rfl
  have j:∀(s:UInt64) (i:Nat),(ar (val a)).length<=i->F.Va a m (s,(i:Int))=bc (some (s,true)):=by
   intro s i hi
   unfold F.Va
   dsimp only
   rw[A,ae (by rw[ak]; omega)]
  match hq:ar (val a),h with
  | [],_=>
   rw[hq]at hl j
   have:=cb (j 0 0 (ax _))
   exact⟨0,this,fun _=>hl⟩
  | [x],_=>
   rw[hq]at hl j step
   refine⟨_,(bn (step 0 0 x (by decide) rfl)).trans (cb (j _ 1 (ax _))),fun _=>?_⟩
   rw[<-hl,jr,kM]
   simp[val]
  | [x,y],_=>
   rw[hq]at hl j step
   refine⟨_,(bn (step 0 0 x (by decide) rfl)).trans ((bn (step _ 1 y (by decide) rfl)).trans (cb (j _ 2 (ax _)))),fun _=>?_⟩
   have hx:=ej x; have V:=ej y
   rw[<-hl,jr,jr,kM,kM]
   have N:x.toUInt64.toNat=x.toNat:=di x
   have O:y.toUInt64.toNat=y.toNat:=di y
   rw[N,O]
   simp only[val,cp,bm,gB,cE,show min 0 64=0 from rfl,show min 32 64=32 from rfl]
   rw[show (0:UInt64).toNat=0 from rfl,Nat.zero_or,az (a:=x.toNat) (by omega),az (a:=y.toNat*_) (by omega)]
   have:=sB (x:=y.toNat*2^32) (y:=x.toNat) 32 (by omega) (by omega)
   rw[Nat.or_comm,this]; omega
  | x :: y :: z :: r,h=>simp at h
theorem CC (x:UInt8):(x == 0)=decide (x.toNat=0):=by
 by_cases h:x.toNat=0
 ·rw[ai h,fo]; exact dz.1 h
 ·rw[au h,cR]; intro e; rw[e]at h; exact h rfl
theorem L5 (x:UInt8):(x%2 == 0)=decide (x.toNat%2=0):=by rw[CC,UInt8.toNat_mod]; rfl
theorem Dz {τ:Type} (l:List τ):((l.length:Int) == 0)=decide (l.length=0):=by
 by_cases h:l.length=0
 ·rw[ai h,h]; rfl
 ·rw[au h,cR]; omega
theorem I5 (l:L01) (h:l.length≠0):beN l%2=(l.getD (l.length - 1) 0).toNat%2:=by
 have j:=mI l (i:=l.length - 1) (by omega)
 rw[show l.length - 1+1=l.length by omega,cZ]at j
 rw[j]; omega
theorem I8 {l:L01} (h:l.length≠0) (j:(l.getD 0 0).toNat≠0):256^(l.length - 1)<=beN l:=by
 match l,h with
 | x :: r,_=>
  rw[show x :: r=[x]++r from rfl,rh]
  have e:beN [x]=x.toNat:=by simp[beN]
  simp only[List.getD_cons_zero]at j
  rw[e,ge,bY,eG]
  have:=Nat.le_mul_of_pos_left (256^r.length) (eF j)
  omega
theorem BR {l:L01} (h:l.length≠0) (j:(l.getD 0 0).toNat≠0):nby (beN l)=l.length:=by
 have y:=GZ (lF l)
 rcases bX (nby (beN l)) l.length with k | k
 ·have z:=vV (beN l)
  have A:=I8 h j
  have:=aZ (show 0<256 by decide) (show nby (beN l)<=l.length - 1 by omega)
  omega
 ·omega
def lA (n e:L01):Prop:=n.length≠0/\(n.getD 0 0).toNat≠0/\beN n%2=1/\e.length≠0/\(e.getD 0 0).toNat≠0/\(2048<=nb (beN n)/\nb (beN n)<=4096)/\beN e%2=1/\3<=beN e/\beN e<=4294967295
instance (n e:L01):Decidable (lA n e):=by unfold lA; infer_instance
theorem OO (n e:L01) (hn:n.length<=140737488351232) (z:e.length<=140737488351232) (h:n.length≠0/\(n.getD 0 0).toNat≠0/\beN n%2=1/\e.length≠0/\(e.getD 0 0).toNat≠0):F.Uq n e false=some (if lA n e then 0 else 90):=by
 obtain⟨A,B,G,I,J⟩:=h
 have l1:(ar (beN n)).length<=40000000000000:=by
  have:beN n<4294967296^((n.length+3) / 4):=by
   have:=lF n
   refine aW this ?_
   rw[show (4294967296:Nat)=256^4 from rfl,<-cu]
   exact aZ (by decide) (by omega)
  have:=bu this
  omega
 have N:(ar (beN e)).length<=40000000000000:=by
  have:beN e<4294967296^((e.length+3) / 4):=by
   have:=lF e
   refine aW this ?_
   rw[show (4294967296:Nat)=256^4 from rfl,<-cu]
   exact aZ (by decide) (by omega)
  have:=bu this
  omega
 have j:∀b,F.UG b=some (if b=true then 90 else 0):=fun b=>by cases b <;> rfl
 obtain⟨u,hu,k⟩:=Nh (ar (beN e)) N
 rw[ay]at hu k
 unfold F.Uq
 rw[ae (by decide),fx n hn,aa,jO _ (by omega),aa,ay,fx e z,aa,hu,aa]
 have y:¬lA n e->some (90:Int)=some (if lA n e then 0 else 90):=fun q=>by rw[ae q]
 by_cases c1:nb (beN n)<2048
 ·rw[ag (ai (by omega)),j,ag rfl]; exact y fun q=>by have:=q.2.2.2.2.2.1.1; omega
 by_cases c2:4096<nb (beN n)
 ·rw[ae (by rw[ak]; omega),ag (ai (by omega)),j,ag rfl]; exact y fun q=>by have:=q.2.2.2.2.2.1.2; omega
 rw[ae (by rw[ak]; omega),ae (by rw[ak]; omega)]
 by_cases c3:beN e<18446744073709551616
 ·have k:=k c3
  rw[ai c3,ae (show ¬(!true)=true by decide)]
  have O:((u%2) == 0)=decide (beN e%2=0):=by
   rw[<-k]
   by_cases q:u.toNat%2=0
   ·rw[ai q,fo]; apply cx.1; rw[dq]; exact q
   ·rw[au q,cR]; intro h; apply q; rw[<-show (u%2).toNat=u.toNat%2 from dq u 2,h]; rfl
  have R:(decide (u<3))=decide (beN e<3):=by rw[<-k,fV,bh]; rfl
  have U:(decide ((4294967295:UInt64)<u))=decide (4294967295<beN e):=by rw[<-k,fV,bh]; rfl
  rw[O,R,U]
  by_cases c4:beN e%2=0
  ·rw[ag (ai c4),j,ag rfl]; exact y fun q=>by have:=q.2.2.2.2.2.2.1; omega
  by_cases c5:beN e<3
  ·rw[ae (by rw[ak]; omega),ag (ai c5),j,ag rfl]; exact y fun q=>by have:=q.2.2.2.2.2.2.2.1; omega
  rw[ae (by rw[ak]; omega),ae (by rw[ak]; omega),j]
  by_cases c6:4294967295<beN e
  ·rw[ag (ai c6)]; exact y fun q=>by have:=q.2.2.2.2.2.2.2.2; omega
  ·rw[ae (by rw[ak]; omega),ag ⟨A,B,G,I,J,⟨by omega,by omega⟩,by omega,by omega,by omega⟩]
 ·rw[au c3,ag (show (!false)=true by decide),j,ag rfl]; exact y fun q=>by have:=q.2.2.2.2.2.2.2.2; omega
theorem B1 (n e:L01) (hn:n.length<=140737488351232) (y:e.length<=140737488351232):F.VD n e=some (if lA n e then 0 else 90):=by
 have j:F.Uq n e true=some 90:=rfl
 have k:¬lA n e->some (90:Int)=some (if lA n e then 0 else 90):=fun q=>by rw[ae q]
 unfold F.VD
 rw[Dz,Dz]
 by_cases c1:n.length=0
 ·rw[ag (ai c1),j]; exact k fun q=>q.1 c1
 rw[ae (by rw[ak]; exact c1),show (0:Int)=((0:Nat):Int) from rfl,bg (show 0<n.length by omega) 0,aa,CC]
 by_cases c2:(n.getD 0 0).toNat=0
 ·rw[ag (ai c2),j]; exact k fun q=>q.2.1 c2
 rw[ae (by rw[ak]; exact c2),aC (by omega) (by omega),show (n.length:Int) - 1=((n.length - 1:Nat):Int) by omega,bg (show n.length - 1<n.length by omega) 0,aa,L5,<-I5 n c1]
 by_cases c3:beN n%2=0
 ·rw[ag (ai c3),j]; exact k fun q=>by have:=q.2.2.1; omega
 rw[ae (by rw[ak]; exact c3)]
 by_cases c4:e.length=0
 ·rw[ag (ai c4),j]; exact k fun q=>q.2.2.2.1 c4
 rw[ae (by rw[ak]; exact c4),bg (show 0<e.length by omega) 0,aa,CC]
 by_cases c5:(e.getD 0 0).toNat=0
 ·rw[ai c5,j]; exact k fun q=>q.2.2.2.2.1 c5
 ·rw[au c5]; exact OO n e hn y ⟨c1,c2,by omega,c4,c5⟩
theorem Ar {n e:L01} (h:lA n e):256<=n.length/\n.length<=512/\e.length<=4/\1<beN n:=by
 obtain⟨j,k,G,y,z,⟨A,I⟩,J,N,B⟩:=h
 have a1:=BR j k
 have a2:=BR y z
 have a3:nb (beN e)<=32:=lK (by omega)
 have a4:beN n≠0:=by omega
 have a5:beN n≠1:=fun q=>by
  have:nb 1=1:=by rw[wh (by decide),show 1 / 2=0 from rfl,kS]
  rw[q,this]at A; omega
 unfold nby at a1 a2
 omega
def vZ (h:Int):L01:=F.UU.getD h.toNat []
theorem Cp {h:Int} (hh:isH h):(vZ h).length=19/\aw F.UU h=some (vZ h):=by
 rcases hh with rfl | rfl | rfl <;> exact⟨rfl,rfl⟩
def cq (h:Int) (m:L01) (size:Nat):L01:=((([0,1]++List.replicate (size - 22 - Sz h) 255)++[0])++vZ h)++gk h m
theorem An (h:Int):F.Xq h=some (decide (isH h)):=by
 unfold F.Xq
 by_cases c:1<=h
 ·rw[ag (ai c)]; congr 1; rw[fV]; unfold isH; omega
 ·rw[ae (by rw[ak]; exact c)]; congr 1; symm; rw[iA]; unfold isH; omega
theorem vN {l m:L01} (h:l.length+m.length<=225000000000000):apO 1 l m=some (l++m):=by unfold apO; rw[ag (by omega)]
theorem tQ (h:Int) (hh:isH h) (s:L01) (hs:s.length<=64) (k:Nat) (j:k<=512):∀(r i:Nat),i+r=k ->
  loop (F.Ys s (vZ h) (k:Int)) ([0,1]++List.replicate i 255,(i:Int))=some (((([0,1]++List.replicate k 255)++[0])++vZ h)++s,0)
 | 0,i,e=>by
  have:i=k:=by omega
  subst this
  have hi:=(Cp hh).1
  refine cb ?_
  unfold F.Ys
  dsimp only
  rw[ae (by rw[ak]; omega),vN (by simp; omega),aa,vN (by simp; omega),aa,vN (by simp; omega),aa]
 | r+1,i,e=>by
  rw[<-tQ h hh s hs k j r (i+1) (by omega)]
  refine bn ?_
  unfold F.Ys
  dsimp only
  rw[ag (ai (by omega)),vN (by simp; omega),aa,aC (by omega) (by omega),aN,show List.replicate i (255:UInt8)++[255]=List.replicate (i+1) 255 from (List.replicate_succ' ..).symm]
  rfl
theorem FM (h:Int) (hh:isH h) (m:L01) (k:m.length<=900000000000000) (j:Nat) (y:94<=j) (z:j<=512):F.Ym h m (j:Int)=some (cq h m j,0):=by
 have hi:=Cp hh
 have hz:=nq h
 have hl:=mV h m
 unfold F.Ym
 rw[An,ai hh,aa,ae (by decide),xI h hh m k,aa,hi.2,aa,hi.1,hl,aC (x:=3+((19:Nat):Int)) (by omega) (by omega),aC (x:=_+((Sz h:Nat):Int)) (by omega) (by omega),aC (by omega) (by omega),
  ae (by rw[ak]; omega),au (by omega)]
 unfold F.Z3
 rw[ae (by decide),hi.1,hl,aC (x:=(j:Int) - 3) (by omega) (by omega),aC (x:=(j:Int) - 3 - ((19:Nat):Int)) (by omega) (by omega),aC (by omega) (by omega),aD,iK (by omega),aa,vN (by simp),aa,
  show (j:Int) - 3 - ((19:Nat):Int) - ((Sz h:Nat):Int)=((j - 22 - Sz h:Nat):Int) by omega]
 have:=tQ h hh (gk h m) (by omega) (j - 22 - Sz h) (by omega) (j - 22 - Sz h) 0 (by omega)
 exact this
def Lc (h:Int) (n e m sig:L01):Int:=
 if isH h then if lA n e then if sig.length=n.length/\beN sig<beN n/\beB n.length (beN sig^beN e%beN n)=cq h m n.length then 0 else 91 else 90 else 111
theorem Bc (a b:L01):F.VK a b=some (decide (a=b)):=by
 unfold F.VK
 by_cases h:a=b
 ·subst h; simp
 ·simp[h]
theorem ER (b:Bool):F.YN b=some (if b=true then 91 else 0):=by cases b <;> rfl
theorem ku {l:L01} (h:l.length<=140737488351232):(ar (beN l)).length<=40000000000000:=by
 have:beN l<4294967296^((l.length+3) / 4):=by
  refine aW (lF l) ?_
  rw[show (4294967296:Nat)=256^4 from rfl,<-cu]
  exact aZ (by decide) (by omega)
 have:=bu this
 omega
theorem FO (h:Int) (hh:isH h) (n e m j:L01) (z:m.length<=900000000000000) (k:lA n e) (hs:j.length=n.length) (y:beN j<beN n) :
  F.Yf h n e m (ar (beN n)) (ar (beN j)) false=some (if beB n.length (beN j^beN e%beN n)=cq h m n.length then 0 else 91):=by
 obtain⟨J,N,O,A⟩:=Ar k
 have b1:=k.2.2.2.2.2.1.2
 have R:nb (beN e)<=32:=lK (by have:=k.2.2.2.2.2.2.2.2; omega)
 have B:nb (beN j)<=4096:=ba (lK (fZ y (gv (beN n)).1)) b1
 have l1:=ku (l:=j) (by omega); have G:=ku (l:=e) (by omega); have I:=nA b1
 have hp:beN j^beN e%beN n<256^n.length:=fZ (bH _ (by omega)) (lF n)
 have U:(ar (beN j^beN e%beN n)).length<=128:=ba (gz (cz (bH _ (by omega)))) I
 unfold F.Yf
 rw[ae (by decide),FM h hh m z _ (by omega) (by omega),aa,ae (show ¬((0:Int) != 0)=true by decide),fx e (by omega),aa,xd _ _ _ A b1 (by omega) (by rw[ay]; exact B) (by rw[ay]; omega) l1 G,aa,ay,ay,
  wK (ar (beN j^beN e%beN n)) _ (by omega) (by omega),ay,ag hp,aa,ae (show ¬((0:Int) != 0)=true by decide),ae (show ¬(!true)=true by decide),Bc,aa,ER]
 by_cases hq:beB n.length (beN j^beN e%beN n)=cq h m n.length
 ·rw[ag hq,ai hq]; rfl
 ·rw[ae hq,au hq]; rfl
theorem F0 (h:Int) (n e m j:L01) (hn:n.length<=140737488351232) (k:e.length<=140737488351232) (y:m.length<=900000000000000) (hs:j.length<=140737488351232):F.Y5 h n e m j=some (Lc h n e m j):=by
 unfold F.Y5 Lc
 rw[An,aa]
 by_cases hh:isH h
 ·rw[ai hh,ae (by decide),ag hh,B1 n e hn k,aa]
  by_cases hk:lA n e
  ·rw[ag hk,ae (by decide),ag hk,fx n hn,aa,fx j hs,aa]
   by_cases c1:j.length=n.length
   ·have l1:=ku hs; have z:=ku hn
    rw[ae (by rw[c1]; simp),ka _ _ (by omega) (by omega),aa,ay,ay]
    by_cases c2:beN j<beN n
    ·have:¬0<=eD (beN j) (beN n):=by unfold eD; rw[ag c2]; decide
     rw[au this,FO h hh n e m j y hk c1 c2]
     by_cases c3:beB n.length (beN j^beN e%beN n)=cq h m n.length
     ·rw[ag c3,ag ⟨c1,c2,c3⟩]
     ·rw[ae c3,ae fun q=>c3 q.2.2]
    ·have:0<=eD (beN j) (beN n):=by unfold eD; rw[ae c2]; split <;> decide
     rw[ai this,ae fun q=>c2 q.2.1]; rfl
   ·rw[ag (by rw[dC]; omega),ae fun q=>c1 q.1]; rfl
  ·rw[ae hk,ag (by decide),ae hk]
 ·rw[au hh,ag (by decide),ae hh]
def c4B (x:UInt32):L01:=[(dD x 24).toUInt8,(dD x 16).toUInt8,(dD x 8).toUInt8,x.toUInt8]
def mkB (h:Int) (s:L01) (c:Nat):L01:=gk h (s++c4B (UInt32.ofNat c))
def mk1 (h:Int) (s:L01) (j:Nat):UInt8:=(mkB h s (j / Sz h)).getD (j%Sz h) 0
def xk (h:Int) (s o:L01) (k:Nat):L01:=o.mapIdx fun i x=>if i<k then x ^^^ mk1 h s i else x
theorem sJ (h:Int) (s o:L01) (k:Nat):(xk h s o k).length=o.length:=by simp[xk]
theorem Px {h:Int} {s o:L01} {k i:Nat} (hi:i<o.length):(xk h s o k).getD i 0=if i<k then o.getD i 0 ^^^ mk1 h s i else o.getD i 0:=by
 simp[xk,List.getD,hi]
theorem N0 {h:Int} {s o:L01} {k:Nat} (y:k<o.length):(xk h s o k).set k (o.getD k 0 ^^^ mk1 h s k)=xk h s o (k+1):=by
 apply gC (by simp[xk])
 intro i j z
 simp only[dJ,sJ]at j
 by_cases hik:k=i
 ·subst hik; simp[xk,List.getD,j]
 ·rw[List.getElem_set_ne hik]
  simp only[xk,List.getElem_mapIdx]
  by_cases hl:i<k
  ·rw[ag hl,ag (by omega)]
  ·rw[ae hl,ae (by omega)]
theorem L9 (h:Int) (s o:L01):xk h s o 0=o:=by
 apply gC (by simp[xk])
 intro i j k
 simp[xk]
theorem R0 {l:L01} {lo hi i:Nat} (k:hi<=l.length) (j:i<hi - lo):aw ((l.drop lo).take (hi - lo)) (i:Int)=some (l.getD (lo+i) 0):=by
 rw[lj,bR,ag j,dL,av (by omega),an,av (by omega)]; rfl
theorem Bt {l:L01} {lo hi:Nat} (j:hi<=l.length):((l.drop lo).take (hi - lo)).length=hi - lo:=by simp; omega
theorem K3 (c:Nat):UInt32.ofNat c+1=UInt32.ofNat (c+1):=by
 apply cM.1
 rw[UInt32.toNat_add,dr,dr,show (1:UInt32).toNat=1 from rfl]; omega
theorem vG (h:Int) (s o:L01) (c lo:Nat) (hc:lo=c*Sz h) (A:lo<o.length) (G:o.length<=1000000):∀r i:Nat,i+r=min (Sz h) (o.length - lo) ->
  loop (F.VW o.length lo (UInt32.ofNat c) (xk h s o lo) (mkB h s c)) ((i:Int),xk h s o (lo+i))=some (.inl (lo+min (Sz h) (o.length - lo),UInt32.ofNat (c+1),xk h s o (lo+min (Sz h) (o.length - lo))))
 | r,i,e=>by
  have hz:=nq h
  have l1:(mkB h s c).length=Sz h:=mV _ _
  have B:=fun k=>sJ h s o k
  have z:∀k,(((xk h s o k).drop lo).take (o.length - lo)).length=o.length - lo:=fun k=>Bt (by rw[B]; exact ax _)
  have j:(min ((Sz h:Nat):Int) ((o.length - lo:Nat):Int))=((min (Sz h) (o.length - lo):Nat):Int):=by omega
  match r,e with
  | 0,e=>
   have:i=min (Sz h) (o.length - lo):=by omega
   subst this
   refine cb ?_
   unfold F.VW
   dsimp only
   rw[l1,z,z,j,ae (by rw[ak]; omega),oN (by rw[z]; omega),aa,K3,am]
   rfl
  | r+1,e=>
   rw[<-vG h s o c lo hc A G r (i+1) (by omega)]
   have hi:i<o.length - lo:=by omega
   have y:i<Sz h:=by omega
   have I:mk1 h s (lo+i)=(mkB h s c).getD i 0:=by
    unfold mk1
    rw[hc,aM c,Nat.mul_add_div (by omega),cA y,bm,Nat.mul_add_mod,az y]
   refine bn ?_
   unfold F.VW
   dsimp only
   rw[l1,z,j,ag (ai (by omega)),R0 (by rw[B]; exact ax _) hi,aa,bg (by rw[l1]; exact y) 0,aa,aa,aD,Px (by omega),ae (by omega),<-I,am,N0 (by omega),aC (by omega) (by omega)]
   rfl
theorem yo (h:Int) (hh:isH h) (s o:L01) (hs:s.length<=1000000) (z:o.length<=1000000):∀r c lo:Nat,o.length - lo<=r->(lo=c*Sz h/\lo<=o.length\/lo=o.length)->loop (F.V7 h s o.length) (lo,UInt32.ofNat c,xk h s o lo)=some (xk h s o o.length)
 | r,c,lo,hr,hlo=>by
  have hz:=nq h
  have A:(((xk h s o lo).drop lo).take (o.length - lo)).length=o.length - lo:=Bt (by rw[sJ]; exact ax _)
  by_cases he:lo=o.length
  ·refine cb ?_
   unfold F.V7
   dsimp only
   rw[A,ae (by rw[ak]; omega),he]
  ·have hc:lo=c*Sz h:=by omega
   match r,hr with
   | 0,hr=>omega
   | r+1,hr=>
    have B:lo<o.length:=by omega
    have j:[s,c4B (UInt32.ofNat c)].flatten=s++c4B (UInt32.ofNat c):=by simp
    have k:F.Tq h [s,c4B (UInt32.ofNat c)]=some (mkB h s c):=by
     rw[li h hh _ (by simp) (by rw[j]; simp[c4B]; omega),j]; rfl
    have G:=vG h s o c lo hc B z (min (Sz h) (o.length - lo)) 0 (by omega)
    have I:F.V7 h s o.length (lo,UInt32.ofNat c,xk h s o lo)=some (.inl (lo+min (Sz h) (o.length - lo),UInt32.ofNat (c+1),xk h s o (lo+min (Sz h) (o.length - lo)))):=by
     unfold F.V7
     dsimp only
     rw[A,ag (ai (by omega))]
     have:af (F.Tq h [s,c4B (UInt32.ofNat c)]) (fun y=>loop (F.VW o.length lo (UInt32.ofNat c) (xk h s o lo) y) (0,xk h s o lo))=some (.inl (lo+min (Sz h) (o.length - lo),UInt32.ofNat (c+1),xk h s o (lo+min (Sz h) (o.length - lo)))):=by
      rw[k,aa]; exact G
     exact this
    rw[bn I]
    refine yo h hh s o hs z r (c+1) _ (by omega) ?_
    by_cases hq:Sz h<=o.length - lo
    ·left; rw[bf hq,aU,cy,<-hc]; omega
    ·right; omega
theorem M7 (h:Int) (hh:isH h) (s o:L01) (hs:s.length<=1000000) (j:o.length<=1000000):F.Z9 h s o 0 o.length=some (xk h s o o.length):=by
 have:=yo h hh s o hs j o.length 0 0 (by omega) (by left; omega)
 rw[L9]at this
 exact this
def hiB (b:Nat):UInt8:=oS 255 ((8 - b%8)%8)
theorem DX (b:Nat) (hb:b<=1000000):F.XA (b:Int)=some (hiB b):=by
 have j:∀n,n &&& 7=n%8:=fun n=>fe n 3
 have k:rt (b:Int) 7=((b%8:Nat):Int):=by rw[<-j]; exact Ct b 7 (by omega) (by omega)
 have y:rt ((8 - b%8:Nat):Int) 7=(((8 - b%8)%8:Nat):Int):=by rw[<-j (8 - b%8)]; exact Ct (8 - b%8) 7 (by omega) (by omega)
 unfold F.XA hiB
 have z:wI (8 - ((b%8:Nat):Int))=((8 - b%8:Nat):Int):=by rw[aC (by omega) (by omega)]; omega
 rw[k,z,y,grd_true _ (by omega),am]
theorem Hi (h:Int) (hh:isH h) (d s:L01) (hd:d.length<=1000000) (hs:s.length<=1000000):F.Zz h d s=some (gk h (List.replicate 8 0++(d++s))):=by
 have j:[List.replicate 8 (0:UInt8),d,s].flatten=List.replicate 8 0++(d++s):=by simp
 unfold F.Zz
 rw[iK (by decide),aa,show (8:Int).toNat=8 from rfl,li h hh _ (by simp) (by rw[j]; simp; omega),j,aa]
def Cl (h:Int) (d sum blk:L01) (at_:Nat):Bool:=decide ((∀i,i<at_->blk.getD i 0=0)/\blk.getD at_ 0=1/\gk h (List.replicate 8 0++(d++blk.drop (at_+1)))=sum)
theorem vl (h:Int) (hh:isH h) (d y blk:L01) (k:Nat) (ha:k<blk.length) (hb:blk.length<=100000) (hd:d.length<=1000):∀r i:Nat,i+r=k->(∀j,j<i->blk.getD j 0=0) ->
  loop (F.Xf h d y blk (k:Int)) (i:Int)=some (Cl h d y blk k)
 | 0,i,e,hz=>by
  have:i=k:=by omega
  subst this
  have z:(∀j,j<i->blk.getD j 0=0):=hz
  refine cb ?_
  unfold F.Xf Cl
  dsimp only
  rw[am,ae (by rw[ak,aJ]; omega),bg ha 0,aa]
  by_cases h1:blk.getD i 0=1
  ·rw[ag (by rw[h1]; rfl),aC (by omega) (by omega),show (i:Int)+1=((i+1:Nat):Int) by omega,oN (by omega),aa,Hi h hh _ _ (by omega) (by simp; omega),aa,Bc,aa]
   congr 2
   rw[fV]
   exact⟨fun q=>⟨z,h1,q⟩,fun q=>q.2.2⟩
  ·rw[ae (by rw[fo]; exact h1),au fun q=>h1 q.2.1]
 | r+1,i,e,hz=>by
  have hg:aw (blk.take k) (i:Int)=some (blk.getD i 0):=by
   rw[lj,bR,ag (by omega),av (by omega),an,av (by omega)]; rfl
  by_cases h0:blk.getD i 0=0
  ·rw[<-vl h hh d y blk k ha hb hd r (i+1) (by omega) (fun j A=>by
    rcases bX j i with q | q
    ·exact hz j q
    ·have:j=i:=by omega
     rw[this]; exact h0)]
   refine bn ?_
   unfold F.Xf
   dsimp only
   rw[am,ag (ai (by rw[aJ]; omega)),hg,aa,ae (by rw[h0]; decide),aC (by omega) (by omega)]
   rfl
  ·refine cb ?_
   unfold F.Xf Cl
   dsimp only
   rw[am,ag (ai (by rw[aJ]; omega)),hg,aa,ag (by rw[dC]; exact h0),au fun q=>h0 (q.1 i (by omega))]
def AZ (h:Int) (em:L01) (k b:Nat):L01:=
 (xk h ((em.drop k).take (Sz h)) (em.take k) k).set 0 ((xk h ((em.drop k).take (Sz h)) (em.take k) k).getD 0 0 &&& hiB b)
def sT (h:Int) (d em:L01) (b:Nat):Bool:=
 if em.length=(b+7) / 8/\2*Sz h+2<=(b+7) / 8/\em.getD ((b+7) / 8 - 1) 0=188/\(em.getD 0 0 &&& ~~~ hiB b)=0 then
  Cl h d ((em.drop ((b+7) / 8 - Sz h - 1)).take (Sz h)) (AZ h em ((b+7) / 8 - Sz h - 1) b) ((b+7) / 8 - Sz h - 1 - Sz h - 1)
 else false
theorem K5 (a:L01) (h:a.length<=225000000000000):F.Un a=some a:=by
 unfold F.Un
 rw[show apO 1 [] a=some a by unfold apO; rw[ag (by simp; omega)]; rfl,aa]
theorem Ca (h:Int) (hh:isH h):F.Tr h=some ((Sz h:Nat):Int):=by rw[uL,ag hh]
theorem JR (h:Int) (hh:isH h) (d y:L01) (b:Nat) (hb:b<=65536) (hd:d.length<=1000) (I:y.length=(b+7) / 8) (J:2*Sz h+2<=(b+7) / 8) :
  F.UE h y (b:Int) ((Sz h:Nat):Int) d false=some (Cl h d ((y.drop ((b+7) / 8 - Sz h - 1)).take (Sz h)) (AZ h y ((b+7) / 8 - Sz h - 1) b) ((b+7) / 8 - Sz h - 1 - Sz h - 1)):=by
 have hz:=nq h
 have A:jw (wI ((b:Int)+7)) 3=(((b+7) / 8:Nat):Int):=by
  rw[aC (by omega) (by omega),show (b:Int)+7=((b+7:Nat):Int) by omega,uI _ _ (by decide)]
 obtain⟨z,B⟩:∃z,(b+7) / 8=z:=⟨_,rfl⟩
 rw[B]at I J A ⊢
 obtain⟨k,N⟩:∃k,z - Sz h - 1=k:=⟨_,rfl⟩
 have X:z=k+Sz h+1:=by omega
 have w2:wI (wI ((z:Int) - ((Sz h:Nat):Int)) - 1)=(k:Int):=by rw[aC (x:=(z:Int) - _) (by omega) (by omega),aC (by omega) (by omega)]; omega
 have O:wI ((z:Int) - 1)=((k+Sz h:Nat):Int):=by rw[aC (by omega) (by omega)]; omega
 have G:slO y (k:Int) ((k+Sz h:Nat):Int)=some ((y.drop k).take (Sz h)):=by
  unfold slO; rw[ag (by omega),am,am,show k+Sz h - k=Sz h by omega]
 have lt:(y.take k).length=k:=by rw[aJ]; omega
 have R:(AZ h y k b).length=k:=by unfold AZ; rw[dJ,sJ,lt]
 unfold F.UE
 rw[ae (by decide),A,w2,O,G,aa,Bo (by omega),aa,K5 _ (by omega),aa,M7 h hh _ _ (by simp; omega) (by omega),aa,lt,
  show (0:Int)=((0:Nat):Int) from rfl,bg (by rw[sJ,lt]; omega) 0,aa,DX b (by omega),aa,aa,aD,am]
 have U:(xk h ((y.drop k).take (Sz h)) (y.take k) k).set 0 ((xk h ((y.drop k).take (Sz h)) (y.take k) k).getD 0 0 &&& hiB b)=AZ h y k b:=rfl
 rw[U,R,N,aC (x:=(k:Int) - _) (by omega) (by omega),aC (by omega) (by omega),aD,show (k:Int) - ((Sz h:Nat):Int) - 1=((k - Sz h - 1:Nat):Int) by omega,grd_true _ (by omega)]
 exact vl h hh d _ _ (k - Sz h - 1) (by omega) (by omega) hd (k - Sz h - 1) 0 (by omega) (fun j V=>absurd V (Nat.not_lt_zero _))
theorem px (h:Int) (d j:L01) (b z:Int):F.UE h j b z d true=some false:=rfl
theorem IR (h:Int) (hh:isH h) (d j:L01) (b:Nat) (hb:b<=65536) (hd:d.length=Sz h) (B:j.length<=1000000):F.XP h d j (b:Int)=some (sT h d j b):=by
 have hz:=nq h
 have z:jw (wI ((b:Int)+7)) 3=(((b+7) / 8:Nat):Int):=by
  rw[aC (by omega) (by omega),show (b:Int)+7=((b+7:Nat):Int) by omega,uI _ _ (by decide)]
 have w2:wI (wI (2*((Sz h:Nat):Int))+2)=((2*Sz h+2:Nat):Int):=by rw[aC (x:=2*_) (by omega) (by omega),aC (by omega) (by omega)]; omega
 have y:=JR h hh d j b hb (by omega)
 obtain⟨k,A⟩:∃k,(b+7) / 8=k:=⟨_,rfl⟩
 unfold F.XP sT
 rw[Ca h hh,aa,ae (by rw[fo]; omega),ae (by rw[ak]; omega),ae (by rw[ak]; omega),hd,dh]
 unfold F.Xk
 rw[A]at z y ⊢
 rw[ae (by decide),z,w2]
 by_cases c1:j.length=k
 ·rw[ae (by rw[c1]; simp)]
  by_cases c2:2*Sz h+2<=k
  ·rw[ae (by rw[ak]; omega),aC (by omega) (by omega),show (k:Int) - 1=((k - 1:Nat):Int) by omega,bg (show k - 1<j.length by omega) 0,aa]
   by_cases c3:j.getD (k - 1) 0=188
   ·rw[ae (by rw[c3]; decide),show (0:Int)=((0:Nat):Int) from rfl,bg (show 0<j.length by omega) 0,aa,DX b (by omega),aa]
    by_cases c4:(j.getD 0 0 &&& ~~~ hiB b)=0
    ·rw[ag ⟨c1,c2,c3,c4⟩,c4,show ((0:UInt8) != 0)=false from rfl,y c1 c2]
    ·rw[show ((j.getD 0 0 &&& ~~~ hiB b) != 0)=true by rw[dC]; exact c4,px,ae fun q=>c4 q.2.2.2]
   ·rw[ag (by rw[dC]; exact c3),px,ae fun q=>c3 q.2.2.1]
  ·rw[ag (ai (by omega)),px,ae fun q=>c2 q.2.1]
 ·rw[ag (by rw[dC]; omega),px,ae fun q=>c1 q.1]
def J9 (h:Int) (n e m sig:L01):Int:=
 if isH h then if lA n e then if sig.length=n.length/\beN sig<beN n then
  if beN sig^beN e%beN n<256^((nb (beN n) - 1+7) / 8)/\sT h (gk h m) (beB ((nb (beN n) - 1+7) / 8) (beN sig^beN e%beN n)) (nb (beN n) - 1)=true then 0 else 91 else 91 else 90 else 111
theorem vQ (b:Bool):F.ZV b=some (if b=true then 91 else 0):=by cases b <;> rfl
theorem FC (h:Int) (hh:isH h) (n e m j:L01) (z:m.length<=900000000000000) (k:lA n e) (hs:j.length=n.length) (y:beN j<beN n) :
  F.Zm h e m (ar (beN n)) (ar (beN j)) false=some (if beN j^beN e%beN n<256^((nb (beN n) - 1+7) / 8)/\sT h (gk h m) (beB ((nb (beN n) - 1+7) / 8) (beN j^beN e%beN n)) (nb (beN n) - 1)=true then 0 else 91):=by
 obtain⟨N,O,R,A⟩:=Ar k
 have b0:=k.2.2.2.2.2.1.1
 have b1:=k.2.2.2.2.2.1.2
 have U:nb (beN e)<=32:=lK (by have:=k.2.2.2.2.2.2.2.2; omega)
 have B:nb (beN j)<=4096:=ba (lK (fZ y (gv (beN n)).1)) b1
 have l1:=ku (l:=j) (by omega); have G:=ku (l:=e) (by omega); have I:=nA b1
 have V:(ar (beN j^beN e%beN n)).length<=128:=ba (gz (cz (bH _ (by omega)))) I
 have J:wI (((nb (beN n):Nat):Int) - 1)=((nb (beN n) - 1:Nat):Int):=by rw[aC (by omega) (by omega)]; omega
 have w2:jw (wI (((nb (beN n) - 1:Nat):Int)+7)) 3=(((nb (beN n) - 1+7) / 8:Nat):Int):=by
  rw[aC (by omega) (by omega),show ((nb (beN n) - 1:Nat):Int)+7=((nb (beN n) - 1+7:Nat):Int) by omega,uI _ _ (by decide)]
 have hl:=mV h m
 unfold F.Zm
 rw[ae (by decide),fx e (by omega),aa,xd _ _ _ A b1 (by omega) (by rw[ay]; exact B) (by rw[ay]; omega) l1 G,aa,ay,ay,ae (show ¬((0:Int) != 0)=true by decide),
  jO _ (by omega),aa,ay,J,w2,wK (ar (beN j^beN e%beN n)) _ (by omega) (by omega),ay]
 by_cases c1:beN j^beN e%beN n<256^((nb (beN n) - 1+7) / 8)
 ·rw[ag c1,aa,ae (show ¬(!true)=true by decide),xI h hh m z,aa,IR h hh _ _ _ (by omega) hl (by rw[mb]; omega),aa,vQ]
  cases hq:sT h (gk h m) (beB ((nb (beN n) - 1+7) / 8) (beN j^beN e%beN n)) (nb (beN n) - 1) with
  | true=>rw[ae (by decide),ag ⟨c1,rfl⟩]
  | false=>rw[ag (by decide),ae fun q=>by cases q.2]
 ·rw[ae c1,aa,ag (show (!false)=true by decide),vQ,ag rfl,ae fun q=>c1 q.1]
theorem Ez (h:Int) (n e m j:L01) (hn:n.length<=140737488351232) (k:e.length<=140737488351232) (y:m.length<=900000000000000) (hs:j.length<=140737488351232):F.Zq h n e m j=some (J9 h n e m j):=by
 unfold F.Zq J9
 rw[uL,aa]
 by_cases hh:isH h
 ·have hz:=nq h
  rw[ag hh,ae (by rw[fo]; omega),ag hh,B1 n e hn k,aa]
  by_cases hk:lA n e
  ·rw[ag hk,ae (by decide),ag hk,fx n hn,aa,fx j hs,aa]
   by_cases c1:j.length=n.length
   ·have l1:=ku hs; have z:=ku hn
    rw[ae (by rw[c1]; simp),ka _ _ (by omega) (by omega),aa,ay,ay]
    by_cases c2:beN j<beN n
    ·have:¬0<=eD (beN j) (beN n):=by unfold eD; rw[ag c2]; decide
     rw[au this,FC h hh n e m j y hk c1 c2,ag (show j.length=n.length/\beN j<beN n from⟨c1,c2⟩)]
    ·have:0<=eD (beN j) (beN n):=by unfold eD; rw[ae c2]; split <;> decide
     rw[ai this,ae fun q=>c2 q.2]; rfl
   ·rw[ag (by rw[dC]; omega),ae fun q=>c1 q.1]; rfl
  ·rw[ae hk,ag (by decide),ae hk]
 ·rw[ae hh,ag (by decide),ae hh]
def pE:Nat:=57896044618658097711785492504343953926634992332820282019728792003956564819949
def nE:Nat:=7237005577332262213973186563042994240857116359379907606001950938285454250989
theorem ji:1<pE/\pE%2=1/\pE<2^255/\0<pE:=by decide +kernel
theorem Cy:1<nE/\nE<2^253:=by decide +kernel
instance:NeZero pE:=⟨Nat.ne_of_gt ji.2.2.2⟩
theorem vz:nb pE<=255:=lK ji.2.2.1
theorem yI {n k:Nat} (h:n<2^(32*k)):(ar n).length<=k:=bu (by rw[show (4294967296:Nat)=2^32 from rfl,<-cu]; exact h)
theorem mA:(ar pE).length<=8:=yI (aW ji.2.2.1 (aZ (by decide) (by decide)))
abbrev Fe:=Fin pE
def le (x:Fe):L00:=ar x.val
theorem kG (x:Fe):(le x).length<=8:=ba (gz (cz x.isLt)) mA
theorem ke (x:Fe):val (le x)=x.val:=ay _
theorem pA (x:Fe):nb (val (le x))<=255:=by rw[ke]; exact lK (fZ x.isLt ji.2.2.1)
theorem tw:le 0=[]:=by unfold le; rw[show (0:Fe).val=0 from rfl,cI]
theorem Ns:(1:Fe).val=1:=az ji.1
theorem uX:le 1=[1]:=by
 unfold le; rw[Ns,kZ (by decide),show 1 / 4294967296=0 by decide,cI]; rfl
theorem qs {l:L00} {n:Nat} (h:val l=n) (hc:l.getLast?≠some 0):l=ar n:=AI h hc
theorem lY:F.TP=some (ar pE):=by
 rw[<-qs (l:=F.VM) (n:=pE) (by decide +kernel) (by decide)]; rfl
theorem I1:F.Yh=some (ar nE):=by
 rw[<-qs (l:=F.VN) (n:=nE) (by decide +kernel) (by decide)]; rfl
def dE:Fe:=⟨37095705934669439343138083508754565189542113879843219016388785533085940283555,by decide +kernel⟩
def iE:Fe:=⟨38214883241950591754978413199355411911188925816896391856984770930832735035197,by decide +kernel⟩
def gX:Fe:=⟨15112221349535400772501151409588531511454012693041857206046113283949847762202,by decide +kernel⟩
def gY:Fe:=⟨46316835694926478169428394003475163141307993866256225615783033603165251855960,by decide +kernel⟩
theorem uS:F.Vt=some (le dE):=by
 unfold le
 rw[<-qs (l:=F.Vv) (n:=dE.val) (by decide +kernel) (by decide)]; rfl
theorem L7:F.aaD=some (le iE):=by
 unfold le
 rw[<-qs (l:=F.VC) (n:=iE.val) (by decide +kernel) (by decide)]; rfl
theorem MO:F.aaw=some (le gX,le gY,false):=by
 unfold le
 rw[<-qs (l:=F.T5) (n:=gX.val) (by decide +kernel) (by decide),<-qs (l:=F.TZ) (n:=gY.val) (by decide +kernel) (by decide)]; rfl
theorem L2 (a b:L00) (m:Nat) (y:1<m) (z:nb m<=4096) (ha:nb (val a)<=4096) (hb:nb (val b)<=4096) (j:a.length<=40000000000000) (k:b.length<=40000000000000) (A:(ar m).length<=900) :
  F.YG a b (ar m)=some (ar ((val a+val b)%m),0):=by
 have l1:=nA ha; have B:=nA hb
 have hs:(ar (val a+val b)).length<=200:=ba (lS _ _) (by omega)
 unfold F.YG
 rw[ra ha hb (by rw[ay]; omega) (by rw[ay]; omega) j k (by omega),aa,ae (by decide),s9 _ _ j k,aa,kO _ _ (by omega) (by omega) (by rw[ay]; omega),aa,ay,ay]
theorem MG (a b:L00) (m:Nat) (y:1<m) (z:nb m<=4096) (ha:nb (val a)<=4096) (hb:nb (val b)<=4096) (j:a.length<=40000000000000) (k:b.length<=40000000000000) (A:(ar m).length<=900) :
  F.Zb a b (ar m)=some (ar ((m - val b%m+val a%m)%m),0):=by
 unfold F.Zb
 rw[ra ha hb (by rw[ay]; omega) (by rw[ay]; omega) j k (by omega),aa,ae (by decide),kO _ _ j (by omega) (by rw[ay]; omega),aa,kO _ _ k (by omega) (by rw[ay]; omega),aa,ay,
  ut (bH _ (by omega)) (bH _ (by omega)) (by omega) (ar m) (ay m) (by omega),aa]
theorem AA (x y:Fe):F.Tt (le x) (le y)=some (le (x+y)):=by
 have a:=kG x; have b:=kG y; have c:=pA x; have d:=pA y; have e:=vz; have f:=mA
 unfold F.Tt
 rw[lY,aa,L2 _ _ _ ji.1 (by omega) (by omega) (by omega) (by omega) (by omega) (by omega),aa,ke,ke]; rfl
theorem wZ (x y:Fe):F.TH (le x) (le y)=some (le (x - y)):=by
 have a:=kG x; have b:=kG y; have c:=pA x; have d:=pA y; have e:=vz; have f:=mA
 unfold F.TH
 rw[lY,aa,MG _ _ _ ji.1 (by omega) (by omega) (by omega) (by omega) (by omega) (by omega),aa,ke,ke,az x.isLt,az y.isLt]; rfl
theorem mN (x y:Fe):F.S1 (le x) (le y)=some (le (x*y)):=by
 have a:=kG x; have b:=kG y; have c:=pA x; have d:=pA y; have e:=vz; have f:=mA
 unfold F.S1
 rw[lY,aa,xF _ _ _ ji.1 (by omega) (by omega) (by omega) (by omega) (by omega) (by omega),aa,ke,ke]; rfl
noncomputable def xz (x:Fe):Fe:=⟨rZ pE x.val,MA ji.2.2.2⟩
def uA (x:Fe) (e:Nat):Fe:=⟨x.val^e%pE,bH _ ji.2.2.2⟩
theorem Qi (x:Fe):F.Xe (le x)=some (le (xz x)):=by
 have a:=kG x; have c:=pA x; have e:=vz; have f:=mA
 unfold F.Xe
 rw[lY,aa,MV _ _ ji.1 ji.2.1 (by omega) (by omega) (by omega) (by omega),aa,ke]
 simp only[le,xz]
theorem Sq (x:Fe) (e:L00) (k:e.length<=1000) (j:nb (val e)<=4096):F.ZE (le x) e=some (le (uA x (val e))):=by
 have a:=kG x; have c:=pA x; have y:=vz; have f:=mA
 unfold F.ZE
 rw[lY,aa,xd _ _ _ ji.1 (by omega) (by omega) (by omega) j (by omega) (by omega),aa,ke]; rfl
theorem LA (x:Fe):F.WY (le x)=some (le x):=by
 unfold F.WY
 rw[<-tw,AA,aa,Fin.add_zero]
abbrev Q4:=Fe×Fe×Fe×Fe
def q4 (s:Q4):L00×L00×L00×L00:=(le s.1,le s.2.1,le s.2.2.1,le s.2.2.2)
def twE (s:Q4):Q4:=
 let a:=s.1*s.1; let b:=s.2.1*s.2.1; let c:=s.2.2.1*(s.2.2.1+s.2.2.1); let h:=a+b; let w:=s.1+s.2.1; let e:=h - w*w; let g:=a - b; let f:=c+g
 (e*f,g*h,f*g,e*h)
def plE (s q:Q4):Q4:=
 let a:=(s.2.1 - s.1)*(q.2.1 - q.1); let b:=(s.2.1+s.1)*(q.2.1+q.1); let c:=s.2.2.2*q.2.2.2*(dE+dE); let d:=s.2.2.1*(q.2.2.1+q.2.2.1); let e:=b - a; let f:=d - c; let g:=d+c; let h:=b+a
 (e*f,g*h,f*g,e*h)
theorem IE (s:Q4):F.YK (le s.1) (le s.2.1) (le s.2.2.1) (le s.2.2.2)=some (q4 (twE s)):=by
 unfold F.YK
 simp only[mN,AA,wZ,aa]
 rfl
theorem Ed (s q:Q4):F.Xc (le s.1) (le s.2.1) (le s.2.2.1) (le s.2.2.2) (le q.1) (le q.2.1) (le q.2.2.1) (le q.2.2.2)=some (q4 (plE s q)):=by
 unfold F.Xc
 simp only[mN,AA,wZ,uS,aa]
 rfl
def tmE (s:Q4) (k:Nat):Nat->Q4->Q4
 | 0,a=>a
 | i+1,a=>tmE s k i (if k / 2^i%2=1 then plE (twE a) s else twE a)
theorem vH (s:Q4) (k:L00) (j:k.length<=1000):∀(i:Nat) (a:Q4),i<=1000000->loop (F.XO (le s.1) (le s.2.1) (le s.2.2.1) (le s.2.2.2) k) ((i:Int) - 1,q4 a)=some (q4 (tmE s (val k) i a))
 | 0,a,_=>by
  refine cb ?_
  unfold F.XO q4
  dsimp only
  rw[ae (by decide)]; rfl
 | i+1,a,hi=>by
  have y:(((i+1:Nat):Int)) - 1=(i:Int):=by omega
  have w:wI ((i:Int) - 1)=(i:Int) - 1:=aC (by omega) (by omega)
  rw[y]
  show _=some (q4 (tmE s (val k) i (if val k / 2^i%2=1 then plE (twE a) s else twE a)))
  rw[<-vH s k j i _ (by omega)]
  refine bn ?_
  unfold F.XO q4
  dsimp only
  rw[ag (ai (by omega)),IE,aa,Du _ _ (by omega) (by omega),aa]
  by_cases h:val k / 2^i%2=1
  ·rw[ag (ai h),ag h]
   have:=Ed (twE a) s
   unfold q4 at this ⊢
   rw[this,aa]
   unfold F.Y7
   dsimp only
   rw[w]; rfl
  ·rw[ae (by rw[ak]; exact h),ae h]
   unfold F.Y7 q4
   dsimp only
   rw[w]; rfl
def tiE (s:Q4) (k:Nat):Q4:=tmE s k (nb k) (0,1,1,0)
theorem Aq (s:Q4) (k:L00) (j:k.length<=1000):F.Xd (le s.1) (le s.2.1) (le s.2.2.1) (le s.2.2.2) k=some (q4 (tiE s (val k))):=by
 have hb:nb (val k)<=32*k.length:=ba (mz _) (bj 32 (bu (cv k)))
 have w:wI (((nb (val k):Nat):Int) - 1)=((nb (val k):Nat):Int) - 1:=aC (by omega) (by omega)
 unfold F.Xd
 rw[jO k (by omega),aa,w,<-uX,<-tw]
 exact vH s k j (nb (val k)) (0,1,1,0) (by omega)
noncomputable def ptE (s:Q4):Fe×Fe:=(s.1*xz s.2.2.1,s.2.1*xz s.2.2.1)
theorem JK (s:Q4):F.YC (le s.1) (le s.2.1) (le s.2.2.1) (le s.2.2.2)=some (le (ptE s).1,le (ptE s).2,false):=by
 unfold F.YC
 rw[Qi,aa,mN,aa,mN,aa]; rfl
theorem yk (x y:Fe):F.Xy (le x) (le y) false=some (q4 (x,y,1,x*y)):=by
 unfold F.Xy
 rw[LA,aa,LA,aa,mN,aa,<-uX]; rfl
def onE (x y:Fe):Bool:=decide (y*y - x*x=1+dE*(x*x*(y*y)))
theorem JE (x y:Fe):F.Te (le x) (le y)=some (eD x.val y.val):=by
 have a:=kG x; have b:=kG y
 rw[ka _ _ (by omega) (by omega),ke,ke]
theorem OU (x y:Fe):(eD x.val y.val == 0)=decide (x=y):=by
 rw[Kl,fV]; exact⟨fun h=>iN h,fun h=>by rw[h]⟩
theorem H2 (x:Fe):F.Te (le x) (ar pE)=some (-1):=by
 have a:=kG x; have f:=mA
 rw[ka _ _ (by omega) (by omega),ke,ay]; unfold eD; rw[ag x.isLt]
theorem Oe (x y:Fe):F.YP (le x) (le y) false=some (onE x y):=by
 unfold F.YP
 rw[ae (by decide),lY,aa,H2,aa,ae (by decide),aa,H2,aa]
 unfold F.YA onE
 dsimp only
 rw[ae (by decide),mN,aa,mN,aa,wZ,aa,uS,aa,mN,aa,mN,aa,<-uX,AA,aa,JE,aa,OU]
theorem A5 (l:L01) (hl:l.length<=1000000):∀(r i:Nat) (x:L01),l.length - 1 - 2*i<=r->2*i<=l.length->x.length=l.length->(∀j,j<l.length->x.getD j 0=if j<i\/l.length - i<=j then l.getD (l.length - 1 - j) 0 else l.getD j 0) ->
  loop F.Xa ((i:Int),(l.length:Int) - 1 - (i:Int),x)=some l.reverse
 | r,i,x,hr,hi,hx,hj=>by
  by_cases hlt:i+i+1<l.length
  ·match r,hr with
   | 0,hr=>omega
   | r+1,hr=>
    have y:=A5 l hl r (i+1) ((x.set i (x.getD (l.length - 1 - i) 0)).set (l.length - 1 - i) (x.getD i 0)) (by omega) (by omega) (by simpa using hx) (fun j A=>by
     by_cases e1:j=l.length - 1 - i
     ·subst e1
      rw[an,c7 (by simp[hx]; omega),ag (by omega)]
      show x.getD i 0=_
      rw[hj i (by omega),ae (by omega)]; congr 1; omega
     ·by_cases e2:j=i
      ·subst e2
       rw[an,List.getElem?_set_ne (by omega),c7 (by omega),ag (by omega)]
       show x.getD (l.length - 1 - j) 0=_
       rw[hj _ (by omega),ae (by omega)]
      ·rw[an,List.getElem?_set_ne (by omega),List.getElem?_set_ne (by omega),<-an,hj j A]
       by_cases e3:j<i\/l.length - i<=j
       ·rw[ag e3,ag (by omega)]
       ·rw[ae e3,ae (by omega)])
    rw[<-y]
    refine bn ?_
    have ei:(l.length:Int) - 1 - (i:Int)=((l.length - 1 - i:Nat):Int):=by omega
    unfold F.Xa
    dsimp only
    rw[ei,ag (ai (by omega)),bg (by omega) 0,aa,bg (by omega) 0,aa,aa,aD,bg (by rw[dJ]; omega) 0,aa,aD,am,am,aC (by omega) (by omega),aC (by omega) (by omega)]
    rw[show ((l.length - 1 - i:Nat):Int) - 1=(l.length:Int) - 1 - ((i+1:Nat):Int) by omega]
    rfl
  ·refine cb ?_
   unfold F.Xa
   dsimp only
   rw[ae (by rw[ak]; omega)]
   congr 2
   apply gC (by simp[hx])
   intro j y I
   have z:=hj j (by omega)
   rw[an,av y]at z
   simp only[Option.getD_some]at z
   rw[z,List.getElem_reverse]
   have B:∀k (G:k<l.length),l.getD k 0=l[k]:=fun k G=>by rw[an,av G]; rfl
   split
   ·rw[B _ (by omega)]
   ·rw[B _ (by omega)]
    have:j=l.length - 1 - j:=by omega
    congr 1
theorem vv (l:L01) (hl:l.length<=1000000):F.Xj l=some l.reverse:=by
 unfold F.Xj
 rw[aD,aC (by omega) (by omega)]
 have:=A5 l hl l.length 0 l (by omega) (by omega) rfl (fun j k=>by rw[ae (by omega)])
 rw[<-this]
 congr 3
 omega
def leN (l:L01):Nat:=beN l.reverse
theorem B6 (l:L01):leN l<256^l.length:=by have:=lF l.reverse; rwa [List.length_reverse]at this
theorem Gh (a:L01) (h:a.length<=225000000000000):F.Un a=some a:=by
 unfold F.Un
 rw[show apO 1 [] a=some a by unfold apO; rw[ag (by simp; omega)]; rfl,aa]
theorem qA (l:L01) (hl:l.length<=1000000):F.Vr l=some (ar (leN l)):=by
 unfold F.Vr
 rw[Gh l (by omega),aa,vv l hl,aa,fx _ (by rw[List.length_reverse]; omega),aa]; rfl
noncomputable def xxE (y:Fe):Fe:=(y*y - 1)*xz (dE*(y*y)+1)
noncomputable def x1E (y:Fe):Fe:=if uA (xxE y) ((pE+3) / 8)*uA (xxE y) ((pE+3) / 8)=xxE y then uA (xxE y) ((pE+3) / 8) else uA (xxE y) ((pE+3) / 8)*iE
noncomputable def EX (y:Fe) (odd:Bool):Option Fe:=
 if x1E y*x1E y=xxE y/\¬(x1E y=0/\odd=true) then some (if decide ((x1E y).val%2=1)=odd then x1E y else 0 - x1E y) else none
def O6 (o:Option Fe):L00×Bool:=match o with
 | some x=>(le x,true)
 | none=>([],false)
theorem Lu (x y:Fe):(eD x.val y.val != 0)=decide (¬x=y):=by
 rw[bne,OU]; by_cases h:x=y
 ·rw[ai h,au (by simpa using h)]; rfl
 ·rw[au h,ai h]; rfl
theorem LF (x:Fe):F.TE (le x) 0=some (decide (x.val%2=1)):=by
 have a:=kG x
 rw[mY _ (by omega),ke]
theorem Hl (j:Bool) (x:Fe):F.Wm j (le x) false=some (le (if decide (x.val%2=1)=j then x else 0 - x),true):=by
 unfold F.Wm
 rw[ae (by decide),LF,aa]
 by_cases h:decide (x.val%2=1)=j
 ·rw[ae (by rw[h]; simp),ag h]; rfl
 ·rw[ag (by rw[dC]; exact h),<-tw,wZ,aa,ae h]; rfl
theorem GL (j:Bool) (k x:Fe):F.YF j (le k) (le x)=some (O6 (if x*x=k/\¬(x=0/\j=true) then some (if decide (x.val%2=1)=j then x else 0 - x) else none)):=by
 have a:=kG x
 have hb:(((nb x.val:Nat):Int) == 0)=decide (x=0):=by
  by_cases h:x=0
  ·rw[h,ai rfl,show (0:Fe).val=0 from rfl,kS]; rfl
  ·rw[au h,cR]
   have y:x.val≠0:=fun q=>h (iN q)
   have:=(gv x.val).2 y
   omega
 unfold F.YF
 dsimp only
 rw[mN,aa,JE,aa,Lu]
 by_cases h1:x*x=k
 ·rw[ae (by rw[ak]; exact fun q=>q h1),jO _ (by omega),aa,ke,hb]
  by_cases h2:x=0
  ·rw[ag (ai h2)]
   cases j with
   | true=>rw[ae (fun q=>q.2 ⟨h2,rfl⟩)]; rfl
   | false=>rw[ag ⟨h1,fun q=>by cases q.2⟩,Hl]; rfl
  ·rw[ae (by rw[ak]; exact h2),ag ⟨h1,fun q=>h2 q.1⟩,Hl]; rfl
 ·rw[ag (ai h1),ae fun q=>h1 q.1]; rfl
theorem Ou:F.TN (ar (pE+3)) 3=some (ar ((pE+3) / 8)):=by
 have h:(ar (pE+3)).length<=9:=ba (lS _ _) (by have:=mA; have:(ar 3).length<=1:=bu (by decide); omega)
 have:=M1 (ar (pE+3)) 3 (by decide) (by omega)
 rw[ay]at this
 exact this
theorem P2 (y:Fe) (j:Bool):F.Y9 (le y) j=some (O6 (EX y j)):=by
 have f:=mA
 have k:val ([3]:L00)=3:=rfl
 have A:(ar ((pE+3) / 8)).length<=9:=ba (gz (dy _ _)) (ba (lS _ _) (by have:(ar 3).length<=1:=bu (by decide); omega))
 have z:nb ((pE+3) / 8)<=32*9:=ba (mz _) (by omega)
 unfold F.Y9
 rw[mN,aa,<-uX,wZ,aa,uS,aa,mN,aa,AA,aa,Qi,aa,mN,aa,lY,aa,s9 _ _ (by omega) (by decide),aa,ay,k,Ou,aa,
  Sq _ _ (by omega) (by rw[ay]; omega),aa,ay,mN,aa,JE,aa,Lu]
 have hx:(y*y - 1)*xz (dE*(y*y)+1)=xxE y:=rfl
 rw[hx]
 unfold EX x1E
 by_cases h:uA (xxE y) ((pE+3) / 8)*uA (xxE y) ((pE+3) / 8)=xxE y
 ·rw[ae (by rw[ak]; exact fun q=>q h),ag h,GL]
 ·rw[ag (ai h),L7,aa,mN,aa,ae h,GL]
def clr (b:L01):L01:=b.set 31 (b.getD 31 0 &&& 127)
noncomputable def se (b:L01):Option (Fe×Fe):=
 if b.length=32 then if h:leN (clr b)<pE then match EX ⟨leN (clr b),h⟩ ((b.getD 31 0 &&& 128) != 0) with
  | some x=>some (x,⟨leN (clr b),h⟩)
  | none=>none else none else none
def Ps (o:Option (Fe×Fe)):L00×L00×Bool×Int:=match o with
 | some (x,y)=>(le x,le y,false,0)
 | none=>([],[],false,93)
theorem vq (b:L01):F.Xm b=some (Ps (se b)):=by
 unfold F.Xm se
 by_cases h:b.length=32
 ·have hl:(clr b).length=32:=by unfold clr; rw[dJ,h]
  have j:=B6 (clr b)
  rw[hl]at j
  have z:(ar (leN (clr b))).length<=8:=bu (by rw[show (4294967296:Nat)=256^4 from rfl,<-cu]; exact j)
  have f:=mA
  rw[ae (by rw[h]; simp),ag h,Gh b (by omega),aa,show (31:Int)=((31:Nat):Int) from rfl,bg (show 31<b.length by omega) 0,aa,aa,aa,aD,am]
  have k:b.set 31 (b.getD 31 0 &&& 127)=clr b:=rfl
  rw[k,qA _ (by omega),aa,lY,aa,ka _ _ (by omega) (by omega),aa,ay,ay]
  by_cases hc:leN (clr b)<pE
  ·have:¬0<=eD (leN (clr b)) pE:=by unfold eD; rw[ag hc]; decide
   rw[ae (by rw[ak]; exact this),dif_pos hc]
   have y:ar (leN (clr b))=le ⟨leN (clr b),hc⟩:=rfl
   rw[y,P2,aa]
   cases EX ⟨leN (clr b),hc⟩ ((b.getD 31 0 &&& 128) != 0) <;> rfl
  ·have:0<=eD (leN (clr b)) pE:=by unfold eD; rw[ae hc]; split <;> decide
   rw[ag (ai this),dif_neg hc]; rfl
 ·rw[ag (by rw[dC]; omega),ae h]; rfl
def Fw (x y:Fe):L01:=if x.val%2=1 then (beB 32 y.val).reverse.set 31 ((beB 32 y.val).reverse.getD 31 0 ||| 128) else (beB 32 y.val).reverse
theorem FZ (x y:Fe):F.XL (le x) (le y) false=some (if onE x y=true then (Fw x y,0) else ([],93)):=by
 have a:=kG y
 have j:y.val<256^32:=fZ y.isLt (aW ji.2.2.1 (by decide))
 have hl:((beB 32 y.val).reverse).length=32:=by rw[List.length_reverse,mb]
 unfold F.XL
 rw[Oe,aa]
 cases onE x y with
 | false=>rfl
 | true=>
  rw[ae (by decide),show (32:Int)=((32:Nat):Int) from rfl,wK (le y) 32 (by omega) (by decide),ke,ag j,aa,vv _ (by rw[mb]; decide),aa,LF,aa,ag rfl]
  unfold Fw F.ZT
  by_cases h:x.val%2=1
  ·rw[ag (ai h),ag h,show (31:Int)=((31:Nat):Int) from rfl,bg (show 31<_ by rw[hl]; decide) 0,aa,aa,aD,am]
  ·rw[ae (by rw[ak]; exact h),ae h]
noncomputable def rE (x y:Fe) (s k:Nat):Fe×Fe:=ptE (plE (tiE (gX,gY,1,gX*gY) s) (tiE (0 - x,y,1,(0 - x)*y) k))
noncomputable def edT (pub m sig:L01):Int:=match se pub with
 | none=>90
 | some (x,y)=>if sig.length=64/\leN (sig.drop 32)<nE/\onE (rE x y (leN (sig.drop 32)) (leN (gk 3 (sig.take 32++(pub++m)))%nE)).1 (rE x y (leN (sig.drop 32)) (leN (gk 3 (sig.take 32++(pub++m)))%nE)).2=true /\
   Fw (rE x y (leN (sig.drop 32)) (leN (gk 3 (sig.take 32++(pub++m)))%nE)).1 (rE x y (leN (sig.drop 32)) (leN (gk 3 (sig.take 32++(pub++m)))%nE)).2=sig.take 32 then 0 else 91
theorem vf (b:Bool):F.ZY b=some (if b=true then 91 else 0):=by cases b <;> rfl
theorem Jx {b:L01} {p:Fe×Fe} (h:se b=some p):b.length=32:=by
 unfold se at h
 split at h
 ·assumption
 ·cases h
theorem Fo (k m j:L01) (Z:m.length<=800000000000000) (hs:j.length<=140737488351232):F.Y3 k m j=some (edT k m j):=by
 unfold F.Y3 edT
 rw[vq,aa]
 cases hd:se k with
 | none=>rfl
 | some p=>
  obtain⟨x,y⟩:=p
  have hp:=Jx hd
  show (if ((0:Int) != 0)=true then _ else _)=_
  rw[ae (by decide)]
  by_cases h1:j.length=64
  ·have J:=B6 (j.drop 32)
   rw[ca,h1]at J
   have V:(ar (leN (j.drop 32))).length<=8:=bu (by rw[show (4294967296:Nat)=256^4 from rfl,<-cu]; exact J)
   have hn:(ar nE).length<=8:=yI (aW Cy.2 (aZ (by decide) (by decide)))
   rw[ae (by rw[h1]; simp),show (32:Int)=((32:Nat):Int) from rfl,oN (by omega),aa,qA _ (by rw[ca]; omega),aa,I1,aa,ka _ _ (by omega) (by omega),aa,ay,ay]
   by_cases h2:leN (j.drop 32)<nE
   ·have:¬0<=eD (leN (j.drop 32)) nE:=by unfold eD; rw[ag h2]; decide
    have z:[j.take 32,k,m].flatten=j.take 32++(k++m):=by simp
    have hS:F.Tq 3 [j.take 32,k,m]=some (gk 3 (j.take 32++(k++m))):=by
     rw[li 3 (by right; right; rfl) _ (by simp) (by rw[z]; simp; omega),z]
    have A:=mV 3 (j.take 32++(k++m))
    rw[show Sz 3=64 from rfl]at A
    have B:=B6 (gk 3 (j.take 32++(k++m)))
    rw[A]at B
    have X:(ar (leN (gk 3 (j.take 32++(k++m))))).length<=16:=bu (by rw[show (4294967296:Nat)=256^4 from rfl,<-cu]; exact B)
    have N:nE≠0:=by have:=Cy.1; omega
    have Y:(ar (leN (gk 3 (j.take 32++(k++m)))%nE)).length<=8:=ba (gz (cz (bH _ (by omega)))) hn
    rw[ae (by rw[ak]; exact this),Bo (by omega),aa,hS,aa,qA _ (by omega),aa,aa,rq _ _ (by omega) (by omega),aa,ay,ay,ae N,<-tw]
    dsimp only[Ps]
    rw[wZ,aa,MO,aa,yk,aa]
    have G:=Aq (gX,gY,1,gX*gY) (ar (leN (j.drop 32))) (by omega)
    have I:=Aq (0 - x,y,1,(0 - x)*y) (ar (leN (gk 3 (j.take 32++(k++m)))%nE)) (by omega)
    rw[ay]at G I
    dsimp only[q4]at G I ⊢
    rw[G,aa,yk,aa]
    dsimp only[q4]
    rw[I,aa]
    dsimp only
    have p1:=Ed (tiE (gX,gY,1,gX*gY) (leN (j.drop 32))) (tiE (0 - x,y,1,(0 - x)*y) (leN (gk 3 (j.take 32++(k++m)))%nE))
    dsimp only[q4]at p1
    rw[p1,aa]
    dsimp only
    rw[JK,aa]
    dsimp only
    rw[FZ,aa]
    have O:ptE (plE (tiE (gX,gY,1,gX*gY) (leN (j.drop 32))) (tiE (0 - x,y,1,(0 - x)*y) (leN (gk 3 (j.take 32++(k++m)))%nE)))=rE x y (leN (j.drop 32)) (leN (gk 3 (j.take 32++(k++m)))%nE):=rfl
    rw[O]
    obtain⟨R,U⟩:∃R,rE x y (leN (j.drop 32)) (leN (gk 3 (j.take 32++(k++m)))%nE)=R:=⟨_,rfl⟩
    rw[U]
    cases h3:onE R.1 R.2 with
    | false=>
     rw[ae (show ¬false=true by decide)]
     show (if ((93:Int) != 0)=true then _ else _)=_
     rw[ag (by decide),vf,ag rfl,ae fun q=>by cases q.2.2.1]
    | true=>
     rw[ag rfl]
     show (if ((0:Int) != 0)=true then _ else _)=_
     rw[ae (by decide),aa,Bc,aa,vf]
     by_cases h4:Fw R.1 R.2=j.take 32
     ·rw[ai h4,ae (by decide),ag ⟨h1,h2,rfl,h4⟩]
     ·rw[au h4,ag (by decide),ae fun q=>h4 q.2.2.2]
   ·have:0<=eD (leN (j.drop 32)) nE:=by unfold eD; rw[ae h2]; split <;> decide
    rw[ag (ai this)]
    show _=some (if _ then _ else _)
    rw[ae fun q=>h2 q.2.1]
  ·rw[ag (by rw[dC]; omega)]
   show _=some (if _ then _ else _)
   rw[ae fun q=>h1 q.1]
abbrev LB:Nat:=140737488351232
def kh (l:List L01):Nat:=(l.map List.length).sum
theorem tS (l:List L01) (hl:l.length<=10) (hb:∀x∈l,x.length<=LB):∀(r i:Nat),i+r=l.length->loop (F.XH l) (((kh (l.take i):Nat):Int),(i:Int))=some (decide (kh l=0))
 | 0,i,e=>by
  refine cb ?_
  unfold F.XH
  dsimp only
  rw[ae (by rw[ak]; omega),aA (by omega)]
  congr 2
  by_cases h:kh l=0
  ·rw[h,ai rfl]; rfl
  ·rw[au h,cR]; omega
 | r+1,i,e=>by
  have hi:i<l.length:=by omega
  have z:l.take (i+1)=l.take i++[l[i]]:=by rw[List.take_add_one,av hi]; rfl
  have hs:kh (l.take (i+1))=kh (l.take i)+l[i].length:=by unfold kh; rw[z,List.map_append,List.sum_append]; simp
  have k:∀(m:List L01),(∀x∈m,x.length<=LB)->kh m<=m.length*LB:=by
   intro m
   induction m with
   | nil=>intro _; simp[kh]
   | cons a m ih=>
    intro h
    have j:=ih fun x hx=>h x (by simp[hx])
    have y:=h a (by simp)
    simp only[kh,db,List.sum_cons,bY,aU]at j ⊢
    omega
  have j:=k (l.take (i+1)) fun x hx=>hb x (List.mem_of_mem_take hx)
  have y:(l.take (i+1)).length<=10:=by rw[aJ]; omega
  have A:kh (l.take (i+1))<=10*LB:=ba j (aT _ y)
  rw[<-tS l hl hb r (i+1) (by omega)]
  refine bn ?_
  unfold F.XH
  dsimp only
  rw[ag (ai (by omega)),bz hi,aa,aC (by omega) (by unfold LB at A; omega),aD,aC (by omega) (by omega),hs]
  rfl
theorem pH (l:List L01) (hl:l.length<=10) (hb:∀x∈l,x.length<=LB):F.T6 l=some (decide (kh l=0)):=tS l hl hb l.length 0 (by omega)
noncomputable def tx (kty crv:Int) (s n e x y:L01):Bool:=
 if kty=1 then decide (crv=0/\32<=s.length/\s.length<=4096/\kh [n,e,x,y]=0)
 else if kty=2 then decide (crv=0/\kh [s,x,y]=0/\lA n e)
 else if kty=3 then decide ((oh crv x y).2.2.2=0/\kh [s,n,e]=0)
 else if kty=4 then decide (crv=3/\kh [s,n,e,y]=0/\(se x).isSome=true) else false
theorem od (a b:Int):(a == b)=decide (a=b):=by
 by_cases h:a=b
 ·rw[ai h,fo]; exact h
 ·rw[au h,cR]; exact h
theorem Nq (k j:Int) (s n e x y:L01) (hs:s.length<=LB) (hn:n.length<=LB) (z:e.length<=LB) (hx:x.length<=LB) (A:y.length<=LB):F.Zy k j s n e x y=some (tx k j s n e x y):=by
 have B:F.T6 [n,e,x,y]=some (decide (kh [n,e,x,y]=0)):=pH _ (by simp) (by simp[hn,z,hx,A])
 have G:F.T6 [s,x,y]=some (decide (kh [s,x,y]=0)):=pH _ (by simp) (by simp[hs,hx,A])
 have I:F.T6 [s,n,e]=some (decide (kh [s,n,e]=0)):=pH _ (by simp) (by simp[hs,hn,z])
 have J:F.T6 [s,n,e,y]=some (decide (kh [s,n,e,y]=0)):=pH _ (by simp) (by simp[hs,hn,z,A])
 unfold F.Zy tx
 simp only[od,ak]
 by_cases k1:k=1
 ·rw[ag k1,ag k1]
  by_cases c1:j=0
  ·rw[ag c1]
   by_cases c2:32<=s.length
   ·rw[ag (by omega)]
    by_cases c3:s.length<=4096
    ·rw[ag (by omega),B,aa]; congr 1; rw[fV]; exact⟨fun q=>⟨c1,c2,c3,q⟩,fun q=>q.2.2.2⟩
    ·rw[ae (by omega),au fun q=>c3 q.2.2.1]
   ·rw[ae (by omega),au fun q=>c2 q.2.1]
  ·rw[ae c1,au fun q=>c1 q.1]
 rw[ae k1,ae k1]
 by_cases k2:k=2
 ·rw[ag k2,ag k2]
  by_cases c1:j=0
  ·rw[ag c1,G,aa]
   by_cases c2:kh [s,x,y]=0
   ·rw[ag (ai c2),B1 n e hn z,aa]
    by_cases c3:lA n e
    ·rw[ag c3,ai (show j=0/\kh [s,x,y]=0/\lA n e from⟨c1,c2,c3⟩)]; rfl
    ·rw[ae c3,au (show ¬(j=0/\kh [s,x,y]=0/\lA n e) from fun q=>c3 q.2.2)]; rfl
   ·rw[ae (by rw[ak]; exact c2),au fun q=>c2 q.2.1]
  ·rw[ae c1,au fun q=>c1 q.1]
 rw[ae k2,ae k2]
 by_cases k3:k=3
 ·rw[ag k3,ag k3,xN,aa]
  by_cases c1:(oh j x y).2.2.2=0
  ·rw[ag c1,I,aa]; congr 1; rw[fV]; exact⟨fun q=>⟨c1,q⟩,fun q=>q.2⟩
  ·rw[ae c1,au fun q=>c1 q.1]
 rw[ae k3,ae k3]
 by_cases k4:k=4
 ·rw[ag k4,ag k4]
  by_cases c1:j=3
  ·rw[ae (by rw[c1]; decide),J,aa]
   by_cases c2:kh [s,n,e,y]=0
   ·rw[ai c2]
    unfold F.aai
    dsimp only
    rw[ae (by decide),vq,aa]
    cases hd:se x with
    | none=>rw[au fun q=>by cases q.2.2]; rfl
    | some p=>rw[ai ⟨c1,c2,rfl⟩]; rfl
   ·rw[au c2,au fun q=>c2 q.2.1]; rfl
  ·rw[ag (by rw[dC]; exact c1),au fun q=>c1 q.1]; rfl
 rw[ae k4,ae k4]
theorem GG (j k:Int) (s n e x y:L01) (hs:s.length<=LB) (hn:n.length<=LB) (z:e.length<=LB) (hx:x.length<=LB) (A:y.length<=LB):F.XS j k s n e x y=some (if tx j k s n e x y=true then 0 else 90):=by
 unfold F.XS
 rw[Nq j k s n e x y hs hn z hx A,aa]
 cases tx j k s n e x y <;> rfl
def i7 (a:Int):Int×Int×Int:=
 if 1<=a/\a<=3 then (1,a,0) else if 4<=a/\a<=6 then (2,a - 3,0) else if 7<=a/\a<=9 then (3,a - 6,0) else if a=10 then (4,1,1) else if a=11 then (4,2,2) else if a=12 then (5,0,3) else (0,0,0)
theorem sc (a:Int):(a=1\/a=2\/a=3\/a=4\/a=5\/a=6\/a=7\/a=8\/a=9\/a=10\/a=11\/a=12)\/(a<1\/12<a):=by omega
theorem DP (a:Int):F.W5 a=some (i7 a):=by
 rcases sc a with (rfl | rfl | rfl | rfl | rfl | rfl | rfl | rfl | rfl | rfl | rfl | rfl) | h
 all_goals first | rfl | skip
 have j:∀k:Int,1<=k->k<=12->(a == k)=false:=fun k z A=>by rw[cR]; omega
 have y:i7 a=(0,0,0):=by
  unfold i7
  rw[ae (by omega),ae (by omega),ae (by omega),ae (by omega),ae (by omega),ae (by omega)]
 rw[y]
 unfold F.W5 F.Ye F.YH F.Zx
 simp only[j 1 (by decide) (by decide),j 2 (by decide) (by decide),j 3 (by decide) (by decide),j 4 (by decide) (by decide),j 5 (by decide) (by decide),j 6 (by decide) (by decide),j 7 (by decide) (by decide),j 8 (by decide) (by decide),j 9 (by decide) (by decide),
  j 10 (by decide) (by decide),j 11 (by decide) (by decide),j 12 (by decide) (by decide)]
 rfl
def Ce (a kty crv:Int):Bool:=
 if 1<=a/\a<=3 then decide (kty=1) else if 4<=a/\a<=9 then decide (kty=2) else if a=10\/a=11 then decide (kty=3/\crv=a - 9) else if a=12 then decide (kty=4/\crv=3) else false
theorem MM (a j k:Int) (s n e x y:L01):F.YJ a j k s n e x y=some (Ce a j k):=by
 unfold F.YJ
 rw[DP,aa]
 have A:∀(p q:Int) (h:¬p=q),decide (p=q)=false:=fun p q h=>au h
 rcases sc a with (rfl | rfl | rfl | rfl | rfl | rfl | rfl | rfl | rfl | rfl | rfl | rfl) | h
 all_goals first
  | (show some (j == 1)=some (decide (j=1)); rw[od])
  | (show some (j == 2)=some (decide (j=2)); rw[od])
  | (show (if (j == 3)=true then some (k == 1) else some false)=some (decide (j=3/\k=10 - 9)); rw[od,od]; by_cases h:j=3 <;> simp[h])
  | (show (if (j == 3)=true then some (k == 2) else some false)=some (decide (j=3/\k=11 - 9)); rw[od,od]; by_cases h:j=3 <;> simp[h])
  | (show (if (j == 4)=true then some (k == 3) else some false)=some (decide (j=4/\k=3)); rw[od,od]; by_cases h:j=4 <;> simp[h])
  | skip
 have z:i7 a=(0,0,0):=by
  unfold i7
  rw[ae (by omega),ae (by omega),ae (by omega),ae (by omega),ae (by omega),ae (by omega)]
 have hf:Ce a j k=false:=by
  unfold Ce
  rw[ae (by omega),ae (by omega),ae (by omega),ae (by omega)]
 rw[z,hf]
 rfl
noncomputable def FU (k:Int×Int×Int) (s n e x y m sig:L01):Bool:=
 if k.1=1 then decide (qM k.2.1 s m=sig) else if k.1=2 then decide (Lc k.2.1 n e m sig=0) else if k.1=3 then decide (J9 k.2.1 n e m sig=0) else if k.1=4 then decide (IF k.2.1 k.2.2 x y m sig=0) else decide (edT x m sig=0)
noncomputable def mr (a kty crv:Int) (s n e x y m sig:L01):Int:=
 if (i7 a).1=0 then 111 else if Ce a kty crv=true then if tx kty crv s n e x y=true/\¬((i7 a).1=1/\s.length<Sz (i7 a).2.1) then if FU (i7 a) s n e x y m sig=true then 0 else 91 else 90 else 105
theorem yF {a:Int} (h:(i7 a).1=1):zB (i7 a).2.1:=by
 rcases sc a with (rfl | rfl | rfl | rfl | rfl | rfl | rfl | rfl | rfl | rfl | rfl | rfl) | j
 all_goals first | (exact .inl rfl) | (exact .inr (.inl rfl)) | (exact .inr (.inr rfl)) | (exact absurd h (by decide)) | skip
 unfold i7 at h
 rw[ae (by omega),ae (by omega),ae (by omega),ae (by omega),ae (by omega),ae (by omega)]at h
 exact absurd h (by decide)
theorem pG (z:Int):F.Uv z=some (if z=0 then 0 else 91):=by
 unfold F.Uv
 by_cases h:z=0
 ·rw[ae (by rw[h]; decide),ag h]
 ·rw[ag (by rw[dC]; exact h),ae h]
theorem sX {p:Prop} [Decidable p]:(if decide p=true then (0:Int) else 91)=if p then 0 else 91:=by simp
theorem yG (a:Int) (s n e x y m j:L01) (hs:s.length<=LB) (hn:n.length<=LB) (k:e.length<=LB) (z:m.length<=LB) (hg:j.length<=LB):F.Wa s n e x y m j (i7 a) false=some (if FU (i7 a) s n e x y m j=true then 0 else 91):=by
 unfold LB at hs hn k z hg
 unfold F.Wa FU
 rw[ae (by decide)]
 simp only[od,ak]
 by_cases k1:(i7 a).1=1
 ·rw[ag k1,ag k1,zo _ (yF k1) _ _ _ (by omega) (by omega),aa]
  by_cases h:qM (i7 a).2.1 s m=j
  ·rw[ai h]; rfl
  ·rw[au h]; rfl
 rw[ae k1,ae k1]
 by_cases k2:(i7 a).1=2
 ·rw[ag k2,ag k2,F0 _ _ _ _ _ hn k (by omega) hg,aa,pG,sX]
 rw[ae k2,ae k2]
 by_cases k3:(i7 a).1=3
 ·rw[ag k3,ag k3,Ez _ _ _ _ _ hn k (by omega) hg,aa,pG,sX]
 rw[ae k3,ae k3]
 by_cases k4:(i7 a).1=4
 ·rw[ag k4,ag k4,Js _ _ _ _ _ _ (by omega) hg,aa,pG,sX]
 rw[ae k4,ae k4,Fo _ _ _ (by omega) hg,aa,pG,sX]
theorem yw (a j k:Int) (s n e x y m z:L01) (hs:s.length<=LB) (hn:n.length<=LB) (A:e.length<=LB) (hx:x.length<=LB) (I:y.length<=LB) (B:m.length<=LB) (hg:z.length<=LB):F.Wn a j k s n e x y m z=some (mr a j k s n e x y m z):=by
 unfold F.Wn mr
 rw[DP,aa,od]
 by_cases k0:(i7 a).1=0
 ·rw[ag (ai k0),ag k0]
 rw[ae (by rw[ak]; exact k0),ae k0,MM,aa]
 cases hf:Ce a j k with
 | false=>rfl
 | true=>
  rw[ae (by decide),ag rfl,GG j k s n e x y hs hn A hx I,aa]
  cases hgd:tx j k s n e x y with
  | false=>rw[ag (by decide),ae (show ¬(false=true/\_) from fun q=>by cases q.1)]; rfl
  | true=>
   rw[ag rfl,ae (by decide),od]
   by_cases k1:(i7 a).1=1
   ·have J:=yF k1
    have G:F.Tr (i7 a).2.1=some ((Sz (i7 a).2.1:Nat):Int):=Ca _ J
    rw[ag (ai k1),G,aa]
    by_cases c:s.length<Sz (i7 a).2.1
    ·rw[ai (by omega),ae fun q=>q.2 ⟨k1,c⟩]; rfl
    ·rw[au (by omega),ag ⟨rfl,fun q=>c q.2⟩]; exact yG a s n e x y m z hs hn A B hg
   ·rw[ae (by rw[ak]; exact k1),ag ⟨rfl,fun q=>k1 q.1⟩]; exact yG a s n e x y m z hs hn A B hg
end Go.Gk.Bn
end
