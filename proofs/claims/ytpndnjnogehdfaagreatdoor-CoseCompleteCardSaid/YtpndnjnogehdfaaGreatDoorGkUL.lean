import Derived.Test.YtpndnjnogehdfaaGreatDoorGkP0
import Derived.Test.YtpndnjnogehdfaaGreatDoorGkFman
set_option linter.unusedVariables false
set_option linter.unusedSimpArgs false
set_option linter.unusedSectionVars false
section
namespace Go.Gk.Bn
open Go Go.Gk Go.Gk.Sh
def Cof (m a x r:Nat):Prop:=(m:Int) ∣ (x:Int)*a - r
theorem Cof.step {m a x y r s q t:Nat} (U:Cof m a x r) (V:Cof m a y s) (hm:0<m) (G:r=q*s+t):Cof m a ((x+m - q*y%m)%m) t:=by
 unfold Cof at *
 obtain⟨X,Z⟩:=U
 obtain⟨Y,e2⟩:=V
 have I:=bM (q*y) hm
 have J:((q*y%m:Nat):Int)=q*y - m*((q*y / m:Nat):Int):=by
  have:=cQ (q*y) m
  have B:((q*y:Nat):Int)=((m*(q*y / m)+q*y%m:Nat):Int):=by rw[this]
  rw[gt,cZ,cZ m]at B
  omega
 obtain⟨N,O⟩:∃N,x+m - q*y%m=N:=⟨_,rfl⟩
 have j:(N:Int)=x+m - ((q*y%m:Nat):Int):=by omega
 have R:((N%m:Nat):Int)=N - m*((N / m:Nat):Int):=by
  have:=cQ N m
  have B:(N:Int)=((m*(N / m)+N%m:Nat):Int):=by rw[this]
  rw[gt,cZ]at B
  omega
 rw[O]
 have A:(t:Int)=r - q*s:=by rw[G]; push_cast; omega
 refine⟨X - q*Y+a+a*((q*y / m:Nat):Int) - a*((N / m:Nat):Int),?_⟩
 rw[R,j,J,A]
 generalize ((q*y / m:Nat):Int)=k1
 generalize ((N / m:Nat):Int)=k2
 clear J R A G I hm O j
 grobner
theorem Cof.le {m a x r:Nat} (h:Cof m a x r) (hm:0<m) (j:r=1):a*(x%m)%m=1%m:=by
 subst j
 obtain⟨c,e⟩:=h
 have q:((a*x:Nat):Int)=1+m*c:=by push_cast; rw[Int.mul_comm]; omega
 have y:(((a*x)%m:Nat):Int)=((1%m:Nat):Int):=by
  rw[bN,q,Int.add_mul_emod_self_left]; rfl
 rw[dD,fL,<-dD]
 exact Int.natCast_inj.1 y
theorem Bf (n0:Bool) (j:Y0) (x:Int) (h:nl x<=50000000000000):F.RS n0 j (bi x).1 (bi x).2=some (bi (x.natAbs:Int)):=by
 unfold F.RS
 have q:(bi x).2=aw (x.natAbs:Int).natAbs:=by rw[cy]; rfl
 rw[CM (bi x).2 h,aa,q,kr _ _ _ (x.natAbs:Int) (fun _=>by simp),aa]
theorem OW (s a b d t:Int) (h:s*t<=0) (hd:0<=d):(s - d*t).natAbs=s.natAbs+d.natAbs*t.natAbs:=by
 rcases Int.lt_trichotomy t 0 with q | q | q
 ·have hs:0<=s:=by
   rcases Int.lt_or_le s 0 with j | j
   ·have:=Int.mul_pos_of_neg_of_neg j q; omega
   ·exact j
  have A:0<=d*-t:=fJ hd (by omega)
  have y:(d*-t).natAbs=d.natAbs*t.natAbs:=by rw[Int.natAbs_mul,Int.natAbs_neg]
  rw[<-y]
  have B:s - d*t=s+d*-t:=by rw[Int.mul_neg]; omega
  rw[B]; omega
 ·subst q; simp
 ·have hs:s<=0:=by
   rcases Int.lt_or_le 0 s with j | j
   ·have:=Int.mul_pos j q; omega
   ·exact j
  have A:0<=d*t:=fJ hd (by omega)
  have y:(d*t).natAbs=d.natAbs*t.natAbs:=Int.natAbs_mul ..
  rw[<-y]; omega
theorem Mg (s d t:Int) (h:s*t<=0) (hd:0<=d):t*(s - d*t)<=0:=by
 have q:0<=d*(t*t):=fJ hd (by rcases Int.le_total 0 t with j | j; exact fJ j j; exact Int.mul_nonneg_of_nonpos_of_nonpos j j)
 have j:t*(s - d*t)=s*t - d*(t*t):=by grobner
 omega
theorem zm (m a:Nat) (N:1<m) (y:nl (m:Int)<=1000000) (O:0<a) (R:a<m) (hg:Nat.gcd a m=1):∀n q p:Nat,∀s t:Int,q<=n->q<=m->p<=m->0<p->s*t<=0->s.natAbs<=m->t.natAbs<=m ->
  s.natAbs*q+t.natAbs*p=m->(m:Int) ∣ s*a - p->(m:Int) ∣ t*a - q->Nat.gcd p q=1 ->
  ∃z:Int,z.natAbs<=m/\(m:Int) ∣ z*a - 1/\loop (F.U1 false [] false [] (bi (a:Int)).1 (bi (a:Int)).2 (bi (m:Int)).1 (bi (m:Int)).2)
   ((bi (p:Int)).1,(bi (p:Int)).2,(bi (q:Int)).1,(bi (q:Int)).2,(bi s).1,(bi s).2,(bi t).1,(bi t).2)=some ((bi 1).1,(bi 1).2,(bi z).1,(bi z).2)
 | n,q,p,s,t,hqn,hqm,hpm,hp0,hst,hs,ht,hb,d1,d2,hgg=>by
  have L:∀k:Int,k.natAbs<=m->nl k<=1000000:=fun k hk=>bz (jK (by omega)) y
  by_cases h0:q=0
  ·subst h0
   rw[Nat.gcd_zero_right]at hgg
   subst hgg
   refine⟨s,hs,by simpa using d1,?_⟩
   refine cU ?_
   unfold F.U1
   dsimp only
   have l1:=L s hs; have l2:=L (a:Int) (by omega); have l3:=As (a:Int) s; have l4:=Fi ((1:Nat):Int) ((a:Int)*s); have l5:=L ((1:Nat):Int) (by omega)
   rw[ae (by rw[show (bi ((0:Nat):Int)).2=[] from c8]; decide),ae (by rw[bi1 (by omega)]; decide),Ae _ _ _ _ (by omega),aa,
    Dl _ _ (by omega) (by omega),aa]
   have j:∀x:Int,nl x<=70000000->∃r,F.VF (bi x).1 (bi x).2 (bi (m:Int)).1 (bi (m:Int)).2=some r:=fun x hx=>by
    have e:F.VF (bi x).1 (bi x).2 (bi (m:Int)).1 (bi (m:Int)).2=af (F.Ts (bi x).1 (bi x).2 (bi x).1 (bi x).2 (bi (m:Int)).1 (bi (m:Int)).2 false []) fun A=>some (A.1,A.2.1):=rfl
    rw[e,rk _ _ _ _ _ _ (by omega) (by omega) (by omega),aa]
    exact⟨_,rfl⟩
   obtain⟨r,hr⟩:=j (((1:Nat):Int) - (a:Int)*s) (by omega)
   rw[hr,aa,A5 _ _ _ (by omega),aa,A5 _ _ _ (by omega),aa]
   rfl
  ·cases n with
   | zero=>omega
   | succ n=>
    have j:=cQ p q
    have b8:=bM p (show 0<q by omega)
    have b3:p / q<=m:=bz (dO _ _) hpm
    have U:Int.tdiv (p:Int) (q:Int)=((p / q:Nat):Int):=by rw[ce (dG p)]; rfl
    have V:Int.tmod (p:Int) (q:Int)=((p%q:Nat):Int):=by rw[cI (dG p)]; rfl
    have I:Nat.gcd q (p%q)=1:=by rw[fT,<-Nat.gcd_rec,fT]; exact hgg
    generalize p / q=k at *
    generalize p%q=r at *
    have J:=OW s 0 0 (k:Int) t hst (by omega)
    rw[cy]at J
    have B:t.natAbs*r+(s - (k:Int)*t).natAbs*q=m:=by
     rw[J,<-hb]
     have h3:t.natAbs*p=t.natAbs*(q*(k)+r):=by rw[j]
     rw[h3,aG,aW]
     have h4:k*t.natAbs*q=t.natAbs*(q*(k)):=by
      rw[aN (k) t.natAbs,aF,aN (k) q]
     rw[h4]; omega
    have G:(s - (k:Int)*t).natAbs<=m:=by
     have:=dP (s - (k:Int)*t).natAbs (show 0<q by omega)
     omega
    obtain⟨c1,b9⟩:=d1
    obtain⟨X,Y⟩:=d2
    have d3:(m:Int) ∣ (s - (k:Int)*t)*a - (r:Int):=by
     refine⟨c1 - (k:Int)*X,?_⟩
     have h5:(p:Int)=q*(k:Int)+(r:Int):=by
      have:=cv (fun x:Nat=>(x:Int)) j
      simp only[gt,cZ]at this
      exact this.symm
     generalize (k:Int)=k at *
     generalize (r:Int)=k2 at *
     clear J B G hb hst hs ht U V
     grobner
    obtain⟨z,hz,Z,ac⟩:=zm m a N y O R hg n r q t (s - (k:Int)*t) (by omega) (by omega) hqm (by omega) (Mg _ _ _ hst (by omega)) ht G B ⟨X,Y⟩ d3
     I
    refine⟨z,hz,Z,?_⟩
    rw[<-ac]
    refine bB ?_
    unfold F.U1
    dsimp only
    have l1:=L (p:Int) (by omega); have l2:=L (q:Int) (by omega); have l3:=L s hs; have l4:=L t ht; have l5:=L (k:Int) (by omega)
    have l6:=As (k:Int) t
    rw[ah (by have:=lR.2 h0; rw[show (bi (q:Int)).2=aw q by rw[bi2,cy]]; simp only[ar]; omega),rk _ _ _ _ _ _ (by omega) (by omega) (by omega),aa,U,V]
    dsimp only
    rw[Ae _ _ _ _ (by omega),aa,GB _ _ _ _ (by omega) (by omega),aa]
    rfl
theorem xY (n0:Bool) (O:Y0) (a m:Nat) (A:1<m) (j:nl (m:Int)<=1000000) (Z:nl (a:Int)<=1000000) (R:Nat.gcd a m=1) :
  ∃v:Nat,v<m/\a*v%m=1/\F.TE n0 O (bi (a:Int)).1 (bi (a:Int)).2 (bi (m:Int)).1 (bi (m:Int)).2=some (bi (v:Int)):=by
 have B:=bM a (show 0<m by omega)
 have q:Nat.gcd (a%m) m=1:=by rw[<-Nat.gcd_rec,fT]; exact R
 have y:0<a%m:=by
  rcases bS (a%m) with h | h
  ·rw[h,Nat.gcd_zero_left]at q; omega
  ·exact h
 obtain⟨z,hz,G,I⟩:=zm m (a%m) A j y B q m m (a%m) 1 0 (av _) (av _) (by omega) y (by omega) (by omega) (by omega) (by simp) ⟨0,by simp⟩ ⟨-1,by omega⟩ q
 have lz:nl z<=1000000:=bz (jK (by omega)) j
 have J:=im z (show (m:Int)≠0 by omega)
 have Y:=Int.emod_lt_of_pos z (show (0:Int)<m by omega)
 refine⟨(z%m).toNat,by omega,?_,?_⟩
 ·obtain⟨c,hc⟩:=G
  have N:((a*(z%m).toNat%m:Nat):Int)=1:=by
   rw[bN,cZ,gY J,show (a:Int)*(z%m)%m=(a:Int)*z%m by rw[Int.mul_emod,Int.emod_emod,<-Int.mul_emod]]
   have U:(a:Int)*z%m=(((a%m:Nat):Int)*z)%m:=by rw[bN,Int.mul_emod,Int.mul_emod ((a:Int)%m) z,Int.emod_emod]
   rw[U,show ((a%m:Nat):Int)*z=1+m*c by rw[Int.mul_comm]; omega,Int.add_mul_emod_self_left]
   exact eN (by omega) (by omega)
  omega
 ·unfold F.TE
  rw[Bf _ _ _ (by omega),aa,cy,GP _ _ _ _ (by omega) (by omega) (by omega) (fun h=>by omega),aa]
  have e:((a:Int)%(m:Int))=((a%m:Nat):Int):=by rw[bN]
  rw[e]
  unfold F.Wz F.Xb
  have N:((bi ((a%m:Nat):Int)).2.length:Int)≠0:=by
   rw[bi2,cy]; have:=lR.2 (show a%m≠0 by omega); omega
  have V:((bi (m:Int)).2.length:Int)≠0:=by
   rw[bi2,cy]; have:=lR.2 (show m≠0 by omega); omega
  have l1:nl ((a%m:Nat):Int)<=1000000:=bz (jK (by omega)) j
  rw[ae (by simpa using N),ae (by simpa using V),Bf _ _ _ (by omega),aa,Bf _ _ _ (by omega),aa,cy,cy,
   me 1 (by decide) (by decide),aa,me 0 (by decide) (by decide),aa,I,aa,aa]
  dsimp only
  rw[uk 1 1 (by have:=AF; omega) (by have:=AF; omega),aa,ae (by decide),GP _ _ _ _ (by omega) (by omega) (by omega) (fun h=>by omega),aa]
  have X:z%(m:Int)=(((z%m).toNat:Nat):Int):=by omega
  rw[<-X]
end Go.Gk.Bn
end
section
namespace Go.Gk.Ec
section ring
variable {p:Nat} [NeZero p]
theorem fR {a b:Fin p} (h:a - b=0):a=b:=by grobner
theorem Gx (a:Fin p):a*0=0:=by grobner
theorem Iv (a:Fin p):- -a=a:=by grobner
theorem wh (a:Fin p):a+-a=0:=by grobner
theorem NG {a b:Fin p} (h:a+b=0):b=-a:=by grobner
theorem FR (a b:Fin p):a+b=b+a:=by grobner
structure Ln (a b x1 y1 x2 y2 s x3 y3:Fin p):Prop where
 hy:y2=y1+s*(x2 - x1)
 ha:a=s*(y1+y2) - x1*x1 - x1*x2 - x2*x2
 hb:b=y1*y1 - x1*x1*x1 - a*x1
 hx:x3=s*s - x1 - x2
 hz:y3=s*(x1 - x3) - y1
variable {a b x1 y1 x2 y2 s x3 y3:Fin p}
theorem Ln.on1 (h:Ln a b x1 y1 x2 y2 s x3 y3):y1*y1=x1*x1*x1+a*x1+b:=by
 have hb:=h.hb
 clear h; subst hb; grobner
theorem Ln.on2 (h:Ln a b x1 y1 x2 y2 s x3 y3):y2*y2=x2*x2*x2+a*x2+b:=by
 obtain⟨j,q,y,hx,hz⟩:=h
 subst j q y hx hz; grobner
theorem Ln.on3 (h:Ln a b x1 y1 x2 y2 s x3 y3):y3*y3=x3*x3*x3+a*x3+b:=by
 obtain⟨j,q,y,hx,hz⟩:=h
 subst j q y hx hz; grobner
theorem Ln.symm (h:Ln a b x1 y1 x2 y2 s x3 y3):Ln a b x2 y2 x1 y1 s x3 y3:=by
 obtain⟨j,q,y,hx,hz⟩:=h
 refine⟨?_,?_,?_,?_,?_⟩ <;> (subst j q y hx hz; grobner)
theorem Ln.turn (h:Ln a b x1 y1 x2 y2 s x3 y3):Ln a b x1 y1 x3 (-y3) s x2 (-y2):=by
 obtain⟨j,q,y,hx,hz⟩:=h
 refine⟨?_,?_,?_,?_,?_⟩ <;> (subst j q y hx hz; grobner)
theorem Ln.neg (h:Ln a b x1 y1 x2 y2 s x3 y3):Ln a b x1 (-y1) x2 (-y2) (-s) x3 (-y3):=by
 obtain⟨j,q,y,hx,hz⟩:=h
 refine⟨?_,?_,?_,?_,?_⟩ <;> (subst j q y hx hz; grobner)
theorem Ln.at1 {j q g xS y:Fin p} (h:Ln a b x1 y1 x2 y2 s x3 y3) (A:Ln a b x3 y3 j q g xS y) :
  x1*x1+(x3+s*g)*x1 - (s+g)*y1+(x3*x3+a - g*y3+s*y3 - s*g*x3)=0:=by
 obtain⟨B,G,I,hx,hz⟩:=h
 clear A
 subst B G I hx hz; grobner
theorem Ln.at3 {j q g xS y:Fin p} (h:Ln a b x1 y1 x2 y2 s x3 y3) (A:Ln a b x3 y3 j q g xS y) :
  j*j+(x3+s*g)*j - (s+g)*q+(x3*x3+a - g*y3+s*y3 - s*g*x3)=0:=by
 obtain⟨B,G,I,hx,hz⟩:=A
 clear h
 subst B G I hx hz; grobner
theorem Ln.atS {y A g xS j:Fin p} (h:Ln a b x1 y1 x2 y2 s x3 y3) (q:Ln a b x3 y3 y A g xS j) :
  xS*xS+(x3+s*g)*xS+(s+g)*j+(x3*x3+a - g*y3+s*y3 - s*g*x3)=0:=by
 have B:=Ln.at3 h q.turn
 generalize x3*x3+a - g*y3+s*y3 - s*g*x3=c at B ⊢
 clear h q
 grobner
theorem Ln.xS {j y g xS A:Fin p} (h:Ln a b x1 y1 x2 y2 s x3 y3) (q:Ln a b x3 y3 j y g xS A) :
  xS=(s+g)*(s+g) - 2*(x3+s*g) - x1 - x2 - j:=by
 have B:=h.hx
 have G:=q.hx
 clear h q
 subst B G; grobner
end ring
structure Fld (p:Nat) [NeZero p]:Prop where
 nz:∀u v:Fin p,u*v=0->u=0\/v=0
 iv:∀u:Fin p,u≠0->∃v:Fin p,u*v=1
 two:(2:Fin p)≠0
variable {p:Nat} [NeZero p]
open Classical in
noncomputable def rcp (u:Fin p):Fin p:=if h:∃v:Fin p,u*v=1 then Classical.choose h else 0
theorem Fld.mul_iv (F:Fld p) {u:Fin p} (h:u≠0):u*rcp u=1:=by
 unfold rcp
 rw[dif_pos (F.iv u h)]
 exact Classical.choose_spec (F.iv u h)
theorem Fld.cancel (F:Fld p) {u v w:Fin p} (h:u≠0) (e:u*v=u*w):v=w:=by
 rcases F.nz u (v - w) (by grobner) with j | j
 ·exact (h j).elim
 ·exact fR j
theorem Fld.iv_uniq (F:Fld p) {u v:Fin p} (e:u*v=1):v=rcp u:=by
 have h:u≠0:=by
  intro j
  have:(2:Fin p)=0:=by subst j; grobner
  exact F.two this
 exact F.cancel h (e.trans (F.mul_iv h).symm)
theorem Fld.dbl (F:Fld p) {u:Fin p} (h:u+u=0):u=0:=by
 rcases F.nz 2 u (by grobner) with j | j
 ·exact (F.two j).elim
 ·exact j
abbrev Pt (p:Nat):=Option (Fin p×Fin p)
def On (a b:Fin p):Pt p->Prop
 | none=>True
 | some (x,y)=>y*y=x*x*x+a*x+b
def neg:Pt p->Pt p
 | none=>none
 | some (x,y)=>some (x,-y)
def pe (x1 y1 x2 s:Fin p):Pt p:=some (s*s - x1 - x2,s*(x1 - (s*s - x1 - x2)) - y1)
noncomputable def add (a:Fin p):Pt p->Pt p->Pt p
 | none,Q=>Q
 | some P,none=>some P
 | some (x1,y1),some (x2,y2)=>
  if x1=x2 then (if y1+y2=0 then none else pe x1 y1 x2 ((3*(x1*x1)+a)*rcp (2*y1)))
  else pe x1 y1 x2 ((y2 - y1)*rcp (x2 - x1))
theorem jh (a x1 y1 x2 y2:Fin p):add a (some (x1,y1)) (some (x2,y2)) =
  if x1=x2 then (if y1+y2=0 then none else pe x1 y1 x2 ((3*(x1*x1)+a)*rcp (2*y1)))
  else pe x1 y1 x2 ((y2 - y1)*rcp (x2 - x1)):=rfl
theorem iX (x y:Fin p):neg (some (x,y))=some (x,-y):=rfl
structure Cv (p:Nat) [NeZero p] (a b:Fin p):Prop extends Fld p where
 odd:∀x:Fin p,x*x*x+a*x+b≠0
variable {a b:Fin p}
theorem jz (P:Pt p):add a P none=P:=by cases P <;> rfl
theorem Bd (P:Pt p):add a none P=P:=rfl
theorem ku (P:Pt p):neg (neg P)=P:=by
 rcases P with _ | ⟨x,y⟩
 ·rfl
 ·rw[iX,iX,Iv]
theorem On.neg {P:Pt p} (h:On a b P):On a b (neg P):=by
 rcases P with _ | ⟨x,y⟩
 ·trivial
 ·unfold On Ec.neg at *
  dsimp only at *
  grobner
theorem Cv.y_ne (C:Cv p a b) {x y:Fin p} (h:On a b (some (x,y))):y≠0:=by
 intro j
 apply C.odd x
 unfold On at h
 dsimp only at h
 rw[<-h,j,Gx]
theorem gi (P:Pt p):add a P (neg P)=none:=by
 rcases P with _ | ⟨x,y⟩
 ·rfl
 ·rw[iX,jh,ah rfl,ah (wh y)]
theorem Cv.of_ln (C:Cv p a b) {x1 y1 x2 y2 s x3 y3:Fin p} (h:Ln a b x1 y1 x2 y2 s x3 y3):add a (some (x1,y1)) (some (x2,y2))=some (x3,y3):=by
 have B:y1≠0:=C.y_ne h.on1
 have G:=h.hx
 have j:=h.hz
 subst G
 rw[jh]
 unfold pe
 by_cases hx:x1=x2
 ·have hy:y2=y1:=by have:=h.hy; clear j; subst hx; grobner
  rw[ah hx,ae (by intro y; rw[hy]at y; exact B (C.dbl y))]
  have A:2*y1≠0:=by
   intro y; rcases C.nz _ _ y with q | q
   ·exact C.two q
   ·exact B q
  have:(3*(x1*x1)+a)*rcp (2*y1)=s:=by
   apply C.cancel A
   have e:=C.mul_iv A
   have ha:=h.ha
   generalize rcp (2*y1)=z at e ⊢
   clear h j
   subst hx hy
   have:2*y2*s=3*(x1*x1)+a:=by clear e; grobner
   generalize 2*y2=w at *
   clear ha
   grobner
  rw[this,j]
 ·rw[ae hx]
  have A:x2 - x1≠0:=fun y=>hx (fR y).symm
  have:(y2 - y1)*rcp (x2 - x1)=s:=by
   apply C.cancel A
   have e:=C.mul_iv A
   have hy:=h.hy
   generalize rcp (x2 - x1)=z at e ⊢
   clear h j
   generalize x2 - x1=w at *
   grobner
  rw[this,j]
theorem Fld.ln (C:Fld p) {x1 y1 x2 y2:Fin p} (A:On a b (some (x1,y1))) (j:On a b (some (x2,y2))) (h:¬(x1=x2/\y1+y2=0)) :
  ∃s x3 y3,Ln a b x1 y1 x2 y2 s x3 y3/\add a (some (x1,y1)) (some (x2,y2))=some (x3,y3):=by
 unfold On at A j
 dsimp only at A j
 rw[jh]
 unfold pe
 by_cases hx:x1=x2
 ·rw[ah hx,ae (fun q=>h ⟨hx,q⟩)]
  refine⟨((3*(x1*x1)+a)*rcp (2*y1)),_,_,?_,rfl⟩
  have B:(y1 - y2)*(y1+y2)=0:=by subst hx; grobner
  have J:y2=y1:=by
   rcases C.nz _ _ B with q | q
   ·exact (fR q).symm
   ·exact (h ⟨hx,q⟩).elim
  subst hx J
  have G:y2≠0:=by intro y; apply h; refine⟨rfl,?_⟩; rw[y]; grobner
  have j:2*y2≠0:=by
   intro y; rcases C.nz _ _ y with q | q
   ·exact C.two q
   ·exact G q
  have e:=C.mul_iv j
  generalize rcp (2*y2)=z at e ⊢
  refine⟨by grobner,?_,?_,rfl,rfl⟩
  ·have:(3*(x1*x1)+a)*z*(y2+y2)=3*(x1*x1)+a:=by
    have:y2+y2=2*y2:=by grobner
    rw[this]; clear this
    generalize 2*y2=w at *
    grobner
   rw[this]; clear this
   grobner
  ·clear e; grobner
 ·rw[ae hx]
  refine⟨(y2 - y1)*rcp (x2 - x1),_,_,?_,rfl⟩
  have I:x2 - x1≠0:=fun y=>hx (fR y).symm
  have e:=C.mul_iv I
  generalize rcp (x2 - x1)=z at e ⊢
  have hs:(y2 - y1)*z*(x2 - x1)=y2 - y1:=by generalize x2 - x1=w at *; clear A j; grobner
  generalize (y2 - y1)*z=s at hs ⊢
  clear e
  refine⟨?_,?_,?_,rfl,rfl⟩
  ·rw[hs]; grobner
  ·have:(x2 - x1)*a=(x2 - x1)*(s*(y1+y2) - x1*x1 - x1*x2 - x2*x2):=by
    have:(x2 - x1)*(s*(y1+y2) - x1*x1 - x1*x2 - x2*x2)=s*(x2 - x1)*(y1+y2) - (x2 - x1)*(x1*x1+x1*x2+x2*x2):=by clear A j hs; grobner
    rw[this,hs]; clear this hs
    grobner
   exact C.cancel I this
  ·clear hs; grobner
end Go.Gk.Ec
end
section
namespace Go.Gk.Ec
variable {p:Nat} [NeZero p] {a b:Fin p}
theorem Nj {x1 y1 x2 y2:Fin p} (h:x1=x2/\y1+y2=0):(some (x2,y2):Pt p)=neg (some (x1,y1)):=by
 rw[iX,h.1,NG h.2]
theorem se {x1 y1 x2 y2:Fin p} (h:(some (x2,y2):Pt p)≠neg (some (x1,y1))):¬(x1=x2/\y1+y2=0):=fun q=>h (Nj q)
theorem Fld.on_add (C:Fld p) {P Q:Pt p} (hP:On a b P) (j:On a b Q):On a b (add a P Q):=by
 rcases P with _ | ⟨x1,y1⟩
 ·exact j
 rcases Q with _ | ⟨x2,y2⟩
 ·exact hP
 by_cases h:x1=x2/\y1+y2=0
 ·rw[jh,ah h.1,ah h.2]; trivial
 ·obtain⟨s,x3,y3,hl,e⟩:=C.ln hP j h
  rw[e]; exact hl.on3
theorem Cv.comm (C:Cv p a b) {P Q:Pt p} (hP:On a b P) (j:On a b Q):add a P Q=add a Q P:=by
 rcases P with _ | ⟨x1,y1⟩
 ·rw[jz]; rfl
 rcases Q with _ | ⟨x2,y2⟩
 ·rfl
 by_cases h:x1=x2/\y1+y2=0
 ·rw[jh,jh,ah h.1,ah h.2,ah h.1.symm,ah (by rw[FR]; exact h.2)]
 ·obtain⟨s,x3,y3,hl,e⟩:=C.ln hP j h
  rw[e,C.of_ln hl.symm]
theorem Cv.neg_add (C:Cv p a b) {P Q:Pt p} (hP:On a b P) (j:On a b Q):neg (add a P Q)=add a (neg P) (neg Q):=by
 rcases P with _ | ⟨x1,y1⟩
 ·rfl
 rcases Q with _ | ⟨x2,y2⟩
 ·rfl
 by_cases h:x1=x2/\y1+y2=0
 ·rw[iX,iX,jh,jh,ah h.1,ah h.2,ah h.1,ah (by have:=h.2; grobner)]; rfl
 ·obtain⟨s,x3,y3,hl,e⟩:=C.ln hP j h
  rw[e,iX,iX,iX,C.of_ln hl.neg]
theorem Cv.cancel_right (C:Cv p a b) {P Q:Pt p} (hP:On a b P) (j:On a b Q):add a P (neg (add a P Q))=neg Q:=by
 rcases P with _ | ⟨x1,y1⟩
 ·rfl
 rcases Q with _ | ⟨x2,y2⟩
 ·rw[jz,gi]; rfl
 by_cases h:x1=x2/\y1+y2=0
 ·rw[jh,ah h.1,ah h.2]
  show some (x1,y1)=_
  rw[iX,h.1,show y1=-y2 from by have:=h.2; grobner]
 ·obtain⟨s,x3,y3,hl,e⟩:=C.ln hP j h
  rw[e,iX,iX,C.of_ln hl.turn]
theorem Cv.sub_add (C:Cv p a b) {P Q:Pt p} (hP:On a b P) (j:On a b Q):add a P (add a (neg P) Q)=Q:=by
 have h:=C.cancel_right (P:=neg P) (Q:=Q) hP.neg j
 have q:=cv neg h
 rw[C.neg_add hP.neg (C.on_add hP.neg j).neg,ku,ku,ku]at q
 exact q
theorem Cv.off (C:Cv p a b) {x1 y1 x2 y2 s A G x3 y3 g xS O:Fin p} (h:Ln a b x1 y1 x2 y2 s A G) (j:Ln a b A G x3 y3 g xS O)
  (n1:x3≠x1) (I:x3≠x2):y3 - y1 - s*(x3 - x1)≠0:=by
 intro e
 have R:y3=y1+s*(x3 - x1):=by clear h j; grobner
 have J:=j.on2
 have hx:(x3 - x1)*((x3 - x2)*(x3 - A))=0:=by
  have ha:=h.ha
  have hb:=h.hb
  have hy:=h.hy
  have hp:=h.hx
  clear h j n1 I e
  subst hy ha hb hp R
  grobner
 rcases C.nz _ _ hx with q | q
 ·exact n1 (fR q)
 rcases C.nz _ _ q with q | q
 ·exact I (fR q)
 have N:=fR q
 have U:=h.hz
 have V:=j.hy
 have y:=j.on1
 have B:G≠0:=C.y_ne (x:=A) (by unfold On; exact y)
 apply B
 apply C.dbl
 clear h j J hx y B
 subst N
 grobner
theorem Cv.agree (C:Cv p a b) {x1 y1 x2 y2 s B G x3 y3 g xS I M K Z:Fin p} (h:Ln a b x1 y1 x2 y2 s B G) (j:Ln a b B G x3 y3 g xS I)
  (n1:x3≠x1) (J:x3≠x2) (N:M*x1+K*y1+Z=0) (O:M+K*s=0) (R:M*x3+K*y3+Z=0):M=0/\K=0/\Z=0:=by
 have y:=C.off h j n1 J
 have A:K*(y3 - y1 - s*(x3 - x1))=0:=by clear h j y; grobner
 rcases C.nz _ _ A with q | q
 ·subst q
  have:M=0:=by clear h j y A; grobner
  subst this
  refine⟨rfl,rfl,?_⟩
  clear h j y A; grobner
 ·exact (y q).elim
theorem Cv.last (C:Cv p a b) {xS q j y m k c x1 x2 x3:Fin p} (B:k≠0) (eS:xS=k*k - 2*m - x1 - x2 - x3) (A:j=k*k - 2*m - x1 - x2 - x3)
  (hS:xS*xS+m*xS+k*q+c=0) (hT:j*j+m*j+k*y+c=0):xS=j/\q=y:=by
 have e:xS=j:=by rw[eS,A]
 clear eS A
 subst e
 refine⟨rfl,C.cancel B ?_⟩
 grobner
end Go.Gk.Ec
end
section
namespace Go.Gk.Ec
variable {p:Nat} [NeZero p] {a b:Fin p}
theorem Fld.same_x (C:Fld p) {x y z:Fin p} (j:On a b (some (x,y))) (A:On a b (some (x,z))):z=y\/z=-y:=by
 unfold On at j A
 dsimp only at j A
 have:(z - y)*(z+y)=0:=by grobner
 rcases C.nz _ _ this with q | q
 ·exact .inl (fR q)
 ·exact .inr (by grobner)
theorem Cv.tangent (C:Cv p a b) {x1 y1 x3 y3 s xP yP t j R d xT yT:Fin p} (G:Ln a b x1 y1 x1 y1 s xP yP) (I:Ln a b x1 y1 x3 y3 t j R) (A:Ln a b x1 y1 j R d xT yT) :
  x1+x1+(j+t*d) - (t+d)*s=0:=by
 have V:=C.y_ne G.on1
 have O:j - x1≠0:=by
  intro X
  apply V
  apply C.dbl
  have e:=fR X
  have B:=A.hy
  have y:=I.hz
  clear G I A X
  subst e
  grobner
 have hz:(j - x1)*(x1+x1+(j+t*d) - (t+d)*s)=0:=by
  have B:=G.ha
  have y:=A.ha
  have J:=A.hy
  have N:=I.hz
  clear G I A O
  have U:(t+d)*(j - x1)=-(y1+y1):=by clear B y; grobner
  have Y:(j - x1)*(x1+x1+(j+t*d) - (t+d)*s)=(j - x1)*(x1+x1+(j+t*d)) - (t+d)*(j - x1)*s:=by clear B y J N U; grobner
  rw[Y,U]
  clear U Y
  have e3:s*(y1+y1)=a+3*(x1*x1):=by clear y J N; grobner
  have Z:(j - x1)*(x1+x1+(j+t*d)) - -(y1+y1)*s=(j - x1)*(x1+x1+j)+a+3*(x1*x1)+d*(t*(j - x1)):=by clear B y J N; grobner
  rw[Z]
  clear e3 Z B J
  have e5:t*(j - x1)=-(y1+R):=by clear y; grobner
  rw[e5]
  clear e5 N
  grobner
 rcases C.nz _ _ hz with q | q
 ·exact (O q).elim
 ·exact q
theorem LY {m j k q c A x y z:Fin p} (h:z+m*x - k*y+c=0) (B:z+j*x - q*y+A=0):(m - j)*x+-(k - q)*y+(c - A)=0:=by grobner
theorem Pv {m j k q z s:Fin p} (h:z+m - k*s=0) (y:z+j - q*s=0):(m - j)+-(k - q)*s=0:=by grobner
theorem yZ {k j:Fin p} (h:-(k - j)=0):k=j:=by grobner
theorem sub3 {u x y z:Fin p}:u - x - y - z=u - z - x - y:=by grobner
theorem Cv.assoc_ln (C:Cv p a b) {x1 y1 x2 y2 x3 y3 s y J g xS yS t A N d xT yT:Fin p}
  (j:Ln a b x1 y1 x2 y2 s y J) (B:Ln a b y J x3 y3 g xS yS) (G:Ln a b x2 y2 x3 y3 t A N) (I:Ln a b x1 y1 A N d xT yT)
  (n1:x3≠x1) (R:x3≠x2) (hd:x1+x2+(A+t*d) - (t+d)*s=0):xS=xT/\yS=yT:=by
 have a1:=Ln.at1 j B
 have a2:=Ln.at1 j.symm B
 have a3:=Ln.at3 j B
 have U:=Ln.atS j B
 have eS:=Ln.xS j B
 have b1:=Ln.at3 G I.symm
 have V:=Ln.at1 G.symm I.symm
 have X:=Ln.atS G I.symm
 have Y:=Ln.xS G I.symm
 have hx:=j.hx
 have ag:=fun M K Z=>C.agree (M:=M) (K:=K) (Z:=Z) j B n1 R
 clear j B G I
 have ed:x1+x2+(y+s*g) - (s+g)*s=0:=by subst hx; clear a1 a2 a3 U eS b1 V X Y hd ag n1 R; grobner
 clear hx
 generalize y*y+a - g*J+s*J - s*g*y=c at *
 generalize A*A+a - d*N+t*N - t*d*A=c' at *
 generalize y+s*g=m at *
 generalize A+t*d=m' at *
 have O:s+g≠0:=by
  intro O
  rw[O]at a1 a3 ed
  clear ag a2 U eS b1 V X Y hd O
  have:(x3 - x1)*(x3 - x2)=0:=by grobner
  rcases C.nz _ _ this with q | q
  ·exact n1 (fR q)
  ·exact R (fR q)
 generalize s+g=k at *
 generalize t+d=k' at *
 obtain⟨q1,q2,q3⟩:=ag (m - m') (-(k - k')) (c - c') (LY a1 b1) (Pv ed hd) (LY a3 V)
 have q1:=fR q1
 have q2:=yZ q2
 have q3:=fR q3
 subst q1 q2 q3
 exact C.last O eS (by rw[Y,sub3]) U X
theorem Cv.assoc_aff (C:Cv p a b) {x1 y1 x2 y2 x3 y3 s J N g xS O t j G d R U:Fin p}
  (y:Ln a b x1 y1 x2 y2 s J N) (I:Ln a b J N x3 y3 g xS O) (A:Ln a b x2 y2 x3 y3 t j G) (B:Ln a b x1 y1 j G d R U)
  (n1:x3≠x1) (V:x3≠x2):xS=R/\O=U:=by
 apply C.assoc_ln y I A B n1 V
 by_cases hx:x1=x2
 ·have hy:y2=y1:=by have:=y.hy; clear y I A B; subst hx; grobner
  subst hx hy
  exact C.tangent y A B
 ·have b1:=Ln.at3 A B.symm
  have Z:=Ln.at1 A B.symm
  have hy:=y.hy
  clear y I A B
  generalize j*j+a - d*G+t*G - t*d*j=c' at *
  generalize j+t*d=X at *
  generalize t+d=Y at *
  have hn:x2 - x1≠0:=fun q=>hx (fR q).symm
  have:(x2 - x1)*(x1+x2+X - Y*s)=0:=by clear hn n1 V hx; grobner
  rcases C.nz _ _ this with q | q
  ·exact (hn q).elim
  ·exact q
theorem Cv.assoc (C:Cv p a b) {P Q R:Pt p} (hP:On a b P) (j:On a b Q) (y:On a b R):add a (add a P Q) R=add a P (add a Q R):=by
 have N:∀P Q R:Pt p,On a b P->On a b Q->On a b R->Q≠R->add a (add a P Q) R=add a P (add a Q R):=by
  intro P Q R hP j y A
  rcases P with _ | ⟨x1,y1⟩
  ·rfl
  rcases Q with _ | ⟨x2,y2⟩
  ·rfl
  rcases R with _ | ⟨x3,y3⟩
  ·rw[jz,jz]
  by_cases o1:some (x2,y2)=neg (some (x1,y1))
  ·have:(some (x1,y1):Pt p)=neg (some (x2,y2)):=by rw[o1,ku]
   rw[o1,gi,Bd,C.sub_add hP y]
  by_cases o2:some (x3,y3)=neg (some (x2,y2))
  ·have h:=C.sub_add (P:=some (x2,y2)) (Q:=some (x1,y1)) j hP
   rw[o2,gi,jz]
   have e:add a (some (x1,y1)) (some (x2,y2))=add a (some (x2,y2)) (some (x1,y1)):=C.comm hP j
   have G:=C.sub_add (P:=neg (some (x2,y2))) (Q:=some (x1,y1)) j.neg hP
   rw[ku]at G
   rw[e,C.comm (C.on_add j hP) j.neg,G]
  obtain⟨s,V,X,Y,I⟩:=C.ln hP j (se o1)
  obtain⟨t,Z,yQ,l3,J⟩:=C.ln j y (se o2)
  rw[I,J]
  have B:On a b (some (V,X)):=Y.on3
  have O:On a b (some (Z,yQ)):=l3.on3
  by_cases o3:some (x3,y3)=neg (some (V,X))
  ·have h:=C.cancel_right j hP
   rw[C.comm j hP,I,<-o3,J]at h
   rw[o3,gi,h,gi]
  by_cases o4:some (Z,yQ)=neg (some (x1,y1))
  ·have h:=C.cancel_right j y
   rw[J,o4,ku,C.comm j hP,I]at h
   rw[o4,gi,h,C.comm y.neg y,gi]
  obtain⟨g,xS,yS,l2,e2⟩:=C.ln B y (se o3)
  obtain⟨d,xT,yT,l4,e4⟩:=C.ln hP O (se o4)
  by_cases n1:x3=x1
  ·subst n1
   rcases C.same_x hP y with q | q
   ·subst q
    rw[C.comm B y,<-I,C.comm hP j,J]
   ·have U:(some (x3,y3):Pt p)=neg (some (x3,y1)):=by rw[iX,q]
    have h:=C.cancel_right hP j
    rw[I]at h
    have h1:=cv neg h
    rw[C.neg_add hP B.neg,ku,ku,<-U]at h1
    have G:=C.cancel_right (P:=neg (some (x3,y1))) hP.neg j
    rw[<-U,C.comm y j,J]at G
    have h3:=cv neg G
    rw[C.neg_add y O.neg,ku,ku,U,ku]at h3
    rw[C.comm B y,h1,h3]
  by_cases n2:x3=x2
  ·subst n2
   rcases C.same_x j y with q | q
   ·exact (A (by rw[q])).elim
   ·exact (o2 (by rw[iX,q])).elim
  obtain⟨q1,q2⟩:=C.assoc_aff Y l2 l3 l4 n1 n2
  rw[e2,e4,q1,q2]
 by_cases A:Q=R
 ·subst A
  by_cases hPQ:P=Q
  ·subst hPQ
   rw[C.comm (C.on_add hP j) hP]
  ·rw[C.comm (C.on_add hP j) j,C.comm hP j,<-N Q Q P j j hP (fun q=>hPQ q.symm),C.comm (C.on_add j j) hP]
 ·exact N P Q R hP j y A
end Go.Gk.Ec
end
section
namespace Go.Gk.Pr
def Prm (p:Nat):Prop:=1<p/\∀d,d ∣ p->d=1\/d=p
theorem Prm.coprime {p a:Nat} (h:Prm p) (j:¬p ∣ a):Nat.Coprime p a:=by
 rcases h.2 _ (Nat.gcd_dvd_left p a) with e | e
 ·exact e
 ·exact (j (e ▸ iG p a)).elim
theorem Prm.dvd_mul {p a b:Nat} (h:Prm p) (hd:p ∣ a*b):p ∣ a\/p ∣ b:=by
 by_cases ha:p ∣ a
 ·exact .inl ha
 ·exact .inr ((h.coprime ha).dvd_of_dvd_mul_left hd)
theorem q5:∀n d:Nat,d<=n->1<d->∃r,Prm r/\r ∣ d
 | 0,d,h,h1=>by omega
 | n+1,d,h,h1=>by
  by_cases hp:Prm d
  ·exact⟨d,hp,Nat.dvd_refl d⟩
  ·have:∃e,e ∣ d/\e≠1/\e≠d:=by
    refine fb fun hn=>hp ⟨h1,fun e j=>?_⟩
    by_cases q:e=1
    ·exact .inl q
    by_cases y:e=d
    ·exact .inr y
    exact (hn ⟨e,j,q,y⟩).elim
   obtain⟨e,j,q,y⟩:=this
   have B:=fa (by omega) j
   have G:e≠0:=by rintro rfl; exact (by omega:d≠0) (Nat.zero_dvd.1 j)
   obtain⟨r,A,hd⟩:=q5 n e (by omega) (by omega)
   exact⟨r,A,Nat.dvd_trans hd j⟩
def lj:List Nat->Nat
 | []=>1
 | x :: l=>x*lj l
theorem Ea {l l':List Nat} (h:l.Perm l'):lj l=lj l':=by
 induction h with
 | nil=>rfl
 | cons x _ ih=>simp only[lj]; rw[ih]
 | swap x y l=>simp only[lj]; rw[<-aF,<-aF,aN y x]
 | trans _ _ ih1 ih2=>rw[ih1,ih2]
theorem xv (r a:Nat):∀l:List Nat,lj (l.map (fun x=>a*x%r))%r=a^l.length*lj l%r
 | []=>by simp[lj]
 | x :: l=>by
  have j:=xv r a l
  simp only[dc,lj,cg,bn]
  rw[dD,j,fL,<-dD]
  congr 1
  rw[aF a x,aN a,aN (a^l.length) a]
  simp only[aF,aN,cT]
theorem xB {r:Nat} (h:Prm r):∀l:List Nat,(∀x∈l,¬r ∣ x)->¬r ∣ lj l
 | [],_=>by simp[lj]; have:=h.1; omega
 | x :: l,hl=>fun hd=>by
  rcases h.dvd_mul hd with j | j
  ·exact hl x (eu ..) j
  ·exact xB h l (fun y q=>hl y (dS _ q)) j
theorem qU {r a b:Nat} (h:a%r=b%r) (j:b<=a):r ∣ a - b:=eX (Nat.sub_mod_eq_zero_of_mod_eq h)
theorem p7 {r a x y:Nat} (h:Prm r) (G:¬r ∣ a) (e:a*x%r=a*y%r):x%r=y%r:=by
 have q:∀x y:Nat,y<=x->a*x%r=a*y%r->x%r=y%r:=fun x y j e=>by
  have B:=qU e (bo a j)
  rw[<-Nat.mul_sub]at B
  rcases h.dvd_mul B with A | A
  ·exact (G A).elim
  ·obtain⟨k,I⟩:=A
   have:x=y+r*k:=by omega
   rw[this,gF]
 rcases Nat.le_total y x with j | j
 ·exact q x y j e
 ·exact (q y x j e.symm).symm
theorem Kz {r b:Nat} (m n:Nat):b^m%r=1%r->b^n%r=1%r->b^(Nat.gcd m n)%r=1%r:=by
 refine Nat.gcd.induction (P:=fun m n=>b^m%r=1%r->b^n%r=1%r->b^(Nat.gcd m n)%r=1%r) m n (fun n _ h=>by rwa [Nat.gcd_zero_left]) (fun m n hm y j q=>?_)
 rw[Nat.gcd_rec]
 refine y ?_ j
 have A:b^n=(b^m)^(n / m)*b^(n%m):=by rw[<-dh,<-bW,cQ]
 rw[A,dD,Nat.pow_mod,j,<-Nat.pow_mod,Nat.one_pow,<-dD,cL]at q
 exact q
theorem s8:∀{l l':List Nat},l.Nodup->(∀x∈l,x∈l')->l'.length<=l.length->l.Perm l'
 | [],l',_,_,h=>by
  have:l'=[]:=aZ (by simpa using h)
  rw[this]
 | x :: l,l',hn,hs,h=>by
  have hx:=hs x (eu ..)
  have hp:=List.perm_cons_erase hx
  have j:=List.nodup_cons.1 hn
  have hl:=hp.length_eq
  refine List.Perm.trans (List.Perm.cons x (s8 j.2 (fun y q=>?_) ?_)) hp.symm
  ·have A:y≠x:=by rintro rfl; exact j.1 q
   exact (List.mem_erase_of_ne A).2 (hs y (dS _ q))
  ·simp only[cg]at h hl; omega
theorem zF {r a:Nat} (h:Prm r) (I:¬r ∣ a):a^(r - 1)%r=1:=by
 have U:=h.1
 have J:∀x,0<x->x<r->¬r ∣ x:=fun x V j hd=>by have:=fa V hd; omega
 have N:((List.range' 1 (r - 1)).map (fun x=>a*x%r)).Nodup:=by
  refine List.pairwise_map.2 (List.Pairwise.imp_of_mem (R:=(·≠·)) ?_ (List.nodup_range' (s:=1) (n:=r - 1)))
  intro x y hx B O e
  have:=iL.1 hx
  have:=iL.1 B
  have j:=p7 h I e
  rw[ax (by omega),ax (by omega)]at j
  exact O j
 have G:∀y∈(List.range' 1 (r - 1)).map (fun x=>a*x%r),y∈List.range' 1 (r - 1):=by
  intro y B
  obtain⟨x,hx,rfl⟩:=iC.1 B
  have:=iL.1 hx
  have j:=bM (a*x) (show 0<r by omega)
  refine iL.2 ⟨?_,by omega⟩
  rcases bS (a*x%r) with q | q
  ·rcases h.dvd_mul (eX q) with A | A
   ·exact (I A).elim
   ·exact (J x (by omega) (by omega) A).elim
  ·exact q
 have hp:((List.range' 1 (r - 1)).map (fun x=>a*x%r)).Perm (List.range' 1 (r - 1)):=s8 N G (by simp)
 have j:=xv r a (List.range' 1 (r - 1))
 rw[Ea hp,List.length_range']at j
 have hc:=xB h (List.range' 1 (r - 1)) (fun x hx=>by have:=iL.1 hx; exact J x (by omega) (by omega))
 have q:(lj (List.range' 1 (r - 1)))*(a^(r - 1))%r=(lj (List.range' 1 (r - 1)))*1%r:=by rw[cH,j,aN]
 have A:=p7 h hc q
 rwa [ax U]at A
def frc {α:Type} (n:Nat) (k:Nat->α):α:=match n with
 | 0=>k 0
 | m+1=>k (m+1)
theorem om {α:Type} (n:Nat) (k:Nat->α):frc n k=k n:=by cases n <;> rfl
def pwG (m a e:Nat):Nat->Nat->Nat
 | 0,acc=>acc
 | k+1,acc=>frc (bif Nat.beq (e / 2^k%2) 0 then acc*acc%m else acc*acc%m*a%m) (pwG m a e k)
theorem E2 (m a e:Nat):∀k acc:Nat,acc=a^(e / 2^k)%m->pwG m a e k acc=a^e%m
 | 0,acc,h=>by rw[h]; simp[pwG]
 | k+1,acc,h=>by
  unfold pwG
  rw[om]
  refine E2 m a e k _ ?_
  have j:e / 2^k=2*(e / 2^(k+1))+e / 2^k%2:=by
   rw[bn,<-du]; omega
  generalize e / 2^k%2=c at j ⊢
  rw[j,h]
  have q:(a^(e / 2^(k+1))%m)*(a^(e / 2^(k+1))%m)%m=a^(2*(e / 2^(k+1)))%m:=by
   rw[<-dD,<-bW]; congr 2; omega
  rw[q]
  cases hb:Nat.beq c 0 with
  | true=>
   have:=bf hb
   subst this; rfl
  | false=>
   have hc:c=1:=by
    have y:c<2:=by
     have:c=e / 2^k - 2*(e / 2^(k+1)):=by omega
     rw[this,bn,<-du]; omega
    have A:c≠0:=by rintro rfl; cases hb
    omega
   subst hc
   show a^(2*(e / 2^(k+1)))%m*a%m=_
   rw[bn a,dD,fL,<-dD]
def pw (m a e:Nat):Nat:=pwG m a e (Nat.log2 e+1) (1%m)
theorem Og (m a e:Nat):pw m a e=a^e%m:=by
 unfold pw
 refine E2 _ _ _ _ _ ?_
 rw[cp Nat.lt_log2_self,jg]
def FW (n:Nat):Bool:=Nat.blt 1 n&&Nat.blt n 16384&&(List.range 128).all fun d=>Nat.blt d 2 || Nat.ble n d || !Nat.beq (n%d) 0
theorem jR {n:Nat} (h:FW n=true):Prm n:=by
 unfold FW at h
 simp only[aK,fp]at h
 obtain⟨⟨G,U⟩,I⟩:=h
 have y:∀d,d ∣ n->2<=d->d<128->n<=d:=fun d hd q A=>by
  have:=cq.1 I d (cW.2 A)
  simp only[fW,fp,Bool.not_eq_true']at this
  rcases this with (j | j) | j
  ·omega
  ·exact an j
  ·rw[Nat.mod_eq_zero_of_dvd hd]at j; cases j
 refine⟨G,fun d hd=>?_⟩
 by_cases e1:d=1
 ·exact .inl e1
 by_cases e2:d=n
 ·exact .inr e2
 exfalso
 obtain⟨e,B⟩:=hd
 have J:d≠0:=by rintro rfl; omega
 have N:e≠0:=by rintro rfl; omega
 have O:e≠1:=by rintro rfl; omega
 have R:d<n:=by
  have q:d ∣ n:=⟨e,B⟩
  have:=fa (by omega) q; omega
 by_cases q:d<128
 ·have:=y d ⟨e,B⟩ (by omega) q; omega
 ·have A:e<128:=by
   rcases cj e 128 with h | h
   ·exact h
   ·have:=dW (show 128<=d by omega) h; omega
  have j:=y e ⟨d,by rw[aN]; exact B⟩ (by omega) A
  have V:=dW (show 2<=d by omega) (av e)
  omega
def vC (N:Nat):List (Nat×Nat)->Nat->Option Nat
 | [],F=>some F
 | (q,a) :: l,F=>if Nat.beq (Nat.gcd F q) 1&&Nat.beq ((N - 1)%q) 0&&Nat.beq (pw N a (N - 1)) 1&&Nat.beq (Nat.gcd (pw N a ((N - 1) / q)+N - 1) N) 1 then vC N l (F*q) else none
def chk (N:Nat) (l:List (Nat×Nat)):Bool:=Nat.blt 1 N&&match vC N l 1 with
 | none=>false
 | some F=>Nat.blt N (F*F)
theorem NX {N q a r:Nat} (hN:1<N) (A:Prm q) (B:Prm r) (hd:r ∣ N) (O:q ∣ N - 1) (R:a^(N - 1)%N=1) (U:Nat.gcd (a^((N - 1) / q)%N+N - 1) N=1):q ∣ r - 1:=by
 refine fb fun hn=>?_
 have V:=A.coprime hn
 have j:=B.1
 have y:(a^((N - 1) / q))^q%r=1%r:=by
  rw[<-dh,Nat.div_mul_cancel O]
  have:a^(N - 1)%N%r=a^(N - 1)%r:=Nat.mod_mod_of_dvd _ hd
  rw[<-this,R]
 have G:¬r ∣ a^((N - 1) / q):=fun hx=>by
  have X:(a^((N - 1) / q))^q%r=0:=by
   rw[Nat.pow_mod,Nat.mod_eq_zero_of_dvd hx,Nat.zero_pow (by have:=A.1; omega)]; exact jl _
  rw[X,ax j]at y
  cases y
 have Y:=zF B G
 have I:=Kz (r:=r) (b:=a^((N - 1) / q)) q (r - 1) y (by rw[Y,ax j])
 rw[show Nat.gcd q (r - 1)=1 from V,Nat.pow_one]at I
 have Z:r ∣ a^((N - 1) / q)%N+N - 1:=by
  have h6:(a^((N - 1) / q)%N)%r=1%r:=by rw[Nat.mod_mod_of_dvd _ hd]; exact I
  obtain⟨k,hk⟩:=hd
  have h7:(a^((N - 1) / q)%N+N)%r=1%r:=by
   rw[Nat.add_mod,h6,Nat.mod_eq_zero_of_dvd ⟨k,hk⟩,bA,fL]
  exact qU h7 (by omega)
 have J:=Nat.dvd_gcd Z hd
 rw[U]at J
 have:=fa (by decide) J
 omega
theorem FZ {N r:Nat} (I:1<N) (J:Prm r) (hd:r ∣ N):∀(l:List (Nat×Nat)) (F G:Nat),(∀q∈l,Prm q.1)->F ∣ r - 1->vC N l F=some G->G ∣ r - 1
 | [],F,G,_,hF,h=>by simp[vC]at h; exact h ▸ hF
 | (q,a) :: l,F,G,hl,hF,h=>by
  simp only[vC]at h
  split at h
  ·rename_i hc
   simp only[aK]at hc
   obtain⟨⟨⟨A,B⟩,j⟩,y⟩:=hc
   have A:=bf A
   have B:=bf B
   have j:=bf j
   have y:=bf y
   rw[Og]at j y
   have O:=NX I (hl (q,a) (eu ..)) J hd (eX B) j y
   exact FZ I J hd l (F*q) G (fun x hx=>hl x (dS _ hx)) (Nat.Coprime.mul_dvd_of_dvd_of_dvd A hF O) h
  ·cases h
theorem fO {N:Nat} (l:List (Nat×Nat)) (hl:∀q∈l,Prm q.1) (h:chk N l=true):Prm N:=by
 unfold chk at h
 simp only[aK,fp]at h
 obtain⟨I,h⟩:=h
 cases hF:vC N l 1 with
 | none=>rw[hF]at h; cases h
 | some F=>
  rw[hF]at h
  have R:N<F*F:=by simpa using h
  have j:∀d,d ∣ N->1<d->F<d:=fun d hd A=>by
   obtain⟨r,B,y⟩:=q5 d d (av d) A
   have G:=FZ I B (Nat.dvd_trans y hd) l 1 F hl (Nat.one_dvd _) hF
   have O:=fa (by have:=B.1; omega) G
   have Y:=fa (by omega) y
   have:=B.1
   omega
  refine⟨I,fun d hd=>?_⟩
  by_cases e1:d=1
  ·exact .inl e1
  by_cases e2:d=N
  ·exact .inr e2
  exfalso
  obtain⟨e,J⟩:=hd
  have U:d≠0:=by rintro rfl; omega
  have V:e≠0:=by rintro rfl; omega
  have X:e≠1:=by rintro rfl; omega
  have A:=j d ⟨e,J⟩ (by omega)
  have G:=j e ⟨d,by rw[aN]; exact J⟩ (by omega)
  have O:=dW (cE A) (cE G)
  omega
theorem PW:Prm 3:=jR (by decide +kernel)
theorem PO:Prm 5:=jR (by decide +kernel)
theorem PU:Prm 7:=jR (by decide +kernel)
theorem OY:Prm 11:=jR (by decide +kernel)
theorem OV:Prm 43:=jR (by decide +kernel)
theorem M8:Prm 139:=jR (by decide +kernel)
theorem NO:Prm 197:=jR (by decide +kernel)
theorem LM:Prm 211:=jR (by decide +kernel)
theorem Nq:Prm 233:=jR (by decide +kernel)
theorem MJ:Prm 311:=jR (by decide +kernel)
theorem MP:Prm 313:=jR (by decide +kernel)
theorem Mi:Prm 337:=jR (by decide +kernel)
theorem LR:Prm 421:=jR (by decide +kernel)
theorem Fs:Prm 881:=jR (by decide +kernel)
theorem LP:Prm 937:=jR (by decide +kernel)
theorem KV:Prm 3023:=jR (by decide +kernel)
theorem Lb:Prm 3677:=jR (by decide +kernel)
theorem Kh:Prm 4349:=jR (by decide +kernel)
theorem Ff:Prm 704251:=fO [(313,2),(5,2)] (by
 intro q j
 simp only[aJ,aU,bH]at j
 rcases j with rfl | rfl
 ·exact MP
 ·exact PO) (by decide +kernel)
theorem Hv:Prm 78283:=fO [(4349,2)] (by
 intro q j
 simp only[aJ,aU,bH]at j
 rw[j]; exact Kh) (by decide +kernel)
theorem qj:Prm 46076956964474543:=fO [(704251,2),(78283,2)] (by
 intro q j
 simp only[aJ,aU,bH]at j
 rcases j with rfl | rfl
 ·exact Ff
 ·exact Hv) (by decide +kernel)
theorem wE:Prm 66417393611:=fO [(3677,2),(197,2)] (by
 intro q j
 simp only[aJ,aU,bH]at j
 rcases j with rfl | rfl
 ·exact Lb
 ·exact NO) (by decide +kernel)
theorem sM:Prm 11290956913871:=fO [(66417393611,2)] (by
 intro q j
 simp only[aJ,aU,bH]at j
 rw[j]; exact wE) (by decide +kernel)
theorem jM:Prm 774023187263532362759620327192479577272145303:=fO [(46076956964474543,2),(11290956913871,2)] (by
 intro q j
 simp only[aJ,aU,bH]at j
 rcases j with rfl | rfl
 ·exact qj
 ·exact sM) (by decide +kernel)
theorem jA:Prm 835945042244614951780389953367877943453916927241:=fO [(774023187263532362759620327192479577272145303,2)] (by
 intro q j
 simp only[aJ,aU,bH]at j
 rw[j]; exact jM) (by decide +kernel)
theorem f7:Prm 115792089210356248762697446949407573530086143415290314195533631308867097853951:=fO [(835945042244614951780389953367877943453916927241,2)] (by
 intro q j
 simp only[aJ,aU,bH]at j
 rw[j]; exact jA) (by decide +kernel)
theorem FH:Prm 155317:=fO [(43,2),(7,2),(3,3)] (by
 intro q j
 simp only[aJ,aU,bH]at j
 rcases j with rfl | rfl | rfl
 ·exact OV
 ·exact PU
 ·exact PW) (by decide +kernel)
theorem y5:Prm 191039911:=fO [(155317,2)] (by
 intro q j
 simp only[aJ,aU,bH]at j
 rw[j]; exact FH) (by decide +kernel)
theorem qb:Prm 208150935158385979:=fO [(191039911,2),(3023,2)] (by
 intro q j
 simp only[aJ,aU,bH]at j
 rcases j with rfl | rfl
 ·exact y5
 ·exact KV) (by decide +kernel)
theorem mg:Prm 2624747550333869278416773953:=fO [(208150935158385979,2)] (by
 intro q j
 simp only[aJ,aU,bH]at j
 rw[j]; exact qb) (by decide +kernel)
theorem Fq:Prm 104471:=fO [(337,2)] (by
 intro q j
 simp only[aJ,aU,bH]at j
 rw[j]; exact Mi) (by decide +kernel)
theorem Dz:Prm 3969899:=fO [(104471,2)] (by
 intro q j
 simp only[aJ,aU,bH]at j
 rw[j]; exact Fq) (by decide +kernel)
theorem tK:Prm 1002328039319:=fO [(3969899,2)] (by
 intro q j
 simp only[aJ,aU,bH]at j
 rw[j]; exact Dz) (by decide +kernel)
theorem gc:Prm 115792089210356248762697446949407573529996955224135760342422259061068512044369:=fO [(2624747550333869278416773953,2),(1002328039319,2)] (by
 intro q j
 simp only[aJ,aU,bH]at j
 rcases j with rfl | rfl
 ·exact mg
 ·exact tK) (by decide +kernel)
theorem FP:Prm 363557:=fO [(937,2)] (by
 intro q j
 simp only[aJ,aU,bH]at j
 rw[j]; exact LP) (by decide +kernel)
theorem AE:Prm 532247449:=fO [(363557,2)] (by
 intro q j
 simp only[aJ,aU,bH]at j
 rw[j]; exact FP) (by decide +kernel)
theorem sG:Prm 44925942675193:=fO [(532247449,2)] (by
 intro q j
 simp only[aJ,aU,bH]at j
 rw[j]; exact AE) (by decide +kernel)
theorem nD:Prm 35581458644053887931343:=fO [(44925942675193,2)] (by
 intro q j
 simp only[aJ,aU,bH]at j
 rw[j]; exact sG) (by decide +kernel)
theorem l8:Prm 23964610537191310276190549303:=fO [(35581458644053887931343,2)] (by
 intro q j
 simp only[aJ,aU,bH]at j
 rw[j]; exact nD) (by decide +kernel)
theorem lJ:Prm 862725979338887169942859774909:=fO [(23964610537191310276190549303,2)] (by
 intro q j
 simp only[aJ,aU,bH]at j
 rw[j]; exact l8) (by decide +kernel)
theorem lh:Prm 20705423504133292078628634597817:=fO [(862725979338887169942859774909,2)] (by
 intro q j
 simp only[aJ,aU,bH]at j
 rw[j]; exact lJ) (by decide +kernel)
theorem j0:Prm 413244619895455989650825325680172591660047:=fO [(20705423504133292078628634597817,2)] (by
 intro q j
 simp only[aJ,aU,bH]at j
 rw[j]; exact lh) (by decide +kernel)
theorem jV:Prm 12397338596863679689524759770405177749801411:=fO [(413244619895455989650825325680172591660047,2)] (by
 intro q j
 simp only[aJ,aU,bH]at j
 rw[j]; exact j0) (by decide +kernel)
theorem Jl:Prm 21407:=fO [(139,2),(11,2)] (by
 intro q j
 simp only[aJ,aU,bH]at j
 rcases j with rfl | rfl
 ·exact M8
 ·exact OY) (by decide +kernel)
theorem Ac:Prm 246608641:=fO [(21407,2)] (by
 intro q j
 simp only[aJ,aU,bH]at j
 rw[j]; exact Jl) (by decide +kernel)
theorem A3:Prm 105957871:=fO [(881,2),(211,2)] (by
 intro q j
 simp only[aJ,aU,bH]at j
 rcases j with rfl | rfl
 ·exact Fs
 ·exact LM) (by decide +kernel)
theorem oD:Prm 529709925838459440593:=fO [(246608641,2),(105957871,2)] (by
 intro q j
 simp only[aJ,aU,bH]at j
 rcases j with rfl | rfl
 ·exact Ac
 ·exact A3) (by decide +kernel)
theorem eR:Prm 19173790298027098165721053155794528970226934547887232785722672956982046098136719667167519737147526097:=fO [(12397338596863679689524759770405177749801411,2),(529709925838459440593,2)] (by
 intro q j
 simp only[aJ,aU,bH]at j
 rcases j with rfl | rfl
 ·exact jV
 ·exact oD) (by decide +kernel)
theorem dT:Prm 39402006196394479212279040100143613805079739270465446667948293404245721771496870329047266088258938001861606973112319:=fO [(19173790298027098165721053155794528970226934547887232785722672956982046098136719667167519737147526097,2)] (by
 intro q j
 simp only[aJ,aU,bH]at j
 rw[j]; exact eR) (by decide +kernel)
theorem zh:Prm 272109983:=fO [(421,2),(233,2)] (by
 intro q j
 simp only[aJ,aU,bH]at j
 rcases j with rfl | rfl
 ·exact LR
 ·exact Nq) (by decide +kernel)
theorem u6:Prm 228572385721:=fO [(272109983,2)] (by
 intro q j
 simp only[aJ,aU,bH]at j
 rw[j]; exact zh) (by decide +kernel)
theorem sF:Prm 23314383343543:=fO [(228572385721,2)] (by
 intro q j
 simp only[aJ,aU,bH]at j
 rw[j]; exact u6) (by decide +kernel)
theorem oE:Prm 426632512014427833817:=fO [(23314383343543,2)] (by
 intro q j
 simp only[aJ,aU,bH]at j
 rw[j]; exact sF) (by decide +kernel)
theorem mh:Prm 1495199339761412565498084319:=fO [(426632512014427833817,2)] (by
 intro q j
 simp only[aJ,aU,bH]at j
 rw[j]; exact oE) (by decide +kernel)
theorem lV:Prm 17942392077136950785977011829:=fO [(1495199339761412565498084319,2)] (by
 intro q j
 simp only[aJ,aU,bH]at j
 rw[j]; exact mh) (by decide +kernel)
theorem DX:Prm 9863677:=fO [(881,2),(311,2)] (by
 intro q j
 simp only[aJ,aU,bH]at j
 rcases j with rfl | rfl
 ·exact Fs
 ·exact MJ) (by decide +kernel)
theorem sL:Prm 37344768852931:=fO [(9863677,2)] (by
 intro q j
 simp only[aJ,aU,bH]at j
 rw[j]; exact DX) (by decide +kernel)
theorem qu:Prm 55942463741690639:=fO [(37344768852931,2)] (by
 intro q j
 simp only[aJ,aU,bH]at j
 rw[j]; exact sL) (by decide +kernel)
theorem iA:Prm 1059392654943455286185473617842338478315215895509773412096307:=fO [(17942392077136950785977011829,2),(55942463741690639,2)] (by
 intro q j
 simp only[aJ,aU,bH]at j
 rcases j with rfl | rfl
 ·exact lV
 ·exact qu) (by decide +kernel)
theorem fQ:Prm 3055465788140352002733946906144561090641249606160407884365391979704929268480326390471:=fO [(1059392654943455286185473617842338478315215895509773412096307,2)] (by
 intro q j
 simp only[aJ,aU,bH]at j
 rw[j]; exact iA) (by decide +kernel)
theorem dU:Prm 39402006196394479212279040100143613805079739270465446667946905279627659399113263569398956308152294913554433653942643:=fO [(3055465788140352002733946906144561090641249606160407884365391979704929268480326390471,2)] (by
 intro q j
 simp only[aJ,aU,bH]at j
 rw[j]; exact fQ) (by decide +kernel)
end Go.Gk.Pr
end
section
namespace Go.Gk.Ec
open Go.Gk.Pr
variable {p:Nat} [NeZero p]
theorem o8:0<p:=fk (NeZero.ne p)
def fz (z:Int):Fin p:=⟨(z%p).toNat,by
 have h1:=Int.emod_lt_of_pos z (show (0:Int)<p by have:=o8 (p:=p); omega)
 have h2:=im z (show (p:Int)≠0 by have:=o8 (p:=p); omega)
 omega⟩
theorem lK (z:Int):((fz (p:=p) z).val:Int)=z%p:=by
 have j:=im z (show (p:Int)≠0 by have:=o8 (p:=p); omega)
 show (((z%p).toNat:Nat):Int)=_
 omega
theorem uq {a:Fin p} {z:Int} (h:(a.val:Int)%p=z%p):a=fz z:=by
 apply iq
 have:=lK (p:=p) z
 have j:=eN (a:=(a.val:Int)) (b:=p) (by omega) (by have:=a.isLt; omega)
 omega
theorem kN (a:Fin p):fz (a.val:Int)=a:=(uq rfl).symm
theorem Ms (n:Nat) (h:n<p):((fz (p:=p) (n:Int)).val)=n:=by
 have j:=lK (p:=p) (n:Int)
 rw[eN (by omega) (by omega)]at j
 omega
theorem md (z:Int):fz (p:=p) (z%p)=fz z:=by
 apply iq
 show ((z%p%p).toNat)=(z%p).toNat
 rw[Int.emod_emod]
theorem rX (x y:Int):fz (p:=p) (x+y)=fz x+fz y:=by
 refine (uq ?_).symm
 rw[Fin.val_add,bN,gt,lK,lK,Int.emod_emod,<-Int.add_emod]
theorem nj (x y:Int):fz (p:=p) (x*y)=fz x*fz y:=by
 refine (uq ?_).symm
 rw[Fin.val_mul,bN,cZ,lK,lK,Int.emod_emod,<-Int.mul_emod]
theorem qc:fz (p:=p) 0=0:=by
 apply iq
 show ((0:Int)%p).toNat=_
 rw[Int.zero_emod]; rfl
theorem uU (x y:Int):fz (p:=p) (x - y)=fz x - fz y:=by
 have h:=rX (p:=p) (x - y) y
 rw[show x - y+y=x by omega]at h
 rw[h]; grobner
theorem jm (n:Nat):fz (p:=p) (n:Int)=Fin.ofNat p n:=by
 apply iq
 show ((n:Int)%p).toNat=n%p
 rw[<-bN]; rfl
theorem mA {z:Int}:fz (p:=p) z=0↔z%p=0:=by
 constructor
 ·intro h
  have:=lK (p:=p) z
  rw[h]at this
  simpa using this.symm
 ·intro h
  have:=md (p:=p) z
  rw[<-this,h,qc]
theorem LK (hp:Prm p) (B:2<p):Fld p:=by
 have y:∀u:Fin p,u≠0->¬p ∣ u.val:=fun u hu hd=>by
  apply hu
  apply iq
  have q:=u.isLt
  have:(0:Fin p).val=0:=by simp
  rw[this]
  rcases bS u.val with h | h
  ·exact h
  ·have:=fa h hd; omega
 refine⟨fun u v h=>?_,fun u hu=>?_,fun h=>?_⟩
 ·by_cases hu:u=0
  ·exact .inl hu
  ·right
   have A:p ∣ u.val*v.val:=by
    have:=cv Fin.val h
    rw[Fin.val_mul]at this
    have q:(0:Fin p).val=0:=by simp
    rw[q]at this
    exact eX this
   rcases hp.dvd_mul A with j | j
   ·exact (y u hu j).elim
   ·refine fb fun G=>y v G j
 ·refine⟨⟨u.val^(p - 2)%p,bM _ (by omega)⟩,?_⟩
  apply iq
  rw[Fin.val_mul]
  have A:(1:Fin p).val=1%p:=rfl
  have I:1%p=1:=ax (by omega)
  rw[A,I]
  have j:=zF hp (y u hu)
  show u.val*(u.val^(p - 2)%p)%p=1
  rw[dD,fL,<-dD,aN,<-bn,show (p - 2).succ=p - 1 by omega]
  exact j
 ·have j:=cv Fin.val h
  have J:(2:Fin p).val=2%p:=rfl
  have q:(0:Fin p).val=0:=by simp
  rw[J,q,ax B]at j
  cases j
open Classical in
noncomputable def jac (X Y Z:Fin p):Pt p:=if Z=0 then none else some (X*(rcp Z*rcp Z),Y*(rcp Z*(rcp Z*rcp Z)))
theorem kh (X Y:Fin p):jac X Y 0=none:=ah rfl
theorem Fld.jac_of (F:Fld p) {X Y Z x y:Fin p} (hz:Z≠0) (hx:X=x*(Z*Z)) (j:Y=y*(Z*(Z*Z))):jac X Y Z=some (x,y):=by
 have e:=F.mul_iv hz
 unfold jac
 rw[ae hz]
 generalize rcp Z=i at e ⊢
 have q:X*(i*i)=x:=by subst hx; clear j; grobner
 have A:Y*(i*(i*i))=y:=by subst j; clear hx q; grobner
 rw[q,A]
theorem Fld.of_jac (F:Fld p) (X Y:Fin p) {Z:Fin p} (hz:Z≠0):∃x y,X=x*(Z*Z)/\Y=y*(Z*(Z*Z))/\jac X Y Z=some (x,y):=by
 have e:=F.mul_iv hz
 refine⟨X*(rcp Z*rcp Z),Y*(rcp Z*(rcp Z*rcp Z)),?_,?_,ae hz⟩
 ·generalize rcp Z=i at e ⊢; grobner
 ·generalize rcp Z=i at e ⊢; grobner
theorem Fld.mul_ne (F:Fld p) {u v:Fin p} (hu:u≠0) (j:v≠0):u*v≠0:=fun h=>(F.nz u v h).elim hu j
theorem Fld.jac_dbl (F:Fld p) {X Y Z R A s m U V:Fin p} (hz:Z≠0) (B:R=Z*Z) (G:A=Y*Y) (I:s=4*(X*A)) (j:m=3*((X - R)*(X+R))) (J:U=m*m - 2*s) (N:V=m*(s - U) - 8*(A*A)) :
  jac U V (2*(Y*Z))=add (-3) (jac X Y Z) (jac X Y Z):=by
 obtain⟨x,y,hx,q,hj⟩:=F.of_jac X Y hz
 rw[hj,jh,ah rfl]
 by_cases y0:y+y=0
 ·have:y=0:=F.dbl y0
  rw[ah y0,q,this,show (2:Fin p)*(0*(Z*(Z*Z))*Z)=0 by grobner,kh]
 ·rw[ae y0]
  have O:y≠0:=by rintro rfl; exact y0 (by grobner)
  have ab:2*y≠0:=F.mul_ne F.two O
  have e:=F.mul_iv ab
  obtain⟨l,hl⟩:∃l,(3*(x*x)+-3)*rcp (2*y)=l:=⟨_,rfl⟩
  have hs:l*(2*y)=3*(x*x) - 3:=by rw[<-hl]; generalize rcp (2*y)=i at e; clear hl B G I j J N hx q; grobner
  rw[hl]
  clear hl e
  unfold pe
  have hm:m=l*(2*y)*(Z*Z*(Z*Z)):=by rw[hs]; subst B hx; clear hs G I J N; rw[j]; clear j; grobner
  have ac:2*(Y*Z)≠0:=by rw[q]; exact F.mul_ne F.two (F.mul_ne (F.mul_ne O (F.mul_ne hz (F.mul_ne hz hz))) hz)
  refine F.jac_of ac ?_ ?_
  ·clear hs j B; subst J hm I G hx q; clear N; grobner
  ·clear hs j B; subst N J hm I G hx q; grobner
theorem Fld.jac_add (F:Fld p) {X1 Y1 j X2 Y2 q u1 u2 s1 s2 h r hh ag v x' y':Fin p} (z1:j≠0) (z2:q≠0) (X:u1=X1*(q*q)) (Y:u2=X2*(j*j)) (Z:s1=Y1*(q*(q*q))) (e4:s2=Y2*(j*(j*j)))
  (e5:h=u2 - u1) (e6:r=s2 - s1) (R:hh=h*h) (e8:ag=h*hh) (U:v=u1*hh) (y:x'=r*r - ag - 2*v) (A:y'=r*(v - x') - s1*ag) (hn:h≠0) (a:Fin p) :
  jac x' y' (h*(j*q))=add a (jac X1 Y1 j) (jac X2 Y2 q):=by
 obtain⟨x1,y1,G,I,b2⟩:=F.of_jac X1 Y1 z1
 obtain⟨x2,y2,J,N,b3⟩:=F.of_jac X2 Y2 z2
 have hW:=F.mul_ne z1 z2
 have B:h=(x2 - x1)*(j*q*(j*q)):=by subst e5 X Y G J; clear Z e4 e6 R e8 U y A hn I N; grobner
 have O:r=(y2 - y1)*(j*q*(j*q*(j*q))):=by subst e6 Z e4 I N; clear X Y e5 R e8 U y A hn G J B; grobner
 have V:u1=x1*(j*q*(j*q)):=by subst X G; clear Y Z e4 e5 e6 R e8 U y A hn B O I N J; grobner
 have ap:s1=y1*(j*q*(j*q*(j*q))):=by subst Z I; clear Y X e4 e5 e6 R e8 U y A hn B O G N J V; grobner
 have hx:x1≠x2:=by
  rintro rfl
  apply hn; rw[B]; grobner
 have hd:x2 - x1≠0:=fun h0=>hx (fR h0).symm
 rw[b2,b3,jh,ae hx]
 have e:=F.mul_iv hd
 obtain⟨l,hl⟩:∃l,(y2 - y1)*rcp (x2 - x1)=l:=⟨_,rfl⟩
 have hs:l*(x2 - x1)=y2 - y1:=by
  rw[<-hl]; generalize rcp (x2 - x1)=i at e
  generalize x2 - x1=d at *; clear hl X Y Z e4 e5 e6 R e8 U y A G J I N B O V ap hn; grobner
 rw[hl]
 clear hl e
 unfold pe
 have aS:h*(j*q)≠0:=F.mul_ne hn hW
 rw[<-hs]at O
 clear X Y Z e4 e5 e6 G I J N b2 b3 hs
 refine F.jac_of aS ?_ ?_
 ·clear hn aS hW hd hx A ap; subst y U e8 R B O V; generalize j*q=W; grobner
 ·clear hn aS hW hd hx; subst A y U e8 R B O V ap; generalize j*q=W; grobner
end Go.Gk.Ec
end
section
namespace Go.Gk.Ec
open Go.Gk.Pr
variable {p:Nat} [NeZero p] {a b:Fin p}
noncomputable def mul (a:Fin p):Nat->Pt p->Pt p
 | 0,_=>none
 | k+1,P=>add a (mul a k P) P
theorem mul_one (P:Pt p):mul a 1 P=P:=rfl
theorem tN:∀k:Nat,mul a k (none:Pt p)=none
 | 0=>rfl
 | k+1=>by unfold mul; rw[tN k]; rfl
theorem Fld.on_mul (C:Fld p) {P:Pt p} (hP:On a b P):∀k:Nat,On a b (mul a k P)
 | 0=>trivial
 | k+1=>C.on_add (C.on_mul hP k) hP
theorem Cv.mul_add (C:Cv p a b) {P:Pt p} (hP:On a b P) (m:Nat):∀n:Nat,mul a (m+n) P=add a (mul a m P) (mul a n P)
 | 0=>(jz _).symm
 | n+1=>by
  show add a (mul a (m+n) P) P=add a (mul a m P) (add a (mul a n P) P)
  rw[C.mul_add hP m n,C.assoc (C.on_mul hP m) (C.on_mul hP n) hP]
theorem Cv.mul_mul (C:Cv p a b) {P:Pt p} (hP:On a b P) (m:Nat):∀n:Nat,mul a (n*m) P=mul a n (mul a m P)
 | 0=>by rw[fN]; rfl
 | n+1=>by
  rw[Nat.succ_mul,C.mul_add hP,C.mul_mul hP m n]; rfl
theorem Cv.mul_sum (C:Cv p a b) {P Q:Pt p} (hP:On a b P) (j:On a b Q):∀n:Nat,mul a n (add a P Q)=add a (mul a n P) (mul a n Q)
 | 0=>rfl
 | n+1=>by
  have y:=C.on_mul hP n
  have q:=C.on_mul j n
  show add a (mul a n (add a P Q)) (add a P Q)=add a (add a (mul a n P) P) (add a (mul a n Q) Q)
  rw[C.mul_sum hP j n,C.assoc y q (C.on_add hP j),<-C.assoc q hP j,C.comm q hP,C.assoc hP q j,<-C.assoc y hP (C.on_add q j)]
theorem Cv.mul_neg (C:Cv p a b) {P:Pt p} (hP:On a b P):∀n:Nat,mul a n (neg P)=neg (mul a n P)
 | 0=>rfl
 | n+1=>by
  show add a (mul a n (neg P)) (neg P)=neg (add a (mul a n P) P)
  rw[C.mul_neg hP n,C.neg_add (C.on_mul hP n) hP]
theorem Cv.add_right (C:Cv p a b) {P Q R:Pt p} (hP:On a b P) (q:On a b Q) (j:On a b R) (h:add a P R=add a Q R):P=Q:=by
 have y:=cv (fun z=>add a z (neg R)) h
 rwa [C.assoc hP j j.neg,C.assoc q j j.neg,gi,jz,jz]at y
theorem Cv.add_left (C:Cv p a b) {P Q R:Pt p} (hP:On a b P) (q:On a b Q) (j:On a b R) (h:add a R P=add a R Q):P=Q:=by
 rw[C.comm j hP,C.comm j q]at h
 exact C.add_right hP q j h
theorem Cv.mul_mod (C:Cv p a b) {P:Pt p} (hP:On a b P) {n:Nat} (h:mul a n P=none) (k:Nat):mul a (k%n) P=mul a k P:=by
 have j:=cQ k n
 rw[<-j,C.mul_add hP,aN n,C.mul_mul hP,h,tN,Bd,aN,Nat.mul_add_mod,fL]
theorem Cv.mul_gcd (C:Cv p a b) {P:Pt p} (hP:On a b P) (m n:Nat):mul a m P=none->mul a n P=none->mul a (Nat.gcd m n) P=none:=by
 refine Nat.gcd.induction (P:=fun m n=>mul a m P=none->mul a n P=none->mul a (Nat.gcd m n) P=none) m n (fun n _ h=>by rwa [Nat.gcd_zero_left]) (fun m n hm q j y=>?_)
 rw[Nat.gcd_rec]
 exact q (by rw[C.mul_mod hP j,y]) j
theorem Cv.mul_inj (C:Cv p a b) {G:Pt p} (q:On a b G) {n:Nat} (hn:Prm n) (J:G≠none) (h:mul a n G=none) {i j:Nat} (hi:i<n) (I:j<n) (e:mul a i G=mul a j G):i=j:=by
 have A:∀i j:Nat,i<j->j<n->mul a i G=mul a j G->False:=fun i j O I e=>by
  have N:mul a (j - i) G=none:=by
   have y:mul a j G=add a (mul a (j - i) G) (mul a i G):=by rw[<-C.mul_add q]; congr 1; omega
   rw[y]at e
   have B:add a none (mul a i G)=add a (mul a (j - i) G) (mul a i G):=e
   exact (C.add_right (P:=none) trivial (C.on_mul q _) (C.on_mul q _) B).symm
  have y:=C.mul_gcd q n (j - i) h N
  have B:Nat.gcd n (j - i)=1:=hn.coprime fun hd=>by have:=fa (by omega) hd; omega
  rw[B]at y
  exact J y
 rcases Nat.lt_trichotomy i j with hl | hl | hl
 ·exact (A i j hl I e).elim
 ·exact hl
 ·exact (A j i hl hi e.symm).elim
def Dj (P:Pt p):Nat:=match P with
 | none=>2*p
 | some (x,y)=>2*x.val+(if 2*y.val<p then 0 else 1)
theorem KE (P:Pt p):Dj P<2*p+1:=by
 rcases P with _ | ⟨x,y⟩
 ·show 2*p<_; omega
 ·have:=x.isLt
  show 2*x.val+(if 2*y.val<p then 0 else 1)<_
  split <;> omega
theorem Kr {y:Fin p} (h:y≠0):(-y).val=p - y.val:=by
 have G:y.val≠0:=fun e=>h (iq (by rw[e]; simp))
 have I:=y.isLt
 have A:y+-y=0:=wh y
 have j:=cv Fin.val A
 rw[Fin.val_add]at j
 have J:=(-y).isLt
 have B:(0:Fin p).val=0:=by simp
 rw[B]at j
 rcases cj (y.val+(-y).val) p with q | q
 ·rw[ax q]at j; omega
 ·rw[Nat.mod_eq_sub_mod q,ax (by omega)]at j; omega
theorem Cv.code_inj (C:Cv p a b) (G:p%2=1) {P Q:Pt p} (hP:On a b P) (I:On a b Q) (h:Dj P=Dj Q):P=Q:=by
 rcases P with _ | ⟨x,y⟩
 ·rcases Q with _ | ⟨A,B⟩
  ·rfl
  ·exfalso
   have:=A.isLt
   have j:2*p=2*A.val+(if 2*B.val<p then 0 else 1):=h
   split at j <;> omega
 ·rcases Q with _ | ⟨A,B⟩
  ·exfalso
   have:=x.isLt
   have j:2*x.val+(if 2*y.val<p then 0 else 1)=2*p:=h
   split at j <;> omega
  ·have j:2*x.val+(if 2*y.val<p then 0 else 1)=2*A.val+(if 2*B.val<p then 0 else 1):=h
   have hx:x=A:=by apply iq; split at j <;> split at j <;> omega
   subst hx
   rcases C.same_x hP I with q | q
   ·rw[q]
   ·exfalso
    have J:=C.y_ne hP
    have:=Kr J
    rw[q,this]at j
    have:=y.isLt
    split at j <;> split at j <;> omega
theorem EZ:∀{l l':List Nat},l.Nodup->(∀x∈l,x∈l')->l.length<=l'.length
 | [],l',_,_=>eM _
 | x :: l,l',hn,hs=>by
  have hx:=hs x (eu ..)
  have hl:=(List.perm_cons_erase hx).length_eq
  have j:=List.nodup_cons.1 hn
  have:=EZ j.2 (l':=l'.erase x) fun y q=>by
   have A:y≠x:=by rintro rfl; exact j.1 q
   exact (List.mem_erase_of_ne A).2 (hs y (dS _ q))
  simp only[cg]at hl ⊢
  omega
theorem Cv.count (C:Cv p a b) (A:p%2=1) (f:Nat->Pt p) (m:Nat) (y:∀i,i<m->On a b (f i)) (B:∀i j,i<m->j<m->f i=f j->i=j):m<=2*p+1:=by
 have h:=EZ (l:=(List.range m).map (fun i=>Dj (f i))) (l':=List.range (2*p+1)) (by
  refine List.pairwise_map.2 (List.Pairwise.imp_of_mem (R:=(·≠·)) ?_ List.nodup_range)
  intro i j hi q G e
  have hi:=cW.1 hi
  have q:=cW.1 q
  exact G (B i j hi q (C.code_inj A (y i hi) (y j q) e))) (by
  intro x hx
  obtain⟨i,_,rfl⟩:=iC.1 hx
  exact cW.2 (KE _))
 simpa using h
theorem Cv.no_two (C:Cv p a b) {P:Pt p} (hP:On a b P) (h:add a P P=none):P=none:=by
 rcases P with _ | ⟨x,y⟩
 ·rfl
 ·exfalso
  rw[jh,ah rfl]at h
  by_cases hy:y+y=0
  ·exact C.y_ne hP (C.dbl hy)
  ·rw[ae hy]at h; cases h
theorem Cv.cyclic (C:Cv p a b) (Y:p%2=1) {G:Pt p} (q:On a b G) {n:Nat} (hn:Prm n) (b4:n%2=1) (Z:G≠none) (h:mul a n G=none) (bx:2*p+1<3*n) {P:Pt p} (hP:On a b P):∃k,k<n/\P=mul a k G:=by
 refine fb fun ac=>?_
 have b5:=hn.1
 have ad:∀k,∃j,j<n/\mul a k G=mul a j G:=fun k=>⟨k%n,bM _ (by omega),(C.mul_mod q h k).symm⟩
 have I:∀k,P≠mul a k G:=fun k e=>by
  obtain⟨j,N,ag⟩:=ad k
  exact ac ⟨j,N,e.trans ag⟩
 have on2:=C.on_add hP hP
 -- a difference of multiples is a multiple
 have sub:∀(Q R:Pt p) (i j:Nat),On a b Q->On a b R->i<n->add a Q (mul a i G)=add a R (mul a j G)->∃k,Q=add a R (mul a k G):=fun Q R i j hQ hR hi e=>by
  refine⟨j+(n - i),?_⟩
  have V:=cv (fun z=>add a z (mul a (n - i) G)) e
  rw[C.assoc hQ (C.on_mul q _) (C.on_mul q _),C.assoc hR (C.on_mul q _) (C.on_mul q _),<-C.mul_add q,<-C.mul_add q,show i+(n - i)=n by omega,h,jz]at V
  exact V
 -- twice the point is one
 have ap:∃k,add a P P=mul a k G:=by
  refine fb fun O=>?_
  have aS:∀k,add a P P≠mul a k G:=fun k e=>O ⟨k,e⟩
  let f:Nat->Pt p:=fun i=>if i<n then mul a i G else if i<2*n then add a P (mul a (i - n) G) else add a (add a P P) (mul a (i - 2*n) G)
  have:=C.count Y f (3*n) (fun i hi=>by
   show On a b (if i<n then mul a i G else if i<2*n then add a P (mul a (i - n) G) else add a (add a P P) (mul a (i - 2*n) G))
   split
   ·exact C.on_mul q _
   ·split
    ·exact C.on_add hP (C.on_mul q _)
    ·exact C.on_add on2 (C.on_mul q _)) (fun i j hi N e=>by
   have X:∀i j,i<3*n->j<3*n->i<=j->f i=f j->i=j:=fun i j hi N J e=>by
    have y:(if i<n then mul a i G else if i<2*n then add a P (mul a (i - n) G) else add a (add a P P) (mul a (i - 2*n) G))=(if j<n then mul a j G else if j<2*n then add a P (mul a (j - n) G) else add a (add a P P) (mul a (j - 2*n) G)):=e
    by_cases h1:i<n
    ·rw[ah h1]at y
     by_cases O:j<n
     ·rw[ah O]at y
      exact C.mul_inj q hn Z h h1 O y
     ·rw[ae O]at y
      by_cases h3:j<2*n
      ·rw[ah h3]at y
       obtain⟨k,B⟩:=sub P none (j - n) i hP trivial (by omega) y.symm
       exact (I k B).elim
      ·rw[ae h3]at y
       obtain⟨k,B⟩:=sub (add a P P) none (j - 2*n) i on2 trivial (by omega) y.symm
       exact (aS k B).elim
    ·rw[ae h1,ae (show ¬j<n by omega)]at y
     by_cases h3:i<2*n
     ·rw[ah h3]at y
      by_cases h4:j<2*n
      ·rw[ah h4]at y
       have:=C.mul_inj q hn Z h (by omega) (by omega) (C.add_left (C.on_mul q _) (C.on_mul q _) hP y)
       omega
      ·rw[ae h4]at y
       rw[C.assoc hP hP (C.on_mul q _)]at y
       have V:=C.add_left (C.on_mul q _) (C.on_add hP (C.on_mul q _)) hP y
       obtain⟨k,B⟩:=sub P none (j - 2*n) (i - n) hP trivial (by omega) V.symm
       exact (I k B).elim
     ·rw[ae h3,ae (show ¬j<2*n by omega)]at y
      have:=C.mul_inj q hn Z h (by omega) (by omega) (C.add_left (C.on_mul q _) (C.on_mul q _) on2 y)
      omega
   rcases Nat.le_total i j with J | J
   ·exact X i j hi N J e
   ·exact (X j i N hi J e.symm).symm)
  omega
 -- U of it
 obtain⟨k,B⟩:=ap
 have U:∃m,add a P P=add a (mul a m G) (mul a m G):=by
  by_cases hk2:k%2=0
  ·refine⟨k / 2,?_⟩
   rw[B,<-C.mul_add q]; congr 1; omega
  ·refine⟨(k+n) / 2,?_⟩
   rw[B,<-C.mul_add q,show (k+n) / 2+(k+n) / 2=k+n by omega,C.mul_add q,h,jz]
 obtain⟨m,hm⟩:=U
 have A:=C.on_mul q m
 have hd:add a (add a P (neg (mul a m G))) (add a P (neg (mul a m G)))=none:=by
  have on3:=A.neg
  rw[C.assoc hP on3 (C.on_add hP on3),<-C.assoc on3 hP on3,C.comm on3 hP,C.assoc hP on3 on3,<-C.assoc hP hP (C.on_add on3 on3),hm,<-C.neg_add A A,gi]
 have hz:=C.no_two (C.on_add hP A.neg) hd
 have ab:P=mul a m G:=by
  have h5:add a (mul a m G) (neg (mul a m G))=none:=gi _
  exact C.add_right hP A A.neg (hz.trans h5.symm)
 exact I m ab
theorem Cv.order (C:Cv p a b) (j:p%2=1) {G:Pt p} (q:On a b G) {n:Nat} (hn:Prm n) (A:n%2=1) (B:G≠none) (h:mul a n G=none) (y:2*p+1<3*n) {P:Pt p} (hP:On a b P):mul a n P=none:=by
 obtain⟨k,_,rfl⟩:=C.cyclic j q hn A B h y hP
 rw[<-C.mul_mul q,aN,C.mul_mul q,h,tN]
end Go.Gk.Ec
end
section
namespace Go.Gk.Ec
open Go.Gk.Pr
section
variable {p:Nat} [NeZero p]
theorem Nv (x:Fin p) (hp:Prm p):fz (p:=p) ((x.val:Int)^p)=x:=by
 have hx:=x.isLt
 have q:x.val^p%p=x.val:=by
  by_cases h:p ∣ x.val
  ·have y:x.val=0:=by
    rcases bS x.val with j | j
    ·exact j
    ·have:=fa j h; omega
   rw[y,Nat.zero_pow (by have:=hp.1; omega)]; exact jl _
  ·have j:=zF hp h
   have A:x.val^p=x.val*x.val^(p - 1):=by
    rw[aN,<-bn]; congr 1; have:=hp.1; omega
   rw[A,dD,j,cH,fL,ax hx]
 refine (uq ?_).symm
 have j:(((x.val^p%p:Nat)):Int)=(x.val:Int)^p%p:=by rw[bN,Int.natCast_pow]
 rw[<-j,q,eN (by omega) (by omega)]
abbrev T3:=Nat×Nat×Nat
def pC {α:Type} (t:T3) (k:T3->α):α:=frc t.1 fun a=>frc t.2.1 fun b=>frc t.2.2 fun c=>k (a,b,c)
theorem od {α:Type} (t:T3) (k:T3->α):pC t k=k t:=by
 unfold pC; rw[om,om,om]
def tf (p A B:Nat) (c d:T3):T3:=
 frc (c.1*d.1) fun e0=>frc (c.1*d.2.1+c.2.1*d.1) fun e1=>frc (c.1*d.2.2+c.2.1*d.2.1+c.2.2*d.1) fun e2=>frc (c.2.1*d.2.2+c.2.2*d.2.1) fun e3=>frc (c.2.2*d.2.2) fun e4=>
  ((e0+e3*B)%p,(e1+e3*A+e4*B)%p,(e2+e4*A)%p)
def evT (x:Fin p) (t:T3):Fin p:=fz (t.1:Int)+fz (t.2.1:Int)*x+fz (t.2.2:Int)*(x*x)
theorem ma (n:Nat):fz (p:=p) ((n%p:Nat):Int)=fz (n:Int):=by rw[bN,md]
theorem nZ (m n:Nat):fz (p:=p) ((m+n:Nat):Int)=fz (m:Int)+fz (n:Int):=by rw[gt,rX]
theorem pU (m n:Nat):fz (p:=p) ((m*n:Nat):Int)=fz (m:Int)*fz (n:Int):=by rw[cZ,nj]
theorem vG (x:Fin p) (A B:Nat) (hx:x*x*x=fz (A:Int)*x+fz (B:Int)) (c d:T3):evT x (tf p A B c d)=evT x c*evT x d:=by
 obtain⟨q,y,G⟩:=c
 obtain⟨I,J,N⟩:=d
 unfold tf evT
 simp only[om,ma,nZ,pU]
 generalize fz (p:=p) (q:Int)=C0; generalize fz (p:=p) (y:Int)=C1; generalize fz (p:=p) (G:Int)=C2
 generalize fz (p:=p) (I:Int)=D0; generalize fz (p:=p) (J:Int)=D1; generalize fz (p:=p) (N:Int)=D2
 generalize fz (p:=p) (A:Int)=A' at hx ⊢; generalize fz (p:=p) (B:Int)=B' at hx ⊢
 have j:x*x*x*x=A'*(x*x)+B'*x:=by rw[hx]; clear hx; grobner
 obtain rfl:B'=x*x*x - A'*x:=by rw[hx]; clear hx j; grobner
 clear hx j
 grobner
def tM (p A B e:Nat):Nat->T3->T3
 | 0,t=>t
 | k+1,t=>pC (tf p A B t t) fun u=>bif Nat.beq (e / 2^k%2) 0 then tM p A B e k u else pC (tf p A B u (0,1,0)) fun u=>tM p A B e k u
theorem xk (e k:Nat):(Nat.beq (e / 2^k%2) 0=true/\e / 2^k=2*(e / 2^(k+1)))\/(Nat.beq (e / 2^k%2) 0=false/\e / 2^k=2*(e / 2^(k+1))+1):=by
 have j:e / 2^(k+1)=e / 2^k / 2:=by rw[bn,du]
 rw[j]
 cases hb:Nat.beq (e / 2^k%2) 0 with
 | true=>have:=bf hb; exact .inl ⟨rfl,by omega⟩
 | false=>
  have:e / 2^k%2≠0:=fun h=>by rw[h]at hb; cases hb
  exact .inr ⟨rfl,by omega⟩
theorem vu (x:Fin p) (A B:Nat) (hx:x*x*x=fz (A:Int)*x+fz (B:Int)) (e:Nat):∀k t,evT x t=fz ((x.val:Int)^(e / 2^k))->evT x (tM p A B e k t)=fz ((x.val:Int)^e)
 | 0,t,h=>by simpa [tM] using h
 | k+1,t,h=>by
  have j:evT x (tf p A B t t)=fz ((x.val:Int)^(2*(e / 2^(k+1)))):=by
   rw[vG x A B hx,h,<-nj,<-Int.pow_add]; congr 2; omega
  unfold tM
  rw[od]
  rcases xk e k with⟨q,y⟩ | ⟨q,y⟩
  ·rw[q]
   exact vu x A B hx e k _ (by rw[j,y])
  ·rw[q]
   show evT x (pC _ _)=_
   rw[od]
   refine vu x A B hx e k _ ?_
   have hX:evT x (0,1,0)=x:=by
    unfold evT
    have G:fz (p:=p) ((0:Nat):Int)=0:=qc
    have I:fz (p:=p) ((1:Nat):Int)=1:=jm 1
    dsimp only
    rw[G,I]; grobner
   rw[vG x A B hx,j,y,Int.pow_succ,nj,kN,hX]
def rW (p A B:Nat) (V:T3):Bool:=
 pC (tM p A B p (Nat.log2 p+1) (1,0,0)) fun t=>pC (tf p A B V (t.1,(t.2.1+(p - 1))%p,t.2.2)) fun r=>Nat.beq r.1 1&&Nat.beq r.2.1 0&&Nat.beq r.2.2 0
theorem B4 (hp:Prm p) {A B:Nat} {V:T3} (h:rW p A B V=true) (x:Fin p):x*x*x≠fz (A:Int)*x+fz (B:Int):=by
 intro hx
 unfold rW at h
 rw[od,od]at h
 simp only[aK]at h
 obtain⟨⟨q,y⟩,G⟩:=h
 have q:=bf q
 have y:=bf y
 have G:=bf G
 have O:fz (p:=p) ((0:Nat):Int)=0:=qc
 have I:fz (p:=p) ((1:Nat):Int)=1:=jm 1
 have j:=vu x A B hx p (Nat.log2 p+1) (1,0,0) (by
  rw[cp Nat.lt_log2_self,Int.pow_zero]
  unfold evT
  dsimp only
  rw[O,I]
  rw[show fz (p:=p) 1=1 from jm 1]
  grobner)
 rw[Nv x hp]at j
 generalize tM p A B p (Nat.log2 p+1) (1,0,0)=t at j q y G
 obtain⟨t0,J,N⟩:=t
 dsimp only at q y G
 have R:evT x (t0,(J+(p - 1))%p,N)=0:=by
  unfold evT at j ⊢
  dsimp only at j ⊢
  have U:fz (p:=p) ((p - 1:Nat):Int)=-1:=by
   have X:=nZ (p:=p) (p - 1) 1
   rw[show p - 1+1=p by have:=hp.1; omega,I]at X
   have h6:fz (p:=p) (p:Int)=0:=mA.2 Int.emod_self
   rw[h6]at X
   clear j hx
   grobner
  rw[ma,nZ,U]
  clear hx
  grobner
 have hm:=vG x A B hx V (t0,(J+(p - 1))%p,N)
 rw[R]at hm
 generalize tf p A B V (t0,(J+(p - 1))%p,N)=r at hm q y G
 obtain⟨r0,r1,r2⟩:=r
 dsimp only at q y G
 subst q y G
 unfold evT at hm
 dsimp only at hm
 rw[O,I]at hm
 have h7:(1:Fin p)=0:=by clear hx j R; grobner
 have Y:=cv Fin.val h7
 have h9:(1:Fin p).val=1%p:=rfl
 have Z:(0:Fin p).val=0:=by simp
 rw[h9,Z,ax hp.1]at Y
 cases Y
def su (p u v:Nat):Nat:=(u+(p - v%p))%p
theorem yx (u v:Nat):fz (p:=p) (su p u v:Int)=fz (u:Int) - fz (v:Int):=by
 have h:=bM v (o8 (p:=p))
 unfold su
 rw[ma,nZ,show ((p - v%p:Nat):Int)=(p:Int) - ((v%p:Nat):Int) by omega,uU,ma,show fz (p:=p) (p:Int)=0 from mA.2 Int.emod_self]
 grobner
def fz3 (t:T3):Fin p×Fin p×Fin p:=(fz (t.1:Int),fz (t.2.1:Int),fz (t.2.2:Int))
end
end Go.Gk.Ec
end
section
namespace Go.Gk.Bn
open Go Go.Gk Go.Gk.Sh Go.Gk.Ec Go.Gk.Pr
instance cP_nz (c:Int):NeZero (cP c):=⟨by have:=(jZ c).2.2.2.2.2.1; omega⟩
theorem mO (c:Int):Prm (cP c):=by
 unfold cP
 split
 ·exact f7
 ·exact dT
theorem qA (c:Int):Prm (cN c):=by
 unfold cN
 split
 ·exact gc
 ·exact dU
theorem tX (c:Int):Fld (cP c):=LK (mO c) (by have:=(jZ c).2.2.2.2.2.1; omega)
section
variable {p:Nat} [NeZero p]
def be (u:Fin p):Bool×Y0:=bi (u.val:Int)
theorem F8 {x y:Int}:fz (p:=p) x=fz y↔x%p=y%p:=by
 constructor
 ·intro h
  rw[<-lK (p:=p) x,h,lK]
 ·intro h
  rw[<-md x,h,md]
theorem oY (z:Int):be (fz (p:=p) z)=bi (z%p):=by unfold be; rw[lK]
theorem Gf:fz (p:=p) 1=1:=jm 1
theorem mn (u:Fin p) (hpl:nl (p:Int)<=1000):nl (u.val:Int)<=1000:=bz (jK (by have:=u.isLt; omega)) hpl
theorem mN (u:Fin p):F.Q4 (be u).1 (be u).2=some (if u=0 then 0 else 1):=by
 unfold be
 rw[sc]
 by_cases h:u=0
 ·have j:(0:Fin p).val=0:=by simp
  rw[ah h,h,j,ah (by rfl)]
 ·have q:u.val≠0:=fun e=>h (iq (by rw[e]; simp))
  rw[ae h,ae (by omega),ae (by omega)]
variable (b0:Bool) (b1:Y0) (n0:Bool) (n1:Y0) (x0:Bool) (x1:Y0) (y0:Bool) (y1:Y0) (s:Int) (hpl:nl (p:Int)<=1000)
include hpl
theorem tA (u v:Fin p):F.QJ (bi (p:Int)).1 (bi (p:Int)).2 b0 b1 n0 n1 x0 x1 y0 y1 s (be u).1 (be u).2 (be v).1 (be v).2=some (be (u*v)):=by
 have j:=mn u hpl; have q:=mn v hpl
 have y:=fJ (dG u.val) (dG v.val)
 unfold be
 rw[pM p b0 b1 n0 n1 x0 x1 y0 y1 s o8 hpl _ _ (by omega) (fun h=>by omega),Fin.val_mul,bN,cZ]
theorem AC (u v:Fin p):F.Q6 (bi (p:Int)).1 (bi (p:Int)).2 b0 b1 n0 n1 x0 x1 y0 y1 s (be u).1 (be u).2 (be v).1 (be v).2=some (be (u - v)):=by
 have q:=mn u hpl; have y:=mn v hpl
 have j:be (u - v)=bi (((u.val:Int) - (v.val:Int))%p):=by rw[<-oY,uU,kN,kN]
 rw[j]
 unfold be
 rw[C3 p b0 b1 n0 n1 x0 x1 y0 y1 s o8 hpl _ _ (by omega) (by omega)]
theorem uH (k:Nat) (q:k<=1000) (u:Fin p):F.Ri (bi (p:Int)).1 (bi (p:Int)).2 b0 b1 n0 n1 x0 x1 y0 y1 s (k:Int) (be u).1 (be u).2=some (be (Fin.ofNat p k*u)):=by
 have y:=mn u hpl
 have j:be (Fin.ofNat p k*u)=bi (((k:Int)*(u.val:Int))%p):=by rw[<-oY,nj,kN,jm]
 rw[j]
 unfold be
 rw[wR p b0 b1 n0 n1 x0 x1 y0 y1 s o8 hpl (k:Int) _ (by omega) (by omega) (by omega) (by omega)]
theorem Ik (u v:Fin p):(af (F.T5 false [] (be u).1 (be u).2 (be v).1 (be v).2) fun x=>F.RJ (bi (p:Int)).1 (bi (p:Int)).2 b0 b1 n0 n1 x0 x1 y0 y1 s x.1 x.2)=some (be (u+v)):=by
 have q:=mn u hpl; have y:=mn v hpl
 have j:be (u+v)=bi (((u.val:Int)+(v.val:Int))%p):=by rw[<-oY,rX,kN,kN]
 have A:=Aq (u.val:Int) (v.val:Int)
 rw[j]
 unfold be
 rw[L4 _ _ _ _ (by omega) (by omega),aa,so p b0 b1 n0 n1 x0 x1 y0 y1 s o8 hpl _ (by omega) (fun _=>by omega)]
omit hpl in
def pm (X Y Z:Fin p):Fin p×Fin p×Fin p:=
 if Z=0 then (X,Y,Z) else
  let zz:=Z*Z; let yy:=Y*Y; let s:=4*(X*yy); let m:=3*((X - zz)*(X+zz)); let x:=m*m - 2*s
  (x,m*(s - x) - 8*(yy*yy),2*(Y*Z))
omit hpl in
def nH (X1 Y1 Z1 X2 Y2 Z2:Fin p):Fin p×Fin p×Fin p:=
 if Z1=0 then (X2,Y2,Z2) else if Z2=0 then (X1,Y1,Z1) else
  let u1:=X1*(Z2*Z2); let s1:=Y1*(Z2*(Z2*Z2)); let h:=X2*(Z1*Z1) - u1; let r:=Y2*(Z1*(Z1*Z1)) - s1
  if h=0 then (if r=0 then pm X1 Y1 Z1 else (0,0,0)) else
   let hh:=h*h; let hhh:=h*hh; let v:=u1*hh; let x:=r*r - hhh - 2*v
   (x,r*(v - x) - s1*hhh,h*(Z1*Z2))
omit hpl in
def bt (t:Fin p×Fin p×Fin p):Bool×Y0×Bool×Y0×Bool×Y0:=((be t.1).1,(be t.1).2,(be t.2.1).1,(be t.2.1).2,(be t.2.2).1,(be t.2.2).2)
omit hpl in
noncomputable def jpt (t:Fin p×Fin p×Fin p):Pt p:=jac t.1 t.2.1 t.2.2
omit hpl in
theorem sg0 {u:Fin p}:(((if u=0 then (0:Int) else 1) == 0)=true)↔u=0:=by
 by_cases h:u=0
 ·rw[ah h]; simp[h]
 ·rw[ae h]; simp[h]
theorem vd (X Y Z:Fin p):F.Tr (bi (p:Int)).1 (bi (p:Int)).2 b0 b1 n0 n1 x0 x1 y0 y1 s (be X).1 (be X).2 (be Y).1 (be Y).2 (be Z).1 (be Z).2=some (bt (pm X Y Z)):=by
 have mul:=tA b0 b1 n0 n1 x0 x1 y0 y1 s hpl
 have sub:=AC b0 b1 n0 n1 x0 x1 y0 y1 s hpl
 have j:=fun k B=>uH b0 b1 n0 n1 x0 x1 y0 y1 s hpl k B
 have G:=Ik b0 b1 n0 n1 x0 x1 y0 y1 s hpl
 unfold F.Tr
 rw[mN,aa]
 by_cases h:Z=0
 ·rw[ah (sg0.2 h)]
  unfold pm
  rw[ah h]; rfl
 ·rw[ae (fun q=>h (sg0.1 q)),mul,aa,mul,aa,mul,aa]
  have t4:=j 4 (by decide); have t3:=j 3 (by decide); have y:=j 2 (by decide); have A:=j 8 (by decide)
  have I:((4:Nat):Int)=4:=rfl
  have J:((3:Nat):Int)=3:=rfl
  have N:((2:Nat):Int)=2:=rfl
  have e8:((8:Nat):Int)=8:=rfl
  rw[I]at t4; rw[J]at t3; rw[N]at y; rw[e8]at A
  rw[t4,aa,sub,aa]
  have O:∀{α β γ:Type} (x:Option α) (f:α->Option β) (g:β->Option γ),(af x fun a=>af (f a) g)=af (af x f) g:=fun x f g=>by cases x <;> rfl
  rw[O,G,aa,mul,aa,t3,aa,mul,aa,y,aa,sub,aa,sub,aa,mul,aa,mul,aa,A,aa,sub,aa,mul,aa,y,aa]
  unfold pm
  rw[ae h]
  rfl
theorem Ci (X1 A j B G y:Fin p):F.RQ (bi (p:Int)).1 (bi (p:Int)).2 b0 b1 n0 n1 x0 x1 y0 y1 s (be X1).1 (be X1).2 (be A).1 (be A).2 (be j).1 (be j).2 (be B).1 (be B).2 (be G).1 (be G).2 (be y).1 (be y).2=some (bt (nH X1 A j B G y)):=by
 have mul:=tA b0 b1 n0 n1 x0 x1 y0 y1 s hpl
 have sub:=AC b0 b1 n0 n1 x0 x1 y0 y1 s hpl
 have I:=uH b0 b1 n0 n1 x0 x1 y0 y1 s hpl 2 (by decide)
 have J:((2:Nat):Int)=2:=rfl
 rw[J]at I
 unfold F.RQ nH
 rw[mN,aa]
 by_cases h1:j=0
 ·rw[ah (sg0.2 h1),ah h1]; rfl
 rw[ae (fun q=>h1 (sg0.1 q)),ae h1,mN,aa]
 by_cases h2:y=0
 ·rw[ah (sg0.2 h2),ah h2]; rfl
 rw[ae (fun q=>h2 (sg0.1 q)),ae h2,mul,aa,mul,aa,mul,aa,mul,aa,mul,aa,mul,aa,mul,aa,mul,aa,sub,aa,sub,aa,mN,aa]
 dsimp only
 by_cases h3:B*(j*j) - X1*(y*y)=0
 ·rw[ah (sg0.2 h3),ah h3,mN,aa]
  by_cases h4:G*(j*(j*j)) - A*(y*(y*y))=0
  ·rw[ah (sg0.2 h4),ah h4,vd b0 b1 n0 n1 x0 x1 y0 y1 s hpl,aa]
  ·rw[ae (fun q=>h4 (sg0.1 q)),ae h4]
   unfold F.Ry
   rw[aa]
   have N:be (0:Fin p)=(false,[]):=by
    unfold be
    have:(0:Fin p).val=0:=by simp
    rw[this]
    exact cv (fun l=>(false,l)) c8
   unfold bt
   dsimp only
   rw[N]
 ·rw[ae (fun q=>h3 (sg0.1 q)),ae h3,mul,aa,mul,aa,mul,aa,mul,aa,sub,aa,I,aa,sub,aa,sub,aa,mul,aa,mul,aa,sub,aa,mul,aa,mul,aa]
  rfl
end
section
variable {p:Nat} [NeZero p]
theorem wD (F:Fld p) (t:Fin p×Fin p×Fin p):jpt (pm t.1 t.2.1 t.2.2)=Ec.add (-3) (jpt t) (jpt t):=by
 obtain⟨X,Y,Z⟩:=t
 unfold jpt pm
 by_cases h:Z=0
 ·subst h
  rw[ah rfl,kh]; rfl
 ·rw[ae h]
  exact F.jac_dbl h rfl rfl rfl rfl rfl rfl
theorem wi (F:Fld p) {b:Fin p} (t u:Fin p×Fin p×Fin p) (Z:On (-3) b (jpt t)) (hu:On (-3) b (jpt u)):jpt (nH t.1 t.2.1 t.2.2 u.1 u.2.1 u.2.2)=Ec.add (-3) (jpt t) (jpt u):=by
 obtain⟨X1,B,j⟩:=t
 obtain⟨I,J,G⟩:=u
 unfold nH
 dsimp only
 by_cases h1:j=0
 ·subst h1
  rw[ah rfl]
  show _=Ec.add (-3) (jac X1 B 0) _
  rw[kh]; rfl
 rw[ae h1]
 by_cases h2:G=0
 ·subst h2
  rw[ah rfl]
  show _=Ec.add (-3) _ (jac I J 0)
  rw[kh,jz]
 rw[ae h2]
 by_cases h3:I*(j*j) - X1*(G*G)=0
 ·rw[ah h3]
  obtain⟨x1,y1,N,O,y⟩:=F.of_jac X1 B h1
  obtain⟨x2,y2,R,U,A⟩:=F.of_jac I J h2
  have V:=F.mul_ne h1 h2
  have ab:x1=x2:=by
   refine F.cancel (F.mul_ne V V) ?_
   subst N R; clear O U y A Z hu; grobner
  have X:On (-3) b (some (x1,y1)):=by rw[<-y]; exact Z
  have Y:On (-3) b (some (x2,y2)):=by rw[<-A]; exact hu
  subst ab
  by_cases h4:J*(j*(j*j)) - B*(G*(G*G))=0
  ·rw[ah h4]
   have ac:y1=y2:=by
    refine F.cancel (F.mul_ne V (F.mul_ne V V)) ?_
    subst O U; clear y A Z hu X Y N R h3; grobner
   have e:=wD F (X1,B,j)
   refine e.trans ?_
   show Ec.add (-3) (jac X1 B j) (jac X1 B j)=Ec.add (-3) (jac X1 B j) (jac I J G)
   rw[y,A,ac]
  ·rw[ae h4]
   have ad:y1+y2=0:=by
    rcases F.same_x X Y with q | q
    ·exfalso; apply h4
     subst O U q; clear y A Z hu X Y N R h3 h4; grobner
    ·rw[q,wh]
   show jac 0 0 0=Ec.add (-3) (jac X1 B j) (jac I J G)
   rw[kh,y,A,jh,ah rfl,ah ad]
 ·rw[ae h3]
  exact F.jac_add h1 h2 rfl rfl rfl rfl rfl rfl rfl rfl rfl rfl rfl h3 (-3)
end
section
variable {p:Nat} [NeZero p]
def rl (u:Fin p):Y0:=aw u.val
def rep (P:Pt p):Y0×Y0×Bool:=match P with
 | none=>([],[],true)
 | some (x,y)=>(rl x,rl y,false)
theorem rB (u:Fin p):val (rl u)=u.val:=aC _
theorem MN (F:Fld p) (hp:Prm p) {Z:Fin p} {v:Nat} (j:v<p) (h:Z.val*v%p=1):(⟨v,j⟩:Fin p)=rcp Z:=by
 apply F.iv_uniq
 apply iq
 rw[Fin.val_mul]
 show Z.val*v%p=1%p
 rw[h,ax hp.1]
theorem K3 (hp:Prm p) {Z:Fin p} (h:Z≠0):Nat.gcd Z.val p=1:=by
 have hz:Z.val≠0:=fun e=>h (iq (by rw[e]; simp))
 have j:¬p ∣ Z.val:=fun hd=>by have:=fa (by omega) hd; have:=Z.isLt; omega
 rw[fT]
 exact hp.coprime j
theorem CA (hpl:nl (p:Int)<=1000) (u:Fin p):F.RN (be u).1 (be u).2=some (rl u):=by
 have:=mn u hpl
 unfold be
 rw[FO _ (by omega)]; rfl
theorem Iw (b0:Bool) (b1:Y0) (n0:Bool) (n1:Y0) (x0:Bool) (x1:Y0) (y0:Bool) (y1:Y0) (s:Int) (hpl:nl (p:Int)<=1000) (D:Fld p) (hp:Prm p) (X Y Z:Fin p) :
  F.RZ (bi (p:Int)).1 (bi (p:Int)).2 b0 b1 n0 n1 x0 x1 y0 y1 s (be X).1 (be X).2 (be Y).1 (be Y).2 (be Z).1 (be Z).2=some (rep (jac X Y Z)):=by
 have mul:=tA b0 b1 n0 n1 x0 x1 y0 y1 s hpl
 unfold F.RZ jac
 rw[mN,aa]
 by_cases h:Z=0
 ·rw[ah (sg0.2 h),ah h]; rfl
 ·rw[ae (fun q=>h (sg0.1 q)),ae h]
  have hz:=mn Z hpl
  obtain⟨v,A,y,j⟩:=xY false [] Z.val p hp.1 (by omega) (by omega) (K3 hp h)
  have e:bi (v:Int)=be (rcp Z):=by rw[<-MN D hp A y]; rfl
  rw[e]at j
  rw[show F.TE false [] (be Z).1 (be Z).2 (bi (p:Int)).1 (bi (p:Int)).2=some (be (rcp Z)) from j,aa,mul,aa,mul,aa,CA hpl,aa,mul,aa,mul,aa,CA hpl,aa]
  rfl
end
section
variable (c:Int) (hc:isC c)
theorem AB (u:Fin (cP c)):(rl u).length<=12:=CY c (cE u.isLt)
include hc
def ke (X Y:Y0) (inf:Bool):Pt (cP c):=if inf then none else some (fz (val X:Int),fz (val Y:Int))
theorem vl (x y:Nat) (hx:x<cP c) (q:y<cP c):onN (cP c) (cB c) x y=true↔On (-3) (fz (cB c:Int)) (some (fz (p:=cP c) (x:Int),fz (y:Int))):=by
 have hp:=(jZ c).2.2.2.2.2.1
 unfold onN
 rw[aj hx,aj q,el,el,decide_eq_true_iff]
 obtain⟨A,hA⟩:∃A,x*(x*x%cP c)%cP c=A:=⟨_,rfl⟩
 obtain⟨B,j⟩:∃B,3*x%cP c=B:=⟨_,rfl⟩
 have U:B<cP c:=by rw[<-j]; exact bM _ (by omega)
 have G:fz (p:=cP c) (A:Int)=fz x*(fz x*fz x):=by rw[<-hA,bN,md,cZ,nj,bN,md,cZ,nj]
 have I:fz (p:=cP c) (B:Int)=3*fz x:=by
  rw[<-j,bN,md,cZ,nj]
  congr 1
 have J:fz (p:=cP c) (cP c:Int)=0:=mA.2 (Int.emod_self)
 rw[hA,j]
 have N:fz (p:=cP c) ((((A+cP c - B)%cP c+cB c:Nat)):Int)=fz x*(fz x*fz x) - 3*fz x+fz (cB c:Int):=by
  rw[gt,rX,bN,md,show ((A+cP c - B:Nat):Int)=(A:Int)+cP c - B by omega,uU,rX,G,I,J]
  grobner
 have O:fz (p:=cP c) ((y*y:Nat):Int)=fz y*fz y:=by rw[cZ,nj]
 have R:y*y%cP c=((A+cP c - B)%cP c+cB c)%cP c↔fz (p:=cP c) ((y*y:Nat):Int)=fz ((((A+cP c - B)%cP c+cB c:Nat)):Int):=by
  rw[F8,<-bN,<-bN]
  exact Int.natCast_inj.symm
 rw[R,N,O]
 unfold On
 dsimp only
 constructor
 ·intro h; rw[h]; grobner
 ·intro h; rw[h]; grobner
end
abbrev bF (c:Int):Fin (cP c):=fz (cB c:Int)
theorem DN {c:Int} {X Y:Y0} {q:Bool} (h:onS c X Y q=true):isC c:=by
 unfold onS at h
 split at h
 ·assumption
 ·cases h
theorem r9 {c:Int} {X Y:Y0} (h:onS c X Y false=true):val X<cP c/\val Y<cP c/\onN (cP c) (cB c) (val X) (val Y)=true:=by
 have hc:=DN h
 unfold onS at h
 rw[ah hc,ae (by decide)]at h
 exact⟨(za h).1,(za h).2,h⟩
theorem AX {c:Int} {X Y:Y0} {q:Bool} (h:onS c X Y q=true):On (-3) (bF c) (ke c X Y q):=by
 unfold ke
 cases q with
 | true=>rw[ah rfl]; trivial
 | false=>
  obtain⟨j,y,A⟩:=r9 h
  rw[ae (by decide)]
  exact (vl c (DN h) _ _ j y).1 A
theorem lz {l:Y0} (h:val l=0):aw (val l)=[]:=by rw[h]; exact c8
def jT (c:Int) (X Y:Y0) (q:Bool):Fin (cP c)×Fin (cP c)×Fin (cP c):=if q then (0,0,0) else (fz (val X:Int),fz (val Y:Int),1)
theorem CV {p:Nat} [NeZero p]:be (0:Fin p)=(false,[]):=by
 unfold be
 have:(0:Fin p).val=0:=by simp
 rw[this]
 exact cv (fun l=>(false,l)) c8
theorem NT {c:Int} {X Y:Y0} {q:Bool} (h:onS c X Y q=true):rdT X Y q=bt (jT c X Y q):=by
 unfold rdT jT bt
 cases q with
 | true=>
  rw[ah rfl,ah rfl]
  dsimp only
  rw[CV]
 | false=>
  obtain⟨B,G,_⟩:=r9 h
  have hp:=(mO c).1
  have j:be (fz (p:=cP c) (val X:Int))=bi (val X:Int):=by rw[oY,eN (by omega) (by omega)]
  have y:be (fz (p:=cP c) (val Y:Int))=bi (val Y:Int):=by rw[oY,eN (by omega) (by omega)]
  have A:be (1:Fin (cP c))=bi 1:=by rw[<-Gf,oY,eN (by omega) (by omega)]
  rw[ae (by decide),ae (by decide)]
  dsimp only
  rw[j,y,A]
theorem Am (c:Int):(1:Fin (cP c))≠0:=by
 intro h
 have q:(1:Fin (cP c)).val=1%cP c:=rfl
 have y:(0:Fin (cP c)).val=0:=by simp
 have j:=cv Fin.val h
 rw[q,y,ax (mO c).1]at j
 cases j
theorem Js (c:Int) (X Y:Y0) (q:Bool):jpt (jT c X Y q)=ke c X Y q:=by
 unfold jpt jT ke
 cases q with
 | true=>exact kh _ _
 | false=>
  rw[ae (by decide),ae (by decide)]
  exact (tX c).jac_of (Am c) (by grobner) (by grobner)
theorem NB (c:Int) (t:Fin (cP c)×Fin (cP c)×Fin (cP c)) :
  F.RZ (gT c).1 (gT c).2.1 (gT c).2.2.1 (gT c).2.2.2.1 (gT c).2.2.2.2.1 (gT c).2.2.2.2.2.1 (gT c).2.2.2.2.2.2.1 (gT c).2.2.2.2.2.2.2.1 (gT c).2.2.2.2.2.2.2.2.1 (gT c).2.2.2.2.2.2.2.2.2.1 (gT c).2.2.2.2.2.2.2.2.2.2
   (bt t).1 (bt t).2.1 (bt t).2.2.1 (bt t).2.2.2.1 (bt t).2.2.2.2.1 (bt t).2.2.2.2.2=some (rep (jpt t)):=
 Iw _ _ _ _ _ _ _ _ _ (by have:=qI c; omega) (tX c) (mO c) t.1 t.2.1 t.2.2
theorem OB (c:Int) (t u:Fin (cP c)×Fin (cP c)×Fin (cP c)) :
  F.RQ (gT c).1 (gT c).2.1 (gT c).2.2.1 (gT c).2.2.2.1 (gT c).2.2.2.2.1 (gT c).2.2.2.2.2.1 (gT c).2.2.2.2.2.2.1 (gT c).2.2.2.2.2.2.2.1 (gT c).2.2.2.2.2.2.2.2.1 (gT c).2.2.2.2.2.2.2.2.2.1 (gT c).2.2.2.2.2.2.2.2.2.2
   (bt t).1 (bt t).2.1 (bt t).2.2.1 (bt t).2.2.2.1 (bt t).2.2.2.2.1 (bt t).2.2.2.2.2 (bt u).1 (bt u).2.1 (bt u).2.2.1 (bt u).2.2.2.1 (bt u).2.2.2.2.1 (bt u).2.2.2.2.2=some (bt (nH t.1 t.2.1 t.2.2 u.1 u.2.1 u.2.2)):=
 Ci _ _ _ _ _ _ _ _ _ (by have:=qI c; omega) t.1 t.2.1 t.2.2 u.1 u.2.1 u.2.2
section
variable {p:Nat} [NeZero p]
def Af (p:Nat) (t:T3):T3:=
 bif Nat.beq (t.2.2%p) 0 then t else
 frc (t.2.2*t.2.2%p) fun zz=>frc (t.2.1*t.2.1%p) fun yy=>frc (4*(t.1*yy%p)%p) fun s=>frc (3*(su p t.1 zz*(t.1+zz)%p)%p) fun m=>
 frc (su p (m*m) (2*s)) fun x=>frc (su p (m*su p s x) (8*(yy*yy))) fun y=>frc (2*(t.2.1*t.2.2)%p) fun z=>(x,y,z)
theorem Nx:fz (p:=p) ((2:Nat):Int)=2:=jm 2
theorem M0:fz (p:=p) ((3:Nat):Int)=3:=jm 3
theorem Qg:fz (p:=p) ((4:Nat):Int)=4:=jm 4
theorem Pk:fz (p:=p) ((8:Nat):Int)=8:=jm 8
theorem vV (n:Nat):(Nat.beq (n%p) 0=true/\fz (p:=p) (n:Int)=0)\/(Nat.beq (n%p) 0=false/\fz (p:=p) (n:Int)≠0):=by
 have h:fz (p:=p) (n:Int)=0↔n%p=0:=by
  rw[mA]
  constructor
  ·intro h; have:((n%p:Nat):Int)=0:=by rw[bN]; exact h
   omega
  ·intro h; rw[<-bN,h]; rfl
 cases hb:Nat.beq (n%p) 0 with
 | true=>exact .inl ⟨rfl,h.2 (bf hb)⟩
 | false=>exact .inr ⟨rfl,fun j=>by rw[h.1 j]at hb; cases hb⟩
theorem CD (t:T3):fz3 (p:=p) (Af p t)=pm (fz3 t).1 (fz3 t).2.1 (fz3 t).2.2:=by
 obtain⟨X,Y,Z⟩:=t
 unfold Af pm fz3
 dsimp only
 rcases vV (p:=p) Z with⟨j,q⟩ | ⟨j,q⟩
 ·rw[j,ah q]; rfl
 ·rw[j,ae q]
  simp only[om,cond_false]
  simp only[yx,ma,pU,nZ,Nx,M0,Qg,Pk]
def HV (p:Nat) (t u:T3):T3:=
 bif Nat.beq (t.2.2%p) 0 then u else bif Nat.beq (u.2.2%p) 0 then t else
 frc (t.1*(u.2.2*u.2.2)%p) fun u1=>frc (t.2.1*(u.2.2*(u.2.2*u.2.2))%p) fun s1=>frc (su p (u.1*(t.2.2*t.2.2)) u1) fun h=>frc (su p (u.2.1*(t.2.2*(t.2.2*t.2.2))) s1) fun r=>
 bif Nat.beq (h%p) 0 then (bif Nat.beq (r%p) 0 then Af p t else (0,0,0)) else
 frc (h*h%p) fun hh=>frc (h*hh%p) fun hhh=>frc (u1*hh%p) fun v=>frc (su p (su p (r*r) hhh) (2*v)) fun x=>frc (su p (r*su p v x) (s1*hhh)) fun y=>frc (h*(t.2.2*u.2.2)%p) fun z=>(x,y,z)
theorem Kk (t u:T3):fz3 (p:=p) (HV p t u)=nH (fz3 t).1 (fz3 t).2.1 (fz3 t).2.2 (fz3 u).1 (fz3 u).2.1 (fz3 u).2.2:=by
 obtain⟨X,Y,Z⟩:=t
 obtain⟨A,B,j⟩:=u
 have hd:=CD (p:=p) (X,Y,Z)
 unfold fz3 at hd
 dsimp only at hd
 unfold HV nH fz3
 dsimp only
 rcases vV (p:=p) Z with⟨G,I⟩ | ⟨G,I⟩
 ·rw[G,ah I]; rfl
 rw[G,ae I]
 rcases vV (p:=p) j with⟨J,N⟩ | ⟨J,N⟩
 ·rw[J,ah N]; rfl
 rw[J,ae N]
 simp only[om,cond_false]
 have U:fz (p:=p) ((su p (A*(Z*Z)) (X*(j*j)%p):Nat):Int)=fz (A:Int)*(fz (Z:Int)*fz (Z:Int)) - fz (X:Int)*(fz (j:Int)*fz (j:Int)):=by simp only[yx,ma,pU]
 have V:fz (p:=p) ((su p (B*(Z*(Z*Z))) (Y*(j*(j*j))%p):Nat):Int)=fz (B:Int)*(fz (Z:Int)*(fz (Z:Int)*fz (Z:Int))) - fz (Y:Int)*(fz (j:Int)*(fz (j:Int)*fz (j:Int))):=by simp only[yx,ma,pU]
 rcases vV (p:=p) (su p (A*(Z*Z)) (X*(j*j)%p)) with⟨O,q⟩ | ⟨O,q⟩
 ·rw[O]
  rw[U]at q
  rw[ah q]
  rcases vV (p:=p) (su p (B*(Z*(Z*Z))) (Y*(j*(j*j))%p)) with⟨R,y⟩ | ⟨R,y⟩
  ·rw[R]
   rw[V]at y
   rw[ah y]
   exact hd
  ·rw[R]
   rw[V]at y
   rw[ae y]
   have e0:fz (p:=p) ((0:Nat):Int)=0:=qc
   simp only[cond_true,cond_false,e0]
 ·rw[O]
  rw[U]at q
  rw[ae q]
  simp only[cond_false]
  simp only[yx,ma,pU,nZ,Nx]
def tU (p:Nat) (g:T3) (e:Nat):Nat->T3->T3
 | 0,t=>t
 | k+1,t=>pC (Af p t) fun u=>bif Nat.beq (e / 2^k%2) 0 then tU p g e k u else pC (HV p u g) fun u=>tU p g e k u
theorem we {b:Fin p} (C:Cv p (-3) b) {g:T3} {G:Pt p} (j:On (-3) b G) (q:jpt (fz3 (p:=p) g)=G) (e:Nat):∀k t,jpt (fz3 (p:=p) t)=Ec.mul (-3) (e / 2^k) G->jpt (fz3 (p:=p) (tU p g e k t))=Ec.mul (-3) e G
 | 0,t,h=>by simpa [tU] using h
 | k+1,t,h=>by
  have B:=C.on_mul j (e / 2^(k+1))
  have hd:jpt (fz3 (p:=p) (Af p t))=Ec.mul (-3) (2*(e / 2^(k+1))) G:=by
   rw[CD,wD C.toFld,h,<-C.mul_add j]; congr 1; omega
  unfold tU
  rw[od]
  rcases xk e k with⟨y,A⟩ | ⟨y,A⟩
  ·rw[y]
   exact we C j q e k _ (by rw[hd,A])
  ·rw[y]
   show jpt (fz3 (p:=p) (pC _ _))=_
   rw[od]
   refine we C j q e k _ ?_
   rw[Kk,wi (b:=b) C.toFld _ _ (by rw[hd]; exact C.on_mul j _) (by rw[q]; exact j),hd,q,A]
   rfl
end
def vT (c:Int):T3:=if c=1 then (76626890310466861426869089647039036757962535851890885406097439786770458211455,74462945259064871768191128030512052509059297803194871526163573358218695456204,34768139465301476436978405170953382516735956999154666452188405812258086013549) else (23037766613497683937702734290281044719364893268180251583910224888989381657771069200037813904257325918671976092329602,8235438212423615602427778915669574859600037698862346933589434399495169446996583974901273360826717582835190849638831,12157362177932134139146813183752135342286725243554133716818896354380897714709611791313184492360272402950851405460538)
theorem OX:rW ue 3 (ue - Dh) (vT 1)=true:=by decide +kernel
theorem N2:rW r8 3 (r8 - yw) (vT 2)=true:=by decide +kernel
theorem Gw (c:Int):rW (cP c) 3 (cP c - cB c) (vT c)=true:=by
 by_cases h:c=1
 ·subst h; exact OX
 ·have j:cP c=r8:=ae h
  have q:cB c=yw:=ae h
  have y:vT c=vT 2:=(ae h).trans (ae (by decide)).symm
  rw[j,q,y]; exact N2
theorem ccv (c:Int):Cv (cP c) (-3) (bF c):=⟨tX c,fun x h=>by
 refine B4 (mO c) (Gw c) x ?_
 have j:=(jZ c).2.1
 rw[M0,show ((cP c - cB c:Nat):Int)=(cP c:Int) - (cB c:Int) by omega,uU,show fz (p:=cP c) (cP c:Int)=0 from mA.2 Int.emod_self]
 have:x*x*x=3*x - bF c:=by grobner
 rw[this]; grobner⟩
def gP (c:Int):Pt (cP c):=some (fz (cX c:Int),fz (cY c:Int))
theorem qH (c:Int) (hc:isC c):On (-3) (bF c) (gP c):=by
 obtain⟨_,_,_,j,q,_⟩:=jZ c
 refine (vl c hc (cX c) (cY c) j q).1 ?_
 rcases hc with rfl | rfl
 ·decide +kernel
 ·decide +kernel
def Di (p n x y:Nat):Bool:=Nat.beq ((tU p (x,y,1) n (Nat.log2 n+1) (0,0,0)).2.2%p) 0&&Nat.beq (p%2) 1&&Nat.beq (n%2) 1&&Nat.blt (2*p+1) (3*n)
theorem O4:Di ue DE EI Eh=true:=by decide +kernel
theorem Qe:Di r8 Dt Eg DO=true:=by decide +kernel
theorem P9 (c:Int) (hc:isC c):Di (cP c) (cN c) (cX c) (cY c)=true:=by
 rcases hc with rfl | rfl
 ·exact O4
 ·exact Qe
theorem r7 (c:Int) (hc:isC c) {P:Pt (cP c)} (hP:On (-3) (bF c) P):Ec.mul (-3) (cN c) P=none:=by
 have h:=P9 c hc
 unfold Di at h
 simp only[aK]at h
 obtain⟨⟨⟨j,q⟩,y⟩,A⟩:=h
 have B:jpt (fz3 (p:=cP c) (cX c,cY c,1))=gP c:=by
  have G:fz (p:=cP c) ((1:Nat):Int)=1:=jm 1
  unfold fz3 jpt gP
  dsimp only
  rw[G]
  exact (tX c).jac_of (Am c) (by grobner) (by grobner)
 have hl:=we (ccv c) (qH c hc) B (cN c) (Nat.log2 (cN c)+1) (0,0,0) (by
  rw[cp Nat.lt_log2_self]
  have I:fz (p:=cP c) ((0:Nat):Int)=0:=qc
  unfold fz3 jpt
  dsimp only
  rw[I]
  exact kh _ _)
 have hz:Ec.mul (-3) (cN c) (gP c)=none:=by
  rw[<-hl]
  rcases vV (p:=cP c) (tU (cP c) (cX c,cY c,1) (cN c) (Nat.log2 (cN c)+1) (0,0,0)).2.2 with⟨_,J⟩ | ⟨N,_⟩
  ·unfold jpt fz3
   dsimp only
   rw[J]
   exact kh _ _
  ·rw[N]at j; cases j
 exact (ccv c).order (bf q) (qH c hc) (qA c) (bf y) (fun h=>by cases h) hz (by simpa using A) hP
theorem xD (n:Nat) (hn:nl (n:Int)<=1000000000):F.Un (bi (n:Int)).1 (bi (n:Int)).2=some (nb n:Int):=by
 unfold F.Un
 rw[length_eq _ (by have:(bi (n:Int)).2.length=nl (n:Int):=rfl; omega),aa,bi2,cy,pv]
def bw (n i:Nat):UInt64:=UInt64.ofNat (n / 2^i%2)
theorem zl (n i:Nat):(bw n i == 1)=decide (n / 2^i%2=1):=by
 have h:n / 2^i%2=0\/n / 2^i%2=1:=by omega
 unfold bw
 rcases h with h | h <;> rw[h] <;> rfl
theorem KO (a:Y0) (i:Nat) (hi:i<=4611686018427387904) (A:a.length<=4611686018427387904):F.UC a (i:Int)=some (bw (val a) i):=by
 unfold F.UC F.W0
 have q:wI (Int.tdiv (i:Int) 32)=((i / 32:Nat):Int):=by rw[ce (by omega),aO (by omega) (by omega)]; omega
 have w2:((UInt64.ofInt (i:Int))%32).toNat=i%32:=by
  rw[dH,UInt64.ofInt,bL]
  have:(32:UInt64).toNat=32:=rfl
  rw[this]; omega
 rw[ae (by simp only[ar]; omega),q]
 dsimp only
 by_cases h:a.length<=i / 32
 ·rw[ah (aj (by omega))]
  have j:=AK a i
  have y:a.getD (i / 32) 0=0:=iP h
  rw[y]at j
  unfold bw
  rw[<-j]
  have:(0:UInt32).toNat=0:=rfl
  rw[this,Nat.zero_div]; rfl
 ·rw[ae (by simp only[ar]; omega),bv (show i / 32<a.length by omega) 0,aa,w2]
  congr 1
  apply cA.1
  have j:((ff (a.getD (i / 32) 0) (i%32)).toUInt64 &&& 1).toNat=val a / 2^i%2:=by
   rw[UInt64.toNat_and,dF,lQ,bm (by omega),<-AK]
   have:(1:UInt64).toNat=2^1 - 1:=rfl
   rw[this,Nat.and_two_pow_sub_one_eq_mod]
  rw[j]
  unfold bw
  rw[bL]
  omega
theorem Ha (n i:Nat) (hi:i<=4611686018427387904) (hn:nl (n:Int)<=1000000000):F.Ua (bi (n:Int)).1 (bi (n:Int)).2 (i:Int)=some (bw n i):=by
 unfold F.Ua
 rw[ae (by simp only[ar]; omega),bi1 (by omega),ah (by rfl),KO _ _ hi (by have:(bi (n:Int)).2.length=nl (n:Int):=rfl; omega),aa,ql,cy]
section
variable {p:Nat} [NeZero p]
def pa (t:Fin p×Fin p×Fin p) (b:Bool) (q:Fin p×Fin p×Fin p):Fin p×Fin p×Fin p:=
 let d:=pm t.1 t.2.1 t.2.2
 if b then nH d.1 d.2.1 d.2.2 q.1 q.2.1 q.2.2 else d
variable (b0:Bool) (b1:Y0) (n0:Bool) (n1:Y0) (x0:Bool) (x1:Y0) (y0:Bool) (y1:Y0) (s:Int) (hpl:nl (p:Int)<=1000)
include hpl
theorem HC (t:Fin p×Fin p×Fin p) (b:Bool) (q:Fin p×Fin p×Fin p) :
  F.RY (bi (p:Int)).1 (bi (p:Int)).2 b0 b1 n0 n1 x0 x1 y0 y1 s (bt t).1 (bt t).2.1 (bt t).2.2.1 (bt t).2.2.2.1 (bt t).2.2.2.2.1 (bt t).2.2.2.2.2 b (bt q).1 (bt q).2.1 (bt q).2.2.1 (bt q).2.2.2.1 (bt q).2.2.2.2.1 (bt q).2.2.2.2.2=some (bt (pa t b q)):=by
 unfold F.RY F.Xk
 have hd:=vd b0 b1 n0 n1 x0 x1 y0 y1 s hpl t.1 t.2.1 t.2.2
 rw[show F.Tr (bi (p:Int)).1 (bi (p:Int)).2 b0 b1 n0 n1 x0 x1 y0 y1 s (bt t).1 (bt t).2.1 (bt t).2.2.1 (bt t).2.2.2.1 (bt t).2.2.2.2.1 (bt t).2.2.2.2.2=_ from hd,aa]
 unfold pa
 cases b with
 | false=>rfl
 | true=>
  rw[ah rfl]
  generalize pm t.1 t.2.1 t.2.2=d
  have j:=Ci b0 b1 n0 n1 x0 x1 y0 y1 s hpl d.1 d.2.1 d.2.2 q.1 q.2.1 q.2.2
  rw[show F.RQ (bi (p:Int)).1 (bi (p:Int)).2 b0 b1 n0 n1 x0 x1 y0 y1 s (bt d).1 (bt d).2.1 (bt d).2.2.1 (bt d).2.2.2.1 (bt d).2.2.2.2.1 (bt d).2.2.2.2.2 (bt q).1 (bt q).2.1 (bt q).2.2.1 (bt q).2.2.2.1 (bt q).2.2.2.2.1 (bt q).2.2.2.2.2=_ from j,aa]
  rfl
omit hpl in
omit hpl in
theorem Jg {b:Fin p} (F:Fld p) {t q:Fin p×Fin p×Fin p} (j:On (-3) b (jpt t)) (y:On (-3) b (jpt q)) (c:Bool):jpt (pa t c q)=if c then Ec.add (-3) (Ec.add (-3) (jpt t) (jpt t)) (jpt q) else Ec.add (-3) (jpt t) (jpt t):=by
 have hd:=wD F t
 unfold pa
 cases c with
 | false=>exact hd
 | true=>
  rw[ah rfl,ah rfl,wi (b:=b) F _ _ (by rw[hd]; exact F.on_add j j) y,hd]
omit hpl in
theorem Cu (e k:Nat):e / 2^k=2*(e / 2^(k+1))+(if decide (e / 2^k%2=1) then 1 else 0):=by
 have j:e / 2^(k+1)=e / 2^k / 2:=by rw[bn,du]
 rw[j]
 by_cases h:e / 2^k%2=1
 ·rw[aj h,ah rfl]; omega
 ·rw[az h,ae (by decide)]; omega
omit hpl in
end
theorem xq (k:Y0) (j:k.length<=35184372087808):F.SD k=some ((bi (val k:Int)).1,(bi (val k:Int)).2,decide (nb (val k)<=1024)):=by
 unfold F.SD
 rw[Ej k j,aa,lB k (by omega),aa]
 congr 3
 by_cases h:nb (val k)<=1024
 ·rw[aj h,aj (by omega)]
 ·rw[az h,az (by omega)]
abbrev J3 (c:Int):=Fin (cP c)×Fin (cP c)×Fin (cP c)
def gJ (c:Int):J3 c:=(fz (cX c:Int),fz (cY c:Int),1)
theorem DD (c:Int):jpt (gJ c)=gP c:=by
 show jac (fz (p:=cP c) (cX c:Int)) (fz (cY c:Int)) 1=_
 exact (tX c).jac_of (Am c) (by grobner) (by grobner)
theorem Bo (c:Int) {v:Nat} (h:v<cP c):be (fz (p:=cP c) (v:Int))=bi (v:Int):=by rw[oY,eN (by omega) (by omega)]
theorem Nk (c:Int):be (1:Fin (cP c))=bi 1:=by
 have:=(mO c).1
 rw[<-Gf,oY,eN (by omega) (by omega)]
theorem Ce (c:Int):bt ((0,0,0):J3 c)=(false,[],false,[],false,[]):=by
 unfold bt
 dsimp only
 rw[CV]
def gQ (c:Int) (t:J3 c):Bool×Y0×Bool×Y0×Bool×Y0×Bool×Y0×Bool×Y0×Int×Bool×Y0×Bool×Y0×Bool×Y0:=
 ((gT c).1,(gT c).2.1,(gT c).2.2.1,(gT c).2.2.2.1,(gT c).2.2.2.2.1,(gT c).2.2.2.2.2.1,(gT c).2.2.2.2.2.2.1,(gT c).2.2.2.2.2.2.2.1,(gT c).2.2.2.2.2.2.2.2.1,(gT c).2.2.2.2.2.2.2.2.2.1,(gT c).2.2.2.2.2.2.2.2.2.2,
  (bt t).1,(bt t).2.1,(bt t).2.2.1,(bt t).2.2.2.1,(bt t).2.2.2.2.1,(bt t).2.2.2.2.2)
theorem C7 (c:Int) (t:J3 c):((gQ c t).2.2.2.2.2.2.1,(gQ c t).2.2.2.2.2.2.2.1,(gQ c t).2.2.2.2.2.2.2.2.1,(gQ c t).2.2.2.2.2.2.2.2.2.1,(bi 1).1,(bi 1).2)=bt (gJ c):=by
 obtain⟨_,_,_,j,q,_⟩:=jZ c
 unfold bt gJ
 dsimp only
 rw[Bo c j,Bo c q,Nk]
 rfl
theorem NM (c:Int) (t:J3 c) (b:Bool) (q:J3 c) :
  F.RY (gT c).1 (gT c).2.1 (gT c).2.2.1 (gT c).2.2.2.1 (gT c).2.2.2.2.1 (gT c).2.2.2.2.2.1 (gT c).2.2.2.2.2.2.1 (gT c).2.2.2.2.2.2.2.1 (gT c).2.2.2.2.2.2.2.2.1 (gT c).2.2.2.2.2.2.2.2.2.1 (gT c).2.2.2.2.2.2.2.2.2.2
   (bt t).1 (bt t).2.1 (bt t).2.2.1 (bt t).2.2.2.1 (bt t).2.2.2.2.1 (bt t).2.2.2.2.2 b (bt q).1 (bt q).2.1 (bt q).2.2.1 (bt q).2.2.2.1 (bt q).2.2.2.2.1 (bt q).2.2.2.2.2=some (bt (pa t b q)):=
 HC _ _ _ _ _ _ _ _ _ (by have:=qI c; omega) t b q
def whJ (c:Int) (q:J3 c) (x y:Bool):J3 c:=if x&&y then nH (gJ c).1 (gJ c).2.1 (gJ c).2.2 q.1 q.2.1 q.2.2 else if y then q else if x then gJ c else (0,0,0)
def tR (c:Int) (m n:Nat) (q:J3 c):Nat->J3 c->J3 c
 | 0,t=>t
 | i+1,t=>tR c m n q i (pa t true (whJ c q (decide (m / 2^i%2=1)) (decide (n / 2^i%2=1))))
theorem ON (c:Int) (q:J3 c) (i:Nat) (hi:i<=1000000000) (t u:J3 c) :
  F.RW (gQ c q) (i:Int) (bt t).1 (bt t).2.1 (bt t).2.2.1 (bt t).2.2.2.1 (bt t).2.2.2.2.1 (bt t).2.2.2.2.2 (bt u)=some (.inl ((i:Int) - 1,bt (pa t true u))):=by
 have w:wI ((i:Int) - 1)=(i:Int) - 1:=aO (by omega) (by omega)
 have h:=NM c t true u
 unfold F.RW
 generalize bt u=v at h ⊢
 obtain⟨j,y,v3,v4,v5,A⟩:=v
 show af (F.RY _ _ _ _ _ _ _ _ _ _ _ _ _ _ _ _ _ _ _ _ _ _ _ _) _=_
 rw[show F.RY (gQ c q).1 (gQ c q).2.1 (gQ c q).2.2.1 (gQ c q).2.2.2.1 (gQ c q).2.2.2.2.1 (gQ c q).2.2.2.2.2.1 (gQ c q).2.2.2.2.2.2.1 (gQ c q).2.2.2.2.2.2.2.1 (gQ c q).2.2.2.2.2.2.2.2.1 (gQ c q).2.2.2.2.2.2.2.2.2.1 (gQ c q).2.2.2.2.2.2.2.2.2.2.1
  (bt t).1 (bt t).2.1 (bt t).2.2.1 (bt t).2.2.2.1 (bt t).2.2.2.2.1 (bt t).2.2.2.2.2 true j y v3 v4 v5 A=_ from h,aa,w]
 rfl
theorem ub (c:Int) (m n:Nat) (hm:nl (m:Int)<=1000000000) (hn:nl (n:Int)<=1000000000) (q:J3 c) (j fn:Bool):∀(i:Nat) (t:J3 c),i<=100000000 ->
  loop (F.TD (gQ c q) ((bi (m:Int)).1,(bi (m:Int)).2,j) ((bi (n:Int)).1,(bi (n:Int)).2,fn) (bi 1) (bt (nH (gJ c).1 (gJ c).2.1 (gJ c).2.2 q.1 q.2.1 q.2.2)))
   ((i:Int) - 1,bt t)=some ((rep (jpt (tR c m n q i t))).1,(rep (jpt (tR c m n q i t))).2.1,(rep (jpt (tR c m n q i t))).2.2,0)
 | 0,t,_=>by
  refine cU ?_
  unfold F.TD
  dsimp only
  rw[ae (by simp)]
  congr 1
  show af (F.RZ _ _ _ _ _ _ _ _ _ _ _ _ _ _ _ _ _) _=_
  have h:=NB c t
  rw[show F.RZ (gQ c q).1 (gQ c q).2.1 (gQ c q).2.2.1 (gQ c q).2.2.2.1 (gQ c q).2.2.2.2.1 (gQ c q).2.2.2.2.2.1 (gQ c q).2.2.2.2.2.2.1 (gQ c q).2.2.2.2.2.2.2.1 (gQ c q).2.2.2.2.2.2.2.2.1 (gQ c q).2.2.2.2.2.2.2.2.2.1 (gQ c q).2.2.2.2.2.2.2.2.2.2.1
   (bt t).1 (bt t).2.1 (bt t).2.2.1 (bt t).2.2.2.1 (bt t).2.2.2.2.1 (bt t).2.2.2.2.2=_ from h,aa]
  rfl
 | i+1,t,hi=>by
  have e:(((i+1:Nat):Int) - 1)=(i:Int):=by omega
  rw[e]
  have y:F.TD (gQ c q) ((bi (m:Int)).1,(bi (m:Int)).2,j) ((bi (n:Int)).1,(bi (n:Int)).2,fn) (bi 1) (bt (nH (gJ c).1 (gJ c).2.1 (gJ c).2.2 q.1 q.2.1 q.2.2)) ((i:Int),bt t)
    = some (.inl ((i:Int) - 1,bt (pa t true (whJ c q (decide (m / 2^i%2=1)) (decide (n / 2^i%2=1)))))):=by
   unfold F.TD
   show (if decide ((0:Int)<=(i:Int))=true then _ else _)=_
   rw[ah (aj (by omega))]
   dsimp only
   rw[Ha m i (by omega) hm,aa,Ha n i (by omega) hn,aa,zl]
   have hK:=fun u=>ON c q i (by omega) t u
   unfold F.WK whJ
   cases hx:decide (m / 2^i%2=1) with
   | true=>
    rw[ah rfl]
    show (if (bw n i == 1)=true then _ else _)=_
    rw[zl]
    cases hy:decide (n / 2^i%2=1) with
    | true=>
     rw[ah rfl]
     exact hK _
    | false=>
     rw[ae (by decide),ae (by decide),ae (by decide)]
     show F.RW _ _ _ _ _ _ _ _ ((gQ c q).2.2.2.2.2.2.1,(gQ c q).2.2.2.2.2.2.2.1,(gQ c q).2.2.2.2.2.2.2.2.1,(gQ c q).2.2.2.2.2.2.2.2.2.1,(bi 1).1,(bi 1).2)=_
     rw[C7]
     exact hK _
   | false=>
    rw[ae (by decide)]
    show (if false=true then _ else _)=_
    rw[ae (by decide),zl]
    cases hy:decide (n / 2^i%2=1) with
    | true=>
     rw[ah rfl]
     exact hK _
    | false=>
     rw[ae (by decide)]
     rw[ah (show (!false)=true from rfl)]
     unfold F.Ry
     rw[aa]
     show F.RW _ _ _ _ _ _ _ _ (false,[],false,[],false,[])=_
     rw[<-Ce c]
     exact hK _
  rw[bB y]
  exact ub c m n hm hn q j fn i _ (by omega)
theorem Ld {c:Int} {P Q:Pt (cP c)} (hP:On (-3) (bF c) P) (j:On (-3) (bF c) Q):Ec.add (-3) (Ec.add (-3) P Q) (Ec.add (-3) P Q)=Ec.add (-3) (Ec.add (-3) P P) (Ec.add (-3) Q Q):=
 (ccv c).mul_sum hP j 2
theorem Pc {c:Int} {A B X Y:Pt (cP c)} (hA:On (-3) (bF c) A) (j:On (-3) (bF c) B) (hX:On (-3) (bF c) X) (q:On (-3) (bF c) Y):Ec.add (-3) (Ec.add (-3) A B) (Ec.add (-3) X Y)=Ec.add (-3) (Ec.add (-3) A X) (Ec.add (-3) B Y):=by
 have C:=ccv c
 rw[C.assoc hA j (C.on_add hX q),<-C.assoc j hX q,C.comm j hX,C.assoc hX j q,<-C.assoc hA hX (C.on_add j q)]
theorem EW {c:Int} (hc:isC c) {q:J3 c} (j:On (-3) (bF c) (jpt q)) (x y:Bool):jpt (whJ c q x y)=Ec.add (-3) (Ec.mul (-3) (if x then 1 else 0) (gP c)) (Ec.mul (-3) (if y then 1 else 0) (jpt q)):=by
 have A:=qH c hc
 unfold whJ
 cases x <;> cases y
 ·exact kh _ _
 ·rfl
 ·show jpt (gJ c)=_
  rw[DD]
  show _=Ec.add (-3) (gP c) none
  rw[jz]
 ·show jpt (nH _ _ _ _ _ _)=_
  rw[wi (b:=bF c) (tX c) _ _ (by rw[DD]; exact A) j,DD]
  rfl
theorem Da {c:Int} (hc:isC c) (m n:Nat) {q:J3 c} (j:On (-3) (bF c) (jpt q)):∀(i:Nat) (t:J3 c),jpt t=Ec.add (-3) (Ec.mul (-3) (m / 2^i) (gP c)) (Ec.mul (-3) (n / 2^i) (jpt q)) ->
  jpt (tR c m n q i t)=Ec.add (-3) (Ec.mul (-3) m (gP c)) (Ec.mul (-3) n (jpt q))
 | 0,t,h=>by simpa [tR] using h
 | i+1,t,h=>by
  have G:=qH c hc
  have C:=ccv c
  unfold tR
  refine Da hc m n j i _ ?_
  have b1:=Cu m i
  have I:=Cu n i
  generalize decide (m / 2^i%2=1)=x at b1 ⊢
  generalize decide (n / 2^i%2=1)=y at I ⊢
  have A:=C.on_mul G (m / 2^(i+1))
  have B:=C.on_mul j (n / 2^(i+1))
  have N:On (-3) (bF c) (jpt t):=by rw[h]; exact C.on_add A B
  have hw:On (-3) (bF c) (jpt (whJ c q x y)):=by rw[EW hc j]; exact C.on_add (C.on_mul G _) (C.on_mul j _)
  rw[Jg (b:=bF c) (tX c) N hw,ah rfl,h,Ld A B,EW hc j,b1,I,
   Pc (C.on_add A A) (C.on_add B B) (C.on_mul G _) (C.on_mul j _)]
  have J:∀{P:Pt (cP c)} (hP:On (-3) (bF c) P) (k:Nat),Ec.add (-3) (Ec.mul (-3) k P) (Ec.mul (-3) k P)=Ec.mul (-3) (2*k) P:=fun hP k=>by rw[<-C.mul_add hP]; congr 1; omega
  rw[J G,J j,<-C.mul_add G,<-C.mul_add j]
noncomputable def Ev (c:Int) (a k:Y0) (X Y:Y0) (q:Bool):Y0×Y0×Bool×Int:=
 if onS c X Y q then (if nb (val a)<=1024/\nb (val k)<=1024 then
  ((rep (Ec.add (-3) (Ec.mul (-3) (val a) (gP c)) (Ec.mul (-3) (val k) (ke c X Y q)))).1,(rep (Ec.add (-3) (Ec.mul (-3) (val a) (gP c)) (Ec.mul (-3) (val k) (ke c X Y q)))).2.1,(rep (Ec.add (-3) (Ec.mul (-3) (val a) (gP c)) (Ec.mul (-3) (val k) (ke c X Y q)))).2.2,0) else ([],[],false,10)) else ([],[],false,93)
theorem CN {n:Nat} (h:nb n<=1024):nl (n:Int)<=33:=by
 refine yA ?_
 rw[cy]
 have j:=(gR n).1
 have q:=br (show 0<2 by decide) (show nb n<=32*33 by omega)
 rw[show (4294967296:Nat)=2^32 from rfl,<-dh]
 omega
theorem EM (c:Int) (a k:Y0) (X Y:Y0) (q:Bool) (G:a.length<=35184372087808) (I:k.length<=35184372087808) (hX:X.length<=35184372087808) (J:Y.length<=35184372087808):F.Tt c a k X Y q=some (Ev c a k X Y q):=by
 have n1:¬(!true)=true:=by decide
 unfold F.Tt Ev
 rw[tx c X Y q hX J,aa,xq a G,xq k I]
 by_cases hc:isC c
 ·rw[ah hc]
  dsimp only[gm]
  cases h1:onS c X Y q with
  | false=>rfl
  | true=>
   rw[ae n1,ah rfl,aa,aa]
   dsimp only
   by_cases hb:nb (val a)<=1024
   ·rw[aj hb,ae n1]
    by_cases hb2:nb (val k)<=1024
    ·rw[aj hb2,ah ⟨hb,hb2⟩,NT h1]
     show F.VM (gQ c (jT c X Y q)) _ _ _=_
     unfold F.VM
     dsimp only
     rw[ae n1,me 1 (by decide) (by decide),aa]
     have j:=OB c (gJ c) (jT c X Y q)
     have y:=C7 c (jT c X Y q)
     rw[<-y]at j
     rw[show F.RQ (gQ c (jT c X Y q)).1 (gQ c (jT c X Y q)).2.1 (gQ c (jT c X Y q)).2.2.1 (gQ c (jT c X Y q)).2.2.2.1 (gQ c (jT c X Y q)).2.2.2.2.1 (gQ c (jT c X Y q)).2.2.2.2.2.1 (gQ c (jT c X Y q)).2.2.2.2.2.2.1 (gQ c (jT c X Y q)).2.2.2.2.2.2.2.1 (gQ c (jT c X Y q)).2.2.2.2.2.2.2.2.1 (gQ c (jT c X Y q)).2.2.2.2.2.2.2.2.2.1 (gQ c (jT c X Y q)).2.2.2.2.2.2.2.2.2.2.1
      (gQ c (jT c X Y q)).2.2.2.2.2.2.1 (gQ c (jT c X Y q)).2.2.2.2.2.2.2.1 (gQ c (jT c X Y q)).2.2.2.2.2.2.2.2.1 (gQ c (jT c X Y q)).2.2.2.2.2.2.2.2.2.1 (bi 1).1 (bi 1).2
      (gQ c (jT c X Y q)).2.2.2.2.2.2.2.2.2.2.2.1 (gQ c (jT c X Y q)).2.2.2.2.2.2.2.2.2.2.2.2.1 (gQ c (jT c X Y q)).2.2.2.2.2.2.2.2.2.2.2.2.2.1 (gQ c (jT c X Y q)).2.2.2.2.2.2.2.2.2.2.2.2.2.2.1 (gQ c (jT c X Y q)).2.2.2.2.2.2.2.2.2.2.2.2.2.2.2.1 (gQ c (jT c X Y q)).2.2.2.2.2.2.2.2.2.2.2.2.2.2.2.2=_ from j,aa]
     unfold F.Ry
     have U:=CN hb; have lk:=CN hb2
     rw[aa,xD _ (by omega),aa,xD _ (by omega),aa]
     have A:wI (max ((nb (val a):Nat):Int) ((nb (val k):Nat):Int) - 1)=((max (nb (val a)) (nb (val k)):Nat):Int) - 1:=by
      rw[aO (by omega) (by omega)]; omega
     rw[A]
     have hl:=ub c (val a) (val k) (by omega) (by omega) (jT c X Y q) true true (max (nb (val a)) (nb (val k))) (0,0,0) (by omega)
     rw[Ce]at hl
     refine hl.trans ?_
     have B:On (-3) (bF c) (jpt (jT c X Y q)):=by rw[Js]; exact AX h1
     have N:val a / 2^max (nb (val a)) (nb (val k))=0:=cp (bg (gR _).1 (br (by decide) (Nat.le_max_left _ _)))
     have O:val k / 2^max (nb (val a)) (nb (val k))=0:=cp (bg (gR _).1 (br (by decide) (Nat.le_max_right _ _)))
     have hz:jpt ((0,0,0):J3 c)=Ec.add (-3) (Ec.mul (-3) (val a / 2^max (nb (val a)) (nb (val k))) (gP c)) (Ec.mul (-3) (val k / 2^max (nb (val a)) (nb (val k))) (jpt (jT c X Y q))):=by
      rw[N,O]
      exact kh _ _
     rw[Da hc _ _ B _ _ hz,Js]
    ·rw[az hb2,ae (fun h:nb (val a)<=1024/\nb (val k)<=1024=>hb2 h.2)]
     rfl
   ·rw[az hb,ah (show (!false)=true from rfl),ae (fun h:nb (val a)<=1024/\nb (val k)<=1024=>hb h.1)]
    rfl
 ·have R:onS c X Y q=false:=by
   cases h:onS c X Y q with
   | false=>rfl
   | true=>exact (hc (DN h)).elim
  rw[ae hc,R]
  rfl
theorem Hk {c:Int} (P:Pt (cP c)):ke c (rep P).1 (rep P).2.1 (rep P).2.2=P:=by
 rcases P with _ | ⟨x,y⟩
 ·rfl
 ·show some (fz (val (aw x.val):Int),fz (val (aw y.val):Int))=_
  rw[aC,aC,kN,kN]
theorem CQ {c:Int} (hc:isC c) {P:Pt (cP c)} (hP:On (-3) (bF c) P):onS c (rep P).1 (rep P).2.1 (rep P).2.2=true:=by
 unfold onS
 rw[ah hc]
 rcases P with _ | ⟨x,y⟩
 ·rfl
 ·show (if false=true then _ else onN (cP c) (cB c) (val (aw x.val)) (val (aw y.val)))=true
  rw[ae (by decide),aC,aC,vl c hc _ _ x.isLt y.isLt,kN,kN]
  exact hP
noncomputable def res {c:Int} (P:Pt (cP c)):Y0×Y0×Bool×Int:=((rep P).1,(rep P).2.1,(rep P).2.2,0)
theorem xy (n:Nat):jy n n=0:=by unfold jy; rw[ae (by omega),ah rfl]
theorem xo (a b:Y0) (m j:Nat) (A B:Y0) (y:a.take m=A) (G:b.take j=B) (hl:A.length=B.length) (hA:A.length<=4611686018427387904):∀k:Nat,k<=A.length->val (A.drop k)=val (B.drop k)->loop (F.TU a b m j) ((k:Int) - 1)=some (jy (val A) (val B))
 | 0,_,h=>by
  rw[fj,fj]at h
  refine cU ?_
  unfold F.TU
  rw[ae (by decide),h,xy]
 | k+1,hk,h=>by
  have I:(((k+1:Nat):Int)) - 1=(k:Int):=by omega
  rw[I]
  have w:wI ((k:Int) - 1)=(k:Int) - 1:=aO (by omega) (by omega)
  have hL:F.TU a b m j (k:Int)=if (A.getD k 0)<(B.getD k 0) then bj (some (-1)) else if (B.getD k 0)<(A.getD k 0) then bj (some 1) else bV ((k:Int) - 1):=by
   unfold F.TU
   rw[y,G,ah (aj (by omega)),bv (show k<A.length by omega) 0,aa,bv (show k<B.length by omega) 0,aa]
   by_cases h1:A.getD k 0<B.getD k 0
   ·rw[ah (aj h1),ah h1]
   ·rw[ae (by rw[ar]; exact h1),ae h1,aa,aa]
    by_cases h2:B.getD k 0<A.getD k 0
    ·rw[ah (aj h2),ah h2]
    ·rw[ae (by rw[ar]; exact h2),ae h2,w]
  by_cases h1:A.getD k 0<B.getD k 0
  ·rw[ah h1]at hL
   have:=sn A B k h (dr.1 h1)
   rw[cU hL]; unfold jy; rw[ah this]
  ·rw[ae h1]at hL
   by_cases h2:B.getD k 0<A.getD k 0
   ·rw[ah h2]at hL
    have:=sn B A k h.symm (dr.1 h2)
    rw[cU hL]; unfold jy; rw[ae (by omega),ae (by omega)]
   ·rw[ae h2]at hL
    rw[bB hL]
    refine xo a b m j A B y G hl hA k (by omega) ?_
    have J:¬(A.getD k 0).toNat<(B.getD k 0).toNat:=fun q=>h1 (dr.2 q)
    have N:¬(B.getD k 0).toNat<(A.getD k 0).toNat:=fun q=>h2 (dr.2 q)
    rw[eA A k,eA B k,h]; omega
theorem Ab {a b:Nat} (h:(aw a).length<(aw b).length):a<b:=by
 rcases cj a b with j | j
 ·exact j
 ·have:=jn j; omega
theorem nV (a b:Y0) (y:a.length<=4611686018427387904) (A:b.length<=4611686018427387904):F.RD a b=some (jy (val a) (val b)):=by
 obtain⟨m,B,J,j⟩:=iZ a y
 obtain⟨G,I,N,q⟩:=iZ b A
 have O:(aw (val a)).length<=a.length:=ca (cG a)
 unfold F.RD
 rw[B,aa,I,aa,j,q]
 by_cases hl:(aw (val a)).length<(aw (val b)).length
 ·have:=Ab hl
  rw[ah (aj (by omega))]; unfold jy; rw[ah this]
 ·rw[ae (by rw[ar]; omega)]
  by_cases hl2:(aw (val b)).length<(aw (val a)).length
  ·have:=Ab hl2
   rw[ah (aj (by omega))]; unfold jy; rw[ae (by omega),ae (by omega)]
  ·rw[ae (by rw[ar]; omega),aM,aO (by omega) (by omega)]
   have:=xo a b m G (aw (val a)) (aw (val b)) j q (by omega) (by omega) (aw (val a)).length (av _) (by rw[cu (by omega),cu (by omega)])
   rw[aC,aC]at this
   exact this
def adS (A B:Y0) (x:UInt64×Y0) (i:Nat):UInt64×Y0:=
 let s:=if i<B.length then (x.1+(A.getD i 0).toUInt64)+(B.getD i 0).toUInt64 else x.1+(A.getD i 0).toUInt64
 (bb s 32,x.2.set i s.toUInt32)
def AdI (A B:Y0) (i:Nat) (x:UInt64×Y0):Prop:=
 x.2.length=A.length+1/\x.1.toNat<=1/\val (x.2.take i)+4294967296^i*x.1.toNat=val (A.take i)+val (B.take i)
theorem oV {l:Y0} {i:Nat} (h:i<l.length):val (l.take (i+1))=val (l.take i)+4294967296^i*(l.getD i 0).toNat:=by
 rw[s7 h,mr,aQ,bm (by omega)]
 simp[val]
theorem BD {l:Y0} {i:Nat} (h:l.length<=i):l.take (i+1)=l.take i:=by
 rw[aA (by omega),aA (by omega)]
theorem Kl {A B:Y0} {x:UInt64×Y0} {i:Nat} (hi:i<A.length) (h:AdI A B i x):AdI A B (i+1) (adS A B x i):=by
 obtain⟨I,V,J⟩:=h
 obtain⟨s,hs⟩:∃s,(if i<B.length then (x.1+(A.getD i 0).toUInt64)+(B.getD i 0).toUInt64 else x.1+(A.getD i 0).toUInt64)=s:=⟨_,rfl⟩
 have e:adS A B x i=(bb s 32,x.2.set i s.toUInt32):=by unfold adS; rw[hs]
 have X:=eH (A.getD i 0); have Y:=eH (B.getD i 0)
 have j:s.toNat=x.1.toNat+(A.getD i 0).toNat+(if i<B.length then (B.getD i 0).toNat else 0):=by
  rw[<-hs]
  split
  ·rw[fI,fI,dF,dF]; omega
  ·rw[fI,dF]; omega
 have q:val (B.take (i+1))=val (B.take i)+4294967296^i*(if i<B.length then (B.getD i 0).toNat else 0):=by
  split
  ·rename_i y; exact oV y
  ·rename_i y; rw[BD (by omega)]; omega
 have U:s.toNat<2*4294967296:=by rw[j]; split <;> omega
 rw[e]
 have G:(bb s 32).toNat=s.toNat / 4294967296:=by rw[iO]; rfl
 have N:s.toUInt32.toNat=s.toNat%4294967296:=by rw[UInt64.toNat_toUInt32]
 refine⟨by simpa using I,by show (bb s 32).toNat<=1; rw[G]; omega,?_⟩
 show val ((x.2.set i s.toUInt32).take (i+1))+4294967296^(i+1)*(bb s 32).toNat=_
 rw[oV (by simp; omega),oV hi,q,G]
 have O:(x.2.set i s.toUInt32).take i=x.2.take i:=fC (by omega)
 have R:(x.2.set i s.toUInt32).getD i 0=s.toUInt32:=by
  rw[ao,dt (by omega)]; rfl
 rw[O,R,N,bn]
 obtain⟨P,hP⟩:∃P,(4294967296:Nat)^i=P:=⟨_,rfl⟩
 rw[hP]at J q ⊢
 have hd:=cQ s.toNat 4294967296
 have Z:P*(s.toNat%4294967296)+P*4294967296*(s.toNat / 4294967296)=P*s.toNat:=by
  rw[aF,<-aG,ch,hd]
 have e4:P*s.toNat=P*x.1.toNat+P*(A.getD i 0).toNat+P*(if i<B.length then (B.getD i 0).toNat else 0):=by rw[j,aG,aG]
 omega
theorem Cc (A B:Y0) (hl:B.length<=A.length) (hA:A.length<=50000000000000):F.Wl (A,B)=some (aw (val A+val B)):=by
 unfold F.Wl
 dsimp only
 have G:wI ((A.length:Int)+1)=((A.length+1:Nat):Int):=by rw[aO (by omega) (by omega)]; rfl
 have hm:mkO 4 ((A.length+1:Nat):Int) ((A.length+1:Nat):Int) (0:UInt32)=some (List.replicate (A.length+1) 0):=by
  unfold mkO
  rw[ah (by omega),aq]
 rw[G,hm,aa]
 have j:∀(k i:Nat) (x:UInt64×Y0),i+k=A.length->AdI A B i x->loop (F.TG A B) (x.1,(i:Int),x.2)=some (aw (val A+val B)):=by
  intro k
  induction k with
  | zero=>
   intro i x hi hx
   obtain⟨V,X,I⟩:=hx
   have q:i=A.length:=by omega
   subst q
   refine cU ?_
   unfold F.TG
   dsimp only
   rw[ae (by rw[ar]; omega),bv (show A.length<x.2.length by omega) 0,aa,aM,aq]
   obtain⟨m,p1,p2,p3⟩:=jI (x.2.set A.length x.1.toUInt32) (by simp; omega)
   rw[p1,aa,p3]
   congr 2
   have J:(x.2.set A.length x.1.toUInt32)=(x.2.set A.length x.1.toUInt32).take (A.length+1):=by rw[aA (by simp; omega)]
   have N:(x.2.set A.length x.1.toUInt32).take A.length=x.2.take A.length:=fC (by omega)
   have O:(x.2.set A.length x.1.toUInt32).getD A.length 0=x.1.toUInt32:=by
    rw[ao,dt (by omega)]; rfl
   have R:x.1.toUInt32.toNat=x.1.toNat:=by rw[UInt64.toNat_toUInt32]; omega
   rw[J,oV (by simp; omega),N,O,R,I,aA (by omega),aA hl]
  | succ k ih=>
   intro i x hi hx
   have w4:wI ((i:Int)+1)=((i+1:Nat):Int):=by rw[aO (by omega) (by omega)]; rfl
   have U:=hx.1
   have y:F.TG A B (x.1,(i:Int),x.2)=some (.inl ((adS A B x i).1,((i+1:Nat):Int),(adS A B x i).2)):=by
    unfold F.TG adS
    dsimp only
    rw[ah (aj (by omega)),bv (show i<A.length by omega) 0,aa]
    by_cases hb:i<B.length
    ·rw[ah (aj (by omega)),bv hb 0,aa,aM,ah hb]
     unfold F.Wv
     rw[bv (show i<x.2.length by omega) 0,aa,aM,w4,aq]
     rfl
    ·rw[ae (by rw[ar]; omega),ae hb]
     unfold F.Wv
     rw[bv (show i<x.2.length by omega) 0,aa,aM,w4,aq]
     rfl
   rw[bB y]
   exact ih (i+1) (adS A B x i) (by omega) (Kl (by omega) hx)
 exact j A.length 0 (0,List.replicate (A.length+1) 0) (by omega) ⟨by simp,eM 1,by simp[val]⟩
theorem CG (a b:Y0) (B:a.length<=40000000000000) (G:b.length<=40000000000000):F.TN a b=some (aw (val a+val b)):=by
 obtain⟨m,j,I,q⟩:=iZ a (by omega)
 obtain⟨J,y,N,A⟩:=iZ b (by omega)
 have O:(aw (val a)).length<=a.length:=ca (cG a)
 have R:(aw (val b)).length<=b.length:=ca (cG b)
 unfold F.TN
 rw[j,aa,y,aa,q,A]
 by_cases hl:(aw (val a)).length<(aw (val b)).length
 ·rw[ah (aj (by omega)),Cc _ _ (by omega) (by omega),aC,aC,ch]
 ·rw[ae (by rw[ar]; omega),Cc _ _ (by omega) (by omega),aC,aC]
theorem Jr {n:Nat} {k:Nat} (h:(aw n).length<=k):nb n<=32*k:=bz (nk n) (bo 32 h)
theorem II {c:Int} {a k X Y:Y0} {q:Bool} (h:onS c X Y q=true) (j:nb (val a)<=1024) (y:nb (val k)<=1024):Ev c a k X Y q=res (Ec.add (-3) (Ec.mul (-3) (val a) (gP c)) (Ec.mul (-3) (val k) (ke c X Y q))):=by
 unfold Ev
 rw[h,ah rfl,ah ⟨j,y⟩]; rfl
end Go.Gk.Bn
end
section
namespace Go.Gk.Bn
open Go Go.Gk Go.Gk.Sh
theorem sf (x:UInt32):x.toBitVec.msb=decide (2147483648<=x.toNat):=by
 rw[BitVec.msb_eq_decide]; rfl
theorem K9 (x:UInt32):(ff x 31).toNat=if x.toBitVec.msb=true then 1 else 0:=by
 have hx:=eH x
 have:(ff x 31).toNat=x.toNat / 2147483648:=by
  unfold ff
  rw[dm,show min 31 32=31 from rfl]
  omega
 rw[this,sf]
 by_cases h:2147483648<=x.toNat
 ·rw[ah (aj h)]; omega
 ·rw[ae (by rw[ar]; exact h)]; omega
theorem HT (a b c:UInt32) (hc:c.toNat<=1):∃d e:UInt32,F.Xw a b c=some (d,e)/\e.toNat<=1/\d.toNat+b.toNat+c.toNat=a.toNat+4294967296*e.toNat:=by
 refine⟨(a - b) - c,_,rfl,?_⟩
 obtain⟨d,hd⟩:∃d,(a - b) - c=d:=⟨_,rfl⟩
 rw[hd]
 have q:d.toNat=(4294967296 - c.toNat+(4294967296 - b.toNat+a.toNat)%4294967296)%4294967296:=by rw[<-hd,UInt32.toNat_sub,UInt32.toNat_sub]
 have A:=eH a; have B:=eH b; have y:=eH d
 rw[K9]
 have j:(((~~~ a) &&& b) ||| ((~~~ (a ^^^ b)) &&& d)).toBitVec.msb=((!a.toBitVec.msb&&b.toBitVec.msb) || (!(a.toBitVec.msb != b.toBitVec.msb)&&d.toBitVec.msb)):=by
  simp[BitVec.msb_or,BitVec.msb_and,BitVec.msb_xor,BitVec.msb_not]
 rw[j,sf,sf,sf]
 by_cases h1:2147483648<=a.toNat <;> by_cases h2:2147483648<=b.toNat <;> by_cases h3:2147483648<=d.toNat <;> simp only[h1,h2,h3,ib,dq] <;> simp <;> omega
theorem si {l:Y0} {lo hi:Nat} (j:lo<=hi) (q:hi<=l.length):((l.drop lo).take (hi - lo)).length=hi - lo:=by
 rw[aQ,bU]; omega
theorem CZ {l:Y0} {lo hi i:Nat} (q:hi<=l.length) (j:i<hi - lo):au ((l.drop lo).take (hi - lo)) (i:Int)=some (l.getD (lo+i) 0):=by
 rw[bv (show i<((l.drop lo).take (hi - lo)).length by rw[aQ,bU]; omega) 0]
 congr 1
 rw[ao,List.getElem?_take_of_lt j,ep,<-ao]
def TkI (u y:Y0) (lo i:Nat) (x:UInt32×Y0):Prop:=
 x.2.length=u.length/\x.1.toNat<=1/\(∀k,lo+i<=k->x.2.getD k 0=u.getD k 0)/\val x.2+4294967296^lo*val (y.take i)=val u+4294967296^(lo+i)*x.1.toNat
theorem IU (u y:Y0) (lo hi:Nat) (q:lo<=hi) (A:hi<=u.length) (hu:u.length<=4611686018427387904) (hy:y.length<=4611686018427387904) :
  ∃r,F.R4 u lo hi y=some r/\TkI u y lo (hi - lo) r:=by
 have B:∀(k i:Nat) (x:UInt32×Y0),i+k=hi - lo->TkI u y lo i x->∃r,loop (F.Ut lo hi u y) (x.1,(i:Int),x.2)=some r/\TkI u y lo (hi - lo) r:=by
  intro k
  induction k with
  | zero=>
   intro i x G hx
   have:i=hi - lo:=by omega
   subst this
   refine⟨x,cU ?_,hx⟩
   unfold F.Ut
   dsimp only
   rw[si q A,ae (by rw[ar]; omega)]
  | succ k ih=>
   intro i x G hx
   obtain⟨O,R,g3,g4⟩:=hx
   have I:i<hi - lo:=by omega
   have w4:wI ((i:Int)+1)=((i+1:Nat):Int):=by rw[aO (by omega) (by omega)]; rfl
   obtain⟨d,e,U,V,X⟩:=HT (x.2.getD (lo+i) 0) (y.getD i 0) x.1 R
   have J:F.Ut lo hi u y (x.1,(i:Int),x.2)=some (.inl (e,((i+1:Nat):Int),x.2.set (lo+i) d)):=by
    have hK:F.UU lo hi x.1 (i:Int) x.2 (y.getD i 0)=some (.inl (e,((i+1:Nat):Int),x.2.set (lo+i) d)):=by
     unfold F.UU
     rw[CZ (by omega) I,aa,U,aa,aa,aM,w4,aq]; rfl
    unfold F.Ut
    dsimp only
    rw[si q A,ah (aj (by omega))]
    by_cases hb:i<y.length
    ·rw[ah (aj (by omega)),bv hb 0,aa,hK]
    ·rw[ae (by rw[ar]; omega)]
     have:y.getD i 0=0:=by rw[ao,dA (by omega)]; rfl
     rw[this]at hK; exact hK
   rw[bB J]
   refine ih (i+1) (e,x.2.set (lo+i) d) (by omega) ⟨by simpa using O,V,fun N hk=>?_,?_⟩
   ·show (x.2.set (lo+i) d).getD N 0=_
    rw[g9 (by omega)]; exact g3 N (by omega)
   ·show val (x.2.set (lo+i) d)+_=_+_*e.toNat
    have Y:=je x.2 (lo+i) d (by omega)
    rw[cR y i,aG,<-aF,<-bW,show lo+(i+1)=(lo+i)+1 by omega,bn]
    obtain⟨j,hP⟩:∃j,(4294967296:Nat)^(lo+i)=j:=⟨_,rfl⟩
    rw[hP]at g4 Y ⊢
    have Z:=cv (fun z=>j*z) X
    simp only[aG]at Z
    rw[aF]
    omega
 exact B (hi - lo) 0 (0,u) (by omega) ⟨rfl,eM 1,fun _ _=>rfl,by simp[val]⟩
theorem AL (u y:Y0) (lo hi:Nat) (I:lo<=hi) (J:hi<=u.length) (hu:u.length<=4611686018427387904) (N:y.length<=hi - lo) (A:val u<4294967296^hi) (V:4294967296^lo*val y<=val u) :
  ∃c j,F.R4 u lo hi y=some (c,j)/\j.length=u.length/\val j+4294967296^lo*val y=val u:=by
 obtain⟨⟨c,j⟩,O,B,R,G,q⟩:=IU u y lo hi I J hu (by omega)
 dsimp only at B R G q
 rw[aA N,show lo+(hi - lo)=hi by omega]at q
 refine⟨c,j,O,B,?_⟩
 have hz:val j<4294967296^hi:=ri fun k U=>by rw[G k (by omega)]; exact Cz A k U
 rcases cj c.toNat 1 with h | h
 ·have:c.toNat=0:=by omega
  rw[this]at q; omega
 ·have:c.toNat=1:=by omega
  rw[this]at q; omega
theorem Kb (n:Nat) (l:Y0) (h:l.length=n):cpL (List.replicate n 0) l 0 (List.replicate n (0:UInt32)).length=l:=by
 unfold cpL
 simp only[bd,gM,bh,h,Nat.min_self,gS,bJ]
 rw[aA (by omega),cu (by simp),bR]
theorem sB (a b:Y0) (J:a.length<=40000000000000) (N:b.length<=40000000000000):F.R6 a b=some (if val a<val b then ([],false) else (aw (val a - val b),true)):=by
 obtain⟨m,q,O,y⟩:=iZ a (by omega)
 obtain⟨R,A,U,B⟩:=iZ b (by omega)
 have V:(aw (val a)).length<=a.length:=ca (cG a)
 unfold F.R6
 rw[nV a b (by omega) (by omega),aa]
 by_cases hl:val a<val b
 ·rw[ah hl]; unfold jy; rw[ah hl,ah (by decide)]
 ·rw[ae hl]; unfold jy
  rw[ae hl,ae (by split <;> decide),q,aa,A,aa,y,B,iR (by omega),aa,aq,aM,Kb _ _ rfl]
  have I:(aw (val b)).length<=(aw (val a)).length:=jn (by omega)
  obtain⟨c,j,G,X,t3⟩:=AL (aw (val a)) (aw (val b)) 0 (aw (val a)).length (eM _) (av _) (by omega) (by omega) (cG _) (by rw[aC,aC]; omega)
  rw[G,aa]
  obtain⟨k,p1,p2,p3⟩:=jI j (by omega)
  dsimp only
  rw[p1,aa,p3]
  rw[aC,aC,jg,cL]at t3
  rw[show val j=val a - val b by omega]
def MuI (x:UInt32) (y o:Y0) (i j:Nat) (s:UInt64×Y0):Prop:=
 s.2.length=o.length/\s.1.toNat<=4294967295/\(∀k,i+j<=k->s.2.getD k 0=o.getD k 0)/\val s.2+4294967296^(i+j)*s.1.toNat=val o+4294967296^i*(x.toNat*val (y.take j))
theorem D6 (a b:Y0) (m:Nat) (i:Nat) (x:UInt32) (y o:Y0) (B:b.take m=y) (ho:i+y.length<o.length) (ac:o.length<=4611686018427387904) :
  ∃c o',MuI x y o i y.length (c,o')/\loop (F.S9 b m (i:Int) x) (0,0,o)=some (.inl (((i+1:Nat):Int),o'.set (i+y.length) c.toUInt32)):=by
 have G:∀(k j:Nat) (s:UInt64×Y0),j+k=y.length->MuI x y o i j s->∃c o',MuI x y o i y.length (c,o')/\loop (F.S9 b m (i:Int) x) (s.1,(j:Int),s.2)=some (.inl (((i+1:Nat):Int),o'.set (i+y.length) c.toUInt32)):=by
  intro k
  induction k with
  | zero=>
   intro j s X hs
   have:j=y.length:=by omega
   subst this
   refine⟨s.1,s.2,hs,cU ?_⟩
   have A:wI ((i:Int)+(y.length:Int))=((i+y.length:Nat):Int):=by rw[aO (by omega) (by omega)]; omega
   have w2:wI ((i:Int)+1)=((i+1:Nat):Int):=by rw[aO (by omega) (by omega)]; rfl
   unfold F.S9
   dsimp only
   have:=hs.1
   rw[B,ae (by rw[ar]; omega),A,w2,bv (show i+y.length<s.2.length by omega) 0,aa,aM,aq]; rfl
  | succ k ih=>
   intro j s X hs
   obtain⟨Y,g2,g3,g4⟩:=hs
   have A:wI ((i:Int)+(j:Int))=((i+j:Nat):Int):=by rw[aO (by omega) (by omega)]; omega
   have w2:wI ((j:Int)+1)=((j+1:Nat):Int):=by rw[aO (by omega) (by omega)]; rfl
   obtain⟨t,I⟩:∃t,s.1+((x.toUInt64*(y.getD j 0).toUInt64)+(s.2.getD (i+j) 0).toUInt64)=t:=⟨_,rfl⟩
   have J:F.S9 b m (i:Int) x (s.1,(j:Int),s.2)=some (.inl (bb t 32,((j+1:Nat):Int),s.2.set (i+j) t.toUInt32)):=by
    unfold F.S9
    dsimp only
    rw[B,ah (aj (by omega)),bv (show j<y.length by omega) 0,aa,A,bv (show i+j<s.2.length by omega) 0,aa,aM,I,aa,aM,w2,aq]; rfl
   rw[bB J]
   have x1:=eH x; have x2:=eH (y.getD j 0); have x3:=eH (s.2.getD (i+j) 0)
   have hp:=dW (show x.toNat<=4294967295 by omega) (show (y.getD j 0).toNat<=4294967295 by omega)
   have N:(x.toUInt64*(y.getD j 0).toUInt64).toNat=x.toNat*(y.getD j 0).toNat:=by rw[rZ _ _ (by rw[dF,dF]; omega),dF,dF]
   have O:(x.toUInt64*(y.getD j 0).toUInt64+(s.2.getD (i+j) 0).toUInt64).toNat=x.toNat*(y.getD j 0).toNat+(s.2.getD (i+j) 0).toNat:=by rw[kY _ _ (by rw[N,dF]; omega),N,dF]
   have Z:t.toNat=s.1.toNat+(x.toNat*(y.getD j 0).toNat+(s.2.getD (i+j) 0).toNat):=by rw[<-I,kY _ _ (by rw[O]; omega),O]
   have R:(bb t 32).toNat=t.toNat / 4294967296:=by rw[iO]; rfl
   refine ih (j+1) (bb t 32,s.2.set (i+j) t.toUInt32) (by omega) ⟨by simpa using Y,by show (bb t 32).toNat<=_; rw[R]; omega,fun U hk=>?_,?_⟩
   ·show (s.2.set (i+j) t.toUInt32).getD U 0=_
    rw[g9 (by omega)]; exact g3 U (by omega)
   ·show val (s.2.set (i+j) t.toUInt32)+_*(bb t 32).toNat=_
    have V:=je s.2 (i+j) t.toUInt32 (by omega)
    rw[jQ]at V
    rw[cR y j,aG,aG,R,show i+(j+1)=(i+j)+1 by omega,bn]
    have e0:4294967296^i*(x.toNat*(4294967296^j*(y.getD j 0).toNat))=4294967296^(i+j)*(x.toNat*(y.getD j 0).toNat):=by
     rw[bW,cT x.toNat,aF]
    rw[e0]
    obtain⟨q,hP⟩:∃q,(4294967296:Nat)^(i+j)=q:=⟨_,rfl⟩
    rw[hP]at g4 V ⊢
    have hd:=cQ t.toNat 4294967296
    have e3:q*(t.toNat%4294967296)+q*4294967296*(t.toNat / 4294967296)=q*t.toNat:=by
     rw[aF,<-aG,ch,hd]
    have e4:q*t.toNat=q*s.1.toNat+(q*(x.toNat*(y.getD j 0).toNat)+q*(s.2.getD (i+j) 0).toNat):=by rw[Z,aG,aG]
    omega
 exact G y.length 0 (0,o) (by omega) ⟨rfl,eM _,fun _ _=>rfl,by simp[val]⟩
theorem K8 (a b:Y0) (ha:a.length<=40000000000000) (hb:b.length<=40000000000000) (hs:(aw (val a)).length+(aw (val b)).length<=50000000000000):F.Vj a b=some (aw (val a*val b)):=by
 obtain⟨m,Z,h2,A⟩:=iZ a (by omega)
 obtain⟨B,h4,h5,G⟩:=iZ b (by omega)
 have la:(aw (val a)).length<=a.length:=ca (cG a)
 have lb:(aw (val b)).length<=b.length:=ca (cG b)
 obtain⟨x,hx⟩:∃x,aw (val a)=x:=⟨_,rfl⟩
 obtain⟨y,J⟩:∃y,aw (val b)=y:=⟨_,rfl⟩
 have vx:val x=val a:=by rw[<-hx,aC]
 have vy:val y=val b:=by rw[<-J,aC]
 rw[hx]at A la hs; rw[J]at G lb hs
 unfold F.Vj
 have w0:wI ((x.length:Int)+(y.length:Int))=((x.length+y.length:Nat):Int):=by rw[aO (by omega) (by omega)]; omega
 rw[Z,aa,h4,aa,A,G,w0,iR (by omega),aa,aq]
 have N:∀(k i:Nat) (o:Y0),i+k=x.length->o.length=x.length+y.length->(∀k,i+y.length<=k->o.getD k 0=0)->val o=val (x.take i)*val y->loop (F.UD a m b B) ((i:Int),o)=some (aw (val a*val b)):=by
  intro k
  induction k with
  | zero=>
   intro i o hi O _ I
   have:i=x.length:=by omega
   subst this
   refine cU ?_
   unfold F.UD
   dsimp only
   obtain⟨q,p1,p2,p3⟩:=jI o (by omega)
   rw[A,ae (by rw[ar]; omega),p1,aa,p3,I,aA (av _),vx,vy]
  | succ k ih=>
   intro i o hi O hz I
   obtain⟨c,o',⟨R,g2,g3,g4⟩,hl⟩:=D6 a b B i (x.getD i 0) y o G (by omega) (by omega)
   dsimp only at R g2 g3 g4
   have U:F.UD a m b B ((i:Int),o)=some (.inl (((i+1:Nat):Int),o'.set (i+y.length) c.toUInt32)):=by
    unfold F.UD
    dsimp only
    rw[A,ah (aj (by omega)),bv (show i<x.length by omega) 0,aa,hl]
   rw[bB U]
   have V:o'.getD (i+y.length) 0=0:=by rw[g3 _ (av _)]; exact hz _ (av _)
   have j:=je o' (i+y.length) c.toUInt32 (by omega)
   have z0:(0:UInt32).toNat=0:=rfl
   rw[V,z0,cK,bA,jQ,ax (by omega)]at j
   refine ih (i+1) _ (by omega) (by simpa using (R.trans O)) (fun X Y=>?_) ?_
   ·rw[g9 (by omega),g3 X (by omega)]; exact hz X (by omega)
   ·rw[j,g4,aA (av _),I,cR x i,aW,aF]
 exact N x.length 0 (List.replicate (x.length+y.length) 0) (by omega) (by simp) (fun k _=>by rw[ao]; by_cases Y:k<x.length+y.length <;> simp[Y]) (by rw[gn]; simp[val])
theorem IY (a b d:UInt32) (h:a.toNat<d.toNat):∃q r:UInt32,F.VU a b d=some (q,r)/\q.toNat=(4294967296*a.toNat+b.toNat) / d.toNat/\r.toNat=(4294967296*a.toNat+b.toNat)%d.toNat:=by
 have I:=eH b; have hd:=eH d
 have j:¬d.toUInt64=0:=fun y=>by
  have:=cv UInt64.toNat y
  rw[dF]at this; simp at this; omega
 have A:(d != 0)=true:=by
  rw[iE]; intro y; rw[y]at h; simp at h
 have B:¬d<=a:=fun G=>by have:=eY.1 G; omega
 refine⟨(((c9 a.toUInt64 32) ||| b.toUInt64) / d.toUInt64).toUInt32,(((c9 a.toUInt64 32) ||| b.toUInt64)%d.toUInt64).toUInt32,?_,?_,?_⟩
 rotate_left
 ·show ((((c9 a.toUInt64 32) ||| b.toUInt64) / d.toUInt64).toUInt32).toNat=_
  rw[jQ,fh,yG,dF,ax]
  exact Nat.div_lt_of_lt_mul (by rw[aN]; omega)
 ·show ((((c9 a.toUInt64 32) ||| b.toUInt64)%d.toUInt64).toUInt32).toNat=_
  rw[jQ,dH,yG,dF,ax]
  exact gH (bM _ (by omega)) hd
 ·unfold F.VU F.WA
  dsimp only
  rw[ah A,ae (by rw[ar]; exact B),aM,grd_true _ j,grd_true _ j,aM,aM]
theorem FG (x:Y0) (d:UInt32) (hd:d.toNat≠0) (hx:x.length<=50000000000000):∃q r,F.Vv x d=some (q,r)/\q.length=x.length/\val q=val x / d.toNat/\r.toNat=val x%d.toNat:=by
 unfold F.Vv
 rw[iR (by omega),aa,aM,aq,aO (by omega) (by omega)]
 have I:∀(k:Nat) (o:Y0) (r:UInt32),k<=x.length->o.length=x.length->r.toNat<d.toNat->val (o.drop k)*d.toNat+r.toNat=val (x.drop k)->∃q y,loop (F.Uh x d) (r,(k:Int) - 1,o)=some (q,y)/\q.length=x.length/\y.toNat<d.toNat/\val q*d.toNat+y.toNat=val x:=by
  intro k
  induction k with
  | zero=>
   intro o r X A B G
   refine⟨o,r,cU ?_,A,B,by simpa using G⟩
   unfold F.Uh
   dsimp only
   rw[ae (by decide)]
  | succ k ih=>
   intro o r X A B G
   have Y:(((k+1:Nat):Int)) - 1=(k:Int):=by omega
   obtain⟨j,J,Z,s2,N⟩:=IY r (x.getD k 0) d B
   have w:wI ((k:Int) - 1)=(k:Int) - 1:=aO (by omega) (by omega)
   have O:F.Uh x d (r,(k:Int),o)=some (.inl (J,(k:Int) - 1,o.set k j)):=by
    unfold F.Uh
    dsimp only
    rw[ah (aj (by omega)),bv (show k<x.length by omega) 0,aa,Z,aa,bv (show k<o.length by omega) 0,aa,aM,w,aq]; rfl
   rw[Y,bB O]
   refine ih (o.set k j) J (by omega) (by simpa using A) (by rw[N]; exact bM _ (by omega)) ?_
   have R:val ((o.set k j).drop k)=j.toNat+4294967296*val (o.drop (k+1)):=by
    rw[eA,List.drop_set_of_lt (by omega)]
    congr 2
    rw[ao,dt (by omega)]; rfl
   rw[R,eA x k,<-G,s2,N]
   have ag:=cQ (4294967296*r.toNat+(x.getD k 0).toNat) d.toNat
   rw[aW,aN (_ / _),aF,aG]
   omega
 obtain⟨q,r,h1,h2,U,V⟩:=I x.length (List.replicate x.length 0) 0 (av _) (by simp) (by show 0<_; omega) (by rw[cu (by simp),cu (by omega)]; simp[val])
 refine⟨q,r,h1,h2,?_,?_⟩
 ·rw[<-V,ch,gz _ _ (by omega),cp U,bh]
 ·rw[<-V,ch,gx,ax U]
theorem LX (x c:UInt32) {s:Nat} (hs:s<32) (hc:c.toNat<2^s):(iu x s ||| c).toNat=x.toNat*2^s%4294967296+c.toNat:=by
 rw[UInt32.toNat_or,sT,bm (by omega)]
 have hp:=ng hs
 have e:x.toNat*2^s%4294967296=2^s*(x.toNat%2^(32 - s)):=by
  rw[aN,<-hp,Nat.mul_mod_mul_left]
 rw[e,Nat.two_pow_add_eq_or_of_lt hc]
theorem Mn (x:UInt32) {s:Nat} (hs:s<32):((bb (c9 x.toUInt64 s) 32).toUInt32).toNat=x.toNat*2^s / 4294967296/\x.toNat*2^s / 4294967296<2^s:=by
 have hx:=eH x
 have j:x.toNat*2^s<4294967296*2^s:=Nat.mul_lt_mul_of_pos_right hx (dv s)
 have y:2^s<2^32:=Nat.pow_lt_pow_right (by decide) hs
 have q:x.toNat*2^s / 4294967296<2^s:=Nat.div_lt_of_lt_mul j
 refine⟨?_,q⟩
 rw[jQ,iO,na,dF,bm (by omega),show (2:Nat)^min 32 64=4294967296 from rfl]
 rw[ax (b:=18446744073709551616) (by omega),ax (by omega)]
def UpI (u x:Y0) (lo s i:Nat) (t:UInt32×Y0):Prop:=
 t.2.length=u.length/\t.2.take lo=u.take lo/\(∀k,lo+i<=k->t.2.getD k 0=u.getD k 0)/\t.1.toNat<2^s/\val ((t.2.drop lo).take i)+4294967296^i*t.1.toNat=2^s*val (x.take i)
theorem Ng (u x:Y0) (lo hi s:Nat) (hs:s<32) (G:lo<=hi) (I:hi<=u.length) (hu:u.length<=4611686018427387904) (hx:x.length<=4611686018427387904) :
  ∃c y,F.TY u lo hi x (s:Int)=some y/\UpI u x lo s (hi - lo) (c,y):=by
 have J:∀(k i:Nat) (t:UInt32×Y0),i+k=hi - lo->UpI u x lo s i t->∃c y,loop (F.T1 lo hi u x (s:Int)) (t.1,(i:Int),t.2)=some y/\UpI u x lo s (hi - lo) (c,y):=by
  intro k
  induction k with
  | zero=>
   intro i t N B
   have:i=hi - lo:=by omega
   subst this
   refine⟨t.1,t.2,cU ?_,B⟩
   unfold F.T1
   dsimp only
   rw[si G I,ae (by rw[ar]; omega)]
  | succ k ih=>
   intro i t N B
   obtain⟨V,X,g3,g4,Y⟩:=B
   have O:i<hi - lo:=by omega
   have w4:wI ((i:Int)+1)=((i+1:Nat):Int):=by rw[aO (by omega) (by omega)]; rfl
   obtain⟨z,hz⟩:∃z,iu (x.getD i 0) s ||| t.1=z:=⟨_,rfl⟩
   obtain⟨c,hc⟩:∃c,(bb (c9 (x.getD i 0).toUInt64 s) 32).toUInt32=c:=⟨_,rfl⟩
   have A:=LX (x.getD i 0) t.1 hs g4
   have q:=Mn (x.getD i 0) hs
   rw[hz]at A; rw[hc]at q
   have hK:F.Wk lo hi (s:Int) t.1 (i:Int) t.2 (x.getD i 0)=some (.inl (c,((i+1:Nat):Int),t.2.set (lo+i) z)):=by
    unfold F.Wk
    dsimp only
    rw[grd_true _ (by omega),CZ (by omega) O,aa,aM,aq,hz,grd_true _ (by omega),aM,hc,w4,aq]; rfl
   have R:F.T1 lo hi u x (s:Int) (t.1,(i:Int),t.2)=some (.inl (c,((i+1:Nat):Int),t.2.set (lo+i) z)):=by
    unfold F.T1
    dsimp only
    rw[si G I,ah (aj (by omega))]
    by_cases hb:i<x.length
    ·rw[ah (aj (by omega)),bv hb 0,aa,hK]
    ·rw[ae (by rw[ar]; omega)]
     rw[iP (by omega)]at hK; exact hK
   rw[bB R]
   refine ih (i+1) (c,t.2.set (lo+i) z) (by omega) ⟨by simpa using V,?_,fun U hk=>?_,by show c.toNat<_; rw[q.1]; exact q.2,?_⟩
   ·show (t.2.set (lo+i) z).take lo=_
    rw[fC (by omega)]; exact X
   ·show (t.2.set (lo+i) z).getD U 0=_
    rw[g9 (by omega)]; exact g3 U (by omega)
   ·show val (((t.2.set (lo+i) z).drop lo).take (i+1))+_*c.toNat=_
    have Z:(t.2.set (lo+i) z).drop lo=(t.2.drop lo).set i z:=by rw[List.drop_set,ae (by omega),show lo+i - lo=i by omega]
    have e2:((t.2.drop lo).set i z).getD i 0=z:=by
     rw[ao,dt (by rw[bU]; omega)]; rfl
    rw[Z,cR,e2,fC (by omega),cR x i,aG,<-Y,A,q.1,bn]
    obtain⟨j,hP⟩:∃j,(4294967296:Nat)^i=j:=⟨_,rfl⟩
    obtain⟨m,hm⟩:∃m,(x.getD i 0).toNat*2^s=m:=⟨_,rfl⟩
    rw[hP,hm]
    have hd:=cQ m 4294967296
    have e3:j*(m%4294967296)+j*4294967296*(m / 4294967296)=j*m:=by
     rw[aF,<-aG,ch,hd]
    have e4:2^s*(j*(x.getD i 0).toNat)=j*m:=by rw[<-hm,cT,aN (2^s)]
    rw[e4,aG]
    omega
 exact J (hi - lo) 0 (0,u) (by omega) ⟨rfl,rfl,fun _ _=>rfl,dv s,by simp[val]⟩
theorem E1 (u x:Y0) (s:Nat) (hs:s<32) (hu:u.length<=4611686018427387904) (hx:x.length<=u.length) (hf:2^s*val x<4294967296^u.length) :
  ∃j,F.TY u 0 u.length x (s:Int)=some j/\j.length=u.length/\val j=2^s*val x:=by
 obtain⟨c,j,A,y,G,I,B,q⟩:=Ng u x 0 u.length s hs (eM _) (av _) hu (by omega)
 dsimp only at y B q
 rw[gM,fj,aA (by omega),aA hx]at q
 refine⟨j,A,y,?_⟩
 rcases bS c.toNat with h | h
 ·rw[h]at q; omega
 ·have:=dP (4294967296^u.length) h
  omega
theorem yX (u:Y0) (s:Nat) (hs:s<32) (hu:u.length<=4611686018427387904):∃q,F.UY u (s:Int)=some q/\q.length=u.length/\val q=val u / 2^s:=by
 have G:=ng hs
 have kd:∀i,(val u / 2^s) / 4294967296^i%4294967296=((u.getD i 0).toNat+4294967296*(u.getD (i+1) 0).toNat) / 2^s%4294967296:=by
  intro i
  rw[du,aN,<-du,jY,eA,eA]
  have:(u.getD i 0).toNat+4294967296*((u.getD (i+1) 0).toNat+4294967296*val (u.drop (i+1+1)))=((u.getD i 0).toNat+4294967296*(u.getD (i+1) 0).toNat)+2^s*(4294967296*(2^(32 - s)*val (u.drop (i+1+1)))):=by
   have:2^s*(4294967296*(2^(32 - s)*val (u.drop (i+1+1))))=4294967296*(4294967296*val (u.drop (i+1+1))):=by
    rw[cT,<-aF (2^s),G]
   rw[this,aG]; omega
  rw[this,gG _ _ (dv s),gF]
 have I:∀(k i:Nat) (o:Y0),i+k=u.length->o.length=u.length->(∀j,i<=j->o.getD j 0=u.getD j 0)->val (o.take i)=(val u / 2^s)%4294967296^i ->
   ∃q,loop (F.UO u (s:Int)) ((i:Int),o)=some q/\q.length=u.length/\val q=val u / 2^s:=by
  intro k
  induction k with
  | zero=>
   intro i o hi A _ y
   have:i=u.length:=by omega
   subst this
   refine⟨o,cU ?_,A,?_⟩
   ·unfold F.UO
    dsimp only
    rw[ae (by rw[ar]; omega)]
   ·rw[aA (by omega)]at y
    rw[y,ax]
    exact et (dO _ _) (cG u)
  | succ k ih=>
   intro i o hi A B y
   have w4:wI ((i:Int)+1)=((i+1:Nat):Int):=by rw[aO (by omega) (by omega)]; rfl
   obtain⟨z,hz⟩:∃z,(bb ((u.getD i 0).toUInt64 ||| (c9 (u.getD (i+1) 0).toUInt64 32)) s).toUInt32=z:=⟨_,rfl⟩
   have J:z.toNat=((u.getD i 0).toNat+4294967296*(u.getD (i+1) 0).toNat) / 2^s%4294967296:=by
    rw[<-hz,jQ,iO,uu,bm (by omega)]
   have hK:∀v:UInt64,v=((u.getD i 0).toUInt64 ||| (c9 (u.getD (i+1) 0).toUInt64 32))->F.U5 (s:Int) (i:Int) o v=some (.inl (((i+1:Nat):Int),o.set i z)):=by
    rintro v rfl
    unfold F.U5
    dsimp only
    rw[grd_true _ (by omega),bv (show i<o.length by omega) 0,aa,aM,aq,aq,hz,w4]; rfl
   have N:F.UO u (s:Int) ((i:Int),o)=some (.inl (((i+1:Nat):Int),o.set i z)):=by
    unfold F.UO
    dsimp only
    rw[ah (aj (by omega)),bv (show i<o.length by omega) 0,aa,w4,B i (av _)]
    by_cases hb:i+1<o.length
    ·rw[ah (aj (by omega)),bv hb 0,aa,aM,B (i+1) (by omega),hK _ rfl]
    ·rw[ae (by rw[ar]; omega),hK _ (by
      apply cA.1
      rw[uu,iP (a:=u) (i:=i+1) (by omega),dF]; rfl)]
   rw[bB N]
   refine ih (i+1) (o.set i z) (by omega) (by simpa using A) (fun j R=>by rw[g9 (by omega)]; exact B j (by omega)) ?_
   have O:(o.set i z).getD i 0=z:=by
    rw[ao,dt (by omega)]; rfl
   rw[cR,O,fC (by omega),y,Nat.mod_pow_succ,kd i,J]
 exact I u.length 0 u (by omega) rfl (fun _ _=>rfl) (by simp[val,Nat.mod_one])
theorem wV (u v:Y0) (hl:u.length=v.length) (hu:u.length<=4611686018427387904):F.S5 u v=some (decide (val u<val v)):=by
 have j:∀k:Nat,k<=u.length->val (u.drop k)=val (v.drop k)->loop (F.Sd u v) ((k:Int) - 1)=some (decide (val u<val v)):=by
  intro k
  induction k with
  | zero=>
   intro _ h
   rw[fj,fj]at h
   refine cU ?_
   unfold F.Sd
   dsimp only
   rw[ae (by decide),az (by omega)]
  | succ k ih=>
   intro B h
   have y:(((k+1:Nat):Int)) - 1=(k:Int):=by omega
   have w:wI ((k:Int) - 1)=(k:Int) - 1:=aO (by omega) (by omega)
   rw[y]
   by_cases hne:u.getD k 0=v.getD k 0
   ·have hL:F.Sd u v (k:Int)=some (.inl ((k:Int) - 1)):=by
     unfold F.Sd
     dsimp only
     rw[ah (aj (by omega)),bv (show k<u.length by omega) 0,aa,bv (show k<v.length by omega) 0,aa,ae (by rw[hne]; simp),w]; rfl
    rw[bB hL]
    refine ih (by omega) ?_
    rw[eA u k,eA v k,h,hne]
   ·have hL:F.Sd u v (k:Int)=bj (some (decide (u.getD k 0<v.getD k 0))):=by
     unfold F.Sd
     dsimp only
     rw[ah (aj (by omega)),bv (show k<u.length by omega) 0,aa,bv (show k<v.length by omega) 0,aa,ah (by rw[iE]; exact hne),aa,aa]
    rw[cU hL]
    congr 1
    by_cases hlt:u.getD k 0<v.getD k 0
    ·rw[aj hlt,aj (sn u v k h (dr.1 hlt))]
    ·have A:(v.getD k 0).toNat<(u.getD k 0).toNat:=by
      have a1:¬(u.getD k 0).toNat<(v.getD k 0).toNat:=fun q=>hlt (dr.2 q)
      have a2:(u.getD k 0).toNat≠(v.getD k 0).toNat:=fun q=>hne (c7.1 q)
      omega
     have:=sn v u k h.symm A
     rw[az hlt,az (by omega)]
 unfold F.S5
 rw[aM,aO (by omega) (by omega)]
 exact j u.length (av _) (by rw[cu (by omega),cu (by omega)])
theorem GJ (v a:Y0) (j y q:UInt32) (h K B V':Nat) (hn:2<=v.length) (ha:v.length<=a.length) (hs:v.length<=70368744177664)
  (R:v.getD (v.length - 1) 0=j) (U:v.getD (v.length - 2) 0=y) (Z:a.getD (v.length - 2) 0=q) (hV:val v=(j.toNat*4294967296+y.toNat)*K+V') (ac:B<K) (b6:V'<K) (b7:1<=j.toNat)
  (ad:(h*4294967296+q.toNat)*K+B<4294967296*val v) (hh:h<=j.toNat*4294967296+4294967295) :
  ∀(m:Nat) (g r:UInt64),g.toNat=m->h=g.toNat*j.toNat+r.toNat->r.toNat<=4294967295->(h*4294967296+q.toNat)*K+B<(g.toNat+1)*val v ->
   ∃A:UInt64,loop (F.Sx a v) (g,r)=some A/\A.toNat<=4294967295/\(h*4294967296+q.toNat)*K+B<(A.toNat+1)*val v:=by
 have x1:=eH j; have x2:=eH y; have x3:=eH q
 have w1:wI ((v.length:Int) - 1)=((v.length - 1:Nat):Int):=by rw[aO (by omega) (by omega)]; omega
 have w2:wI ((v.length:Int) - 2)=((v.length - 2:Nat):Int):=by rw[aO (by omega) (by omega)]; omega
 intro m
 induction m using Nat.strongRecOn with
 | ind m ih=>
  intro g r hm N hr ag
  have G:F.Sx a v (g,r)=F.UL v g r true->(4294967296<=g.toNat\/r.toNat*4294967296+q.toNat<g.toNat*y.toNat) ->
    ∃A:UInt64,loop (F.Sx a v) (g,r)=some A/\A.toNat<=4294967295/\(h*4294967296+q.toNat)*K+B<(A.toNat+1)*val v:=by
   intro hL J
   have ap:1<=g.toNat:=by
    rcases bS g.toNat with V | V
    ·rw[V]at J; omega
    ·exact V
   have O:(g - 1).toNat=g.toNat - 1:=by
    rw[fH _ _ (by rw[db]; exact ap)]; rfl
   have aS:(r+j.toUInt64).toNat=r.toNat+j.toNat:=by rw[kY _ _ (by rw[dF]; omega),dF]
   have hd:=zt (K:=K) (V':=V') N ac J (by rw[<-hV]; exact ad)
   rw[<-hV]at hd
   obtain⟨k,X⟩:∃k,g.toNat=k+1:=⟨g.toNat - 1,by omega⟩
   have Y:h=(g - 1).toNat*j.toNat+(r+j.toUInt64).toNat:=by
    rw[O,aS,N,X,fo,aW]; omega
   have I:(h*4294967296+q.toNat)*K+B<((g - 1).toNat+1)*val v:=by
    rw[O,X,fo,<-X]; exact hd
   unfold F.UL at hL
   rw[ah rfl,w1,bv (show v.length - 1<v.length by omega) 0,aa,R]at hL
   by_cases hb:4294967296<=(r+j.toUInt64).toNat
   ·rw[ah (aj (by rw[db]; exact hb))]at hL
    have b8:(g - 1).toNat<4294967296:=by
     have:(g - 1).toNat*j.toNat<4294967296*j.toNat:=by omega
     exact Nat.lt_of_mul_lt_mul_right this
    exact⟨g - 1,cU hL,by omega,I⟩
   ·rw[ae (by simp only[ar,db]; exact hb)]at hL
    obtain⟨A,q1,q2⟩:=ih (g - 1).toNat (by omega) (g - 1) (r+j.toUInt64) rfl Y (by omega) I
    exact⟨A,(bB hL).trans q1,q2⟩
  by_cases hg:4294967296<=g.toNat
  ·refine G ?_ (.inl hg)
   unfold F.Sx
   dsimp only
   rw[ah (aj (by rw[db]; exact hg))]
  ·have e1:((c9 r 32) ||| q.toUInt64).toNat=4294967296*r.toNat+q.toNat:=AW _ _ hr
   have hp:=dW (show g.toNat<=4294967295 by omega) (show y.toNat<=4294967295 by omega)
   have e2:(g*y.toUInt64).toNat=g.toNat*y.toNat:=by rw[rZ _ _ (by rw[dF]; omega),dF]
   have hL:F.Sx a v (g,r)=F.UL v g r (decide (((c9 r 32) ||| q.toUInt64)<(g*y.toUInt64))):=by
    unfold F.Sx
    dsimp only
    rw[ae (by simp only[ar,db]; exact hg),w2,bv (show v.length - 2<v.length by omega) 0,aa,bv (show v.length - 2<a.length by omega) 0,aa,U,Z]
   by_cases J:r.toNat*4294967296+q.toNat<g.toNat*y.toNat
   ·rw[show decide (((c9 r 32) ||| q.toUInt64)<(g*y.toUInt64))=true from aj (by rw[bq,e1,e2]; omega)]at hL
    exact G hL (.inr J)
   ·rw[show decide (((c9 r 32) ||| q.toUInt64)<(g*y.toUInt64))=false from az (by rw[bq,e1,e2]; omega)]at hL
    unfold F.UL at hL
    rw[ae (by decide)]at hL
    exact⟨g,cU hL,by omega,ag⟩
theorem BX (v a:Y0) (hn:2<=v.length) (ha:a.length=v.length+1) (hs:v.length<=70368744177664) (ad:2147483648<=(v.getD (v.length - 1) 0).toNat) (aS:val a<4294967296*val v) :
  ∃g:UInt64,F.Wp a v=some g/\g.toNat<=4294967295/\val a<(g.toNat+1)*val v:=by
 obtain⟨j,G⟩:∃j,v.getD (v.length - 1) 0=j:=⟨_,rfl⟩
 obtain⟨A,O⟩:∃A,v.getD (v.length - 2) 0=A:=⟨_,rfl⟩
 obtain⟨q,R⟩:∃q,a.getD (v.length) 0=q:=⟨_,rfl⟩
 obtain⟨B,U⟩:∃B,a.getD (v.length - 1) 0=B:=⟨_,rfl⟩
 obtain⟨y,V⟩:∃y,a.getD (v.length - 2) 0=y:=⟨_,rfl⟩
 rw[G]at ad
 have x1:=eH j; have x2:=eH A; have y0:=eH q; have y1:=eH B; have y2:=eH y
 have eV:val v=(j.toNat*4294967296+A.toNat)*4294967296^(v.length - 2)+val (v.take (v.length - 2)):=by
  have:=gU v (v.length - 2) (by omega)
  rw[eA,show v.length - 2+1=v.length - 1 by omega,eA,show v.length - 1+1=v.length by omega,ew,iI,G,O]at this
  rw[this,cK,bA,aN (4294967296^_),ch A.toNat,aN 4294967296 j.toNat]
  omega
 have J:val (v.take (v.length - 2))<4294967296^(v.length - 2):=by
  have:=cG (v.take (v.length - 2))
  rwa [aQ,bm (by omega)]at this
 obtain⟨K,hK⟩:∃K,4294967296^(v.length - 2)=K:=⟨_,rfl⟩
 obtain⟨I,X⟩:∃I,val (a.take (v.length - 2))=I:=⟨_,rfl⟩
 have ag:I<K:=by
  have:=cG (a.take (v.length - 2))
  rw[aQ,bm (by omega)]at this
  rw[<-X,<-hK]; exact this
 obtain⟨h,hh⟩:∃h,q.toNat*4294967296+B.toNat=h:=⟨_,rfl⟩
 have eU:val a=(h*4294967296+y.toNat)*K+I:=by
  have N:=gU a (v.length - 2) (by omega)
  rw[eA a (v.length - 2),show v.length - 2+1=v.length - 1 by omega,eA a (v.length - 1),show v.length - 1+1=v.length by omega,eA a v.length,cu (l:=a) (i:=v.length+1) (by omega),iI,X,hK,R,U,V]at N
  rw[N,<-hh,cK,bA,aN K]
  have:y.toNat+4294967296*(B.toNat+4294967296*q.toNat)=(q.toNat*4294967296+B.toNat)*4294967296+y.toNat:=by omega
  rw[this]; omega
 rw[hK]at eV J
 have ap:(h*4294967296+y.toNat)*K+I<4294967296*val v:=by rw[<-eU]; exact aS
 have b2:q.toNat<=j.toNat:=by
  rcases cj j.toNat q.toNat with N | N
  ·exfalso
   have a1:(j.toNat*4294967296+A.toNat+1)*K<=(q.toNat*4294967296)*K:=aR _ (by omega)
   have a2:val v<(j.toNat*4294967296+A.toNat+1)*K:=by rw[eV,aW (j.toNat*4294967296+A.toNat) 1 K,cL]; exact Nat.add_lt_add_left J _
   have a4:=aR K (show 4294967296*(q.toNat*4294967296)<=h*4294967296+y.toNat by omega)
   rw[aF 4294967296]at a4
   omega
  ·exact N
 have Y:¬j.toUInt64=0:=by
  intro h0
  have:=cv UInt64.toNat h0
  rw[dF]at this
  simp at this
  omega
 obtain⟨H,hH⟩:∃H,(c9 q.toUInt64 32) ||| B.toUInt64=H:=⟨_,rfl⟩
 have Z:H.toNat=h:=by rw[<-hH,yG,<-hh]; omega
 have ab:(H / j.toUInt64).toNat=h / j.toNat:=by rw[fh,dF,Z]
 have ac:(H%j.toUInt64).toNat=h%j.toNat:=by rw[dH,dF,Z]
 have b8:=cQ h j.toNat
 have b9:=bM h (show 0<j.toNat by omega)
 obtain⟨g,hg,g1,g2⟩:=GJ v a j A y h K I (val (v.take (v.length - 2))) hn (by omega) hs G O V eV ag J (by omega) ap (by omega) _ (H / j.toUInt64) (H%j.toUInt64) rfl
  (by rw[ab,ac,aN]; omega) (by rw[ac]; omega) (by
   rw[ab]
   have a1:h+1<=(h / j.toNat+1)*j.toNat:=by rw[aW,aN (h / j.toNat)]; omega
   have a2:(h+1)*(4294967296*K)<=(h / j.toNat+1)*j.toNat*(4294967296*K):=aR _ a1
   have a3:(h / j.toNat+1)*(j.toNat*(4294967296*K))<=(h / j.toNat+1)*val v:=by
    refine bo _ ?_
    rw[eV,aW,aF]; omega
   have a4:(h*4294967296+y.toNat+1)*K<=(h+1)*(4294967296*K):=by
    rw[<-aF]; exact aR _ (by omega)
   rw[aW (h*4294967296+y.toNat) 1 K,cL]at a4
   rw[aF]at a2
   omega)
 refine⟨g,?_,g1,by rw[eU]; exact g2⟩
 have w1:wI ((v.length:Int) - 1)=((v.length - 1:Nat):Int):=by rw[aO (by omega) (by omega)]; omega
 unfold F.Wp
 rw[bv (show v.length<a.length by omega) 0,aa,w1,bv (show v.length - 1<a.length by omega) 0,aa,aM,R,U,hH,bv (show v.length - 1<v.length by omega) 0,aa,G,grd_true _ Y,aa,grd_true _ Y,hg]
def PtI (g:UInt64) (v p:Y0) (i:Nat) (s:UInt64×Y0):Prop:=
 s.2.length=p.length/\s.1.toNat<=4294967295/\val (s.2.take i)+4294967296^i*s.1.toNat=g.toNat*val (v.take i)
theorem Cx (v u q p:Y0) (j:Int) (g:UInt64) (hg:g.toNat<=4294967295) (hp:p.length=v.length+1) (hv:v.length<=4611686018427387900) :
  ∃p':Y0,p'.length=v.length+1/\val p'=g.toNat*val v/\loop (F.SJ v j u q g) (0,0,p) =
   af (slO u j (wI ((wI (j+(v.length:Int)))+1):Int)) fun A=>af (F.S5 A p') fun B=>
    if (!B)=true then (bj (af (slO u j (wI ((wI (j+(v.length:Int)))+1):Int)) fun J=>af (F.R4 u j.toNat ((wI ((wI (j+(v.length:Int)))+1):Int).toNat) p') fun G=>
     af (au q j) fun N=>bI (q.set j.toNat g.toUInt32) fun I=>bV (wI (j - 1),G.2,I,p'))) else bV (g - 1,p'):=by
 have R:∀(k i:Nat) (s:UInt64×Y0),i+k=v.length->PtI g v p i s->∃p':Y0,p'.length=v.length+1/\val p'=g.toNat*val v/\loop (F.SJ v j u q g) (s.1,(i:Int),s.2) =
   af (slO u j (wI ((wI (j+(v.length:Int)))+1):Int)) fun A=>af (F.S5 A p') fun B=>
    if (!B)=true then (bj (af (slO u j (wI ((wI (j+(v.length:Int)))+1):Int)) fun J=>af (F.R4 u j.toNat ((wI ((wI (j+(v.length:Int)))+1):Int).toNat) p') fun G=>
     af (au q j) fun N=>bI (q.set j.toNat g.toUInt32) fun I=>bV (wI (j - 1),G.2,I,p'))) else bV (g - 1,p'):=by
  intro k
  induction k with
  | zero=>
   intro i s hi hs
   obtain⟨U,g2,g3⟩:=hs
   have:i=v.length:=by omega
   subst this
   refine⟨s.2.set v.length s.1.toUInt32,by simp; omega,?_,cU ?_⟩
   ·have e0:(s.2.set v.length s.1.toUInt32)=(s.2.set v.length s.1.toUInt32).take (v.length+1):=by rw[aA (by simp; omega)]
    have O:(s.2.set v.length s.1.toUInt32).getD v.length 0=s.1.toUInt32:=by
     rw[ao,dt (by omega)]; rfl
    rw[e0,cR,O,fC (by omega),jQ,ax (by omega),g3,aA (av _)]
   ·unfold F.SJ
    dsimp only
    rw[ae (by rw[ar]; omega),bv (show v.length<s.2.length by omega) 0,aa,aM,aq]
  | succ k ih=>
   intro i s hi hs
   obtain⟨U,g2,g3⟩:=hs
   have w2:wI ((i:Int)+1)=((i+1:Nat):Int):=by rw[aO (by omega) (by omega)]; rfl
   obtain⟨t,V⟩:∃t,s.1+(g*(v.getD i 0).toUInt64)=t:=⟨_,rfl⟩
   have X:F.SJ v j u q g (s.1,(i:Int),s.2)=some (.inl (bb t 32,((i+1:Nat):Int),s.2.set i t.toUInt32)):=by
    unfold F.SJ
    dsimp only
    rw[ah (aj (by omega)),bv (show i<v.length by omega) 0,aa,aM,V,bv (show i<s.2.length by omega) 0,aa,aM,w2,aq]; rfl
   rw[bB X]
   have x2:=eH (v.getD i 0)
   have aS:=dW hg (show (v.getD i 0).toNat<=4294967295 by omega)
   have Y:(g*(v.getD i 0).toUInt64).toNat=g.toNat*(v.getD i 0).toNat:=by rw[rZ _ _ (by rw[dF]; omega),dF]
   have m3:t.toNat=s.1.toNat+g.toNat*(v.getD i 0).toNat:=by rw[<-V,kY _ _ (by rw[Y]; omega),Y]
   have Z:(bb t 32).toNat=t.toNat / 4294967296:=by rw[iO]; rfl
   refine ih (i+1) (bb t 32,s.2.set i t.toUInt32) (by omega) ⟨by simpa using U,by show (bb t 32).toNat<=_; rw[Z]; omega,?_⟩
   show val ((s.2.set i t.toUInt32).take (i+1))+_*(bb t 32).toNat=_
   have O:(s.2.set i t.toUInt32).getD i 0=t.toUInt32:=by
    rw[ao,dt (by omega)]; rfl
   rw[cR,O,fC (by omega),jQ,cR v i,aG,<-g3,Z,bn]
   obtain⟨y,hP⟩:∃y,(4294967296:Nat)^i=y:=⟨_,rfl⟩
   rw[hP]
   have hd:=cQ t.toNat 4294967296
   have e3:y*(t.toNat%4294967296)+y*4294967296*(t.toNat / 4294967296)=y*t.toNat:=by
    rw[aF,<-aG,ch,hd]
   have e4:y*t.toNat=y*s.1.toNat+y*(g.toNat*(v.getD i 0).toNat):=by rw[m3,aG]
   have e5:g.toNat*(y*(v.getD i 0).toNat)=y*(g.toNat*(v.getD i 0).toNat):=by rw[cT]
   rw[e5]
   omega
 exact R v.length 0 (0,p) (by omega) ⟨rfl,eM _,by simp[val]⟩
theorem Dx (v u q:Y0) (j:Nat) (hj:j+v.length<u.length) (hq:j<q.length) (b4:u.length<=4611686018427387900) (b5:q.length<=4611686018427387900) (N:0<val v) (hu:val u<4294967296^(j+1)*val v) :
  ∀(m:Nat) (g:UInt64) (p:Y0),g.toNat=val u / 4294967296^j / val v+m->g.toNat<=4294967295->p.length=v.length+1 ->
   ∃(d:UInt64) (G y:Y0),loop (F.T6 v (j:Int) u q) (g,p)=some (.inl ((j:Int) - 1,G,q.set j d.toUInt32,y))/\y.length=v.length+1/\G.length=u.length/\d.toNat<=4294967295 /\
    val G+4294967296^j*(d.toNat*val v)=val u/\val G<4294967296^j*val v:=by
 have Y:=cG v
 have O:val u<4294967296^(j+v.length+1):=by
  have:=eO Y (eL (n:=j+1) (show 0<4294967296 by decide))
  rw[<-bW,show j+1+v.length=j+v.length+1 by omega]at this
  omega
 have Z:wI ((wI ((j:Int)+(v.length:Int)))+1)=((j+v.length+1:Nat):Int):=by
  rw[aO (x:=(j:Int)+(v.length:Int)) (by omega) (by omega),aO (by omega) (by omega)]; omega
 have wk:wI ((j:Int) - 1)=(j:Int) - 1:=aO (by omega) (by omega)
 have R:slO u (j:Int) ((j+v.length+1:Nat):Int)=some ((u.drop j).take (j+v.length+1 - j)):=kU (by omega) (by omega)
 have b6:((u.drop j).take (j+v.length+1 - j)).length=v.length+1:=by rw[aQ,bU]; omega
 have U:val ((u.drop j).take (j+v.length+1 - j))=val u / 4294967296^j:=by
  rw[jY]
  have:=gU (u.drop j) (v.length+1) (by rw[bU]; omega)
  rw[f6,show j+(v.length+1)=j+v.length+1 by omega,mz O,cK,bA]at this
  rw[show j+v.length+1 - j=v.length+1 by omega,this]
 obtain⟨M,B⟩:∃M,val u / 4294967296^j=M:=⟨_,rfl⟩
 have X:=eL (n:=j) (show 0<4294967296 by decide)
 intro m
 induction m with
 | zero=>
  intro g p A J hp
  rw[bA,B]at A
  obtain⟨y,p1,p2,p3⟩:=Cx v u q p (j:Int) g J hp (by omega)
  have ab:g.toNat*val v<=M:=by rw[A]; exact Nat.div_mul_le_self _ _
  have I:=Nat.div_mul_le_self (val u) (4294967296^j)
  rw[B,aN]at I
  have ac:=Nat.lt_div_mul_add X (a:=val u)
  rw[B,aN]at ac
  obtain⟨c,G,t1,t2,t3⟩:=AL u y j (j+v.length+1) (by omega) (by omega) (by omega) (by omega) O (by rw[p2]; exact bz (bo _ ab) I)
  refine⟨g,G,y,?_,p1,t2,J,by rw[<-p2]; exact t3,?_⟩
  ·refine cU ?_
   unfold F.T6
   dsimp only
   rw[p3,Z,R,aa,wV _ _ (by omega) (by omega),aa,U,B,p2,az (by omega),ah (by rfl),aa,aq,aq,t1,aa,bv hq 0,aa,aM,wk]
   rfl
  ·have h1:M<(g.toNat+1)*val v:=by
    rw[A]
    have:=Nat.lt_div_mul_add N (a:=M)
    rw[aW,cL]; exact this
   rw[aW,cL]at h1
   have h2:=bo (4294967296^j) (show M+1<=g.toNat*val v+val v by omega)
   rw[aG,cH,aG]at h2
   rw[p2]at t3
   omega
 | succ m ih=>
  intro g p A J hp
  rw[B]at A
  obtain⟨y,p1,p2,p3⟩:=Cx v u q p (j:Int) g J hp (by omega)
  have V:M<g.toNat*val v:=by
   rcases cj M (g.toNat*val v) with h | h
   ·exact h
   ·have:=(Nat.le_div_iff_mul_le N).2 h
    omega
  have ad:1<=g.toNat:=by
   rcases bS g.toNat with h | h
   ·rw[h,fN]at V; omega
   ·exact h
  have ag:(g - 1).toNat=g.toNat - 1:=by
   rw[fH _ _ (by rw[db]; exact ad)]; rfl
  have ap:F.T6 v (j:Int) u q (g,p)=some (.inl (g - 1,y)):=by
   unfold F.T6
   dsimp only
   rw[p3,Z,R,aa,wV _ _ (by omega) (by omega),aa,U,B,p2,aj V,ae (by decide)]
   rfl
  rw[bB ap]
  exact ih (g - 1) y (by rw[ag,B]; omega) (by omega) p1
theorem Ef (s:Int) (v u q p:Y0) (j:Nat) (hn:2<=v.length) (I:2147483648<=(v.getD (v.length - 1) 0).toNat) (X:j+v.length<u.length) (Y:j<q.length) (ap:u.length<=70368744177664) (aS:q.length<=70368744177664) (hp:p.length=v.length+1) (B:0<val v) (hu:val u<4294967296^(j+1)*val v) :
  ∃(d:UInt64) (y A:Y0),F.TJ s v ((j:Int),u,q,p)=some (.inl ((j:Int) - 1,y,q.set j d.toUInt32,A))/\A.length=v.length+1/\y.length=u.length/\d.toNat<=4294967295 /\
    val y+4294967296^j*(d.toNat*val v)=val u/\val y<4294967296^j*val v:=by
 have O:=cG v
 have R:val u<4294967296^(j+v.length+1):=by
  have:=eO O (eL (n:=j+1) (show 0<4294967296 by decide))
  rw[<-bW,show j+1+v.length=j+v.length+1 by omega]at this
  omega
 have Z:wI ((wI ((j:Int)+(v.length:Int)))+1)=((j+v.length+1:Nat):Int):=by
  rw[aO (x:=(j:Int)+(v.length:Int)) (by omega) (by omega),aO (by omega) (by omega)]; omega
 have U:slO u (j:Int) ((j+v.length+1:Nat):Int)=some ((u.drop j).take (j+v.length+1 - j)):=kU (by omega) (by omega)
 have V:((u.drop j).take (j+v.length+1 - j)).length=v.length+1:=by rw[aQ,bU]; omega
 have G:val ((u.drop j).take (j+v.length+1 - j))=val u / 4294967296^j:=by
  rw[jY]
  have:=gU (u.drop j) (v.length+1) (by rw[bU]; omega)
  rw[f6,show j+(v.length+1)=j+v.length+1 by omega,mz R,cK,bA]at this
  rw[show j+v.length+1 - j=v.length+1 by omega,this]
 have J:=eL (n:=j) (show 0<4294967296 by decide)
 have N:val u / 4294967296^j<4294967296*val v:=by
  rw[fg J,aN]
  rw[bn,aF]at hu
  exact hu
 obtain⟨g,g1,g2,g3⟩:=BX v _ hn V (by omega) I (by rw[G]; exact N)
 rw[G]at g3
 have bx:val u / 4294967296^j / val v<=g.toNat:=by
  have:=(fg B).2 g3
  omega
 obtain⟨d,y,A,r1,r2⟩:=Dx v u q j X Y (by omega) (by omega) B hu (g.toNat - val u / 4294967296^j / val v) g p (by omega) g2 hp
 refine⟨d,y,A,?_,r2⟩
 unfold F.TJ
 dsimp only
 rw[ah (aj (by omega)),Z,U,aa,g1,aa,r1]
theorem F6 (s:Nat) (v:Y0) (A:Nat) (hn:2<=v.length) (J:2147483648<=(v.getD (v.length - 1) 0).toNat) (hs:s<32) (I:0<val v) :
  ∀(k:Nat) (u q p:Y0),k+v.length<=u.length->k<=q.length->u.length<=70368744177664->q.length<=70368744177664->p.length=v.length+1->(∀i,i<k->q.getD i 0=0)->val q*val v+val u=A->val u<4294967296^k*val v ->
   ∃y j:Y0,loop (F.TJ (s:Int) v) ((k:Int) - 1,u,q,p)=some (y,(j,v.length))/\y.length=q.length/\j.length=u.length/\val y=A / val v/\val j=A%val v / 2^s:=by
 intro k
 induction k with
 | zero=>
  intro u q p X Y U N hp O G B
  rw[jg,cL]at B
  have eq:A / val v=val q:=by rw[<-G,ch,gz _ _ I,cp B,bh]
  have Z:A%val v=val u:=by rw[<-G,ch,gx,ax B]
  obtain⟨j,d1,d2,d3⟩:=yX u s hs (by omega)
  refine⟨q,j,cU ?_,rfl,d2,eq.symm,by rw[Z]; exact d3⟩
  unfold F.TJ
  dsimp only
  rw[ae (by decide),d1,aa,aq,grd_true _ ⟨by omega,by omega⟩]
 | succ k ih=>
  intro u q p X Y U N hp O G B
  have e1:(((k+1:Nat):Int)) - 1=(k:Int):=by omega
  obtain⟨d,j,p',r1,rp,r2,r5,r3,r4⟩:=Ef (s:Int) v u q p k hn J (by omega) (by omega) U N hp I B
  rw[e1,bB r1]
  obtain⟨y,V,z1,z2,z3,z4⟩:=ih j (q.set k d.toUInt32) p' (by omega) (by simp; omega) (by omega) (by simpa using N) rp (fun i hi=>by rw[g9 (by omega)]; exact O i (by omega)) (by
   have R:=je q k d.toUInt32 (by omega)
   rw[O k (by omega)]at R
   have z0:(0:UInt32).toNat=0:=rfl
   rw[z0,cK,bA]at R
   rw[R,jQ,ax (by omega),aW,aF,<-G]
   omega) r4
  exact⟨y,V,z1,by simpa using z2,by omega,z4⟩
theorem I0 (n k:Nat):(List.replicate n (0:UInt32)).getD k 0=0:=by
 rw[ao]
 by_cases hk:k<n <;> simp[hk]
theorem Hu (x y:Y0) (hy:2<=y.length) (J:y.getD (y.length - 1) 0≠0) (c5:y.length<=x.length) (hx:x.length<=50000000000000) :
  ∃q u:Y0,F.V6 x y=some (q,(u,y.length))/\q.length<=x.length+1/\u.length=x.length+1/\val q=val x / val y/\val u=val x%val y:=by
 obtain⟨j,N⟩:∃j,y.getD (y.length - 1) 0=j:=⟨_,rfl⟩
 rw[N]at J
 have X:j.toNat≠0:=fun h=>J (c7.1 h)
 obtain⟨b1,U⟩:=gR j.toNat
 obtain⟨U,b3⟩:=U X
 have b4:nb j.toNat<=32:=qB (eH j)
 obtain⟨s,hs⟩:∃s,s=32 - nb j.toNat:=⟨_,rfl⟩
 have B:s<32:=by omega
 have Y:F.Vw j=some (s:Int):=by
  unfold F.Vw
  rw[zk,aa,aO (by omega) (by omega)]; congr 1; omega
 have O:val y=val (y.take (y.length - 1))+4294967296^(y.length - 1)*j.toNat:=by
  have:=cR y (y.length - 1)
  rw[show y.length - 1+1=y.length by omega,aA (av _),N]at this
  exact this
 have Z:val (y.take (y.length - 1))<4294967296^(y.length - 1):=by
  have:=cG (y.take (y.length - 1))
  rwa [aQ,bm (by omega)]at this
 obtain⟨Q,G⟩:∃Q,(4294967296:Nat)^(y.length - 1)=Q:=⟨_,rfl⟩
 have ab:(4294967296:Nat)^y.length=4294967296*Q:=by
  have e:(4294967296:Nat)^(y.length - 1+1)=4294967296^(y.length - 1)*4294967296:=bn _ _
  rw[show y.length - 1+1=y.length by omega,G,aN]at e
  exact e
 rw[G]at O Z
 have ac:2^s*(j.toNat+1)<=4294967296:=by
  have A:2^s*(j.toNat+1)<=2^s*2^nb j.toNat:=bo _ b1
  rw[<-bW,show s+nb j.toNat=32 by omega]at A
  exact A
 have ad:2147483648<=2^s*j.toNat:=by
  have A:2^s*2^(nb j.toNat - 1)<=2^s*j.toNat:=bo _ U
  rw[<-bW,show s+(nb j.toNat - 1)=31 by omega]at A
  exact A
 have ag:2^s*val y<4294967296^y.length:=by
  have A:val y<(j.toNat+1)*Q:=by rw[O,aW,cL,aN Q]; omega
  have I:2^s*val y<2^s*((j.toNat+1)*Q):=eO A (dv s)
  rw[<-aF]at I
  have V:=aR Q ac
  rw[ab]; omega
 have dd:2147483648*Q<=2^s*val y:=by
  have A:=aR Q ad
  have I:2^s*j.toNat*Q<=2^s*val y:=by
   rw[aF]; refine bo _ ?_; rw[O,aN]; omega
  omega
 have df:0<Q:=by rw[<-G]; exact eL (by decide)
 obtain⟨v,v1,v2,v3⟩:=E1 (List.replicate y.length 0) y s B (by simp; omega) (by simp) (by rw[bd]; exact ag)
 have aS:2^s*val x<4294967296^(x.length+1):=by
  have A:=cG x
  have I:2^s<=4294967296:=cE (Nat.pow_lt_pow_right (a:=2) (m:=s) (n:=32) (by decide) B)
  have V:=aR (val x) I
  rw[bn]; omega
 obtain⟨u,u1,u2,u3⟩:=E1 (List.replicate (x.length+1) 0) x s B (by simp; omega) (by simp) (by rw[bd]; exact aS)
 rw[bd]at v2 u2
 have R:2147483648<=(v.getD (v.length - 1) 0).toNat:=by
  have e:=cR v (v.length - 1)
  rw[show v.length - 1+1=v.length by omega,aA (av _),v3]at e
  have hl:=cG (v.take (v.length - 1))
  rw[aQ,bm (by omega),show v.length - 1=y.length - 1 by omega,G]at hl
  rw[show v.length - 1=y.length - 1 by omega,G]at e
  rw[show v.length - 1=y.length - 1 by omega]
  rcases cj (v.getD (y.length - 1) 0).toNat 2147483648 with h | h
  ·have:=bo Q (show (v.getD (y.length - 1) 0).toNat<=2147483647 by omega)
   omega
  ·exact h
 have bT:0<val v:=by rw[v3]; omega
 have hk:val u<4294967296^(x.length - y.length+1)*val v:=by
  rw[u3,v3,cT]
  refine eO ?_ (dv s)
  have A:=cG x
  have I:Q<=val y:=by rw[O]; have:=dP Q (show 0<j.toNat by omega); omega
  have V:=bo (4294967296^(x.length - y.length+1)) I
  rw[<-G,<-bW,show x.length - y.length+1+(y.length - 1)=x.length by omega]at V
  omega
 obtain⟨q',u',l1,l2,l3,l4,l5⟩:=F6 s v (2^s*val x) (by omega) R B bT (x.length - y.length+1) u (List.replicate (x.length - y.length+1) 0) (List.replicate (y.length+1) 0) (by omega) (by simp) (by omega) (by simp; omega) (by simp; omega)
  (fun i _=>I0 _ _) (by rw[gn,u3]; omega) hk
 rw[bd]at l2
 refine⟨q',u',?_,by omega,by omega,?_,?_⟩
 rotate_left
 ·rw[l4,v3,Nat.mul_div_mul_left _ _ (dv s)]
 ·rw[l5,v3,Nat.mul_mod_mul_left,Nat.mul_div_cancel_left _ (dv s)]
 ·have w1:wI ((y.length:Int) - 1)=((y.length - 1:Nat):Int):=by rw[aO (by omega) (by omega)]; omega
  have w2:wI ((x.length:Int)+1)=((x.length+1:Nat):Int):=by rw[aO (by omega) (by omega)]; omega
  have w3:wI ((wI ((x.length:Int) - (v.length:Int)))+1)=((x.length - y.length+1:Nat):Int):=by
   rw[aO (x:=(x.length:Int) - (v.length:Int)) (by omega) (by omega),aO (by omega) (by omega)]; omega
  have w4:wI ((v.length:Int)+1)=((y.length+1:Nat):Int):=by rw[aO (by omega) (by omega)]; omega
  have w5:wI ((((x.length - y.length+1:Nat)):Int) - 1)=((x.length - y.length+1:Nat):Int) - 1:=aO (by omega) (by omega)
  unfold F.V6
  rw[w1,bv (show y.length - 1<y.length by omega) 0,aa,N,Y,aa,iR (by omega),aa,aq,v1,aa,w2,iR (by omega),aa,aq,u1,aa,w3,iR (by omega),aa,
   w4,iR (by omega),aa,aq,aq,bd,aM,w5,l1,v2]
theorem BL (u:UInt64):F.VT u=some (aw u.toNat):=by
 unfold F.VT
 obtain⟨m,j,y,q⟩:=jI [u.toUInt32,(bb u 32).toUInt32] (by simp)
 have hu:u.toNat<18446744073709551616:=u.toNat_lt
 have e:val [u.toUInt32,(bb u 32).toUInt32]=u.toNat:=by
  simp only[gg,iI,jQ,iO]
  rw[show (2:Nat)^min 32 64=4294967296 from rfl]
  omega
 rw[j,aa,q,e]
theorem F7 {n:Nat} (h:(aw n).length≠0):(aw n).getD ((aw n).length - 1) 0≠0:=by
 intro q
 obtain⟨l,hl⟩:∃l,aw n=l:=⟨_,rfl⟩
 have y:val l=n:=by rw[<-hl,aC]
 rw[hl]at h q
 have e:=cR l (l.length - 1)
 have z0:(0:UInt32).toNat=0:=rfl
 rw[show l.length - 1+1=l.length by omega,aA (av _),q,z0,cK,bA,y]at e
 have j:=cG (l.take (l.length - 1))
 rw[aQ,bm (by omega),<-e]at j
 have:=ca j
 rw[hl]at this
 omega
theorem pN (n:Nat):(aw n).length=0↔n=0:=by
 constructor
 ·intro h
  have:=aC n
  rw[aZ h]at this
  exact this.symm
 ·intro h; rw[h,c8]; rfl
theorem uQ (a b:Y0) (ha:a.length<=40000000000000) (hb:b.length<=40000000000000):F.Uo a b=some (if val b=0 then ([],[],60) else (aw (val a / val b),aw (val a%val b),0)):=by
 obtain⟨m,X,h2,Y⟩:=iZ a (by omega)
 obtain⟨m',Z,h5,h6⟩:=iZ b (by omega)
 have la:(aw (val a)).length<=a.length:=ca (cG a)
 have lb:(aw (val b)).length<=b.length:=ca (cG b)
 unfold F.Uo
 rw[X,aa,Z,aa,Y,h6]
 by_cases hb0:val b=0
 ·rw[ah (by rw[hb0,c8]; rfl),ah hb0]
 ·have J:(aw (val b)).length≠0:=fun h=>hb0 ((pN _).1 h)
  rw[ae (by rw[iF]; omega),ae hb0,nV a b (by omega) (by omega),aa]
  unfold jy
  by_cases hl:val a<val b
  ·have N:apO 4 [] (aw (val a))=some (aw (val a)):=by unfold apO; rw[ah (by simp; omega)]; simp
   rw[ah hl,ah (by decide),N,aa,cp hl,ax hl,c8]
  ·rw[ae hl,ae (by split <;> decide)]
   have O:(aw (val b)).length<=(aw (val a)).length:=jn (by omega)
   have A:=F7 J
   by_cases h11:(aw (val b)).length=1
   ·have y:val b=((aw (val b)).getD 0 0).toNat:=by
     have e:=cR (aw (val b)) 0
     rw[bh,aA (by omega),aC]at e
     simpa [val] using e
    obtain⟨q,r,B,s2,G,j⟩:=FG (aw (val a)) ((aw (val b)).getD 0 0) (by rw[<-y]; exact hb0) (by omega)
    rw[aC,<-y]at G j
    obtain⟨k,p1,p2,p3⟩:=jI q (by omega)
    rw[ah (by rw[iF]; omega),show (0:Int)=((0:Nat):Int) from rfl,bv (show 0<(aw (val b)).length by omega) 0,aa,B,aa]
    dsimp only
    rw[p1,aa,p3,BL,aa,dF,G,j]
   ·obtain⟨q,u,B,s2,G,j,I⟩:=Hu (aw (val a)) (aw (val b)) (by omega) A O (by omega)
    rw[aC,aC]at j I
    obtain⟨k,p1,p2,p3⟩:=jI q (by omega)
    obtain⟨k',p4,p5,p6⟩:=jI (u.take (aw (val b)).length) (by rw[aQ]; omega)
    have R:val (u.take (aw (val b)).length)=val u:=by
     have e:=gU u (aw (val b)).length (by omega)
     have U:val u<4294967296^(aw (val b)).length:=by
      have V:=cG (aw (val b))
      rw[aC]at V
      rw[I]
      exact gH (bM _ (by omega)) V
     rw[mz U,cK,bA]at e
     exact e.symm
    rw[ae (by rw[iF]; omega),B,aa]
    dsimp only
    rw[p1,aa,p4,aa,p3,p6,R,j,I]
end Go.Gk.Bn
end
section
namespace Go.Gk.Bn
open Go Go.Gk Go.Gk.Sh Go.Gk.Ec Go.Gk.Pr
theorem sm (a:Y0) (j:a.length<=40000000000000):F.Vm a=some (((nb (val a)+31) / 32:Nat):Int):=by
 have q:nb (val a)<=32*a.length:=bz (nk _) (bo 32 (ca (cG a)))
 unfold F.Vm
 rw[lB a (by omega),aa,aO (x:=((nb (val a):Nat):Int)+31) (by omega) (by omega),ce (by omega),aO (by omega) (by omega)]
 congr 1
def oA (l:List Y0) (m:Y0):Int:=if l.any (fun a=>decide (4096<nb (val a))) then 10 else if val m<2 then 60 else 0
theorem zT (l:List Y0) (k:Nat) (N:l.length=k+1) (J:k<=100) (hl:∀a∈l,a.length<=40000000000000):F.Sj l=some (oA l (l.getD k [])):=by
 have G:∀(n i:Nat),i+n=l.length->loop (F.S0 l) (i:Int)=some (oA (l.drop i) (l.getD k [])):=by
  intro n
  induction n with
  | zero=>
   intro i hi
   have:i=l.length:=by omega
   subst this
   have A:wI ((l.length:Int) - 1)=(k:Int):=by rw[aO (by omega) (by omega)]; omega
   have hm:(l.getD k []).length<=40000000000000:=by
    refine hl _ ?_
    rw[ao,aE (by omega)]
    exact cC _
   refine cU ?_
   unfold F.S0 oA
   dsimp only
   rw[ae (by rw[ar]; omega),A,bv (show k<l.length by omega) [],aa,lB _ (by omega),aa,ew]
   rw[ae (show ¬(List.any [] fun a=>decide (4096<nb (val a)))=true by simp)]
   congr 1
   by_cases h:val (l.getD k [])<2
   ·have:nb (val (l.getD k []))<=1:=qB (k:=1) h
    rw[ah h,ah (aj (by omega))]
   ·rw[ae h,ae]
    rw[ar]
    intro O
    have B:=(gR (val (l.getD k []))).1
    have R:=br (show 0<2 by decide) (show nb (val (l.getD k []))<=1 by omega)
    omega
  | succ n ih=>
   intro i hi
   have A:wI ((i:Int)+1)=((i+1:Nat):Int):=by rw[aO (by omega) (by omega)]; rfl
   obtain⟨a,j⟩:∃a,l.getD i []=a:=⟨_,rfl⟩
   have q:a.length<=40000000000000:=by
    refine hl _ ?_
    rw[<-j,ao,aE (by omega)]
    exact cC _
   have y:l.drop i=a :: l.drop (i+1):=by
    rw[bk (by omega)]
    congr 1
    rw[<-j,ao,aE (by omega)]; rfl
   by_cases B:4096<nb (val a)
   ·refine (cU (X:=some 10) ?_).trans ?_
    ·unfold F.S0
     dsimp only
     rw[ah (aj (by omega)),bv (show i<l.length by omega) [],aa,j,sm a q,aa,ah (aj (by omega))]
    ·unfold oA
     rw[y,ah (by simp[B])]
   ·have I:F.S0 l (i:Int)=some (.inl ((i+1:Nat):Int)):=by
     unfold F.S0
     dsimp only
     rw[ah (aj (by omega)),bv (show i<l.length by omega) [],aa,j,sm a q,aa,ae (by rw[ar]; omega),A]; rfl
    rw[bB I,ih (i+1) (by omega)]
    unfold oA
    rw[y,List.any_cons,az B,Bool.false_or]
 have:=G l.length 0 (by omega)
 rw[fj]at this
 exact this
theorem Ai {a b m:Y0} (j:nb (val a)<=4096) (q:nb (val b)<=4096) (hm:nb (val m)<=4096) (y:2<=val m) (A:a.length<=40000000000000) (B:b.length<=40000000000000) (G:m.length<=40000000000000):F.Sj [a,b,m]=some 0:=by
 rw[zT [a,b,m] 2 rfl (by decide) (by intro x hx; simp at hx; rcases hx with rfl | rfl | rfl <;> assumption)]
 unfold oA
 rw[ae (by simp; omega),ae (by show ¬val m<2; omega)]
theorem oL (a m:Y0) (j:a.length<=40000000000000) (hm:m.length<=40000000000000) (h:val m≠0):F.RM a m=some (aw (val a%val m)):=by
 unfold F.RM
 rw[uQ a m j hm,ae h,aa]
theorem tv {x y m:Nat} (hx:x<m) (B:y<m) (j:(aw m).length<=1000) (l:Y0) (hl:val l=m) (q:l.length<=40000000000000):F.To (aw x) (aw y) l=some (aw ((m - y+x)%m)):=by
 have lx:(aw x).length<=1000:=bz (jn (by omega)) j
 have G:(aw y).length<=1000:=bz (jn (by omega)) j
 unfold F.To F.Xi
 rw[sB _ _ (by omega) (by omega),aa,aC,aC]
 by_cases h:x<y
 ·have A:(aw (x+m)).length<=1001:=by
   have I:=rA x m
   have J:=jn (show x<=m by omega)
   omega
  rw[ah h,ah (by rfl),CG _ _ (by omega) q,aa,aC,hl,sB _ _ (by omega) (by omega),aa,aC,aC,ae (by omega),ax (by omega),show x+m - y=m - y+x by omega]
 ·rw[ae h,ae (show ¬(!true)=true by decide),show m - y+x=(x - y)+m by omega,Nat.add_mod_right,ax (by omega)]
section
variable (c:Int)
end
section
variable {c:Int}
theorem wW (hc:isC c) {P:Pt (cP c)} (hP:On (-3) (bF c) P) {k l:Nat} (h:k%cN c=l%cN c):Ec.mul (-3) k P=Ec.mul (-3) l P:=by
 rw[<-(ccv c).mul_mod hP (r7 c hc hP) k,h,(ccv c).mul_mod hP (r7 c hc hP)]
theorem Hh (hc:isC c) {P:Pt (cP c)} (hP:On (-3) (bF c) P) (k:Nat):Ec.mul (-3) (k%cN c) P=Ec.mul (-3) k P:=(ccv c).mul_mod hP (r7 c hc hP) k
theorem KG {n s w z:Nat} (hw:s*w%n=1):s*(z*w%n)%n=z%n:=by
 rw[jd,cT,dD,hw,cH,fL]
theorem Ay {n s w z:Nat} (hw:s*w%n=1):s*(z*w)%n=z%n:=(jd s (z*w) n).symm.trans (KG hw)
theorem yU {P:Pt (cP c)} (hP:On (-3) (bF c) P):Ec.add (-3) (neg P) P=none:=by rw[(ccv c).comm hP.neg hP,gi]
theorem mul_sub (hc:isC c) {P:Pt (cP c)} (hP:On (-3) (bF c) P) {u:Nat} (hu:u<=cN c):Ec.mul (-3) (cN c - u) P=neg (Ec.mul (-3) u P):=by
 have C:=ccv c
 refine C.add_right (R:=Ec.mul (-3) u P) (C.on_mul hP _) (C.on_mul hP _).neg (C.on_mul hP _) ?_
 rw[<-C.mul_add hP,Nat.sub_add_cancel hu,r7 c hc hP,yU (C.on_mul hP _)]
theorem GR (hc:isC c) {G R:Pt (cP c)} (y:On (-3) (bF c) G) (A:On (-3) (bF c) R) {r s z j q:Nat} (B:r*j%cN c=1) (hs:s*q%cN c=1) :
  Ec.add (-3) (Ec.mul (-3) (z*q%cN c) G) (Ec.mul (-3) (r*q%cN c) (Ec.add (-3) (Ec.mul (-3) ((cN c - z*j%cN c)%cN c) G) (Ec.mul (-3) (s*j%cN c) R)))=R:=by
 have C:=ccv c
 have I:=(qA c).1
 have J:Ec.mul (-3) ((cN c - z*j%cN c)%cN c) G=neg (Ec.mul (-3) (z*j) G):=by
  rw[Hh hc y,mul_sub hc y (cE (bM _ (by omega))),Hh hc y]
 have a1:=C.on_mul y (z*j); have a2:=C.on_mul A (s*j%cN c); have a3:=C.on_mul y (z*q)
 rw[J,C.mul_sum a1.neg a2,C.mul_neg a1,<-C.mul_mul y,<-C.mul_mul A]
 have N:Ec.mul (-3) (r*q%cN c*(z*j)) G=Ec.mul (-3) (z*q) G:=by
  refine wW hc y ?_
  rw[Nat.mod_mul_mod,show r*q*(z*j)=r*((z*q)*j) by simp only[aF,cT,aN],Ay B]
 have O:Ec.mul (-3) (r*q%cN c*(s*j%cN c)) R=R:=by
  refine (wW (l:=1) hc A ?_).trans (mul_one R)
  rw[Nat.mod_mul_mod,jd,show r*q*(s*j)=r*((s*q)*j) by simp only[aF,cT,aN],Ay B,hs,ax I]
 rw[N,O,Hh hc y,<-C.assoc a3 a3.neg A,gi]
 rfl
end
end Go.Gk.Bn
end
section
namespace Go.Gk.Bn
open Go Go.Gk Go.Gk.Sh
theorem BC {m x y:Nat} (hm:m%2=1) (h:2*x%m=2*y%m):x%m=y%m:=by
 have j:∀x:Nat,x%m=((m+1) / 2*(2*x%m))%m:=fun x=>by
  rw[jd,<-aF,show (m+1) / 2*2=m+1 by omega,aW,cL,Nat.mul_add_mod]
 rw[j x,j y,h]
theorem BE {m x y v:Nat} (h:(x+v)%m=(y+v)%m):x%m=y%m:=by
 rcases bS m with q | q
 ·subst q; rw[Nat.mod_zero,Nat.mod_zero]at h ⊢; omega
 ·have j:∀x:Nat,x%m=((x+v)%m+v*(m - 1))%m:=fun x=>by
   rw[Nat.mod_add_mod]
   have:x+v+v*(m - 1)=x+v*m:=by
    obtain⟨k,A⟩:∃k,m=k+1:=⟨m - 1,by omega⟩
    rw[A,fo,aG,cH]; omega
   rw[this,gx]
  rw[j x,j y,h]
def nP (x m:Nat):Nat:=if x%2=1 then (x+m) / 2 else x / 2
theorem zP {x m:Nat} (hx:x<m):nP x m<m:=by unfold nP; split <;> omega
theorem EY {x m:Nat} (hm:m%2=1):2*nP x m%m=x%m:=by
 unfold nP
 split
 ·rw[show 2*((x+m) / 2)=x+m by omega,Nat.add_mod_right]
 ·rw[show 2*(x / 2)=x by omega]
theorem qT {m a u p:Nat} (hm:m%2=1) (hu:u%2=0) (h:p*a%m=u%m):nP p m*a%m=u / 2%m:=by
 refine BC hm ?_
 rw[<-aF,dD,EY hm,<-dD,h,show 2*(u / 2)=u by omega]
theorem rv {m a u v p q:Nat} (A:q<=m) (B:v<=u) (j:p*a%m=u%m) (y:q*a%m=v%m):(m - q+p)%m*a%m=(u - v)%m:=by
 refine BE (v:=v) ?_
 rw[show u - v+v=u by omega,<-j,Nat.add_mod,Nat.mod_mul_mod,<-y,<-Nat.add_mod,<-aW,show m - q+p+q=m+p by omega,aW,aN m,Nat.mul_add_mod_self_right]
theorem tT {u v:Nat} (hu:u%2=0) (q:v%2=1):Nat.gcd (u / 2) v=Nat.gcd u v:=by
 apply Nat.dvd_antisymm
 ·refine Nat.dvd_gcd ?_ (iG _ _)
  exact Nat.dvd_trans (Nat.gcd_dvd_left _ _) ⟨2,by omega⟩
 ·refine Nat.dvd_gcd ?_ (iG _ _)
  have y:Nat.gcd u v ∣ 2*(u / 2):=by rw[show 2*(u / 2)=u by omega]; exact Nat.gcd_dvd_left _ _
  refine Nat.Coprime.dvd_of_dvd_mul_left ?_ y
  have A:Nat.gcd (Nat.gcd u v) 2 ∣ 2:=iG _ _
  have B:Nat.gcd (Nat.gcd u v) 2 ∣ v:=Nat.dvd_trans (Nat.gcd_dvd_left _ _) (iG _ _)
  have j:Nat.gcd (Nat.gcd u v) 2 ∣ v%2:=(Nat.dvd_mod_iff A).2 B
  rw[q]at j
  exact Nat.eq_one_of_dvd_one j
theorem ww {u v:Nat} (h:v<=u):Nat.gcd (u - v) v=Nat.gcd u v:=Nat.gcd_sub_self_left h
theorem PF (x:UInt32):((x &&& 1) == 1)=decide (x.toNat%2=1):=by
 have h:(x &&& 1).toNat=x.toNat%2:=by
  rw[UInt32.toNat_and]
  exact Nat.and_one_is_mod _
 by_cases h1:x.toNat%2=1
 ·rw[aj h1,iF]
  apply c7.1
  rw[h,h1]; rfl
 ·rw[az h1]
  apply Bool.eq_false_iff.2
  intro j
  rw[iF]at j
  rw[j]at h
  exact h1 h.symm
theorem n9 (l:Y0) (hl:l.length<=4611686018427387904):F.Ss l 0=some (decide (val l%2=1)):=by
 have w0:wI (Int.tdiv 0 32)=((0:Nat):Int):=by decide
 have t0:Int.tmod 0 32=0:=by decide
 unfold F.Ss
 rw[ah (by decide),w0,t0]
 by_cases h:l.length=0
 ·rw[ae (by rw[ar]; omega),aZ h]; rfl
 ·rw[ah (aj (by omega)),bv (show 0<l.length by omega) 0,aa,grd_true _ (by decide)]
  have e:ff (l.getD 0 0) (0:Int).toNat=l.getD 0 0:=by
   apply c7.1
   unfold ff
   rw[dm]
   have:=eH (l.getD 0 0)
   rw[show min (0:Int).toNat 32=0 from rfl,jg,Nat.div_one]
   omega
  rw[e,PF]
  congr 2
  match l,h with
  | x :: r,_=>
   rw[gg]
   show (x.toNat%2=1)=((x.toNat+4294967296*val r)%2=1)
   rw[show (x.toNat+4294967296*val r)%2=x.toNat%2 by omega]
theorem sk (l:Y0) (hl:l.length<=40000000000000):F.R2 l 1=some (aw (val l / 2)):=by
 obtain⟨m,y,J,A⟩:=iZ l (by omega)
 have N:(aw (val l)).length<=l.length:=ca (cG l)
 have w0:wI (Int.tdiv (max 1 0) 32)=((0:Nat):Int):=by decide
 have B:Int.tmod (max 1 0) 32=((1:Nat):Int):=by decide
 unfold F.R2
 rw[y,aa,A,w0,B]
 by_cases h:(aw (val l)).length=0
 ·have:val l=0:=(pN _).1 h
  rw[ah (aj (by omega)),this,Nat.zero_div,c8]
 ·have j:apO 4 [] (aw (val l))=some (aw (val l)):=by unfold apO; rw[ah (by simp; omega)]; simp
  obtain⟨G,I,O,q⟩:=yX (aw (val l)) 1 (by decide) (by omega)
  rw[aC,Nat.pow_one]at q
  obtain⟨k,p1,p2,p3⟩:=jI G (by omega)
  rw[ae (by rw[ar]; omega),zn (by omega),aa,fj,j,aa,I,aa,p1,aa,p3,q]
theorem Co (x m:Y0) (hx:x.length<=1000) (hm:m.length<=1000):F.Uk x m=some (aw (nP (val x) (val m))):=by
 have j:(aw (val x+val m)).length<=1001:=by
  have q:=rA (val x) (val m)
  have y:(aw (val x)).length<=x.length:=ca (cG x)
  have A:(aw (val m)).length<=m.length:=ca (cG m)
  omega
 unfold F.Uk nP
 rw[n9 x (by omega),aa]
 by_cases h:val x%2=1
 ·rw[ah (aj h),ah h,CG x m (by omega) (by omega),aa,sk _ (by omega),aa,aC]
 ·rw[ae (by rw[ar]; exact h),ae h,sk x (by omega),aa]
def sub3 (m u v p q:Nat):Y0×Y0×Y0×Y0:=
 if v<=u then (aw (u - v),aw v,aw ((m - q+p)%m),aw q) else (aw u,aw (v - u),aw p,aw ((m - p+q)%m))
theorem gB {n m k:Nat} (h:n<=m) (hm:(aw m).length<=k):(aw n).length<=k:=bz (jn h) hm
theorem Nc {m a u p:Nat} (hm:m%2=1) (B:(aw m).length<=900) (G:u<=m) (hp:p<m) :
  ∀v q,0<v->v<=m->q<m->q*a%m=v%m->∃j y,0<j/\j<=v/\y<m/\y*a%m=j%m/\(u%2=1->Nat.gcd u j=Nat.gcd u v) /\
   loop (F.U9 (aw m) (aw u) (aw p)) (aw v,aw q)=some (.inl (sub3 m u j p y)):=by
 intro v
 induction v using Nat.strongRecOn with
 | _ v ih=>
  intro q N I A h
  have O:=gB I B
  have R:=gB (cE A) B
  have U:=gB G B
  have V:=gB (cE hp) B
  by_cases ho:v%2=1
  ·refine⟨v,q,N,av _,A,h,fun _=>rfl,?_⟩
   refine bP ?_
   unfold F.U9 sub3
   dsimp only
   rw[n9 _ (by omega),aa,aC,ae (by rw[aj ho]; decide),nV _ _ (by omega) (by omega),aa,aC,aC]
   by_cases hc:v<=u
   ·have hz:0<=jy u v:=by
     unfold jy
     rw[ae (by omega)]
     split <;> decide
    rw[ah (aj hz),ah hc,sB _ _ (by omega) (by omega),aa,aC,aC,ae (by omega),tv hp A (by omega) (aw m) (aC m) (by omega),aa]
    rfl
   ·have hz:¬0<=jy u v:=by
     unfold jy
     rw[ah (by omega)]
     decide
    rw[ae (by rw[ar]; exact hz),ae hc,sB _ _ (by omega) (by omega),aa,aC,aC,ae (by omega),tv A hp (by omega) (aw m) (aC m) (by omega),aa]
    rfl
  ·have J:v%2=0:=by omega
   obtain⟨j,y,a1,a2,a3,a4,a5,a6⟩:=ih (v / 2) (by omega) (nP q m) (by omega) (by omega) (zP A) (qT hm J h)
   refine⟨j,y,a1,by omega,a3,a4,fun hu=>?_,?_⟩
   ·rw[a5 hu,fT,tT J hu,fT]
   ·refine Eq.trans (bB ?_) a6
    unfold F.U9
    dsimp only
    rw[n9 _ (by omega),aa,aC,ah (by rw[az ho]; decide),sk _ (by omega),aa,aC,Co _ _ (by omega) (by omega),aa,aC,aC]
    rfl
theorem NZ {m a v q:Nat} (hm:m%2=1) (B:(aw m).length<=900) (X:0<v) (J:v<=m) (R:q<m) (U:q*a%m=v%m) :
  ∀u p,0<u->u<=m->p<m->p*a%m=u%m->Nat.gcd u v%2=1->∃y j G A,0<y/\y<=u/\G<m/\G*a%m=y%m/\0<j/\j<=v/\A<m/\A*a%m=j%m /\
   Nat.gcd y j=Nat.gcd u v/\loop (F.Wg (aw m) (aw v) (aw q)) (aw u,aw p)=some (.inl (sub3 m y j G A)):=by
 intro u
 induction u using Nat.strongRecOn with
 | _ u ih=>
  intro p hu N hp h Y
  have lv:=gB J B
  have lq:=gB (cE R) B
  have lu:=gB N B
  have lp:=gB (cE hp) B
  by_cases ho:u%2=1
  ·obtain⟨j,A,a1,a2,a3,a4,a5,a6⟩:=Nc (a:=a) hm B N hp v q X J R U
   refine⟨u,j,p,A,hu,av _,hp,h,a1,a2,a3,a4,a5 ho,?_⟩
   refine cU ?_ |>.trans a6
   unfold F.Wg
   dsimp only
   rw[n9 _ (by omega),aa,aC,ae (by rw[aj ho]; decide)]
  ·have I:u%2=0:=by omega
   have O:v%2=1:=by
    apply fb
    intro hc
    have d1:2 ∣ Nat.gcd u v:=Nat.dvd_gcd (eX I) (eX (by omega))
    omega
   obtain⟨y,j,G,A,b1,b2,Z,b4,b5,b6,b7,b8,b9,V⟩:=ih (u / 2) (by omega) (nP p m) (by omega) (by omega) (zP hp) (qT hm I h) (by rw[tT I O]; exact Y)
   refine⟨y,j,G,A,b1,by omega,Z,b4,b5,b6,b7,b8,by rw[b9,tT I O],?_⟩
   refine Eq.trans (bB ?_) V
   unfold F.Wg
   dsimp only
   rw[n9 _ (by omega),aa,aC,ah (by rw[az ho]; decide),sk _ (by omega),aa,aC,Co _ _ (by omega) (by omega),aa,aC,aC]
   rfl
theorem M4 {m a:Nat} (hm:m%2=1) (Z:(aw m).length<=900):∀n u v p q,u+v<=n->u<=m->0<v->v<=m->p<m->q<m->p*a%m=u%m->q*a%m=v%m->Nat.gcd u v%2=1 ->
  ∃x,x<m/\x*a%m=Nat.gcd u v%m/\loop (F.Uu (aw m)) (aw u,aw v,aw p,aw q)=some (aw (Nat.gcd u v),aw x):=by
 intro n
 induction n with
 | zero=>intro u v p q h1 h2 h3; omega
 | succ n ih=>
  intro u v p q hn J hv ab hp hq ad N R
  have lu:=gB J Z
  by_cases hu:u=0
  ·subst hu
   rw[Nat.gcd_zero_left]
   refine⟨q,hq,N,?_⟩
   refine bP ?_
   unfold F.Uu
   dsimp only
   rw[lB _ (by omega),aa,aC,kL]
   rfl
  ·obtain⟨j,y,G,I,b1,b2,b3,U,b5,b6,b7,V,X,ag⟩:=NZ (a:=a) hm Z hv ab hq N u p (by omega) J hp ad R
   have hs:F.Uu (aw m) (aw u,aw v,aw p,aw q)=some (.inl (sub3 m j y G I)):=by
    unfold F.Uu
    dsimp only
    have:=(gR u).2 hu
    rw[lB _ (by omega),aa,aC,ah (aj (by omega)),ag]
   have O:0<m:=by omega
   rw[bB hs]
   unfold sub3
   by_cases hc:y<=j
   ·rw[ah hc]
    obtain⟨x,Y,A,B⟩:=ih (j - y) y ((m - I+G)%m) I (by omega) (by omega) b5 (by omega) (bM _ O) b7 (rv (by omega) hc U V) V (by rw[ww hc,X]; exact R)
    rw[ww hc,X]at A B
    exact⟨x,Y,A,B⟩
   ·rw[ae hc]
    have e:Nat.gcd j (y - j)=Nat.gcd u v:=by rw[fT,ww (by omega),fT,X]
    obtain⟨x,Y,A,B⟩:=ih j (y - j) G ((m - G+I)%m) (by omega) (by omega) (by omega) (by omega) b3 (bM _ O) U (rv (by omega) (by omega) V U) (by rw[e]; exact R)
    rw[e]at A B
    exact⟨x,Y,A,B⟩
theorem LZ (a:Y0) (m:Nat) (y:1<m) (hm:m%2=1) (R:nb m<=4096) (A:(aw m).length<=900) (U:nb (val a)<=4096) (B:a.length<=40000000000000) (J:Nat.gcd (val a) m=1) :
  ∃w,w<m/\val a*w%m=1/\F.Te a (aw m)=some (aw w,0):=by
 have hw:F.Sj [a,aw m]=some 0:=by
  have hl:∀x∈[a,aw m],x.length<=40000000000000:=by
   intro x hx
   simp only[aJ,aU,bH]at hx
   rcases hx with h | h
   ·rw[h]; exact B
   ·rw[h]; omega
  rw[zT [a,aw m] 1 rfl (by decide) hl]
  unfold oA
  rw[ae]
  ·rw[show [a,aw m].getD 1 []=aw m from rfl,aC,ae (by omega)]
  ·simp only[List.any_cons,List.any_nil,Bool.or_false,fW,ar,aC]
   omega
 have j:Nat.gcd (val a%m) m=1:=by rw[<-J,<-Nat.gcd_rec,fT]
 obtain⟨x,q,G,I⟩:=M4 (a:=val a%m) hm A (val a%m+m) (val a%m) m 1 0 (av _) (cE (bM _ (by omega))) (by omega) (av _) y (by omega) (by rw[cL]) (by rw[fN,Nat.mod_self,jl]) (by rw[j])
 rw[j,ax y]at G
 rw[j]at I
 have N:aw 1=[1]:=by rw[mc (by decide),show 1 / 4294967296=0 by decide,c8]; rfl
 refine⟨x,q,?_,?_⟩
 ·rw[<-G,aN,jd]
 ·have lx:=gB (cE q) A
  unfold F.Te
  rw[hw,aa,ae (by decide),oL a _ B (by omega) (by rw[aC]; omega),aC,aa,n9 _ (by omega),aC,aa,ah (aj hm)]
  have O:F.UV (aw (val a%m)) (aw m)=some ([1],aw x):=by
   unfold F.UV
   rw[<-N,<-c8]at *
   exact I
  rw[O,aa]
  dsimp only
  rw[nV _ _ (by decide) (by decide),xy,aa,ae (by decide),oL _ _ (by omega) (by omega) (by rw[aC]; omega),aC,aC,ax q,aa]
end Go.Gk.Bn
end
section
namespace Go.Gk.Bn
open Go Go.Gk Go.Gk.Sh Go.Gk.Ec Go.Gk.Pr
theorem yI {n:Nat} (h:nb n<=4096):(aw n).length<=128:=by
 have j:=(gR n).1
 have q:=br (show 0<2 by decide) (show nb n<=32*128 by omega)
 refine ca ?_
 rw[show (4294967296:Nat)=2^32 from rfl,<-dh]
 exact bg j q
theorem sD (a b:Y0) (m:Nat) (B:1<m) (hm:nb m<=4096) (j:nb (val a)<=4096) (q:nb (val b)<=4096) (G:a.length<=40000000000000) (I:b.length<=40000000000000) (J:(aw m).length<=900) :
  F.SG a b (aw m)=some (aw (val a*val b%m),0):=by
 have N:=yI j
 have O:=yI q
 have hs:(aw (val a*val b)).length<=256:=ca (by
  have y:=cG (aw (val a)); have A:=cG (aw (val b))
  rw[aC]at y A
  have:=Nat.mul_lt_mul'' y A
  rw[<-bW]at this
  exact bg this (br (by decide) (by omega)))
 unfold F.SG
 rw[Ai j q (by rw[aC]; omega) (by rw[aC]; omega) (by omega) (by omega) (by omega),aa,ae (by decide),K8 _ _ (by omega) (by omega) (by omega),aa,
  oL _ _ (by omega) (by omega) (by rw[aC]; omega),aa,aC,aC]
theorem J9 (b:Y0) (m:Nat) (A:1<m) (hm:nb m<=4096) (q:nb (val b)<=4096) (B:b.length<=1000) (G:(aw m).length<=900) :
  F.V7 [] b (aw m)=some (aw ((m - val b%m)%m),0):=by
 have j:(aw 0)=[]:=c8
 have e:=tv (x:=0) (y:=val b%m) (m:=m) (by omega) (bM _ (by omega)) (by omega) (aw m) (aC m) (by omega)
 rw[j,bA]at e
 unfold F.V7
 rw[Ai (by rw[iI,kL]; omega) q (by rw[aC]; omega) (by rw[aC]; omega) (by decide) (by omega) (by omega),aa,ae (by decide),
  oL _ _ (by decide) (by omega) (by rw[aC]; omega),aa,oL _ _ (by omega) (by omega) (by rw[aC]; omega),aa,aC,iI,jl,j,e,aa]
theorem mL (c:Int):1<cN c/\nb (cN c)<=4096/\(aw (cN c)).length<=12/\cN c<cP c/\cP c<4294967296^12:=by
 have h:=jZ c
 have l:=CY c (cE h.2.2.1)
 exact⟨(qA c).1,bz (Jr l) (by decide),l,h.2.2.1,h.1⟩
theorem Me (c:Int):cN c%2=1:=by
 unfold cN
 split <;> decide +kernel
theorem Mc {c:Int} {s:Nat} (j:0<s) (h:s<cN c):Nat.gcd s (cN c)=1:=by
 rw[fT]
 exact (qA c).coprime fun hd=>by have:=fa j hd; omega
theorem kg {c:Int} {s:Nat} (h:s<cN c):nb s<=384:=by
 have j:=Jr (gB (cE h) (mL c).2.2.1)
 omega
theorem ED {n s w v:Nat} (hw:w<n) (q:v<n) (y:s*w%n=1) (A:s*v%n=1):w=v:=by
 have B:s*w*v%n=v%n:=by rw[dD,y,cL,fL]
 have j:s*w*v%n=w%n:=by rw[show s*w*v=(s*v)*w by rw[aF,aN w,<-aF],dD,A,cL,fL]
 rw[B,ax q,ax hw]at j
 exact j.symm
open Classical in
noncomputable def mp (c:Int) (s:Nat):Nat:=if h:∃w,w<cN c/\s*w%cN c=1 then Classical.choose h else 0
theorem KB {c:Int} {s w:Nat} (hw:w<cN c) (h:s*w%cN c=1):mp c s=w:=by
 have hx:∃w,w<cN c/\s*w%cN c=1:=⟨w,hw,h⟩
 unfold mp
 rw[dif_pos hx]
 have j:=Classical.choose_spec hx
 exact ED j.1 hw j.2 h
theorem vU {c:Int} {s:Nat} (l:Y0) (hl:val l=s) (j:l.length<=40000000000000) (q:0<s) (h:s<cN c):mp c s<cN c/\s*mp c s%cN c=1/\F.Te l (aw (cN c))=some (aw (mp c s),0):=by
 obtain⟨n1,y,A,_,_⟩:=mL c
 have B:=kg h
 obtain⟨w,a1,a2,a3⟩:=LZ l (cN c) n1 (Me c) y (by omega) (by rw[hl]; omega) j (by rw[hl]; exact Mc q h)
 rw[hl]at a2
 rw[KB a1 a2]
 exact⟨a1,a2,a3⟩
theorem xd {c:Int} {s:Nat} (j:0<s) (h:s<cN c):mp c s<cN c/\s*mp c s%cN c=1:=by
 have l:=gB (cE h) (mL c).2.2.1
 obtain⟨a1,a2,_⟩:=vU (c:=c) (aw s) (aC s) (by omega) j h
 exact⟨a1,a2⟩
abbrev isH (a:Int):Prop:=a=1\/a=2\/a=3
theorem Av (a:Int):F.RE a=some (if isH a then ((Sz a:Nat):Int) else 0):=by
 unfold F.RE isH
 by_cases h1:a=1
 ·subst h1; rfl
 ·by_cases h2:a=2
  ·subst h2; rfl
  ·by_cases h3:a=3
   ·subst h3; rfl
   ·rw[ae (by simpa using h1),ae (by simpa using h2),ae (by simpa using h3),ae (by omega)]
theorem uA (a:Int):32<=Sz a/\Sz a<=64:=by unfold Sz; split; decide; split <;> decide
theorem wU (a:Int) (D:Y3):(mi a D).length=Sz a:=by
 unfold mi uv
 split
 ·rename_i h
  unfold Jq
  have:=f8 (fun i (x:Y3)=>x.length=4*i) (fun x i=>x++q32 (((nE a (H0 a) (D++mD (Bk a) D) ((D++mD (Bk a) D).length / Bk a)).1).getD i 0)) (fun i x hx=>by simp only[ay,q32,cg,dw,hx]; omega) 8 0 [] rfl
  refine Eq.trans this ?_
  unfold Sz
  rw[ah h]
 ·rename_i h
  rw[aQ,Fm]; unfold Sz; rw[ae h]; split <;> rfl
def zN (h c:Int) (m:Y3):Nat:=beN ((mi h m).take (nS c))
theorem Ly (h:Int) (hh:isH h) (m:Y3) (hm:m.length<=900000000000000):F.TR h [m]=some (mi h m):=by
 rw[DF h hh [m] (by simp) (by simpa using hm)]
 simp
theorem uG (h c:Int) (hh:isH h) (hc:isC c) (m:Y3) (hm:m.length<=900000000000000):F.T4 h c m=some (aw (zN h c m)):=by
 obtain⟨n1,y,A⟩:=nS4 c
 have hl:=wU h m
 have hz:=uA h
 have e:(min ((mi h m).length:Int) ((nS c:Nat):Int)).toNat=min (Sz h) (nS c):=by omega
 have q:(mi h m).take (min (Sz h) (nS c))=(mi h m).take (nS c):=by
  rcases Nat.le_total (nS c) (Sz h) with j | j
  ·rw[Nat.min_eq_right j]
  ·rw[bm j,aA (by omega),aA (by omega)]
 unfold F.T4 zN
 rw[Ly h hh m hm,aa,vn,aa,ah hc,vz,e,grd_true _ ⟨by omega,by omega⟩,q,kn _ (by rw[aQ]; omega),aa]
theorem Ig (l:Y3):nb (beN l)<=8*l.length:=qB (by rw[<-Jj]; exact nq l)
theorem Jz (h c:Int) (m:Y3):nb (zN h c m)<=512/\(aw (zN h c m)).length<=100:=by
 have hl:=wU h m
 have hz:=uA h
 have j:((mi h m).take (nS c)).length<=64:=by rw[aQ]; omega
 have q:zN h c m<256^64:=bg (nq _) (br (by decide) j)
 have y:nb (zN h c m)<=8*_:=Ig _
 refine⟨by omega,ca (bg q (by decide +kernel))⟩
theorem oW (a n:Y0) (j:a.length<=100000000000000) (ln:n.length<=100000000000000):F.R8 a n=some (decide (0<val a/\val a<val n)):=by
 unfold F.R8
 rw[lB a j,aa]
 by_cases h:val a=0
 ·rw[h,kL,ae (by decide),az (by omega)]
 ·have:=(gR (val a)).2 h
  rw[ah (aj (by omega)),nV a n (by omega) (by omega),aa]
  unfold jy
  by_cases h2:val a<val n
  ·rw[ah h2,aj (show 0<val a/\val a<val n by omega)]; rfl
  ·rw[ae h2,az (show ¬(0<val a/\val a<val n) by omega)]
   split <;> rfl
theorem Qa (a b:Nat):(jy a b == 0)=decide (a=b):=by
 unfold jy
 by_cases h:a<b
 ·rw[ah h,az (by omega)]; rfl
 ·rw[ae h]
  by_cases h2:a=b
  ·rw[ah h2,aj h2]; rfl
  ·rw[ae h2,az h2]; rfl
theorem De (X Y:Y0) (j:Bool) (r n:Y0) (q:X.length<=40000000000000) (y:r.length<=40000000000000) (ln:n.length<=40000000000000) (hn:val n≠0) :
  F.Sw X Y j r n=some (!j&&decide (val X%val n=val r)):=by
 unfold F.Sw
 cases j with
 | true=>rfl
 | false=>
  have A:(aw (val X%val n)).length<=X.length:=gB (Nat.mod_le _ _) (ca (cG X))
  rw[ae (by decide),uQ X n q ln,ae hn,aa]
  dsimp only
  rw[nV _ _ (by omega) (by omega),aa,aC,Qa]
  rfl
def y6 {c:Int} (P:Pt (cP c)) (r:Nat):Bool:=match P with
 | none=>false
 | some (x,_)=>decide (x.val%cN c=r)
theorem H6 {c:Int} (P:Pt (cP c)) (r:Y0) (j:r.length<=40000000000000):F.Sw (rep P).1 (rep P).2.1 (rep P).2.2 r (aw (cN c))=some (y6 P (val r)):=by
 obtain⟨n1,A,B,_,_⟩:=mL c
 have hl:(rep P).1.length<=12:=by
  cases P with
  | none=>exact eM _
  | some q=>obtain⟨x,y⟩:=q; exact AB c x
 rw[De _ _ _ _ _ (by omega) j (by omega) (by rw[aC]; omega)]
 cases P with
 | none=>rfl
 | some q=>
  obtain⟨x,y⟩:=q
  show some (!false&&decide (val (rl x)%val (aw (cN c))=val r))=some (decide (x.val%cN c=val r))
  rw[rB,aC]
  rfl
noncomputable def Ir {c:Int} (z r w:Nat) (Q:Pt (cP c)):Pt (cP c):=Ec.add (-3) (Ec.mul (-3) (z*w%cN c) (gP c)) (Ec.mul (-3) (r*w%cN c) Q)
noncomputable def okE {c:Int} (z r s:Nat) (Q:Pt (cP c)):Bool:=y6 (Ir z r (mp c s) Q) r
def inN (c:Int) (r:Nat):Prop:=0<r/\r<cN c
instance (c:Int) (r:Nat):Decidable (inN c r):=inferInstanceAs (Decidable (0<r/\r<cN c))
noncomputable def rM (h c:Int) (x y m sig:Y3):Int:=
 if ¬isH h then 111 else if ¬((lD c x y).2.2.2=0) then 90 else if ¬(sig.length=2*nS c) then 91 else
 if ¬(inN c (beN (sig.take (nS c)))/\inN c (beN (sig.drop (nS c)))) then 91 else
 if okE (zN h c m) (beN (sig.take (nS c))) (beN (sig.drop (nS c))) (ke c (lD c x y).1 (lD c x y).2.1 (lD c x y).2.2.1)=true then 0 else 91
theorem K2 {c:Int} {x y:Y3} (h:(lD c x y).2.2.2=0):isC c/\lD c x y=(aw (beN x),aw (beN y),false,0)/\onS c (aw (beN x)) (aw (beN y)) false=true/\x.length=nS c/\y.length=nS c:=by
 unfold lD at h ⊢
 split at h
 ·rename_i hc
  rw[ah hc]
  refine⟨hc.1,rfl,?_,hc.2.1,hc.2.2.1⟩
  unfold onS
  rw[ah hc.1,aC,aC]
  exact hc.2.2.2
 ·exact absurd h (by decide)
theorem Fx (b:Bool):F.W9 b=some (if b=true then 91 else 0):=by cases b <;> rfl
theorem u9 {l:Y3} {k:Nat} (h:l.length<=k) (q:k<=48):(aw (beN l)).length<=100:=by
 have j:beN l<256^48:=bg (nq l) (br (by decide) (by omega))
 exact ca (bg j (by decide +kernel))
theorem xc {c:Int} {a k X Y:Y0} {q:Bool} (h:onS c X Y q=true) (j:nb (val a)<=1024) (y:nb (val k)<=1024) (G:a.length<=1000) (lk:k.length<=1000) (A:X.length<=35184372087808) (B:Y.length<=35184372087808) :
  F.Tt c a k X Y q=some (res (Ec.add (-3) (Ec.mul (-3) (val a) (gP c)) (Ec.mul (-3) (val k) (ke c X Y q)))):=by
 rw[EM c a k X Y q (by omega) (by omega) A B,II h j y]
theorem DQ (h c:Int) (x y m j:Y3) (hm:m.length<=900000000000000) (hs:j.length<=140737488351232):F.U8 h c x y m j=some (rM h c x y m j):=by
 obtain⟨n1,B,n3⟩:=nS4 c
 obtain⟨O,R,J,c4,c5⟩:=mL c
 unfold F.U8 rM
 rw[Av,aa]
 by_cases hh:isH h
 ·have hz:=uA h
  rw[ah hh,ae (show ¬(((Sz h:Nat):Int) == 0)=true by rw[iF]; omega),ae (dp hh),wM,aa]
  by_cases hd:(lD c x y).2.2.2=0
  ·obtain⟨hc,d1,d2,d3,d4⟩:=K2 hd
   rw[ae (by rw[hd]; decide),ae (dp hd),vn,aa,zr,aa,ah hc,ah hc,vz,show wI (2*((nS c:Nat):Int))=((2*nS c:Nat):Int) by rw[aO (by omega) (by omega)]; omega]
   by_cases hl:j.length=2*nS c
   ·have U:(j.take (nS c)).length=nS c:=by rw[aQ]; omega
    have V:(j.drop (nS c)).length=nS c:=by rw[bU]; omega
    have b1:=u9 (Nat.le_of_eq U) B
    have b2:=u9 (Nat.le_of_eq V) B
    have X:slO j ((nS c:Nat):Int) ((2*nS c:Nat):Int)=some (j.drop (nS c)):=by
     unfold slO
     rw[ah ⟨by omega,by omega,by omega⟩,aq,aq,aA (by omega)]
    rw[ae (by rw[hl]; simp),grd_true _ ⟨by omega,by omega,rfl⟩,X,aa,aq,kn _ (by omega),aa,kn _ (by omega),aa,oW _ _ (by omega) (by omega),aa,aC,aC,
     ae (dp hl)]
    have G:∀(x2:Y0×Y0×Bool×Int) (Y Z ab:Y0),F.VR h c m x2 Y Z ab true=some 91:=fun _ _ _ _=>rfl
    by_cases hr:inN c (beN (j.take (nS c)))
    ·have I:0<beN (j.take (nS c))/\beN (j.take (nS c))<cN c:=hr
     rw[aj I,ae (by decide),oW _ _ (by omega) (by omega),aa,aC,aC]
     by_cases hs2:inN c (beN (j.drop (nS c)))
     ·have A:0<beN (j.drop (nS c))/\beN (j.drop (nS c))<cN c:=hs2
      rw[aj A,ae (dp ⟨hr,hs2⟩)]
      obtain⟨N,w2,w3⟩:=vU (c:=c) (aw (beN (j.drop (nS c)))) (aC _) (by omega) A.1 A.2
      generalize hw:mp c (beN (j.drop (nS c)))=w at N w2 w3
      have nw:=kg N
      have lw:=gB (cE N) J
      have nr:=kg I.2
      obtain⟨z1,z2⟩:=Jz h c m
      have m1:zN h c m*w%cN c<cN c:=bM _ (by omega)
      have m2:beN (j.take (nS c))*w%cN c<cN c:=bM _ (by omega)
      have b3:=kg m1; have b4:=kg m2
      have b5:=gB (cE m1) J; have b6:=gB (cE m2) J
      unfold F.VR
      rw[ae (by decide),w3,aa,uG h c hh hc m hm,aa]
      dsimp only
      rw[sD _ _ _ O R (by rw[aC]; omega) (by rw[aC]; omega) (by omega) (by omega) (by omega),aa]
      rw[sD _ _ _ O R (by rw[aC]; omega) (by rw[aC]; omega) (by omega) (by omega) (by omega),aa,aC,aC,aC,d1]
      dsimp only
      rw[xc d2 (by rw[aC]; omega) (by rw[aC]; omega) (by omega) (by omega) (by have:=u9 (Nat.le_of_eq d3) B; omega) (by have:=u9 (Nat.le_of_eq d4) B; omega),aa,aC,aC]
      show (if ((0:Int) != 0)=true then _ else af (F.Sw (rep _).1 (rep _).2.1 (rep _).2.2 _ _) _)=_
      rw[ae (by decide),H6 _ _ (by omega),aa,Fx,aC]
      unfold okE Ir
      rw[hw]
      cases y6 (Ec.add (-3) (Ec.mul (-3) (zN h c m*w%cN c) (gP c)) (Ec.mul (-3) (beN (j.take (nS c))*w%cN c) (ke c (aw (beN x)) (aw (beN y)) false))) (beN (j.take (nS c))) <;> rfl
     ·rw[az (show ¬(0<beN (j.drop (nS c))/\beN (j.drop (nS c))<cN c) from hs2),ah (fun q=>hs2 q.2)]; exact G _ _ _ _
    ·rw[az (show ¬(0<beN (j.take (nS c))/\beN (j.take (nS c))<cN c) from hr),ah (by decide),ah (fun q=>hr q.1)]; exact G _ _ _ _
   ·rw[ah (by rw[iE]; omega),ah hl]
  ·rw[ah (by rw[iE]; exact hd),ah hd]
 ·rw[ae hh,ah (by decide),ah hh]
noncomputable def qq {c:Int} (z r s:Nat) (R:Pt (cP c)):Pt (cP c):=Ec.add (-3) (Ec.mul (-3) ((cN c - z*mp c r%cN c)%cN c) (gP c)) (Ec.mul (-3) (s*mp c r%cN c) R)
noncomputable def dJ {c:Int} (Q:Pt (cP c)):Y3×Y3×Int:=match Q with
 | none=>([],[],91)
 | some (x,y)=>(beB (nS c) x.val,beB (nS c) y.val,0)
noncomputable def vr (h c:Int) (m:Y3) (r s:Nat) (X Y:Y0) (inf:Bool):Y3×Y3×Int:=
 if ¬isH h then ([],[],111) else if ¬isC c then ([],[],90) else if ¬(inf=false/\onS c X Y inf=true) then ([],[],93) else
 if ¬(inN c r/\inN c s/\val X%cN c=r) then ([],[],91) else dJ (qq (zN h c m) r s (ke c X Y inf))
theorem BN (h c:Int) (m:Y3) (r s X Y:Y0) (j:Bool) (hm:m.length<=900000000000000) (lr:r.length<=35184372087808) (ls:s.length<=35184372087808) (O:X.length<=35184372087808) (R:Y.length<=35184372087808) :
  F.Vi h c m r s X Y j=some (vr h c m (val r) (val s) X Y j):=by
 obtain⟨n1,n2,n3⟩:=nS4 c
 obtain⟨J,N,G,c4,c5⟩:=mL c
 unfold F.Vi vr
 rw[Av,aa]
 by_cases hh:isH h
 ·have hz:=uA h
  rw[ah hh,ae (show ¬(((Sz h:Nat):Int) == 0)=true by rw[iF]; omega),ae (dp hh),vn,aa]
  by_cases hc:isC c
  ·rw[ah hc,vz,ae (show ¬(((nS c:Nat):Int) == 0)=true by rw[iF]; omega),ae (dp hc)]
   cases j with
   | true=>rw[ah rfl,ah (fun q=>by cases q.1)]; rfl
   | false=>
    rw[ae (by decide),OJ c X Y false O R,aa]
    unfold F.W6
    dsimp only
    by_cases ho:onS c X Y false=true
    ·rw[ho,ae (by decide),ae (dp ⟨rfl,rfl⟩),zr,aa,ah hc,oW _ _ (by omega) (by omega),aa,aC]
     have A:F.UA h c m r s X Y false (aw (cN c)) true=some ([],[],91):=rfl
     by_cases hr:inN c (val r)
     ·have B:0<val r/\val r<cN c:=hr
      rw[aj B,ae (by decide),oW _ _ (by omega) (by omega),aa,aC]
      by_cases hs:inN c (val s)
      ·have I:0<val s/\val s<cN c:=hs
       rw[aj I,ae (by decide),De _ _ _ _ _ (by omega) (by omega) (by omega) (by rw[aC]; omega),aa,aC]
       by_cases hf:val X%cN c=val r
       ·obtain⟨U,w2,w3⟩:=vU (c:=c) r rfl (by omega) B.1 B.2
        have nw:=kg U
        have lw:=gB (cE U) G
        have ns:=kg I.2
        obtain⟨z1,z2⟩:=Jz h c m
        have V:zN h c m*mp c (val r)%cN c<cN c:=bM _ (by omega)
        have Z:val s*mp c (val r)%cN c<cN c:=bM _ (by omega)
        have m3:(cN c - zN h c m*mp c (val r)%cN c)%cN c<cN c:=bM _ (by omega)
        have bx:=kg V; have bT:=kg Z; have b2:=kg m3
        have b3:=gB (cE V) G; have b4:=gB (cE Z) G; have b5:=gB (cE m3) G
        rw[aj hf,ae (dp ⟨hr,hs,hf⟩)]
        unfold F.UA
        rw[ae (by decide),w3,aa]
        dsimp only
        rw[sD _ _ _ J N (by omega) (by rw[aC]; omega) (by omega) (by omega) (by omega),aa,uG h c hh hc m hm,aa]
        rw[sD _ _ _ J N (by rw[aC]; omega) (by rw[aC]; omega) (by omega) (by omega) (by omega),aa,aC,aC]
        dsimp only
        rw[J9 _ _ J N (by rw[aC]; omega) (by omega) (by omega),aa,aC,fL]
        dsimp only
        rw[xc ho (by rw[aC]; omega) (by rw[aC]; omega) (by omega) (by omega) O R,aa,aC,aC]
        have ac:=AX ho
        have hQ:On (-3) (bF c) (qq (zN h c m) (val r) (val s) (ke c X Y false)):=(ccv c).on_add ((ccv c).on_mul (qH c hc) _) ((ccv c).on_mul ac _)
        show (if ((0:Int) != 0)=true then _ else F.Us c (res (qq (zN h c m) (val r) (val s) (ke c X Y false))) (rep (qq (zN h c m) (val r) (val s) (ke c X Y false))).2.2)=_
        rw[ae (by decide)]
        generalize qq (zN h c m) (val r) (val s) (ke c X Y false)=Q at hQ
        cases Q with
        | none=>rfl
        | some q=>
         obtain⟨x,y⟩:=q
         have l1:=AB c x
         have l2:=AB c y
         have h3:=CQ hc hQ
         have ag:onS c (rl x) (rl y) false=true:=h3
         show F.Us c (rl x,rl y,false,0) false=some (beB (nS c) x.val,beB (nS c) y.val,0)
         unfold F.Us
         rw[ae (by decide)]
         dsimp only
         rw[GF c _ _ _ (by omega) (by omega),aa]
         unfold HW
         rw[ah ⟨ag,rfl⟩,rB,rB]
       ·rw[az hf,ah (fun q=>hf q.2.2)]; exact A
      ·rw[az (show ¬(0<val s/\val s<cN c) from hs),ah (by decide),ah (fun q=>hs q.2.1)]; exact A
     ·rw[az (show ¬(0<val r/\val r<cN c) from hr),ah (by decide),ah (fun q=>hr q.1)]; exact A
    ·rw[Bool.eq_false_iff.2 ho,ah (by decide),ah (fun q=>by cases q.2)]
  ·rw[ae hc,ah (by decide),ah hc]
 ·rw[ae hh,ah (by decide),ah hh]
theorem GL (a:Y0) (m:Nat) (A:a.length<=35184372087808) (hm:m<=16384) (q:val a<256^m):F.RC a (m:Int)=some (beB m (val a),true):=by
 have B:nb (val a)<=32*a.length:=bz (nk _) (bo 32 (ca (cG a)))
 have G:(nb (val a)+7) / 8<=m:=Fv q
 obtain⟨k,y,I,v3⟩:=iZ a (by omega)
 have hl:(aw (val a)).length<=a.length:=ca (cG a)
 have j:mkO 1 (m:Int) (m:Int) (0:UInt8)=some (List.replicate m 0):=by
  unfold mkO
  rw[ah ⟨by omega,by omega,by omega,by omega⟩,aq]
 unfold F.RC
 rw[ae (by rw[ar]; omega),ae (by rw[ar]; omega),lB a (by omega),aa,aO (x:=((nb (val a):Nat):Int)+7) (by omega) (by omega),ce (by omega),aO (by omega) (by omega),
  az (show ¬(m:Int)<(((nb (val a):Nat):Int)+7) / 8 by omega)]
 unfold F.Vp
 rw[ae (by decide),j,aa,y,aa,v3,Dc _ _ (by rw[bd]; omega) (by omega),aa,bd,aC]
theorem Ow (c:Int):cN c<256^nS c:=by
 unfold cN nS
 split <;> decide +kernel
theorem GQ {c:Int} {r:Nat} (h:r<cN c):r<256^nS c:=gH h (Ow c)
theorem qC {m n:Nat} (h:n<256^m):beN (beB m n)=n:=by
 rw[nU,ax h]
theorem G2 {c:Int} {r s:Nat} (q:r<cN c) (hs:s<cN c):(beB (nS c) r++beB (nS c) s).length=2*nS c/\beN ((beB (nS c) r++beB (nS c) s).take (nS c))=r/\beN ((beB (nS c) r++beB (nS c) s).drop (nS c))=s:=by
 have j:(beB (nS c) r).length=nS c:=il _ _
 have y:(beB (nS c) s).length=nS c:=il _ _
 refine⟨by rw[ay,j,y]; omega,?_,?_⟩
 ·rw[fu j,qC (GQ q)]
 ·rw[ik j,qC (GQ hs)]
theorem JZ {c:Int} (hc:isC c) {z r s:Nat} {R:Pt (cP c)} (q:On (-3) (bF c) R) (j:inN c r) (hs:inN c s):okE z r s (qq z r s R)=y6 R r:=by
 obtain⟨A,w2⟩:=xd j.1 j.2
 obtain⟨B,y⟩:=xd hs.1 hs.2
 unfold okE Ir qq
 rw[GR hc (qH c hc) q w2 y]
theorem J8 {c:Int} (hc:isC c) {x y:Fin (cP c)} (h:On (-3) (bF c) (some (x,y))):onN (cP c) (cB c) x.val y.val=true:=by
 have j:onS c (rl x) (rl y) false=true:=CQ hc h
 have:=(r9 j).2.2
 rwa [rB,rB]at this
theorem CB {c:Int} (hc:isC c) {x y:Fin (cP c)} (h:On (-3) (bF c) (some (x,y))):lD c (beB (nS c) x.val) (beB (nS c) y.val)=(rl x,rl y,false,0):=by
 have hp:=CL c hc
 have j:=qC (gH x.isLt hp)
 have q:=qC (gH y.isLt hp)
 unfold lD
 rw[j,q,ah ⟨hc,il _ _,il _ _,J8 hc h⟩]
 rfl
theorem KR {h c:Int} (hh:isH h) (hc:isC c) {x y:Fin (cP c)} (q:On (-3) (bF c) (some (x,y))) (m:Y3) {r s:Nat} (j:inN c r) (hs:inN c s) :
  rM h c (beB (nS c) x.val) (beB (nS c) y.val) m (beB (nS c) r++beB (nS c) s)=if okE (zN h c m) r s (some (x,y))=true then 0 else 91:=by
 obtain⟨A,B,G⟩:=G2 (c:=c) j.2 hs.2
 have I:ke c (rl x) (rl y) false=some (x,y):=Hk (some (x,y))
 unfold rM
 rw[ae (dp hh),CB hc q,ae (dp rfl),ae (dp A),B,G,ae (dp ⟨j,hs⟩),I]
theorem L6 {c:Int} {X Y:Y0} (h:onS c X Y false=true) (r:Nat):y6 (ke c X Y false) r=decide (val X%cN c=r):=by
 show decide ((fz (p:=cP c) (val X:Int)).val%cN c=r)=_
 rw[Ms _ (r9 h).1]
end Go.Gk.Bn
end
section
namespace Go.Gk.Bn
open Go Go.Gk Go.Gk.Sh
theorem Cl (a:Y0) (m:Nat) (j:a.length<=35184372087808) (hm:m<=16384):F.RC a (m:Int)=some (if val a<256^m then (beB m (val a),true) else ([],false)):=by
 by_cases hv:val a<256^m
 ·rw[ah hv]; exact GL a m j hm hv
 ·have q:nb (val a)<=32*a.length:=bz (nk _) (bo 32 (ca (cG a)))
  have y:m<(nb (val a)+7) / 8:=by
   rcases cj m (nby (val a)) with h | h
   ·exact h
   ·exact absurd (bg (uW (val a)) (br (by decide) h)) hv
  rw[ae hv]
  unfold F.RC
  rw[ae (by rw[ar]; omega),ae (by rw[ar]; omega),lB a (by omega),aa,aO (x:=((nb (val a):Nat):Int)+7) (by omega) (by omega),ce (by omega),aO (by omega) (by omega),
   aj (show (m:Int)<(((nb (val a):Nat):Int)+7) / 8 by omega)]
  rfl
abbrev LB:Nat:=140737488351232
def oB (l:List Y3):Nat:=(l.map List.length).sum
theorem sV (l:List Y3) (hl:l.length<=10) (q:∀x∈l,x.length<=LB):∀(r i:Nat),i+r=l.length->loop (F.UW l) (((oB (l.take i):Nat):Int),(i:Int))=some (decide (oB l=0))
 | 0,i,e=>by
  refine cU ?_
  unfold F.UW
  dsimp only
  rw[ae (by rw[ar]; omega),aA (by omega)]
  congr 2
  by_cases h:oB l=0
  ·rw[h,aj rfl]; rfl
  ·rw[az h,fF]; omega
 | r+1,i,e=>by
  have hi:i<l.length:=by omega
  have B:l.take (i+1)=l.take i++[l[i]]:=by rw[List.take_add_one,aE hi]; rfl
  have hs:oB (l.take (i+1))=oB (l.take i)+l[i].length:=by unfold oB; rw[B,List.map_append,List.sum_append]; simp
  have y:∀(m:List Y3),(∀x∈m,x.length<=LB)->oB m<=m.length*LB:=by
   intro m
   induction m with
   | nil=>intro _; simp[oB]
   | cons a m ih=>
    intro h
    have j:=ih fun x hx=>h x (by simp[hx])
    have A:=h a (by simp)
    simp only[oB,dc,List.sum_cons,cg,aW]at j ⊢
    omega
  have j:=y (l.take (i+1)) fun x hx=>q x (List.mem_of_mem_take hx)
  have A:(l.take (i+1)).length<=10:=by rw[aQ]; omega
  have G:oB (l.take (i+1))<=10*LB:=bz j (aR _ A)
  rw[<-sV l hl q r (i+1) (by omega)]
  refine bB ?_
  unfold F.UW
  dsimp only
  rw[ah (aj (by omega)),cd hi,aa,aO (by omega) (by unfold LB at G; omega),aM,aO (by omega) (by omega),hs]
  rfl
theorem Gc (l:List Y3) (hl:l.length<=10) (j:∀x∈l,x.length<=LB):F.Tc l=some (decide (oB l=0)):=sV l hl j l.length 0 (by omega)
theorem jES (x y m j:Y3) (hm:m.length<=900000000000000) (q:j.length<=LB) (hd:(lD 1 x y).2.2.2=0) (A:rM 1 1 x y m j=0):F.U7 10 3 1 [] [] [] x y m j=some 0:=by
 have hs:F.U3 3 1 [] [] [] x y=some 0:=by
  unfold F.U3 F.Xt
  rw[ae (by decide),ae (by decide),ah (by decide),wM,aa,ah (by rw[hd]; rfl),Gc _ (by simp) (by simp),aa]
  rfl
 unfold F.U7
 rw[show F.VN 10=some (4,1,1) from rfl,aa,ae (by decide),show F.W3 10 3 1 [] [] [] x y=some true from rfl,aa,ae (by decide),hs,aa,ae (by decide),ae (by decide)]
 unfold F.UP
 rw[ae (by decide),ae (by decide),ae (by decide),ae (by decide),ah (by decide),DQ _ _ _ _ _ _ hm q,aa,A]
 rfl
end Go.Gk.Bn
end
