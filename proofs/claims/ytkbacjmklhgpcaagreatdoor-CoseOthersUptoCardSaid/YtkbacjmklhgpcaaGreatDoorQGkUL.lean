import Derived.Test.YtkbacjmklhgpcaaGreatDoorQGkP0
import Derived.Test.YtkbacjmklhgpcaaGreatDoorQGkFman
set_option linter.unusedVariables false
set_option linter.unusedSimpArgs false
set_option linter.unusedSectionVars false
section
namespace Go.Gk.Bn
open Go Go.Gk Go.Gk.Sh
def Cof (m a x r:Nat):Prop:=(m:Int) ∣ (x:Int)*a - r
theorem Cof.step {m a x y r s q t:Nat} (U:Cof m a x r) (V:Cof m a y s) (hm:0<m) (G:r=q*s+t):Cof m a ((x+m - q*y%m)%m) t:=by
 unfold Cof at *
 obtain⟨X,Z⟩:=U
 obtain⟨Y,e2⟩:=V
 have I:=bG (q*y) hm
 have J:((q*y%m:Nat):Int)=q*y - m*((q*y / m:Nat):Int):=by
  have:=c7 (q*y) m
  have B:((q*y:Nat):Int)=((m*(q*y / m)+q*y%m:Nat):Int):=by rw[this]
  rw[iD,dg,dg m]at B
  omega
 obtain⟨N,O⟩:∃N,x+m - q*y%m=N:=⟨_,rfl⟩
 have j:(N:Int)=x+m - ((q*y%m:Nat):Int):=by omega
 have R:((N%m:Nat):Int)=N - m*((N / m:Nat):Int):=by
  have:=c7 N m
  have B:(N:Int)=((m*(N / m)+N%m:Nat):Int):=by rw[this]
  rw[iD,dg]at B
  omega
 rw[O]
 have A:(t:Int)=r - q*s:=by rw[G]; push_cast; omega
 refine⟨X - q*Y+a+a*((q*y / m:Nat):Int) - a*((N / m:Nat):Int),?_⟩
 rw[R,j,J,A]
 generalize ((q*y / m:Nat):Int)=k1
 generalize ((N / m:Nat):Int)=k2
 clear J R A G I hm O j
 grobner
theorem Cof.le {m a x r:Nat} (h:Cof m a x r) (hm:0<m) (j:r=1):a*(x%m)%m=1%m:=by
 subst j
 obtain⟨c,e⟩:=h
 have A:((a*x:Nat):Int)=1+m*c:=by push_cast; rw[Int.mul_comm]; omega
 have B:(((a*x)%m:Nat):Int)=((1%m:Nat):Int):=by
  rw[ch,A,Int.add_mul_emod_self_left]; rfl
 rw[dH,ji,<-dH]
 exact Int.natCast_inj.1 B
theorem Ce (n0:Bool) (j:L00) (x:Int) (h:nl x<=50000000000000):F.Us n0 j (bi x).1 (bi x).2=some (bi (x.natAbs:Int)):=by
 unfold F.Us
 have A:(bi x).2=au (x.natAbs:Int).natAbs:=by rw[cF]; rfl
 rw[DT (bi x).2 h,aa,A,kW _ _ _ (x.natAbs:Int) (fun _=>by simp),aa]
theorem Rc (s a b d t:Int) (h:s*t<=0) (hd:0<=d):(s - d*t).natAbs=s.natAbs+d.natAbs*t.natAbs:=by
 rcases Int.lt_trichotomy t 0 with A | A | A
 ·have hs:0<=s:=by
   rcases Int.lt_or_le s 0 with j | j
   ·have:=Int.mul_pos_of_neg_of_neg j A; omega
   ·exact j
  have G:0<=d*-t:=fO hd (by omega)
  have B:(d*-t).natAbs=d.natAbs*t.natAbs:=by rw[Int.natAbs_mul,Int.natAbs_neg]
  rw[<-B]
  have I:s - d*t=s+d*-t:=by rw[Int.mul_neg]; omega
  rw[I]; omega
 ·subst A; simp
 ·have hs:s<=0:=by
   rcases Int.lt_or_le 0 s with j | j
   ·have:=Int.mul_pos j A; omega
   ·exact j
  have G:0<=d*t:=fO hd (by omega)
  have B:(d*t).natAbs=d.natAbs*t.natAbs:=Int.natAbs_mul ..
  rw[<-B]; omega
theorem OD (s d t:Int) (h:s*t<=0) (hd:0<=d):t*(s - d*t)<=0:=by
 have A:0<=d*(t*t):=fO hd (by rcases Int.le_total 0 t with j | j; exact fO j j; exact Int.mul_nonneg_of_nonpos_of_nonpos j j)
 have j:t*(s - d*t)=s*t - d*(t*t):=by grobner
 omega
theorem Am (m a:Nat) (O:1<m) (A:nl (m:Int)<=1000000) (R:0<a) (U:a<m) (hg:Nat.gcd a m=1):∀n q p:Nat,∀s t:Int,q<=n->q<=m->p<=m->0<p->s*t<=0->s.natAbs<=m->t.natAbs<=m ->
  s.natAbs*q+t.natAbs*p=m->(m:Int) ∣ s*a - p->(m:Int) ∣ t*a - q->Nat.gcd p q=1 ->
  ∃z:Int,z.natAbs<=m/\(m:Int) ∣ z*a - 1/\loop (F.XP false [] false [] (bi (a:Int)).1 (bi (a:Int)).2 (bi (m:Int)).1 (bi (m:Int)).2)
   ((bi (p:Int)).1,(bi (p:Int)).2,(bi (q:Int)).1,(bi (q:Int)).2,(bi s).1,(bi s).2,(bi t).1,(bi t).2)=some ((bi 1).1,(bi 1).2,(bi z).1,(bi z).2)
 | n,q,p,s,t,hqn,hqm,hpm,hp0,hst,hs,ht,hb,d1,d2,hgg=>by
  have L:∀k:Int,k.natAbs<=m->nl k<=1000000:=fun k hk=>aZ (kS (by omega)) A
  by_cases h0:q=0
  ·subst h0
   rw[Nat.gcd_zero_right]at hgg
   subst hgg
   refine⟨s,hs,by simpa using d1,?_⟩
   refine cd ?_
   unfold F.XP
   dsimp only
   have l1:=L s hs; have l2:=L (a:Int) (by omega); have l3:=Bl (a:Int) s; have l4:=GL ((1:Nat):Int) ((a:Int)*s); have l5:=L ((1:Nat):Int) (by omega)
   rw[ae (by rw[show (bi ((0:Nat):Int)).2=[] from cH]; decide),ae (by rw[bi1 (by omega)]; decide),A4 _ _ _ _ (by omega),aa,
    Ex _ _ (by omega) (by omega),aa]
   have j:∀x:Int,nl x<=70000000->∃r,F.Yv (bi x).1 (bi x).2 (bi (m:Int)).1 (bi (m:Int)).2=some r:=fun x hx=>by
    have e:F.Yv (bi x).1 (bi x).2 (bi (m:Int)).1 (bi (m:Int)).2=af (F.VZ (bi x).1 (bi x).2 (bi x).1 (bi x).2 (bi (m:Int)).1 (bi (m:Int)).2 false []) fun B=>some (B.1,B.2.1):=rfl
    rw[e,rQ _ _ _ _ _ _ (by omega) (by omega) (by omega),aa]
    exact⟨_,rfl⟩
   obtain⟨r,hr⟩:=j (((1:Nat):Int) - (a:Int)*s) (by omega)
   rw[hr,aa,B0 _ _ _ (by omega),aa,B0 _ _ _ (by omega),aa]
   rfl
  ·cases n with
   | zero=>omega
   | succ n=>
    have j:=c7 p q
    have b9:=bG p (show 0<q by omega)
    have b4:p / q<=m:=aZ (dw _ _) hpm
    have V:Int.tdiv (p:Int) (q:Int)=((p / q:Nat):Int):=by rw[bN (dv p)]; rfl
    have X:Int.tmod (p:Int) (q:Int)=((p%q:Nat):Int):=by rw[cn (dv p)]; rfl
    have J:Nat.gcd q (p%q)=1:=by rw[fC,<-Nat.gcd_rec,fC]; exact hgg
    generalize p / q=k at *
    generalize p%q=r at *
    have N:=Rc s 0 0 (k:Int) t hst (by omega)
    rw[cF]at N
    have G:t.natAbs*r+(s - (k:Int)*t).natAbs*q=m:=by
     rw[N,<-hb]
     have h3:t.natAbs*p=t.natAbs*(q*(k)+r):=by rw[j]
     rw[h3,aJ,aW]
     have h4:k*t.natAbs*q=t.natAbs*(q*(k)):=by
      rw[aP (k) t.natAbs,aK,aP (k) q]
     rw[h4]; omega
    have I:(s - (k:Int)*t).natAbs<=m:=by
     have:=eK (s - (k:Int)*t).natAbs (show 0<q by omega)
     omega
    obtain⟨c1,ce⟩:=d1
    obtain⟨Y,Z⟩:=d2
    have d3:(m:Int) ∣ (s - (k:Int)*t)*a - (r:Int):=by
     refine⟨c1 - (k:Int)*Y,?_⟩
     have h5:(p:Int)=q*(k:Int)+(r:Int):=by
      have:=da (fun x:Nat=>(x:Int)) j
      simp only[iD,dg]at this
      exact this.symm
     generalize (k:Int)=k at *
     generalize (r:Int)=k2 at *
     clear N G I hb hst hs ht V X
     grobner
    obtain⟨z,hz,ac,ad⟩:=Am m a O A R U hg n r q t (s - (k:Int)*t) (by omega) (by omega) hqm (by omega) (OD _ _ _ hst (by omega)) ht I G ⟨Y,Z⟩ d3
     J
    refine⟨z,hz,ac,?_⟩
    rw[<-ad]
    refine bp ?_
    unfold F.XP
    dsimp only
    have l1:=L (p:Int) (by omega); have l2:=L (q:Int) (by omega); have l3:=L s hs; have l4:=L t ht; have l5:=L (k:Int) (by omega)
    have l6:=Bl (k:Int) t
    rw[ag (by have:=mB.2 h0; rw[show (bi (q:Int)).2=au q by rw[bi2,cF]]; simp only[ak]; omega),rQ _ _ _ _ _ _ (by omega) (by omega) (by omega),aa,V,X]
    dsimp only
    rw[A4 _ _ _ _ (by omega),aa,HZ _ _ _ _ (by omega) (by omega),aa]
    rfl
theorem yV (n0:Bool) (U:L00) (a m:Nat) (G:1<m) (j:nl (m:Int)<=1000000) (ha:nl (a:Int)<=1000000) (hg:Nat.gcd a m=1) :
  ∃v:Nat,v<m/\a*v%m=1/\F.Wh n0 U (bi (a:Int)).1 (bi (a:Int)).2 (bi (m:Int)).1 (bi (m:Int)).2=some (bi (v:Int)):=by
 have I:=bG a (show 0<m by omega)
 have A:Nat.gcd (a%m) m=1:=by rw[<-Nat.gcd_rec,fC]; exact hg
 have B:0<a%m:=by
  rcases bO (a%m) with h | h
  ·rw[h,Nat.gcd_zero_left]at A; omega
  ·exact h
 obtain⟨z,hz,J,N⟩:=Am m (a%m) G j B I A m m (a%m) 1 0 (aw _) (aw _) (by omega) B (by omega) (by omega) (by omega) (by simp) ⟨0,by simp⟩ ⟨-1,by omega⟩ A
 have lz:nl z<=1000000:=aZ (kS (by omega)) j
 have O:=iz z (show (m:Int)≠0 by omega)
 have Z:=Int.emod_lt_of_pos z (show (0:Int)<m by omega)
 refine⟨(z%m).toNat,by omega,?_,?_⟩
 ·obtain⟨c,hc⟩:=J
  have R:((a*(z%m).toNat%m:Nat):Int)=1:=by
   rw[ch,dg,ic O,show (a:Int)*(z%m)%m=(a:Int)*z%m by rw[Int.mul_emod,Int.emod_emod,<-Int.mul_emod]]
   have V:(a:Int)*z%m=(((a%m:Nat):Int)*z)%m:=by rw[ch,Int.mul_emod,Int.mul_emod ((a:Int)%m) z,Int.emod_emod]
   rw[V,show ((a%m:Nat):Int)*z=1+m*c by rw[Int.mul_comm]; omega,Int.add_mul_emod_self_left]
   exact gh (by omega) (by omega)
  omega
 ·unfold F.Wh
  rw[Ce _ _ _ (by omega),aa,cF,Ig _ _ _ _ (by omega) (by omega) (by omega) (fun h=>by omega),aa]
  have e:((a:Int)%(m:Int))=((a%m:Nat):Int):=by rw[ch]
  rw[e]
  unfold F.ZF F.aam
  have R:((bi ((a%m:Nat):Int)).2.length:Int)≠0:=by
   rw[bi2,cF]; have:=mB.2 (show a%m≠0 by omega); omega
  have X:((bi (m:Int)).2.length:Int)≠0:=by
   rw[bi2,cF]; have:=mB.2 (show m≠0 by omega); omega
  have l1:nl ((a%m:Nat):Int)<=1000000:=aZ (kS (by omega)) j
  rw[ae (by simpa using R),ae (by simpa using X),Ce _ _ _ (by omega),aa,Ce _ _ _ (by omega),aa,cF,cF,
   mT 1 (by decide) (by decide),aa,mT 0 (by decide) (by decide),aa,N,aa,aa]
  dsimp only
  rw[uZ 1 1 (by have:=Bz; omega) (by have:=Bz; omega),aa,ae (by decide),Ig _ _ _ _ (by omega) (by omega) (by omega) (fun h=>by omega),aa]
  have Y:z%(m:Int)=(((z%m).toNat:Nat):Int):=by omega
  rw[<-Y]
end Go.Gk.Bn
end
section
namespace Go.Gk.Ec
section ring
variable {p:Nat} [NeZero p]
theorem jY {a b:Fin p} (h:a - b=0):a=b:=by grobner
theorem HW (a:Fin p):a*0=0:=by grobner
theorem Nq (a:Fin p):a+-a=0:=by grobner
structure Ln (a b x1 y1 x2 y2 s x3 y3:Fin p):Prop where
 hy:y2=y1+s*(x2 - x1)
 ha:a=s*(y1+y2) - x1*x1 - x1*x2 - x2*x2
 hb:b=y1*y1 - x1*x1*x1 - a*x1
 hx:x3=s*s - x1 - x2
 hz:y3=s*(x1 - x3) - y1
variable {a b x1 y1 x2 y2 s x3 y3:Fin p}
theorem Ln.on1 (h:Ln a b x1 y1 x2 y2 s x3 y3):y1*y1=x1*x1*x1+a*x1+b:=by
 have hb:=h.hb
 clear h; subst hb; grobner
theorem Ln.on2 (h:Ln a b x1 y1 x2 y2 s x3 y3):y2*y2=x2*x2*x2+a*x2+b:=by
 obtain⟨hy,ha,hb,hx,hz⟩:=h
 subst hy ha hb hx hz; grobner
theorem Ln.on3 (h:Ln a b x1 y1 x2 y2 s x3 y3):y3*y3=x3*x3*x3+a*x3+b:=by
 obtain⟨hy,ha,hb,hx,hz⟩:=h
 subst hy ha hb hx hz; grobner
theorem Ln.symm (h:Ln a b x1 y1 x2 y2 s x3 y3):Ln a b x2 y2 x1 y1 s x3 y3:=by
 obtain⟨hy,ha,hb,hx,hz⟩:=h
 refine⟨?_,?_,?_,?_,?_⟩ <;> (subst hy ha hb hx hz; grobner)
theorem Ln.neg (h:Ln a b x1 y1 x2 y2 s x3 y3):Ln a b x1 (-y1) x2 (-y2) (-s) x3 (-y3):=by
 obtain⟨hy,ha,hb,hx,hz⟩:=h
 refine⟨?_,?_,?_,?_,?_⟩ <;> (subst hy ha hb hx hz; grobner)
theorem Ln.xS {j B g xS G:Fin p} (h:Ln a b x1 y1 x2 y2 s x3 y3) (A:Ln a b x3 y3 j B g xS G) :
  xS=(s+g)*(s+g) - 2*(x3+s*g) - x1 - x2 - j:=by
 have I:=h.hx
 have J:=A.hx
 clear h A
 subst I J; grobner
end ring
structure Fld (p:Nat) [NeZero p]:Prop where
 nz:∀u v:Fin p,u*v=0->u=0\/v=0
 iv:∀u:Fin p,u≠0->∃v:Fin p,u*v=1
 two:(2:Fin p)≠0
variable {p:Nat} [NeZero p]
open Classical in
noncomputable def rcp (u:Fin p):Fin p:=if h:∃v:Fin p,u*v=1 then Classical.choose h else 0
theorem Fld.mul_iv (F:Fld p) {u:Fin p} (h:u≠0):u*rcp u=1:=by
 unfold rcp
 rw[dif_pos (F.iv u h)]
 exact gI (F.iv u h)
theorem Fld.cancel (F:Fld p) {u v w:Fin p} (h:u≠0) (e:u*v=u*w):v=w:=by
 rcases F.nz u (v - w) (by grobner) with j | j
 ·exact (h j).elim
 ·exact jY j
theorem Fld.iv_uniq (F:Fld p) {u v:Fin p} (e:u*v=1):v=rcp u:=by
 have h:u≠0:=by
  intro j
  have:(2:Fin p)=0:=by subst j; grobner
  exact F.two this
 exact F.cancel h (e.trans (F.mul_iv h).symm)
theorem Fld.dbl (F:Fld p) {u:Fin p} (h:u+u=0):u=0:=by
 rcases F.nz 2 u (by grobner) with j | j
 ·exact (F.two j).elim
 ·exact j
abbrev Pt (p:Nat):=Option (Fin p×Fin p)
def On (a b:Fin p):Pt p->Prop
 | none=>True
 | some (x,y)=>y*y=x*x*x+a*x+b
def neg:Pt p->Pt p
 | none=>none
 | some (x,y)=>some (x,-y)
def rq (x1 y1 x2 s:Fin p):Pt p:=some (s*s - x1 - x2,s*(x1 - (s*s - x1 - x2)) - y1)
noncomputable def add (a:Fin p):Pt p->Pt p->Pt p
 | none,Q=>Q
 | some P,none=>some P
 | some (x1,y1),some (x2,y2)=>
  if x1=x2 then (if y1+y2=0 then none else rq x1 y1 x2 ((3*(x1*x1)+a)*rcp (2*y1)))
  else rq x1 y1 x2 ((y2 - y1)*rcp (x2 - x1))
theorem oS (a x1 y1 x2 y2:Fin p):add a (some (x1,y1)) (some (x2,y2)) =
  if x1=x2 then (if y1+y2=0 then none else rq x1 y1 x2 ((3*(x1*x1)+a)*rcp (2*y1)))
  else rq x1 y1 x2 ((y2 - y1)*rcp (x2 - x1)):=rfl
structure Cv (p:Nat) [NeZero p] (a b:Fin p):Prop extends Fld p where
 odd:∀x:Fin p,x*x*x+a*x+b≠0
variable {a b:Fin p}
theorem KD (P:Pt p):add a P none=P:=by cases P <;> rfl
theorem On.neg {P:Pt p} (h:On a b P):On a b (neg P):=by
 rcases P with _ | ⟨x,y⟩
 ·trivial
 ·unfold On Ec.neg at *
  dsimp only at *
  grobner
theorem Cv.y_ne (C:Cv p a b) {x y:Fin p} (h:On a b (some (x,y))):y≠0:=by
 intro j
 apply C.odd x
 unfold On at h
 dsimp only at h
 rw[<-h,j,HW]
theorem Fld.ln (C:Fld p) {x1 y1 x2 y2:Fin p} (B:On a b (some (x1,y1))) (j:On a b (some (x2,y2))) (h:¬(x1=x2/\y1+y2=0)) :
  ∃s x3 y3,Ln a b x1 y1 x2 y2 s x3 y3/\add a (some (x1,y1)) (some (x2,y2))=some (x3,y3):=by
 unfold On at B j
 dsimp only at B j
 rw[oS]
 unfold rq
 by_cases hx:x1=x2
 ·rw[ag hx,ae (fun q=>h ⟨hx,q⟩)]
  refine⟨((3*(x1*x1)+a)*rcp (2*y1)),_,_,?_,rfl⟩
  have G:(y1 - y2)*(y1+y2)=0:=by subst hx; grobner
  have hy:y2=y1:=by
   rcases C.nz _ _ G with q | q
   ·exact (jY q).symm
   ·exact (h ⟨hx,q⟩).elim
  subst hx hy
  have I:y2≠0:=by intro A; apply h; refine⟨rfl,?_⟩; rw[A]; grobner
  have j:2*y2≠0:=by
   intro A; rcases C.nz _ _ A with q | q
   ·exact C.two q
   ·exact I q
  have e:=C.mul_iv j
  generalize rcp (2*y2)=z at e ⊢
  refine⟨by grobner,?_,?_,rfl,rfl⟩
  ·have:(3*(x1*x1)+a)*z*(y2+y2)=3*(x1*x1)+a:=by
    have:y2+y2=2*y2:=by grobner
    rw[this]; clear this
    generalize 2*y2=w at *
    grobner
   rw[this]; clear this
   grobner
  ·clear e; grobner
 ·rw[ae hx]
  refine⟨(y2 - y1)*rcp (x2 - x1),_,_,?_,rfl⟩
  have J:x2 - x1≠0:=fun A=>hx (jY A).symm
  have e:=C.mul_iv J
  generalize rcp (x2 - x1)=z at e ⊢
  have hs:(y2 - y1)*z*(x2 - x1)=y2 - y1:=by generalize x2 - x1=w at *; clear B j; grobner
  generalize (y2 - y1)*z=s at hs ⊢
  clear e
  refine⟨?_,?_,?_,rfl,rfl⟩
  ·rw[hs]; grobner
  ·have:(x2 - x1)*a=(x2 - x1)*(s*(y1+y2) - x1*x1 - x1*x2 - x2*x2):=by
    have:(x2 - x1)*(s*(y1+y2) - x1*x1 - x1*x2 - x2*x2)=s*(x2 - x1)*(y1+y2) - (x2 - x1)*(x1*x1+x1*x2+x2*x2):=by clear B j hs; grobner
    rw[this,hs]; clear this hs
    grobner
   exact C.cancel J this
  ·clear hs; grobner
end Go.Gk.Ec
end
section
namespace Go.Gk.Ec
variable {p:Nat} [NeZero p] {a b:Fin p}
theorem Fld.on_add (C:Fld p) {P Q:Pt p} (hP:On a b P) (j:On a b Q):On a b (add a P Q):=by
 rcases P with _ | ⟨x1,y1⟩
 ·exact j
 rcases Q with _ | ⟨x2,y2⟩
 ·exact hP
 by_cases h:x1=x2/\y1+y2=0
 ·rw[oS,ag h.1,ag h.2]; trivial
 ·obtain⟨s,x3,y3,hl,e⟩:=C.ln hP j h
  rw[e]; exact hl.on3
theorem Cv.off (C:Cv p a b) {x1 y1 x2 y2 s B I x3 y3 g xS R:Fin p} (h:Ln a b x1 y1 x2 y2 s B I) (j:Ln a b B I x3 y3 g xS R)
  (n1:x3≠x1) (J:x3≠x2):y3 - y1 - s*(x3 - x1)≠0:=by
 intro e
 have U:y3=y1+s*(x3 - x1):=by clear h j; grobner
 have N:=j.on2
 have hx:(x3 - x1)*((x3 - x2)*(x3 - B))=0:=by
  have ha:=h.ha
  have hb:=h.hb
  have hy:=h.hy
  have hp:=h.hx
  clear h j n1 J e
  subst hy ha hb hp U
  grobner
 rcases C.nz _ _ hx with q | q
 ·exact n1 (jY q)
 rcases C.nz _ _ q with q | q
 ·exact J (jY q)
 have O:=jY q
 have V:=h.hz
 have X:=j.hy
 have A:=j.on1
 have G:I≠0:=C.y_ne (x:=B) (by unfold On; exact A)
 apply G
 apply C.dbl
 clear h j N hx A G
 subst O
 grobner
theorem Cv.last (C:Cv p a b) {xS A j B m k c x1 x2 x3:Fin p} (I:k≠0) (eS:xS=k*k - 2*m - x1 - x2 - x3) (G:j=k*k - 2*m - x1 - x2 - x3)
  (hS:xS*xS+m*xS+k*A+c=0) (hT:j*j+m*j+k*B+c=0):xS=j/\A=B:=by
 have e:xS=j:=by rw[eS,G]
 clear eS G
 subst e
 refine⟨rfl,C.cancel I ?_⟩
 grobner
end Go.Gk.Ec
end
section
namespace Go.Gk.Ec
variable {p:Nat} [NeZero p] {a b:Fin p}
theorem Fld.same_x (C:Fld p) {x y z:Fin p} (j:On a b (some (x,y))) (A:On a b (some (x,z))):z=y\/z=-y:=by
 unfold On at j A
 dsimp only at j A
 have:(z - y)*(z+y)=0:=by grobner
 rcases C.nz _ _ this with q | q
 ·exact .inl (jY q)
 ·exact .inr (by grobner)
theorem sub3 {u x y z:Fin p}:u - x - y - z=u - z - x - y:=by grobner
end Go.Gk.Ec
end
section
namespace Go.Gk.Pr
def Prm (p:Nat):Prop:=1<p/\∀d,d ∣ p->d=1\/d=p
theorem Prm.coprime {p a:Nat} (h:Prm p) (ha:¬p ∣ a):Nat.Coprime p a:=by
 rcases h.2 _ (je p a) with e | e
 ·exact e
 ·exact (ha (e ▸ gf p a)).elim
theorem Prm.dvd_mul {p a b:Nat} (h:Prm p) (hd:p ∣ a*b):p ∣ a\/p ∣ b:=by
 by_cases ha:p ∣ a
 ·exact .inl ha
 ·exact .inr ((h.coprime ha).dvd_of_dvd_mul_left hd)
theorem rD:∀n d:Nat,d<=n->1<d->∃r,Prm r/\r ∣ d
 | 0,d,h,h1=>by omega
 | n+1,d,h,h1=>by
  by_cases hp:Prm d
  ·exact⟨d,hp,Nat.dvd_refl d⟩
  ·have:∃e,e ∣ d/\e≠1/\e≠d:=by
    refine gR fun hn=>hp ⟨h1,fun e he=>?_⟩
    by_cases j:e=1
    ·exact .inl j
    by_cases A:e=d
    ·exact .inr A
    exact (hn ⟨e,he,j,A⟩).elim
   obtain⟨e,he,j,A⟩:=this
   have G:=gc (by omega) he
   have I:e≠0:=by rintro rfl; exact (by omega:d≠0) (Nat.zero_dvd.1 he)
   obtain⟨r,B,hd⟩:=rD n e (by omega) (by omega)
   exact⟨r,B,Nat.dvd_trans hd he⟩
def md:List Nat->Nat
 | []=>1
 | x :: l=>x*md l
theorem Fi {l l':List Nat} (h:l.Perm l'):md l=md l':=by
 induction h with
 | nil=>rfl
 | cons x _ ih=>simp only[md]; rw[ih]
 | swap x y l=>simp only[md]; rw[<-aK,<-aK,aP y x]
 | trans _ _ ih1 ih2=>rw[ih1,ih2]
theorem yo (r a:Nat):∀l:List Nat,md (l.map (fun x=>a*x%r))%r=a^l.length*md l%r
 | []=>by simp[md]
 | x :: l=>by
  have j:=yo r a l
  simp only[cZ,md,ca,bo]
  rw[dH,j,ji,<-dH]
  congr 1
  rw[aK a x,aP a,aP (a^l.length) a]
  simp only[aK,aP,dD]
theorem yz {r:Nat} (h:Prm r):∀l:List Nat,(∀x∈l,¬r ∣ x)->¬r ∣ md l
 | [],_=>by simp[md]; have:=h.1; omega
 | x :: l,hl=>fun hd=>by
  rcases h.dvd_mul hd with j | j
  ·exact hl x (eH ..) j
  ·exact yz h l (fun y hy=>hl y (eM _ hy)) j
theorem rx {r a b:Nat} (h:a%r=b%r) (j:b<=a):r ∣ a - b:=fe (Nat.sub_mod_eq_zero_of_mod_eq h)
theorem qo {r a x y:Nat} (h:Prm r) (ha:¬r ∣ a) (e:a*x%r=a*y%r):x%r=y%r:=by
 have A:∀x y:Nat,y<=x->a*x%r=a*y%r->x%r=y%r:=fun x y j e=>by
  have G:=rx e (bj a j)
  rw[<-Nat.mul_sub]at G
  rcases h.dvd_mul G with B | B
  ·exact (ha B).elim
  ·obtain⟨k,I⟩:=B
   have:x=y+r*k:=by omega
   rw[this,gU]
 rcases Nat.le_total y x with j | j
 ·exact A x y j e
 ·exact (A y x j e.symm).symm
theorem MO {r b:Nat} (m n:Nat):b^m%r=1%r->b^n%r=1%r->b^(Nat.gcd m n)%r=1%r:=by
 refine Nat.gcd.induction (P:=fun m n=>b^m%r=1%r->b^n%r=1%r->b^(Nat.gcd m n)%r=1%r) m n (fun n _ h=>by rwa [Nat.gcd_zero_left]) (fun m n hm B j A=>?_)
 rw[Nat.gcd_rec]
 refine B ?_ j
 have G:b^n=(b^m)^(n / m)*b^(n%m):=by rw[<-cr,<-bS,c7]
 rw[G,dH,Nat.pow_mod,j,<-Nat.pow_mod,Nat.one_pow,<-dH,cy]at A
 exact A
theorem tQ:∀{l l':List Nat},l.Nodup->(∀x∈l,x∈l')->l'.length<=l.length->l.Perm l'
 | [],l',_,_,h=>by
  have:l'=[]:=bn (by simpa using h)
  rw[this]
 | x :: l,l',hn,hs,h=>by
  have hx:=hs x (eH ..)
  have hp:=List.perm_cons_erase hx
  have j:=List.nodup_cons.1 hn
  have hl:=hp.length_eq
  refine List.Perm.trans (List.Perm.cons x (tQ j.2 (fun y hy=>?_) ?_)) hp.symm
  ·have A:y≠x:=by rintro rfl; exact j.1 hy
   exact (List.mem_erase_of_ne A).2 (hs y (eM _ hy))
  ·simp only[ca]at h hl; omega
theorem GP {r a:Nat} (h:Prm r) (ha:¬r ∣ a):a^(r - 1)%r=1:=by
 have O:=h.1
 have I:∀x,0<x->x<r->¬r ∣ x:=fun x U j hd=>by have:=gc U hd; omega
 have J:((List.range' 1 (r - 1)).map (fun x=>a*x%r)).Nodup:=by
  refine List.pairwise_map.2 (List.Pairwise.imp_of_mem (R:=(·≠·)) ?_ (List.nodup_range' (s:=1) (n:=r - 1)))
  intro x y hx hy N e
  have:=iX.1 hx
  have:=iX.1 hy
  have j:=qo h ha e
  rw[az (by omega),az (by omega)]at j
  exact N j
 have G:∀y∈(List.range' 1 (r - 1)).map (fun x=>a*x%r),y∈List.range' 1 (r - 1):=by
  intro y hy
  obtain⟨x,hx,rfl⟩:=jy.1 hy
  have:=iX.1 hx
  have j:=bG (a*x) (show 0<r by omega)
  refine iX.2 ⟨?_,by omega⟩
  rcases bO (a*x%r) with A | A
  ·rcases h.dvd_mul (fe A) with B | B
   ·exact (ha B).elim
   ·exact (I x (by omega) (by omega) B).elim
  ·exact A
 have hp:((List.range' 1 (r - 1)).map (fun x=>a*x%r)).Perm (List.range' 1 (r - 1)):=tQ J G (by simp)
 have j:=yo r a (List.range' 1 (r - 1))
 rw[Fi hp,List.length_range']at j
 have hc:=yz h (List.range' 1 (r - 1)) (fun x hx=>by have:=iX.1 hx; exact I x (by omega) (by omega))
 have A:(md (List.range' 1 (r - 1)))*(a^(r - 1))%r=(md (List.range' 1 (r - 1)))*1%r:=by rw[cE,j,aP]
 have B:=qo h hc A
 rwa [az O]at B
def frc {α:Type} (n:Nat) (k:Nat->α):α:=match n with
 | 0=>k 0
 | m+1=>k (m+1)
theorem Of {α:Type} (n:Nat) (k:Nat->α):frc n k=k n:=by cases n <;> rfl
def pwG (m a e:Nat):Nat->Nat->Nat
 | 0,acc=>acc
 | k+1,acc=>frc (bif Nat.beq (e / 2^k%2) 0 then acc*acc%m else acc*acc%m*a%m) (pwG m a e k)
theorem Gl (m a e:Nat):∀k acc:Nat,acc=a^(e / 2^k)%m->pwG m a e k acc=a^e%m
 | 0,acc,h=>by rw[h]; simp[pwG]
 | k+1,acc,h=>by
  unfold pwG
  rw[Of]
  refine Gl m a e k _ ?_
  have j:e / 2^k=2*(e / 2^(k+1))+e / 2^k%2:=by
   rw[bo,<-dM]; omega
  generalize e / 2^k%2=c at j ⊢
  rw[j,h]
  have A:(a^(e / 2^(k+1))%m)*(a^(e / 2^(k+1))%m)%m=a^(2*(e / 2^(k+1)))%m:=by
   rw[<-dH,<-bS]; congr 2; omega
  rw[A]
  cases hb:Nat.beq c 0 with
  | true=>
   have:=bJ hb
   subst this; rfl
  | false=>
   have hc:c=1:=by
    have B:c<2:=by
     have:c=e / 2^k - 2*(e / 2^(k+1)):=by omega
     rw[this,bo,<-dM]; omega
    have G:c≠0:=by rintro rfl; cases hb
    omega
   subst hc
   show a^(2*(e / 2^(k+1)))%m*a%m=_
   rw[bo a,dH,ji,<-dH]
def pw (m a e:Nat):Nat:=pwG m a e (Nat.log2 e+1) (1%m)
theorem Qu (m a e:Nat):pw m a e=a^e%m:=by
 unfold pw
 refine Gl _ _ _ _ _ ?_
 rw[cT Nat.lt_log2_self,gw]
def Hp (n:Nat):Bool:=Nat.blt 1 n&&Nat.blt n 16384&&(List.range 128).all fun d=>Nat.blt d 2 || Nat.ble n d || !Nat.beq (n%d) 0
theorem kn {n:Nat} (h:Hp n=true):Prm n:=by
 unfold Hp at h
 simp only[aO,fM]at h
 obtain⟨⟨I,V⟩,J⟩:=h
 have B:∀d,d ∣ n->2<=d->d<128->n<=d:=fun d hd A G=>by
  have:=ci.1 J d (dG.2 G)
  simp only[fD,fM,Bool.not_eq_true']at this
  rcases this with (j | j) | j
  ·omega
  ·exact ao j
  ·rw[Nat.mod_eq_zero_of_dvd hd]at j; cases j
 refine⟨I,fun d hd=>?_⟩
 by_cases e1:d=1
 ·exact .inl e1
 by_cases e2:d=n
 ·exact .inr e2
 exfalso
 obtain⟨e,he⟩:=hd
 have N:d≠0:=by rintro rfl; omega
 have O:e≠0:=by rintro rfl; omega
 have R:e≠1:=by rintro rfl; omega
 have U:d<n:=by
  have A:d ∣ n:=⟨e,he⟩
  have:=gc (by omega) A; omega
 by_cases A:d<128
 ·have:=B d ⟨e,he⟩ (by omega) A; omega
 ·have G:e<128:=by
   rcases bY e 128 with h | h
   ·exact h
   ·have:=eb (show 128<=d by omega) h; omega
  have j:=B e ⟨d,by rw[aP]; exact he⟩ (by omega) G
  have X:=eb (show 2<=d by omega) (aw e)
  omega
def wA (N:Nat):List (Nat×Nat)->Nat->Option Nat
 | [],F=>some F
 | (q,a) :: l,F=>if Nat.beq (Nat.gcd F q) 1&&Nat.beq ((N - 1)%q) 0&&Nat.beq (pw N a (N - 1)) 1&&Nat.beq (Nat.gcd (pw N a ((N - 1) / q)+N - 1) N) 1 then wA N l (F*q) else none
def chk (N:Nat) (l:List (Nat×Nat)):Bool:=Nat.blt 1 N&&match wA N l 1 with
 | none=>false
 | some F=>Nat.blt N (F*F)
theorem Qj {N q a r:Nat} (hN:1<N) (B:Prm q) (G:Prm r) (hd:r ∣ N) (R:q ∣ N - 1) (U:a^(N - 1)%N=1) (V:Nat.gcd (a^((N - 1) / q)%N+N - 1) N=1):q ∣ r - 1:=by
 refine gR fun hn=>?_
 have hg:=B.coprime hn
 have j:=G.1
 have A:(a^((N - 1) / q))^q%r=1%r:=by
  rw[<-cr,Nat.div_mul_cancel R]
  have:a^(N - 1)%N%r=a^(N - 1)%r:=Nat.mod_mod_of_dvd _ hd
  rw[<-this,U]
 have I:¬r ∣ a^((N - 1) / q):=fun hx=>by
  have X:(a^((N - 1) / q))^q%r=0:=by
   rw[Nat.pow_mod,Nat.mod_eq_zero_of_dvd hx,Nat.zero_pow (by have:=B.1; omega)]; exact jC _
  rw[X,az j]at A
  cases A
 have Y:=GP G I
 have J:=MO (r:=r) (b:=a^((N - 1) / q)) q (r - 1) A (by rw[Y,az j])
 rw[show Nat.gcd q (r - 1)=1 from hg,Nat.pow_one]at J
 have Z:r ∣ a^((N - 1) / q)%N+N - 1:=by
  have h6:(a^((N - 1) / q)%N)%r=1%r:=by rw[Nat.mod_mod_of_dvd _ hd]; exact J
  obtain⟨k,hk⟩:=hd
  have h7:(a^((N - 1) / q)%N+N)%r=1%r:=by
   rw[Nat.add_mod,h6,Nat.mod_eq_zero_of_dvd ⟨k,hk⟩,br,ji]
  exact rx h7 (by omega)
 have O:=Nat.dvd_gcd Z hd
 rw[V]at O
 have:=gc (by decide) O
 omega
theorem Hs {N r:Nat} (J:1<N) (O:Prm r) (hd:r ∣ N):∀(l:List (Nat×Nat)) (F G:Nat),(∀q∈l,Prm q.1)->F ∣ r - 1->wA N l F=some G->G ∣ r - 1
 | [],F,G,_,hF,h=>by simp[wA]at h; exact h ▸ hF
 | (q,a) :: l,F,G,hl,hF,h=>by
  simp only[wA]at h
  split at h
  ·rename_i hc
   simp only[aO]at hc
   obtain⟨⟨⟨B,I⟩,j⟩,A⟩:=hc
   have B:=bJ B
   have I:=bJ I
   have j:=bJ j
   have A:=bJ A
   rw[Qu]at j A
   have R:=Qj J (hl (q,a) (eH ..)) O hd (fe I) j A
   exact Hs J O hd l (F*q) G (fun x hx=>hl x (eM _ hx)) (Nat.Coprime.mul_dvd_of_dvd_of_dvd B hF R) h
  ·cases h
theorem fV {N:Nat} (l:List (Nat×Nat)) (hl:∀q∈l,Prm q.1) (h:chk N l=true):Prm N:=by
 unfold chk at h
 simp only[aO,fM]at h
 obtain⟨J,h⟩:=h
 cases hF:wA N l 1 with
 | none=>rw[hF]at h; cases h
 | some F=>
  rw[hF]at h
  have R:N<F*F:=by simpa using h
  have j:∀d,d ∣ N->1<d->F<d:=fun d hd B=>by
   obtain⟨r,G,A⟩:=rD d d (aw d) B
   have I:=Hs J G (Nat.dvd_trans A hd) l 1 F hl (Nat.one_dvd _) hF
   have O:=gc (by have:=G.1; omega) I
   have Y:=gc (by omega) A
   have:=G.1
   omega
  refine⟨J,fun d hd=>?_⟩
  by_cases e1:d=1
  ·exact .inl e1
  by_cases e2:d=N
  ·exact .inr e2
  exfalso
  obtain⟨e,he⟩:=hd
  have U:d≠0:=by rintro rfl; omega
  have V:e≠0:=by rintro rfl; omega
  have X:e≠1:=by rintro rfl; omega
  have B:=j d ⟨e,he⟩ (by omega)
  have I:=j e ⟨d,by rw[aP]; exact he⟩ (by omega)
  have O:=eb (cA B) (cA I)
  omega
theorem R7:Prm 3:=kn (by decide +kernel)
theorem RY:Prm 5:=kn (by decide +kernel)
theorem R5:Prm 7:=kn (by decide +kernel)
theorem Re:Prm 11:=kn (by decide +kernel)
theorem Rb:Prm 43:=kn (by decide +kernel)
theorem Pz:Prm 139:=kn (by decide +kernel)
theorem Qc:Prm 197:=kn (by decide +kernel)
theorem N4:Prm 211:=kn (by decide +kernel)
theorem PQ:Prm 233:=kn (by decide +kernel)
theorem O3:Prm 311:=kn (by decide +kernel)
theorem Pa:Prm 313:=kn (by decide +kernel)
theorem OG:Prm 337:=kn (by decide +kernel)
theorem N9:Prm 421:=kn (by decide +kernel)
theorem GU:Prm 881:=kn (by decide +kernel)
theorem N7:Prm 937:=kn (by decide +kernel)
theorem Nf:Prm 3023:=kn (by decide +kernel)
theorem Ny:Prm 3677:=kn (by decide +kernel)
theorem Mt:Prm 4349:=kn (by decide +kernel)
theorem GF:Prm 704251:=fV [(313,2),(5,2)] (by
 intro q j
 simp only[aM,aR,bD]at j
 rcases j with rfl | rfl
 ·exact Pa
 ·exact RY) (by decide +kernel)
theorem IY:Prm 78283:=fV [(4349,2)] (by
 intro q j
 simp only[aM,aR,bD]at j
 rw[j]; exact Mt) (by decide +kernel)
theorem qA:Prm 46076956964474543:=fV [(704251,2),(78283,2)] (by
 intro q j
 simp only[aM,aR,bD]at j
 rcases j with rfl | rfl
 ·exact GF
 ·exact IY) (by decide +kernel)
theorem xz:Prm 66417393611:=fV [(3677,2),(197,2)] (by
 intro q j
 simp only[aM,aR,bD]at j
 rcases j with rfl | rfl
 ·exact Ny
 ·exact Qc) (by decide +kernel)
theorem tB:Prm 11290956913871:=fV [(66417393611,2)] (by
 intro q j
 simp only[aM,aR,bD]at j
 rw[j]; exact xz) (by decide +kernel)
theorem kc:Prm 774023187263532362759620327192479577272145303:=fV [(46076956964474543,2),(11290956913871,2)] (by
 intro q j
 simp only[aM,aR,bD]at j
 rcases j with rfl | rfl
 ·exact qA
 ·exact tB) (by decide +kernel)
theorem jR:Prm 835945042244614951780389953367877943453916927241:=fV [(774023187263532362759620327192479577272145303,2)] (by
 intro q j
 simp only[aM,aR,bD]at j
 rw[j]; exact kc) (by decide +kernel)
theorem gl:Prm 115792089210356248762697446949407573530086143415290314195533631308867097853951:=fV [(835945042244614951780389953367877943453916927241,2)] (by
 intro q j
 simp only[aM,aR,bD]at j
 rw[j]; exact jR) (by decide +kernel)
theorem G7:Prm 155317:=fV [(43,2),(7,2),(3,3)] (by
 intro q j
 simp only[aM,aR,bD]at j
 rcases j with rfl | rfl | rfl
 ·exact Rb
 ·exact R5
 ·exact R7) (by decide +kernel)
theorem z6:Prm 191039911:=fV [(155317,2)] (by
 intro q j
 simp only[aM,aR,bD]at j
 rw[j]; exact G7) (by decide +kernel)
theorem qt:Prm 208150935158385979:=fV [(191039911,2),(3023,2)] (by
 intro q j
 simp only[aM,aR,bD]at j
 rcases j with rfl | rfl
 ·exact z6
 ·exact Nf) (by decide +kernel)
theorem mW:Prm 2624747550333869278416773953:=fV [(208150935158385979,2)] (by
 intro q j
 simp only[aM,aR,bD]at j
 rw[j]; exact qt) (by decide +kernel)
theorem GT:Prm 104471:=fV [(337,2)] (by
 intro q j
 simp only[aM,aR,bD]at j
 rw[j]; exact OG) (by decide +kernel)
theorem EL:Prm 3969899:=fV [(104471,2)] (by
 intro q j
 simp only[aM,aR,bD]at j
 rw[j]; exact GT) (by decide +kernel)
theorem uz:Prm 1002328039319:=fV [(3969899,2)] (by
 intro q j
 simp only[aM,aR,bD]at j
 rw[j]; exact EL) (by decide +kernel)
theorem gn:Prm 115792089210356248762697446949407573529996955224135760342422259061068512044369:=fV [(2624747550333869278416773953,2),(1002328039319,2)] (by
 intro q j
 simp only[aM,aR,bD]at j
 rcases j with rfl | rfl
 ·exact mW
 ·exact uz) (by decide +kernel)
theorem He:Prm 363557:=fV [(937,2)] (by
 intro q j
 simp only[aM,aR,bD]at j
 rw[j]; exact N7) (by decide +kernel)
theorem By:Prm 532247449:=fV [(363557,2)] (by
 intro q j
 simp only[aM,aR,bD]at j
 rw[j]; exact He) (by decide +kernel)
theorem tu:Prm 44925942675193:=fV [(532247449,2)] (by
 intro q j
 simp only[aM,aR,bD]at j
 rw[j]; exact By) (by decide +kernel)
theorem od:Prm 35581458644053887931343:=fV [(44925942675193,2)] (by
 intro q j
 simp only[aM,aR,bD]at j
 rw[j]; exact tu) (by decide +kernel)
theorem mL:Prm 23964610537191310276190549303:=fV [(35581458644053887931343,2)] (by
 intro q j
 simp only[aM,aR,bD]at j
 rw[j]; exact od) (by decide +kernel)
theorem ms:Prm 862725979338887169942859774909:=fV [(23964610537191310276190549303,2)] (by
 intro q j
 simp only[aM,aR,bD]at j
 rw[j]; exact mL) (by decide +kernel)
theorem ma:Prm 20705423504133292078628634597817:=fV [(862725979338887169942859774909,2)] (by
 intro q j
 simp only[aM,aR,bD]at j
 rw[j]; exact ms) (by decide +kernel)
theorem kD:Prm 413244619895455989650825325680172591660047:=fV [(20705423504133292078628634597817,2)] (by
 intro q j
 simp only[aM,aR,bD]at j
 rw[j]; exact ma) (by decide +kernel)
theorem kr:Prm 12397338596863679689524759770405177749801411:=fV [(413244619895455989650825325680172591660047,2)] (by
 intro q j
 simp only[aM,aR,bD]at j
 rw[j]; exact kD) (by decide +kernel)
theorem K4:Prm 21407:=fV [(139,2),(11,2)] (by
 intro q j
 simp only[aM,aR,bD]at j
 rcases j with rfl | rfl
 ·exact Pz
 ·exact Re) (by decide +kernel)
theorem A3:Prm 246608641:=fV [(21407,2)] (by
 intro q j
 simp only[aM,aR,bD]at j
 rw[j]; exact K4) (by decide +kernel)
theorem BX:Prm 105957871:=fV [(881,2),(211,2)] (by
 intro q j
 simp only[aM,aR,bD]at j
 rcases j with rfl | rfl
 ·exact GU
 ·exact N4) (by decide +kernel)
theorem oT:Prm 529709925838459440593:=fV [(246608641,2),(105957871,2)] (by
 intro q j
 simp only[aM,aR,bD]at j
 rcases j with rfl | rfl
 ·exact A3
 ·exact BX) (by decide +kernel)
theorem fb:Prm 19173790298027098165721053155794528970226934547887232785722672956982046098136719667167519737147526097:=fV [(12397338596863679689524759770405177749801411,2),(529709925838459440593,2)] (by
 intro q j
 simp only[aM,aR,bD]at j
 rcases j with rfl | rfl
 ·exact kr
 ·exact oT) (by decide +kernel)
theorem dZ:Prm 39402006196394479212279040100143613805079739270465446667948293404245721771496870329047266088258938001861606973112319:=fV [(19173790298027098165721053155794528970226934547887232785722672956982046098136719667167519737147526097,2)] (by
 intro q j
 simp only[aM,aR,bD]at j
 rw[j]; exact fb) (by decide +kernel)
theorem Ah:Prm 272109983:=fV [(421,2),(233,2)] (by
 intro q j
 simp only[aM,aR,bD]at j
 rcases j with rfl | rfl
 ·exact N9
 ·exact PQ) (by decide +kernel)
theorem vU:Prm 228572385721:=fV [(272109983,2)] (by
 intro q j
 simp only[aM,aR,bD]at j
 rw[j]; exact Ah) (by decide +kernel)
theorem tt:Prm 23314383343543:=fV [(228572385721,2)] (by
 intro q j
 simp only[aM,aR,bD]at j
 rw[j]; exact vU) (by decide +kernel)
theorem oU:Prm 426632512014427833817:=fV [(23314383343543,2)] (by
 intro q j
 simp only[aM,aR,bD]at j
 rw[j]; exact tt) (by decide +kernel)
theorem mX:Prm 1495199339761412565498084319:=fV [(426632512014427833817,2)] (by
 intro q j
 simp only[aM,aR,bD]at j
 rw[j]; exact oU) (by decide +kernel)
theorem mH:Prm 17942392077136950785977011829:=fV [(1495199339761412565498084319,2)] (by
 intro q j
 simp only[aM,aR,bD]at j
 rw[j]; exact mX) (by decide +kernel)
theorem E7:Prm 9863677:=fV [(881,2),(311,2)] (by
 intro q j
 simp only[aM,aR,bD]at j
 rcases j with rfl | rfl
 ·exact GU
 ·exact O3) (by decide +kernel)
theorem tA:Prm 37344768852931:=fV [(9863677,2)] (by
 intro q j
 simp only[aM,aR,bD]at j
 rw[j]; exact E7) (by decide +kernel)
theorem qO:Prm 55942463741690639:=fV [(37344768852931,2)] (by
 intro q j
 simp only[aM,aR,bD]at j
 rw[j]; exact tA) (by decide +kernel)
theorem iM:Prm 1059392654943455286185473617842338478315215895509773412096307:=fV [(17942392077136950785977011829,2),(55942463741690639,2)] (by
 intro q j
 simp only[aM,aR,bD]at j
 rcases j with rfl | rfl
 ·exact mH
 ·exact qO) (by decide +kernel)
theorem fW:Prm 3055465788140352002733946906144561090641249606160407884365391979704929268480326390471:=fV [(1059392654943455286185473617842338478315215895509773412096307,2)] (by
 intro q j
 simp only[aM,aR,bD]at j
 rw[j]; exact iM) (by decide +kernel)
theorem d8:Prm 39402006196394479212279040100143613805079739270465446667946905279627659399113263569398956308152294913554433653942643:=fV [(3055465788140352002733946906144561090641249606160407884365391979704929268480326390471,2)] (by
 intro q j
 simp only[aM,aR,bD]at j
 rw[j]; exact fW) (by decide +kernel)
end Go.Gk.Pr
end
section
namespace Go.Gk.Ec
open Go.Gk.Pr
variable {p:Nat} [NeZero p]
theorem q9:0<p:=eF (NeZero.ne p)
def fz (z:Int):Fin p:=⟨(z%p).toNat,by
 have h1:=Int.emod_lt_of_pos z (show (0:Int)<p by have:=q9 (p:=p); omega)
 have h2:=iz z (show (p:Int)≠0 by have:=q9 (p:=p); omega)
 omega⟩
theorem nh (z:Int):((fz (p:=p) z).val:Int)=z%p:=by
 have j:=iz z (show (p:Int)≠0 by have:=q9 (p:=p); omega)
 show (((z%p).toNat:Nat):Int)=_
 omega
theorem AS {a:Fin p} {z:Int} (h:(a.val:Int)%p=z%p):a=fz z:=by
 apply iI
 have:=nh (p:=p) z
 have j:=gh (a:=(a.val:Int)) (b:=p) (by omega) (by have:=a.isLt; omega)
 omega
theorem qn (a:Fin p):fz (a.val:Int)=a:=(AS rfl).symm
theorem nF (z:Int):fz (p:=p) (z%p)=fz z:=by
 apply iI
 show ((z%p%p).toNat)=(z%p).toNat
 rw[Int.emod_emod]
theorem wi (x y:Int):fz (p:=p) (x+y)=fz x+fz y:=by
 refine (AS ?_).symm
 rw[Fin.val_add,ch,iD,nh,nh,Int.emod_emod,<-Int.add_emod]
theorem sm (x y:Int):fz (p:=p) (x*y)=fz x*fz y:=by
 refine (AS ?_).symm
 rw[Fin.val_mul,ch,dg,nh,nh,Int.emod_emod,<-Int.mul_emod]
theorem NK:fz (p:=p) 0=0:=by
 apply iI
 show ((0:Int)%p).toNat=_
 rw[Int.zero_emod]; rfl
theorem H5 (x y:Int):fz (p:=p) (x - y)=fz x - fz y:=by
 have h:=wi (p:=p) (x - y) y
 rw[show x - y+y=x by omega]at h
 rw[h]; grobner
theorem uQ (n:Nat):fz (p:=p) (n:Int)=Fin.ofNat p n:=by
 apply iI
 show ((n:Int)%p).toNat=n%p
 rw[<-ch]; rfl
theorem FN {z:Int}:fz (p:=p) z=0↔z%p=0:=by
 constructor
 ·intro h
  have:=nh (p:=p) z
  rw[h]at this
  simpa using this.symm
 ·intro h
  have:=nF (p:=p) z
  rw[<-this,h,NK]
theorem N0 (hp:Prm p) (I:2<p):Fld p:=by
 have B:∀u:Fin p,u≠0->¬p ∣ u.val:=fun u hu hd=>by
  apply hu
  apply iI
  have A:=u.isLt
  have:(0:Fin p).val=0:=by simp
  rw[this]
  rcases bO u.val with h | h
  ·exact h
  ·have:=gc h hd; omega
 refine⟨fun u v h=>?_,fun u hu=>?_,fun h=>?_⟩
 ·by_cases hu:u=0
  ·exact .inl hu
  ·right
   have G:p ∣ u.val*v.val:=by
    have:=da Fin.val h
    rw[Fin.val_mul]at this
    have A:(0:Fin p).val=0:=by simp
    rw[A]at this
    exact fe this
   rcases hp.dvd_mul G with j | j
   ·exact (B u hu j).elim
   ·refine gR fun J=>B v J j
 ·refine⟨⟨u.val^(p - 2)%p,bG _ (by omega)⟩,?_⟩
  apply iI
  rw[Fin.val_mul]
  have G:(1:Fin p).val=1%p:=rfl
  have N:1%p=1:=az (by omega)
  rw[G,N]
  have j:=GP hp (B u hu)
  show u.val*(u.val^(p - 2)%p)%p=1
  rw[dH,ji,<-dH,aP,<-bo,show (p - 2).succ=p - 1 by omega]
  exact j
 ·have j:=da Fin.val h
  have O:(2:Fin p).val=2%p:=rfl
  have A:(0:Fin p).val=0:=by simp
  rw[O,A,az I]at j
  cases j
open Classical in
noncomputable def jac (X Y Z:Fin p):Pt p:=if Z=0 then none else some (X*(rcp Z*rcp Z),Y*(rcp Z*(rcp Z*rcp Z)))
theorem lC (X Y:Fin p):jac X Y 0=none:=ag rfl
theorem Fld.jac_of (F:Fld p) {X Y Z x y:Fin p} (hz:Z≠0) (hx:X=x*(Z*Z)) (hy:Y=y*(Z*(Z*Z))):jac X Y Z=some (x,y):=by
 have e:=F.mul_iv hz
 unfold jac
 rw[ae hz]
 generalize rcp Z=i at e ⊢
 have j:X*(i*i)=x:=by subst hx; clear hy; grobner
 have A:Y*(i*(i*i))=y:=by subst hy; clear hx j; grobner
 rw[j,A]
theorem Fld.of_jac (F:Fld p) (X Y:Fin p) {Z:Fin p} (hz:Z≠0):∃x y,X=x*(Z*Z)/\Y=y*(Z*(Z*Z))/\jac X Y Z=some (x,y):=by
 have e:=F.mul_iv hz
 refine⟨X*(rcp Z*rcp Z),Y*(rcp Z*(rcp Z*rcp Z)),?_,?_,ae hz⟩
 ·generalize rcp Z=i at e ⊢; grobner
 ·generalize rcp Z=i at e ⊢; grobner
theorem Fld.mul_ne (F:Fld p) {u v:Fin p} (hu:u≠0) (j:v≠0):u*v≠0:=fun h=>(F.nz u v h).elim hu j
theorem Fld.jac_dbl (F:Fld p) {X Y Z R A s m U V:Fin p} (hz:Z≠0) (B:R=Z*Z) (G:A=Y*Y) (I:s=4*(X*A)) (j:m=3*((X - R)*(X+R))) (J:U=m*m - 2*s) (N:V=m*(s - U) - 8*(A*A)) :
  jac U V (2*(Y*Z))=add (-3) (jac X Y Z) (jac X Y Z):=by
 obtain⟨x,y,hx,hy,hj⟩:=F.of_jac X Y hz
 rw[hj,oS,ag rfl]
 by_cases y0:y+y=0
 ·have:y=0:=F.dbl y0
  rw[ag y0,hy,this,show (2:Fin p)*(0*(Z*(Z*Z))*Z)=0 by grobner,lC]
 ·rw[ae y0]
  have O:y≠0:=by rintro rfl; exact y0 (by grobner)
  have ab:2*y≠0:=F.mul_ne F.two O
  have e:=F.mul_iv ab
  obtain⟨l,hl⟩:∃l,(3*(x*x)+-3)*rcp (2*y)=l:=⟨_,rfl⟩
  have hs:l*(2*y)=3*(x*x) - 3:=by rw[<-hl]; generalize rcp (2*y)=i at e; clear hl B G I j J N hx hy; grobner
  rw[hl]
  clear hl e
  unfold rq
  have hm:m=l*(2*y)*(Z*Z*(Z*Z)):=by rw[hs]; subst B hx; clear hs G I J N; rw[j]; clear j; grobner
  have ac:2*(Y*Z)≠0:=by rw[hy]; exact F.mul_ne F.two (F.mul_ne (F.mul_ne O (F.mul_ne hz (F.mul_ne hz hz))) hz)
  refine F.jac_of ac ?_ ?_
  ·clear hs j B; subst J hm I G hx hy; clear N; grobner
  ·clear hs j B; subst N J hm I G hx hy; grobner
theorem Fld.jac_add (F:Fld p) {X1 Y1 j X2 Y2 A u1 u2 s1 s2 h r hh bx v x' y':Fin p} (z1:j≠0) (z2:A≠0) (Z:u1=X1*(A*A)) (e2:u2=X2*(j*j)) (e3:s1=Y1*(A*(A*A))) (e4:s2=Y2*(j*(j*j)))
  (e5:h=u2 - u1) (e6:r=s2 - s1) (V:hh=h*h) (e8:bx=h*hh) (X:v=u1*hh) (B:x'=r*r - bx - 2*v) (G:y'=r*(v - x') - s1*bx) (hn:h≠0) (a:Fin p) :
  jac x' y' (h*(j*A))=add a (jac X1 Y1 j) (jac X2 Y2 A):=by
 obtain⟨x1,y1,J,N,b6⟩:=F.of_jac X1 Y1 z1
 obtain⟨x2,y2,O,R,b7⟩:=F.of_jac X2 Y2 z2
 have hW:=F.mul_ne z1 z2
 have I:h=(x2 - x1)*(j*A*(j*A)):=by subst e5 Z e2 J O; clear e3 e4 e6 V e8 X B G hn N R; grobner
 have U:r=(y2 - y1)*(j*A*(j*A*(j*A))):=by subst e6 e3 e4 N R; clear Z e2 e5 V e8 X B G hn J O I; grobner
 have Y:u1=x1*(j*A*(j*A)):=by subst Z J; clear e2 e3 e4 e5 e6 V e8 X B G hn I U N R O; grobner
 have b2:s1=y1*(j*A*(j*A*(j*A))):=by subst e3 N; clear e2 Z e4 e5 e6 V e8 X B G hn I U J R O Y; grobner
 have hx:x1≠x2:=by
  rintro rfl
  apply hn; rw[I]; grobner
 have hd:x2 - x1≠0:=fun h0=>hx (jY h0).symm
 rw[b6,b7,oS,ae hx]
 have e:=F.mul_iv hd
 obtain⟨l,hl⟩:∃l,(y2 - y1)*rcp (x2 - x1)=l:=⟨_,rfl⟩
 have hs:l*(x2 - x1)=y2 - y1:=by
  rw[<-hl]; generalize rcp (x2 - x1)=i at e
  generalize x2 - x1=d at *; clear hl Z e2 e3 e4 e5 e6 V e8 X B G J O N R I U Y b2 hn; grobner
 rw[hl]
 clear hl e
 unfold rq
 have b3:h*(j*A)≠0:=F.mul_ne hn hW
 rw[<-hs]at U
 clear Z e2 e3 e4 e5 e6 J N O R b6 b7 hs
 refine F.jac_of b3 ?_ ?_
 ·clear hn b3 hW hd hx G b2; subst B X e8 V I U Y; generalize j*A=W; grobner
 ·clear hn b3 hW hd hx; subst G B X e8 V I U Y b2; generalize j*A=W; grobner
end Go.Gk.Ec
end
section
namespace Go.Gk.Ec
open Go.Gk.Pr
variable {p:Nat} [NeZero p] {a b:Fin p}
noncomputable def mul (a:Fin p):Nat->Pt p->Pt p
 | 0,_=>none
 | k+1,P=>add a (mul a k P) P
theorem len_le:∀{l l':List Nat},l.Nodup->(∀x∈l,x∈l')->l.length<=l'.length
 | [],l',_,_=>eZ _
 | x :: l,l',hn,hs=>by
  have hx:=hs x (eH ..)
  have hl:=(List.perm_cons_erase hx).length_eq
  have j:=List.nodup_cons.1 hn
  have:=len_le j.2 (l':=l'.erase x) fun y hy=>by
   have A:y≠x:=by rintro rfl; exact j.1 hy
   exact (List.mem_erase_of_ne A).2 (hs y (eM _ hy))
  simp only[ca]at hl ⊢
  omega
end Go.Gk.Ec
end
section
namespace Go.Gk.Ec
open Go.Gk.Pr
section
variable {p:Nat} [NeZero p]
end
end Go.Gk.Ec
end
section
namespace Go.Gk.Bn
open Go Go.Gk Go.Gk.Sh Go.Gk.Ec Go.Gk.Pr
instance cP_nz (c:Int):NeZero (cP c):=⟨by have:=(kC c).2.2.2.2.2.1; omega⟩
theorem o8 (c:Int):Prm (cP c):=by
 unfold cP
 split
 ·exact gl
 ·exact dZ
theorem A8 (c:Int):Prm (cN c):=by
 unfold cN
 split
 ·exact gn
 ·exact d8
theorem sI (c:Int):Fld (cP c):=N0 (o8 c) (by have:=(kC c).2.2.2.2.2.1; omega)
section
variable {p:Nat} [NeZero p]
def be (u:Fin p):Bool×L00:=bi (u.val:Int)
theorem Hz {x y:Int}:fz (p:=p) x=fz y↔x%p=y%p:=by
 constructor
 ·intro h
  rw[<-nh (p:=p) x,h,nh]
 ·intro h
  rw[<-nF x,h,nF]
theorem px (z:Int):be (fz (p:=p) z)=bi (z%p):=by unfold be; rw[nh]
theorem HH:fz (p:=p) 1=1:=uQ 1
theorem mY (u:Fin p) (hpl:nl (p:Int)<=1000):nl (u.val:Int)<=1000:=aZ (kS (by have:=u.isLt; omega)) hpl
theorem nC (u:Fin p):F.TK (be u).1 (be u).2=some (if u=0 then 0 else 1):=by
 unfold be
 rw[wN]
 by_cases h:u=0
 ·have j:(0:Fin p).val=0:=by simp
  rw[ag h,h,j,ag (by rfl)]
 ·have A:u.val≠0:=fun e=>h (iI (by rw[e]; simp))
  rw[ae h,ae (by omega),ae (by omega)]
variable (b0:Bool) (b1:L00) (n0:Bool) (n1:L00) (x0:Bool) (x1:L00) (y0:Bool) (y1:L00) (s:Int) (hpl:nl (p:Int)<=1000)
include hpl
theorem ul (u v:Fin p):F.SY (bi (p:Int)).1 (bi (p:Int)).2 b0 b1 n0 n1 x0 x1 y0 y1 s (be u).1 (be u).2 (be v).1 (be v).2=some (be (u*v)):=by
 have j:=mY u hpl; have A:=mY v hpl
 have B:=fO (dv u.val) (dv v.val)
 unfold be
 rw[qb p b0 b1 n0 n1 x0 x1 y0 y1 s q9 hpl _ _ (by omega) (fun h=>by omega),Fin.val_mul,ch,dg]
theorem Bw (u v:Fin p):F.Tt (bi (p:Int)).1 (bi (p:Int)).2 b0 b1 n0 n1 x0 x1 y0 y1 s (be u).1 (be u).2 (be v).1 (be v).2=some (be (u - v)):=by
 have A:=mY u hpl; have B:=mY v hpl
 have j:be (u - v)=bi (((u.val:Int) - (v.val:Int))%p):=by rw[<-px,H5,qn,qn]
 rw[j]
 unfold be
 rw[D8 p b0 b1 n0 n1 x0 x1 y0 y1 s q9 hpl _ _ (by omega) (by omega)]
theorem vv (k:Nat) (A:k<=1000) (u:Fin p):F.TP (bi (p:Int)).1 (bi (p:Int)).2 b0 b1 n0 n1 x0 x1 y0 y1 s (k:Int) (be u).1 (be u).2=some (be (Fin.ofNat p k*u)):=by
 have B:=mY u hpl
 have j:be (Fin.ofNat p k*u)=bi (((k:Int)*(u.val:Int))%p):=by rw[<-px,sm,qn,uQ]
 rw[j]
 unfold be
 rw[xM p b0 b1 n0 n1 x0 x1 y0 y1 s q9 hpl (k:Int) _ (by omega) (by omega) (by omega) (by omega)]
theorem JT (u v:Fin p):(af (F.WI false [] (be u).1 (be u).2 (be v).1 (be v).2) fun x=>F.Uh (bi (p:Int)).1 (bi (p:Int)).2 b0 b1 n0 n1 x0 x1 y0 y1 s x.1 x.2)=some (be (u+v)):=by
 have A:=mY u hpl; have B:=mY v hpl
 have j:be (u+v)=bi (((u.val:Int)+(v.val:Int))%p):=by rw[<-px,wi,qn,qn]
 have G:=Bg (u.val:Int) (v.val:Int)
 rw[j]
 unfold be
 rw[Ol _ _ _ _ (by omega) (by omega),aa,ta p b0 b1 n0 n1 x0 x1 y0 y1 s q9 hpl _ (by omega) (fun _=>by omega)]
omit hpl in
def rT (X Y Z:Fin p):Fin p×Fin p×Fin p:=
 if Z=0 then (X,Y,Z) else
  let zz:=Z*Z; let yy:=Y*Y; let s:=4*(X*yy); let m:=3*((X - zz)*(X+zz)); let x:=m*m - 2*s
  (x,m*(s - x) - 8*(yy*yy),2*(Y*Z))
omit hpl in
def pX (X1 Y1 Z1 X2 Y2 Z2:Fin p):Fin p×Fin p×Fin p:=
 if Z1=0 then (X2,Y2,Z2) else if Z2=0 then (X1,Y1,Z1) else
  let u1:=X1*(Z2*Z2); let s1:=Y1*(Z2*(Z2*Z2)); let h:=X2*(Z1*Z1) - u1; let r:=Y2*(Z1*(Z1*Z1)) - s1
  if h=0 then (if r=0 then rT X1 Y1 Z1 else (0,0,0)) else
   let hh:=h*h; let hhh:=h*hh; let v:=u1*hh; let x:=r*r - hhh - 2*v
   (x,r*(v - x) - s1*hhh,h*(Z1*Z2))
omit hpl in
def bt (t:Fin p×Fin p×Fin p):Bool×L00×Bool×L00×Bool×L00:=((be t.1).1,(be t.1).2,(be t.2.1).1,(be t.2.1).2,(be t.2.2).1,(be t.2.2).2)
omit hpl in
noncomputable def jpt (t:Fin p×Fin p×Fin p):Pt p:=jac t.1 t.2.1 t.2.2
omit hpl in
theorem sg0 {u:Fin p}:(((if u=0 then (0:Int) else 1) == 0)=true)↔u=0:=by
 by_cases h:u=0
 ·rw[ag h]; simp[h]
 ·rw[ae h]; simp[h]
theorem vZ (X Y Z:Fin p):F.VY (bi (p:Int)).1 (bi (p:Int)).2 b0 b1 n0 n1 x0 x1 y0 y1 s (be X).1 (be X).2 (be Y).1 (be Y).2 (be Z).1 (be Z).2=some (bt (rT X Y Z)):=by
 have mul:=ul b0 b1 n0 n1 x0 x1 y0 y1 s hpl
 have sub:=Bw b0 b1 n0 n1 x0 x1 y0 y1 s hpl
 have j:=fun k G=>vv b0 b1 n0 n1 x0 x1 y0 y1 s hpl k G
 have I:=JT b0 b1 n0 n1 x0 x1 y0 y1 s hpl
 unfold F.VY
 rw[nC,aa]
 by_cases h:Z=0
 ·rw[ag (sg0.2 h)]
  unfold rT
  rw[ag h]; rfl
 ·rw[ae (fun q=>h (sg0.1 q)),mul,aa,mul,aa,mul,aa]
  have t4:=j 4 (by decide); have t3:=j 3 (by decide); have A:=j 2 (by decide); have B:=j 8 (by decide)
  have J:((4:Nat):Int)=4:=rfl
  have N:((3:Nat):Int)=3:=rfl
  have O:((2:Nat):Int)=2:=rfl
  have e8:((8:Nat):Int)=8:=rfl
  rw[J]at t4; rw[N]at t3; rw[O]at A; rw[e8]at B
  rw[t4,aa,sub,aa]
  have hb:∀{α β γ:Type} (x:Option α) (f:α->Option β) (g:β->Option γ),(af x fun a=>af (f a) g)=af (af x f) g:=fun x f g=>by cases x <;> rfl
  rw[hb,I,aa,mul,aa,t3,aa,mul,aa,A,aa,sub,aa,sub,aa,mul,aa,mul,aa,B,aa,sub,aa,mul,aa,A,aa]
  unfold rT
  rw[ae h]
  rfl
theorem Dx (X1 B j G I A:Fin p):F.Uq (bi (p:Int)).1 (bi (p:Int)).2 b0 b1 n0 n1 x0 x1 y0 y1 s (be X1).1 (be X1).2 (be B).1 (be B).2 (be j).1 (be j).2 (be G).1 (be G).2 (be I).1 (be I).2 (be A).1 (be A).2=some (bt (pX X1 B j G I A)):=by
 have mul:=ul b0 b1 n0 n1 x0 x1 y0 y1 s hpl
 have sub:=Bw b0 b1 n0 n1 x0 x1 y0 y1 s hpl
 have J:=vv b0 b1 n0 n1 x0 x1 y0 y1 s hpl 2 (by decide)
 have N:((2:Nat):Int)=2:=rfl
 rw[N]at J
 unfold F.Uq pX
 rw[nC,aa]
 by_cases h1:j=0
 ·rw[ag (sg0.2 h1),ag h1]; rfl
 rw[ae (fun q=>h1 (sg0.1 q)),ae h1,nC,aa]
 by_cases h2:A=0
 ·rw[ag (sg0.2 h2),ag h2]; rfl
 rw[ae (fun q=>h2 (sg0.1 q)),ae h2,mul,aa,mul,aa,mul,aa,mul,aa,mul,aa,mul,aa,mul,aa,mul,aa,sub,aa,sub,aa,nC,aa]
 dsimp only
 by_cases h3:G*(j*j) - X1*(A*A)=0
 ·rw[ag (sg0.2 h3),ag h3,nC,aa]
  by_cases h4:I*(j*(j*j)) - B*(A*(A*A))=0
  ·rw[ag (sg0.2 h4),ag h4,vZ b0 b1 n0 n1 x0 x1 y0 y1 s hpl,aa]
  ·rw[ae (fun q=>h4 (sg0.1 q)),ae h4]
   unfold F.T8
   rw[aa]
   have O:be (0:Fin p)=(false,[]):=by
    unfold be
    have:(0:Fin p).val=0:=by simp
    rw[this]
    exact da (fun l=>(false,l)) cH
   unfold bt
   dsimp only
   rw[O]
 ·rw[ae (fun q=>h3 (sg0.1 q)),ae h3,mul,aa,mul,aa,mul,aa,mul,aa,sub,aa,J,aa,sub,aa,sub,aa,mul,aa,mul,aa,sub,aa,mul,aa,mul,aa]
  rfl
end
section
variable {p:Nat} [NeZero p]
theorem El (F:Fld p) (t:Fin p×Fin p×Fin p):jpt (rT t.1 t.2.1 t.2.2)=Ec.add (-3) (jpt t) (jpt t):=by
 obtain⟨X,Y,Z⟩:=t
 unfold jpt rT
 by_cases h:Z=0
 ·subst h
  rw[ag rfl,lC]; rfl
 ·rw[ae h]
  exact F.jac_dbl h rfl rfl rfl rfl rfl rfl
theorem D0 (F:Fld p) {b:Fin p} (t u:Fin p×Fin p×Fin p) (ht:On (-3) b (jpt t)) (hu:On (-3) b (jpt u)):jpt (pX t.1 t.2.1 t.2.2 u.1 u.2.1 u.2.2)=Ec.add (-3) (jpt t) (jpt u):=by
 obtain⟨X1,G,j⟩:=t
 obtain⟨J,N,I⟩:=u
 unfold pX
 dsimp only
 by_cases h1:j=0
 ·subst h1
  rw[ag rfl]
  show _=Ec.add (-3) (jac X1 G 0) _
  rw[lC]; rfl
 rw[ae h1]
 by_cases h2:I=0
 ·subst h2
  rw[ag rfl]
  show _=Ec.add (-3) _ (jac J N 0)
  rw[lC,KD]
 rw[ae h2]
 by_cases h3:J*(j*j) - X1*(I*I)=0
 ·rw[ag h3]
  obtain⟨x1,y1,O,R,A⟩:=F.of_jac X1 G h1
  obtain⟨x2,y2,U,V,B⟩:=F.of_jac J N h2
  have X:=F.mul_ne h1 h2
  have ac:x1=x2:=by
   refine F.cancel (F.mul_ne X X) ?_
   subst O U; clear R V A B ht hu; grobner
  have Y:On (-3) b (some (x1,y1)):=by rw[<-A]; exact ht
  have Z:On (-3) b (some (x2,y2)):=by rw[<-B]; exact hu
  subst ac
  by_cases h4:N*(j*(j*j)) - G*(I*(I*I))=0
  ·rw[ag h4]
   have ad:y1=y2:=by
    refine F.cancel (F.mul_ne X (F.mul_ne X X)) ?_
    subst R V; clear A B ht hu Y Z O U h3; grobner
   have e:=El F (X1,G,j)
   refine e.trans ?_
   show Ec.add (-3) (jac X1 G j) (jac X1 G j)=Ec.add (-3) (jac X1 G j) (jac J N I)
   rw[A,B,ad]
  ·rw[ae h4]
   have al:y1+y2=0:=by
    rcases F.same_x Y Z with q | q
    ·exfalso; apply h4
     subst R V q; clear A B ht hu Y Z O U h3 h4; grobner
    ·rw[q,Nq]
   show jac 0 0 0=Ec.add (-3) (jac X1 G j) (jac J N I)
   rw[lC,A,B,oS,ag rfl,ag al]
 ·rw[ae h3]
  exact F.jac_add h1 h2 rfl rfl rfl rfl rfl rfl rfl rfl rfl rfl rfl h3 (-3)
end
section
variable {p:Nat} [NeZero p]
def rl (u:Fin p):L00:=au u.val
def rep (P:Pt p):L00×L00×Bool:=match P with
 | none=>([],[],true)
 | some (x,y)=>(rl x,rl y,false)
theorem AX (u:Fin p):val (rl u)=u.val:=ay _
theorem O8 (F:Fld p) (hp:Prm p) {Z:Fin p} {v:Nat} (j:v<p) (h:Z.val*v%p=1):(⟨v,j⟩:Fin p)=rcp Z:=by
 apply F.iv_uniq
 apply iI
 rw[Fin.val_mul]
 show Z.val*v%p=1%p
 rw[h,az hp.1]
theorem No (hp:Prm p) {Z:Fin p} (h:Z≠0):Nat.gcd Z.val p=1:=by
 have hz:Z.val≠0:=fun e=>h (iI (by rw[e]; simp))
 have j:¬p ∣ Z.val:=fun hd=>by have:=gc (by omega) hd; have:=Z.isLt; omega
 rw[fC]
 exact hp.coprime j
theorem DM (hpl:nl (p:Int)<=1000) (u:Fin p):F.Uo (be u).1 (be u).2=some (rl u):=by
 have:=mY u hpl
 unfold be
 rw[Hd _ (by omega)]; rfl
theorem J5 (b0:Bool) (b1:L00) (n0:Bool) (n1:L00) (x0:Bool) (x1:L00) (y0:Bool) (y1:L00) (s:Int) (hpl:nl (p:Int)<=1000) (D:Fld p) (hp:Prm p) (X Y Z:Fin p) :
  F.UC (bi (p:Int)).1 (bi (p:Int)).2 b0 b1 n0 n1 x0 x1 y0 y1 s (be X).1 (be X).2 (be Y).1 (be Y).2 (be Z).1 (be Z).2=some (rep (jac X Y Z)):=by
 have mul:=ul b0 b1 n0 n1 x0 x1 y0 y1 s hpl
 unfold F.UC jac
 rw[nC,aa]
 by_cases h:Z=0
 ·rw[ag (sg0.2 h),ag h]; rfl
 ·rw[ae (fun q=>h (sg0.1 q)),ae h]
  have hz:=mY Z hpl
  obtain⟨v,B,A,j⟩:=yV false [] Z.val p hp.1 (by omega) (by omega) (No hp h)
  have e:bi (v:Int)=be (rcp Z):=by rw[<-O8 D hp B A]; rfl
  rw[e]at j
  rw[show F.Wh false [] (be Z).1 (be Z).2 (bi (p:Int)).1 (bi (p:Int)).2=some (be (rcp Z)) from j,aa,mul,aa,mul,aa,DM hpl,aa,mul,aa,mul,aa,DM hpl,aa]
  rfl
end
section
variable (c:Int) (hc:isC c)
theorem Bv (u:Fin (cP c)):(rl u).length<=12:=td c (cA u.isLt)
include hc
def tU (X Y:L00) (inf:Bool):Pt (cP c):=if inf then none else some (fz (val X:Int),fz (val Y:Int))
theorem Do (x y:Nat) (hx:x<cP c) (hy:y<cP c):onN (cP c) (cB c) x y=true↔On (-3) (fz (cB c:Int)) (some (fz (p:=cP c) (x:Int),fz (y:Int))):=by
 have hp:=(kC c).2.2.2.2.2.1
 unfold onN
 rw[ai hx,ai hy,eE,eE,decide_eq_true_iff]
 obtain⟨A,hA⟩:∃A,x*(x*x%cP c)%cP c=A:=⟨_,rfl⟩
 obtain⟨B,j⟩:∃B,3*x%cP c=B:=⟨_,rfl⟩
 have U:B<cP c:=by rw[<-j]; exact bG _ (by omega)
 have G:fz (p:=cP c) (A:Int)=fz x*(fz x*fz x):=by rw[<-hA,ch,nF,dg,sm,ch,nF,dg,sm]
 have I:fz (p:=cP c) (B:Int)=3*fz x:=by
  rw[<-j,ch,nF,dg,sm]
  congr 1
 have J:fz (p:=cP c) (cP c:Int)=0:=FN.2 (Int.emod_self)
 rw[hA,j]
 have N:fz (p:=cP c) ((((A+cP c - B)%cP c+cB c:Nat)):Int)=fz x*(fz x*fz x) - 3*fz x+fz (cB c:Int):=by
  rw[iD,wi,ch,nF,show ((A+cP c - B:Nat):Int)=(A:Int)+cP c - B by omega,H5,wi,G,I,J]
  grobner
 have O:fz (p:=cP c) ((y*y:Nat):Int)=fz y*fz y:=by rw[dg,sm]
 have R:y*y%cP c=((A+cP c - B)%cP c+cB c)%cP c↔fz (p:=cP c) ((y*y:Nat):Int)=fz ((((A+cP c - B)%cP c+cB c:Nat)):Int):=by
  rw[Hz,<-ch,<-ch]
  exact Int.natCast_inj.symm
 rw[R,N,O]
 unfold On
 dsimp only
 constructor
 ·intro h; rw[h]; grobner
 ·intro h; rw[h]; grobner
end
abbrev bF (c:Int):Fin (cP c):=fz (cB c:Int)
theorem EZ {c:Int} {X Y:L00} {q:Bool} (h:onS c X Y q=true):isC c:=by
 unfold onS at h
 split at h
 ·assumption
 ·cases h
theorem Dz {c:Int} {X Y:L00} (h:onS c X Y false=true):val X<cP c/\val Y<cP c/\onN (cP c) (cB c) (val X) (val Y)=true:=by
 have hc:=EZ h
 unfold onS at h
 rw[ag hc,ae (by decide)]at h
 exact⟨(Gw h).1,(Gw h).2,h⟩
theorem PU {c:Int} {X Y:L00} {q:Bool} (h:onS c X Y q=true):On (-3) (bF c) (tU c X Y q):=by
 unfold tU
 cases q with
 | true=>rw[ag rfl]; trivial
 | false=>
  obtain⟨j,A,B⟩:=Dz h
  rw[ae (by decide)]
  exact (Do c (EZ h) _ _ j A).1 B
theorem lz {l:L00} (h:val l=0):au (val l)=[]:=by rw[h]; exact cH
def jT (c:Int) (X Y:L00) (q:Bool):Fin (cP c)×Fin (cP c)×Fin (cP c):=if q then (0,0,0) else (fz (val X:Int),fz (val Y:Int),1)
theorem D4 {p:Nat} [NeZero p]:be (0:Fin p)=(false,[]):=by
 unfold be
 have:(0:Fin p).val=0:=by simp
 rw[this]
 exact da (fun l=>(false,l)) cH
theorem Qg {c:Int} {X Y:L00} {q:Bool} (h:onS c X Y q=true):rdT X Y q=bt (jT c X Y q):=by
 unfold rdT jT bt
 cases q with
 | true=>
  rw[ag rfl,ag rfl]
  dsimp only
  rw[D4]
 | false=>
  obtain⟨G,I,_⟩:=Dz h
  have hp:=(o8 c).1
  have j:be (fz (p:=cP c) (val X:Int))=bi (val X:Int):=by rw[px,gh (by omega) (by omega)]
  have A:be (fz (p:=cP c) (val Y:Int))=bi (val Y:Int):=by rw[px,gh (by omega) (by omega)]
  have B:be (1:Fin (cP c))=bi 1:=by rw[<-HH,px,gh (by omega) (by omega)]
  rw[ae (by decide),ae (by decide)]
  dsimp only
  rw[j,A,B]
theorem HA (c:Int):(1:Fin (cP c))≠0:=by
 intro h
 have A:(1:Fin (cP c)).val=1%cP c:=rfl
 have B:(0:Fin (cP c)).val=0:=by simp
 have j:=da Fin.val h
 rw[A,B,az (o8 c).1]at j
 cases j
theorem Li (c:Int) (X Y:L00) (q:Bool):jpt (jT c X Y q)=tU c X Y q:=by
 unfold jpt jT tU
 cases q with
 | true=>exact lC _ _
 | false=>
  rw[ae (by decide),ae (by decide)]
  exact (sI c).jac_of (HA c) (by grobner) (by grobner)
theorem P1 (c:Int) (t:Fin (cP c)×Fin (cP c)×Fin (cP c)) :
  F.UC (gT c).1 (gT c).2.1 (gT c).2.2.1 (gT c).2.2.2.1 (gT c).2.2.2.2.1 (gT c).2.2.2.2.2.1 (gT c).2.2.2.2.2.2.1 (gT c).2.2.2.2.2.2.2.1 (gT c).2.2.2.2.2.2.2.2.1 (gT c).2.2.2.2.2.2.2.2.2.1 (gT c).2.2.2.2.2.2.2.2.2.2
   (bt t).1 (bt t).2.1 (bt t).2.2.1 (bt t).2.2.2.1 (bt t).2.2.2.2.1 (bt t).2.2.2.2.2=some (rep (jpt t)):=
 J5 _ _ _ _ _ _ _ _ _ (by have:=tc c; omega) (sI c) (o8 c) t.1 t.2.1 t.2.2
theorem QL (c:Int) (t u:Fin (cP c)×Fin (cP c)×Fin (cP c)) :
  F.Uq (gT c).1 (gT c).2.1 (gT c).2.2.1 (gT c).2.2.2.1 (gT c).2.2.2.2.1 (gT c).2.2.2.2.2.1 (gT c).2.2.2.2.2.2.1 (gT c).2.2.2.2.2.2.2.1 (gT c).2.2.2.2.2.2.2.2.1 (gT c).2.2.2.2.2.2.2.2.2.1 (gT c).2.2.2.2.2.2.2.2.2.2
   (bt t).1 (bt t).2.1 (bt t).2.2.1 (bt t).2.2.2.1 (bt t).2.2.2.2.1 (bt t).2.2.2.2.2 (bt u).1 (bt u).2.1 (bt u).2.2.1 (bt u).2.2.2.1 (bt u).2.2.2.2.1 (bt u).2.2.2.2.2=some (bt (pX t.1 t.2.1 t.2.2 u.1 u.2.1 u.2.2)):=
 Dx _ _ _ _ _ _ _ _ _ (by have:=tc c; omega) t.1 t.2.1 t.2.2 u.1 u.2.1 u.2.2
section
variable {p:Nat} [NeZero p]
end
def gP (c:Int):Pt (cP c):=some (fz (cX c:Int),fz (cY c:Int))
theorem LJ (c:Int) (hc:isC c):On (-3) (bF c) (gP c):=by
 obtain⟨_,_,_,j,A,_⟩:=kC c
 refine (Do c hc (cX c) (cY c) j A).1 ?_
 rcases hc with rfl | rfl
 ·decide +kernel
 ·decide +kernel
theorem yA (n:Nat) (hn:nl (n:Int)<=1000000000):F.W1 (bi (n:Int)).1 (bi (n:Int)).2=some (nb n:Int):=by
 unfold F.W1
 rw[length_eq _ (by have:(bi (n:Int)).2.length=nl (n:Int):=rfl; omega),aa,bi2,cF,pQ]
def bw (n i:Nat):UInt64:=UInt64.ofNat (n / 2^i%2)
theorem Ak (n i:Nat):(bw n i == 1)=decide (n / 2^i%2=1):=by
 have h:n / 2^i%2=0\/n / 2^i%2=1:=by omega
 unfold bw
 rcases h with h | h <;> rw[h] <;> rfl
theorem M9 (a:L00) (i:Nat) (hi:i<=4611686018427387904) (ha:a.length<=4611686018427387904):F.Xm a (i:Int)=some (bw (val a) i):=by
 unfold F.Xm F.aaa
 have A:wI (Int.tdiv (i:Int) 32)=((i / 32:Nat):Int):=by rw[bN (by omega),aD (by omega) (by omega)]; omega
 have w2:((UInt64.ofInt (i:Int))%32).toNat=i%32:=by
  rw[dh,UInt64.ofInt,bQ]
  have:(32:UInt64).toNat=32:=rfl
  rw[this]; omega
 rw[ae (by simp only[ak]; omega),A]
 dsimp only
 by_cases h:a.length<=i / 32
 ·rw[ag (ai (by omega))]
  have j:=uJ a i
  have B:a.getD (i / 32) 0=0:=iJ h
  rw[B]at j
  unfold bw
  rw[<-j]
  have:(0:UInt32).toNat=0:=rfl
  rw[this,Nat.zero_div]; rfl
 ·rw[ae (by simp only[ak]; omega),bh (show i / 32<a.length by omega) 0,aa,w2]
  congr 1
  apply cx.1
  have j:((dB (a.getD (i / 32) 0) (i%32)).toUInt64 &&& 1).toNat=val a / 2^i%2:=by
   rw[jg,c9,lJ,bg (by omega),<-uJ]
   have:(1:UInt64).toNat=2^1 - 1:=rfl
   rw[this,fi]
  rw[j]
  unfold bw
  rw[bQ]
  omega
theorem Iz (n i:Nat) (hi:i<=4611686018427387904) (hn:nl (n:Int)<=1000000000):F.WM (bi (n:Int)).1 (bi (n:Int)).2 (i:Int)=some (bw n i):=by
 unfold F.WM
 rw[ae (by simp only[ak]; omega),bi1 (by omega),ag (by rfl),M9 _ _ hi (by have:(bi (n:Int)).2.length=nl (n:Int):=rfl; omega),aa,qC,cF]
section
variable {p:Nat} [NeZero p]
def pG (t:Fin p×Fin p×Fin p) (b:Bool) (q:Fin p×Fin p×Fin p):Fin p×Fin p×Fin p:=
 let d:=rT t.1 t.2.1 t.2.2
 if b then pX d.1 d.2.1 d.2.2 q.1 q.2.1 q.2.2 else d
variable (b0:Bool) (b1:L00) (n0:Bool) (n1:L00) (x0:Bool) (x1:L00) (y0:Bool) (y1:L00) (s:Int) (hpl:nl (p:Int)<=1000)
include hpl
theorem I8 (t:Fin p×Fin p×Fin p) (b:Bool) (q:Fin p×Fin p×Fin p) :
  F.Uz (bi (p:Int)).1 (bi (p:Int)).2 b0 b1 n0 n1 x0 x1 y0 y1 s (bt t).1 (bt t).2.1 (bt t).2.2.1 (bt t).2.2.2.1 (bt t).2.2.2.2.1 (bt t).2.2.2.2.2 b (bt q).1 (bt q).2.1 (bt q).2.2.1 (bt q).2.2.2.1 (bt q).2.2.2.2.1 (bt q).2.2.2.2.2=some (bt (pG t b q)):=by
 unfold F.Uz F.aaw
 have hd:=vZ b0 b1 n0 n1 x0 x1 y0 y1 s hpl t.1 t.2.1 t.2.2
 rw[show F.VY (bi (p:Int)).1 (bi (p:Int)).2 b0 b1 n0 n1 x0 x1 y0 y1 s (bt t).1 (bt t).2.1 (bt t).2.2.1 (bt t).2.2.2.1 (bt t).2.2.2.2.1 (bt t).2.2.2.2.2=_ from hd,aa]
 unfold pG
 cases b with
 | false=>rfl
 | true=>
  rw[ag rfl]
  generalize rT t.1 t.2.1 t.2.2=d
  have ha:=Dx b0 b1 n0 n1 x0 x1 y0 y1 s hpl d.1 d.2.1 d.2.2 q.1 q.2.1 q.2.2
  rw[show F.Uq (bi (p:Int)).1 (bi (p:Int)).2 b0 b1 n0 n1 x0 x1 y0 y1 s (bt d).1 (bt d).2.1 (bt d).2.2.1 (bt d).2.2.2.1 (bt d).2.2.2.2.1 (bt d).2.2.2.2.2 (bt q).1 (bt q).2.1 (bt q).2.2.1 (bt q).2.2.2.1 (bt q).2.2.2.2.1 (bt q).2.2.2.2.2=_ from ha,aa]
  rfl
omit hpl in
omit hpl in
theorem KU {b:Fin p} (F:Fld p) {t q:Fin p×Fin p×Fin p} (j:On (-3) b (jpt t)) (A:On (-3) b (jpt q)) (c:Bool):jpt (pG t c q)=if c then Ec.add (-3) (Ec.add (-3) (jpt t) (jpt t)) (jpt q) else Ec.add (-3) (jpt t) (jpt t):=by
 have hd:=El F t
 unfold pG
 cases c with
 | false=>exact hd
 | true=>
  rw[ag rfl,ag rfl,D0 (b:=b) F _ _ (by rw[hd]; exact F.on_add j j) A,hd]
omit hpl in
theorem MJ (e k:Nat):e / 2^k=2*(e / 2^(k+1))+(if decide (e / 2^k%2=1) then 1 else 0):=by
 have j:e / 2^(k+1)=e / 2^k / 2:=by rw[bo,dM]
 rw[j]
 by_cases h:e / 2^k%2=1
 ·rw[ai h,ag rfl]; omega
 ·rw[av h,ae (by decide)]; omega
omit hpl in
end
theorem yj (k:L00) (j:k.length<=35184372087808):F.U3 k=some ((bi (val k:Int)).1,(bi (val k:Int)).2,decide (nb (val k)<=1024)):=by
 unfold F.U3
 rw[Fq k j,aa,jO k (by omega),aa]
 congr 3
 by_cases h:nb (val k)<=1024
 ·rw[ai h,ai (by omega)]
 ·rw[av h,av (by omega)]
abbrev J3 (c:Int):=Fin (cP c)×Fin (cP c)×Fin (cP c)
def gJ (c:Int):J3 c:=(fz (cX c:Int),fz (cY c:Int),1)
theorem EP (c:Int):jpt (gJ c)=gP c:=by
 show jac (fz (p:=cP c) (cX c:Int)) (fz (cY c:Int)) 1=_
 exact (sI c).jac_of (HA c) (by grobner) (by grobner)
theorem Ct (c:Int) {v:Nat} (h:v<cP c):be (fz (p:=cP c) (v:Int))=bi (v:Int):=by rw[px,gh (by omega) (by omega)]
theorem PM (c:Int):be (1:Fin (cP c))=bi 1:=by
 have:=(o8 c).1
 rw[<-HH,px,gh (by omega) (by omega)]
theorem Du (c:Int):bt ((0,0,0):J3 c)=(false,[],false,[],false,[]):=by
 unfold bt
 dsimp only
 rw[D4]
def gQ (c:Int) (t:J3 c):Bool×L00×Bool×L00×Bool×L00×Bool×L00×Bool×L00×Int×Bool×L00×Bool×L00×Bool×L00:=
 ((gT c).1,(gT c).2.1,(gT c).2.2.1,(gT c).2.2.2.1,(gT c).2.2.2.2.1,(gT c).2.2.2.2.2.1,(gT c).2.2.2.2.2.2.1,(gT c).2.2.2.2.2.2.2.1,(gT c).2.2.2.2.2.2.2.2.1,(gT c).2.2.2.2.2.2.2.2.2.1,(gT c).2.2.2.2.2.2.2.2.2.2,
  (bt t).1,(bt t).2.1,(bt t).2.2.1,(bt t).2.2.2.1,(bt t).2.2.2.2.1,(bt t).2.2.2.2.2)
theorem Eg (c:Int) (t:J3 c):((gQ c t).2.2.2.2.2.2.1,(gQ c t).2.2.2.2.2.2.2.1,(gQ c t).2.2.2.2.2.2.2.2.1,(gQ c t).2.2.2.2.2.2.2.2.2.1,(bi 1).1,(bi 1).2)=bt (gJ c):=by
 obtain⟨_,_,_,j,A,_⟩:=kC c
 unfold bt gJ
 dsimp only
 rw[Ct c j,Ct c A,PM]
 rfl
theorem Qa (c:Int) (t:J3 c) (b:Bool) (q:J3 c) :
  F.Uz (gT c).1 (gT c).2.1 (gT c).2.2.1 (gT c).2.2.2.1 (gT c).2.2.2.2.1 (gT c).2.2.2.2.2.1 (gT c).2.2.2.2.2.2.1 (gT c).2.2.2.2.2.2.2.1 (gT c).2.2.2.2.2.2.2.2.1 (gT c).2.2.2.2.2.2.2.2.2.1 (gT c).2.2.2.2.2.2.2.2.2.2
   (bt t).1 (bt t).2.1 (bt t).2.2.1 (bt t).2.2.2.1 (bt t).2.2.2.2.1 (bt t).2.2.2.2.2 b (bt q).1 (bt q).2.1 (bt q).2.2.1 (bt q).2.2.2.1 (bt q).2.2.2.2.1 (bt q).2.2.2.2.2=some (bt (pG t b q)):=
 I8 _ _ _ _ _ _ _ _ _ (by have:=tc c; omega) t b q
def whJ (c:Int) (q:J3 c) (x y:Bool):J3 c:=if x&&y then pX (gJ c).1 (gJ c).2.1 (gJ c).2.2 q.1 q.2.1 q.2.2 else if y then q else if x then gJ c else (0,0,0)
def wU (c:Int) (m n:Nat) (q:J3 c):Nat->J3 c->J3 c
 | 0,t=>t
 | i+1,t=>wU c m n q i (pG t true (whJ c q (decide (m / 2^i%2=1)) (decide (n / 2^i%2=1))))
theorem Q0 (c:Int) (q:J3 c) (i:Nat) (hi:i<=1000000000) (t u:J3 c) :
  F.Ux (gQ c q) (i:Int) (bt t).1 (bt t).2.1 (bt t).2.2.1 (bt t).2.2.2.1 (bt t).2.2.2.2.1 (bt t).2.2.2.2.2 (bt u)=some (.inl ((i:Int) - 1,bt (pG t true u))):=by
 have w:wI ((i:Int) - 1)=(i:Int) - 1:=aD (by omega) (by omega)
 have h:=Qa c t true u
 unfold F.Ux
 generalize bt u=v at h ⊢
 obtain⟨j,A,v3,v4,v5,B⟩:=v
 show af (F.Uz _ _ _ _ _ _ _ _ _ _ _ _ _ _ _ _ _ _ _ _ _ _ _ _) _=_
 rw[show F.Uz (gQ c q).1 (gQ c q).2.1 (gQ c q).2.2.1 (gQ c q).2.2.2.1 (gQ c q).2.2.2.2.1 (gQ c q).2.2.2.2.2.1 (gQ c q).2.2.2.2.2.2.1 (gQ c q).2.2.2.2.2.2.2.1 (gQ c q).2.2.2.2.2.2.2.2.1 (gQ c q).2.2.2.2.2.2.2.2.2.1 (gQ c q).2.2.2.2.2.2.2.2.2.2.1
  (bt t).1 (bt t).2.1 (bt t).2.2.1 (bt t).2.2.2.1 (bt t).2.2.2.2.1 (bt t).2.2.2.2.2 true j A v3 v4 v5 B=_ from h,aa,w]
 rfl
theorem uS (c:Int) (m n:Nat) (hm:nl (m:Int)<=1000000000) (hn:nl (n:Int)<=1000000000) (q:J3 c) (j fn:Bool):∀(i:Nat) (t:J3 c),i<=100000000 ->
  loop (F.Wg (gQ c q) ((bi (m:Int)).1,(bi (m:Int)).2,j) ((bi (n:Int)).1,(bi (n:Int)).2,fn) (bi 1) (bt (pX (gJ c).1 (gJ c).2.1 (gJ c).2.2 q.1 q.2.1 q.2.2)))
   ((i:Int) - 1,bt t)=some ((rep (jpt (wU c m n q i t))).1,(rep (jpt (wU c m n q i t))).2.1,(rep (jpt (wU c m n q i t))).2.2,0)
 | 0,t,_=>by
  refine cd ?_
  unfold F.Wg
  dsimp only
  rw[ae (by simp)]
  congr 1
  show af (F.UC _ _ _ _ _ _ _ _ _ _ _ _ _ _ _ _ _) _=_
  have h:=P1 c t
  rw[show F.UC (gQ c q).1 (gQ c q).2.1 (gQ c q).2.2.1 (gQ c q).2.2.2.1 (gQ c q).2.2.2.2.1 (gQ c q).2.2.2.2.2.1 (gQ c q).2.2.2.2.2.2.1 (gQ c q).2.2.2.2.2.2.2.1 (gQ c q).2.2.2.2.2.2.2.2.1 (gQ c q).2.2.2.2.2.2.2.2.2.1 (gQ c q).2.2.2.2.2.2.2.2.2.2.1
   (bt t).1 (bt t).2.1 (bt t).2.2.1 (bt t).2.2.2.1 (bt t).2.2.2.2.1 (bt t).2.2.2.2.2=_ from h,aa]
  rfl
 | i+1,t,hi=>by
  have e:(((i+1:Nat):Int) - 1)=(i:Int):=by omega
  rw[e]
  have A:F.Wg (gQ c q) ((bi (m:Int)).1,(bi (m:Int)).2,j) ((bi (n:Int)).1,(bi (n:Int)).2,fn) (bi 1) (bt (pX (gJ c).1 (gJ c).2.1 (gJ c).2.2 q.1 q.2.1 q.2.2)) ((i:Int),bt t)
    = some (.inl ((i:Int) - 1,bt (pG t true (whJ c q (decide (m / 2^i%2=1)) (decide (n / 2^i%2=1)))))):=by
   unfold F.Wg
   show (if decide ((0:Int)<=(i:Int))=true then _ else _)=_
   rw[ag (ai (by omega))]
   dsimp only
   rw[Iz m i (by omega) hm,aa,Iz n i (by omega) hn,aa,Ak]
   have hK:=fun u=>Q0 c q i (by omega) t u
   unfold F.ZR whJ
   cases hx:decide (m / 2^i%2=1) with
   | true=>
    rw[ag rfl]
    show (if (bw n i == 1)=true then _ else _)=_
    rw[Ak]
    cases hy:decide (n / 2^i%2=1) with
    | true=>
     rw[ag rfl]
     exact hK _
    | false=>
     rw[ae (by decide),ae (by decide),ae (by decide)]
     show F.Ux _ _ _ _ _ _ _ _ ((gQ c q).2.2.2.2.2.2.1,(gQ c q).2.2.2.2.2.2.2.1,(gQ c q).2.2.2.2.2.2.2.2.1,(gQ c q).2.2.2.2.2.2.2.2.2.1,(bi 1).1,(bi 1).2)=_
     rw[Eg]
     exact hK _
   | false=>
    rw[ae (by decide)]
    show (if false=true then _ else _)=_
    rw[ae (by decide),Ak]
    cases hy:decide (n / 2^i%2=1) with
    | true=>
     rw[ag rfl]
     exact hK _
    | false=>
     rw[ae (by decide)]
     rw[ag (show (!false)=true from rfl)]
     unfold F.T8
     rw[aa]
     show F.Ux _ _ _ _ _ _ _ _ (false,[],false,[],false,[])=_
     rw[<-Du c]
     exact hK _
  rw[bp A]
  exact uS c m n hm hn q j fn i _ (by omega)
theorem DU {n:Nat} (h:nb n<=1024):nl (n:Int)<=33:=by
 refine zG ?_
 rw[cF]
 have j:=(gp n).1
 have A:=ba (show 0<2 by decide) (show nb n<=32*33 by omega)
 rw[show (4294967296:Nat)=2^32 from rfl,<-cr]
 omega
noncomputable def res {c:Int} (P:Pt (cP c)):L00×L00×Bool×Int:=((rep P).1,(rep P).2.1,(rep P).2.2,0)
theorem yr (n:Nat):eA n n=0:=by unfold eA; rw[ae (by omega),ag rfl]
theorem yg (a b:L00) (m j:Nat) (A B:L00) (ha:a.take m=A) (hb:b.take j=B) (hl:A.length=B.length) (hA:A.length<=4611686018427387904):∀k:Nat,k<=A.length->val (A.drop k)=val (B.drop k)->loop (F.Wz a b m j) ((k:Int) - 1)=some (eA (val A) (val B))
 | 0,_,h=>by
  rw[dP,dP]at h
  refine cd ?_
  unfold F.Wz
  rw[ae (by decide),h,yr]
 | k+1,hk,h=>by
  have G:(((k+1:Nat):Int)) - 1=(k:Int):=by omega
  rw[G]
  have w:wI ((k:Int) - 1)=(k:Int) - 1:=aD (by omega) (by omega)
  have hL:F.Wz a b m j (k:Int)=if (A.getD k 0)<(B.getD k 0) then bk (some (-1)) else if (B.getD k 0)<(A.getD k 0) then bk (some 1) else bU ((k:Int) - 1):=by
   unfold F.Wz
   rw[ha,hb,ag (ai (by omega)),bh (show k<A.length by omega) 0,aa,bh (show k<B.length by omega) 0,aa]
   by_cases h1:A.getD k 0<B.getD k 0
   ·rw[ag (ai h1),ag h1]
   ·rw[ae (by rw[ak]; exact h1),ae h1,aa,aa]
    by_cases h2:B.getD k 0<A.getD k 0
    ·rw[ag (ai h2),ag h2]
    ·rw[ae (by rw[ak]; exact h2),ae h2,w]
  by_cases h1:A.getD k 0<B.getD k 0
  ·rw[ag h1]at hL
   have:=oE A B k h (dt.1 h1)
   rw[cd hL]; unfold eA; rw[ag this]
  ·rw[ae h1]at hL
   by_cases h2:B.getD k 0<A.getD k 0
   ·rw[ag h2]at hL
    have:=oE B A k h.symm (dt.1 h2)
    rw[cd hL]; unfold eA; rw[ae (by omega),ae (by omega)]
   ·rw[ae h2]at hL
    rw[bp hL]
    refine yg a b m j A B ha hb hl hA k (by omega) ?_
    have I:¬(A.getD k 0).toNat<(B.getD k 0).toNat:=fun q=>h1 (dt.2 q)
    have J:¬(B.getD k 0).toNat<(A.getD k 0).toNat:=fun q=>h2 (dt.2 q)
    rw[ef A k,ef B k,h]; omega
theorem A2 {a b:Nat} (h:(au a).length<(au b).length):a<b:=by
 rcases bY a b with j | j
 ·exact j
 ·have:=gv j; omega
theorem ka (a b:L00) (ha:a.length<=4611686018427387904) (hb:b.length<=4611686018427387904):F.Tb a b=some (eA (val a) (val b)):=by
 obtain⟨m,B,J,j⟩:=im a ha
 obtain⟨G,I,N,A⟩:=im b hb
 have O:(au (val a)).length<=a.length:=bv (cv a)
 unfold F.Tb
 rw[B,aa,I,aa,j,A]
 by_cases hl:(au (val a)).length<(au (val b)).length
 ·have:=A2 hl
  rw[ag (ai (by omega))]; unfold eA; rw[ag this]
 ·rw[ae (by rw[ak]; omega)]
  by_cases hl2:(au (val b)).length<(au (val a)).length
  ·have:=A2 hl2
   rw[ag (ai (by omega))]; unfold eA; rw[ae (by omega),ae (by omega)]
  ·rw[ae (by rw[ak]; omega),aG,aD (by omega) (by omega)]
   have:=yg a b m G (au (val a)) (au (val b)) j A (by omega) (by omega) (au (val a)).length (aw _) (by rw[bK (by omega),bK (by omega)])
   rw[ay,ay]at this
   exact this
def adS (A B:L00) (x:UInt64×L00) (i:Nat):UInt64×L00:=
 let s:=if i<B.length then (x.1+(A.getD i 0).toUInt64)+(B.getD i 0).toUInt64 else x.1+(A.getD i 0).toUInt64
 (bb s 32,x.2.set i s.toUInt32)
def AdI (A B:L00) (i:Nat) (x:UInt64×L00):Prop:=
 x.2.length=A.length+1/\x.1.toNat<=1/\val (x.2.take i)+4294967296^i*x.1.toNat=val (A.take i)+val (B.take i)
theorem pn {l:L00} {i:Nat} (h:i<l.length):val (l.take (i+1))=val (l.take i)+4294967296^i*(l.getD i 0).toNat:=by
 rw[tO h,m0,aN,bg (by omega)]
 simp[val]
theorem CO {l:L00} {i:Nat} (h:l.length<=i):l.take (i+1)=l.take i:=by
 rw[aC (by omega),aC (by omega)]
theorem Mw {A B:L00} {x:UInt64×L00} {i:Nat} (hi:i<A.length) (h:AdI A B i x):AdI A B (i+1) (adS A B x i):=by
 obtain⟨J,X,N⟩:=h
 obtain⟨s,hs⟩:∃s,(if i<B.length then (x.1+(A.getD i 0).toUInt64)+(B.getD i 0).toUInt64 else x.1+(A.getD i 0).toUInt64)=s:=⟨_,rfl⟩
 have e:adS A B x i=(bb s 32,x.2.set i s.toUInt32):=by unfold adS; rw[hs]
 have Y:=eg (A.getD i 0); have Z:=eg (B.getD i 0)
 have j:s.toNat=x.1.toNat+(A.getD i 0).toNat+(if i<B.length then (B.getD i 0).toNat else 0):=by
  rw[<-hs]
  split
  ·rw[fN,fN,c9,c9]; omega
  ·rw[fN,c9]; omega
 have G:val (B.take (i+1))=val (B.take i)+4294967296^i*(if i<B.length then (B.getD i 0).toNat else 0):=by
  split
  ·rename_i hb; exact pn hb
  ·rename_i hb; rw[CO (by omega)]; omega
 have V:s.toNat<2*4294967296:=by rw[j]; split <;> omega
 rw[e]
 have I:(bb s 32).toNat=s.toNat / 4294967296:=by rw[i6]; rfl
 have O:s.toUInt32.toNat=s.toNat%4294967296:=by rw[UInt64.toNat_toUInt32]
 refine⟨by simpa using J,by show (bb s 32).toNat<=1; rw[I]; omega,?_⟩
 show val ((x.2.set i s.toUInt32).take (i+1))+4294967296^(i+1)*(bb s 32).toNat=_
 rw[pn (by simp; omega),pn hi,G,I]
 have R:(x.2.set i s.toUInt32).take i=x.2.take i:=fJ (by omega)
 have U:(x.2.set i s.toUInt32).getD i 0=s.toUInt32:=by
  rw[an,cU (by omega)]; rfl
 rw[R,U,O,bo]
 obtain⟨P,hP⟩:∃P,(4294967296:Nat)^i=P:=⟨_,rfl⟩
 rw[hP]at N G ⊢
 have hd:=c7 s.toNat 4294967296
 have e3:P*(s.toNat%4294967296)+P*4294967296*(s.toNat / 4294967296)=P*s.toNat:=by
  rw[aK,<-aJ,cw,hd]
 have e4:P*s.toNat=P*x.1.toNat+P*(A.getD i 0).toNat+P*(if i<B.length then (B.getD i 0).toNat else 0):=by rw[j,aJ,aJ]
 omega
theorem Dr (A B:L00) (hl:B.length<=A.length) (hA:A.length<=50000000000000):F.Zm (A,B)=some (au (val A+val B)):=by
 unfold F.Zm
 dsimp only
 have J:wI ((A.length:Int)+1)=((A.length+1:Nat):Int):=by rw[aD (by omega) (by omega)]; rfl
 have hm:mkO 4 ((A.length+1:Nat):Int) ((A.length+1:Nat):Int) (0:UInt32)=some (List.replicate (A.length+1) 0):=by
  unfold mkO
  rw[ag (by omega),aq]
 rw[J,hm,aa]
 have j:∀(k i:Nat) (x:UInt64×L00),i+k=A.length->AdI A B i x->loop (F.Wj A B) (x.1,(i:Int),x.2)=some (au (val A+val B)):=by
  intro k
  induction k with
  | zero=>
   intro i x hi hx
   obtain⟨Y,Z,N⟩:=hx
   have G:i=A.length:=by omega
   subst G
   refine cd ?_
   unfold F.Wj
   dsimp only
   rw[ae (by rw[ak]; omega),bh (show A.length<x.2.length by omega) 0,aa,aG,aq]
   obtain⟨m,p1,p2,p3⟩:=jJ (x.2.set A.length x.1.toUInt32) (by simp; omega)
   rw[p1,aa,p3]
   congr 2
   have O:(x.2.set A.length x.1.toUInt32)=(x.2.set A.length x.1.toUInt32).take (A.length+1):=by rw[aC (by simp; omega)]
   have R:(x.2.set A.length x.1.toUInt32).take A.length=x.2.take A.length:=fJ (by omega)
   have U:(x.2.set A.length x.1.toUInt32).getD A.length 0=x.1.toUInt32:=by
    rw[an,cU (by omega)]; rfl
   have V:x.1.toUInt32.toNat=x.1.toNat:=by rw[UInt64.toNat_toUInt32]; omega
   rw[O,pn (by simp; omega),R,U,V,N,aC (by omega),aC hl]
  | succ k ih=>
   intro i x hi hx
   have w4:wI ((i:Int)+1)=((i+1:Nat):Int):=by rw[aD (by omega) (by omega)]; rfl
   have X:=hx.1
   have I:F.Wj A B (x.1,(i:Int),x.2)=some (.inl ((adS A B x i).1,((i+1:Nat):Int),(adS A B x i).2)):=by
    unfold F.Wj adS
    dsimp only
    rw[ag (ai (by omega)),bh (show i<A.length by omega) 0,aa]
    by_cases hb:i<B.length
    ·rw[ag (ai (by omega)),bh hb 0,aa,aG,ag hb]
     unfold F.Zy
     rw[bh (show i<x.2.length by omega) 0,aa,aG,w4,aq]
     rfl
    ·rw[ae (by rw[ak]; omega),ae hb]
     unfold F.Zy
     rw[bh (show i<x.2.length by omega) 0,aa,aG,w4,aq]
     rfl
   rw[bp I]
   exact ih (i+1) (adS A B x i) (by omega) (Mw (by omega) hx)
 exact j A.length 0 (0,List.replicate (A.length+1) 0) (by omega) ⟨by simp,eZ 1,by simp[val]⟩
theorem sV (a b:L00) (ha:a.length<=40000000000000) (hb:b.length<=40000000000000):F.UJ a b=some (au (val a+val b)):=by
 obtain⟨m,j,I,A⟩:=im a (by omega)
 obtain⟨J,B,N,G⟩:=im b (by omega)
 have O:(au (val a)).length<=a.length:=bv (cv a)
 have R:(au (val b)).length<=b.length:=bv (cv b)
 unfold F.UJ
 rw[j,aa,B,aa,A,G]
 by_cases hl:(au (val a)).length<(au (val b)).length
 ·rw[ag (ai (by omega)),Dr _ _ (by omega) (by omega),ay,ay,cw]
 ·rw[ae (by rw[ak]; omega),Dr _ _ (by omega) (by omega),ay,ay]
theorem Lh {n:Nat} {k:Nat} (h:(au n).length<=k):nb n<=32*k:=aZ (mu n) (bj 32 h)
end Go.Gk.Bn
end
section
namespace Go.Gk.Bn
open Go Go.Gk Go.Gk.Sh
theorem sT (x:UInt32):x.toBitVec.msb=decide (2147483648<=x.toNat):=by
 rw[BitVec.msb_eq_decide]; rfl
theorem Nv (x:UInt32):(dB x 31).toNat=if x.toBitVec.msb=true then 1 else 0:=by
 have hx:=eg x
 have:(dB x 31).toNat=x.toNat / 2147483648:=by
  unfold dB
  rw[di,show min 31 32=31 from rfl]
  omega
 rw[this,sT]
 by_cases h:2147483648<=x.toNat
 ·rw[ag (ai h)]; omega
 ·rw[ae (by rw[ak]; exact h)]; omega
theorem Jq (a b c:UInt32) (hc:c.toNat<=1):∃d e:UInt32,F.aaG a b c=some (d,e)/\e.toNat<=1/\d.toNat+b.toNat+c.toNat=a.toNat+4294967296*e.toNat:=by
 refine⟨(a - b) - c,_,rfl,?_⟩
 obtain⟨d,hd⟩:∃d,(a - b) - c=d:=⟨_,rfl⟩
 rw[hd]
 have A:d.toNat=(4294967296 - c.toNat+(4294967296 - b.toNat+a.toNat)%4294967296)%4294967296:=by rw[<-hd,UInt32.toNat_sub,UInt32.toNat_sub]
 have ha:=eg a; have hb:=eg b; have B:=eg d
 rw[Nv]
 have j:(((~~~ a) &&& b) ||| ((~~~ (a ^^^ b)) &&& d)).toBitVec.msb=((!a.toBitVec.msb&&b.toBitVec.msb) || (!(a.toBitVec.msb != b.toBitVec.msb)&&d.toBitVec.msb)):=by
  simp[BitVec.msb_or,BitVec.msb_and,BitVec.msb_xor,BitVec.msb_not]
 rw[j,sT,sT,sT]
 by_cases h1:2147483648<=a.toNat <;> by_cases h2:2147483648<=b.toNat <;> by_cases h3:2147483648<=d.toNat <;> simp only[h1,h2,h3,ir,dr] <;> simp <;> omega
theorem sW {l:L00} {lo hi:Nat} (j:lo<=hi) (A:hi<=l.length):((l.drop lo).take (hi - lo)).length=hi - lo:=by
 rw[aN,bZ]; omega
theorem D7 {l:L00} {lo hi i:Nat} (A:hi<=l.length) (j:i<hi - lo):ax ((l.drop lo).take (hi - lo)) (i:Int)=some (l.getD (lo+i) 0):=by
 rw[bh (show i<((l.drop lo).take (hi - lo)).length by rw[aN,bZ]; omega) 0]
 congr 1
 rw[an,List.getElem?_take_of_lt j,dX,<-an]
def TkI (u y:L00) (lo i:Nat) (x:UInt32×L00):Prop:=
 x.2.length=u.length/\x.1.toNat<=1/\(∀k,lo+i<=k->x.2.getD k 0=u.getD k 0)/\val x.2+4294967296^lo*val (y.take i)=val u+4294967296^(lo+i)*x.1.toNat
theorem Kw (u y:L00) (lo hi:Nat) (A:lo<=hi) (B:hi<=u.length) (hu:u.length<=4611686018427387904) (hy:y.length<=4611686018427387904) :
  ∃r,F.UI u lo hi y=some r/\TkI u y lo (hi - lo) r:=by
 have G:∀(k i:Nat) (x:UInt32×L00),i+k=hi - lo->TkI u y lo i x->∃r,loop (F.W6 lo hi u y) (x.1,(i:Int),x.2)=some r/\TkI u y lo (hi - lo) r:=by
  intro k
  induction k with
  | zero=>
   intro i x I hx
   have:i=hi - lo:=by omega
   subst this
   refine⟨x,cd ?_,hx⟩
   unfold F.W6
   dsimp only
   rw[sW A B,ae (by rw[ak]; omega)]
  | succ k ih=>
   intro i x I hx
   obtain⟨R,U,g3,g4⟩:=hx
   have J:i<hi - lo:=by omega
   have w4:wI ((i:Int)+1)=((i+1:Nat):Int):=by rw[aD (by omega) (by omega)]; rfl
   obtain⟨d,e,V,X,Y⟩:=Jq (x.2.getD (lo+i) 0) (y.getD i 0) x.1 U
   have N:F.W6 lo hi u y (x.1,(i:Int),x.2)=some (.inl (e,((i+1:Nat):Int),x.2.set (lo+i) d)):=by
    have hK:F.XF lo hi x.1 (i:Int) x.2 (y.getD i 0)=some (.inl (e,((i+1:Nat):Int),x.2.set (lo+i) d)):=by
     unfold F.XF
     rw[D7 (by omega) J,aa,V,aa,aa,aG,w4,aq]; rfl
    unfold F.W6
    dsimp only
    rw[sW A B,ag (ai (by omega))]
    by_cases hb:i<y.length
    ·rw[ag (ai (by omega)),bh hb 0,aa,hK]
    ·rw[ae (by rw[ak]; omega)]
     have:y.getD i 0=0:=by rw[an,dC (by omega)]; rfl
     rw[this]at hK; exact hK
   rw[bp N]
   refine ih (i+1) (e,x.2.set (lo+i) d) (by omega) ⟨by simpa using R,X,fun O hk=>?_,?_⟩
   ·show (x.2.set (lo+i) d).getD O 0=_
    rw[ij (by omega)]; exact g3 O (by omega)
   ·show val (x.2.set (lo+i) d)+_=_+_*e.toNat
    have Z:=jw x.2 (lo+i) d (by omega)
    rw[cJ y i,aJ,<-aK,<-bS,show lo+(i+1)=(lo+i)+1 by omega,bo]
    obtain⟨j,hP⟩:∃j,(4294967296:Nat)^(lo+i)=j:=⟨_,rfl⟩
    rw[hP]at g4 Z ⊢
    have e1:=da (fun z=>j*z) Y
    simp only[aJ]at e1
    rw[aK]
    omega
 exact G (hi - lo) 0 (0,u) (by omega) ⟨rfl,eZ 1,fun _ _=>rfl,by simp[val]⟩
theorem BC (u y:L00) (lo hi:Nat) (J:lo<=hi) (N:hi<=u.length) (hu:u.length<=4611686018427387904) (hy:y.length<=hi - lo) (B:val u<4294967296^hi) (U:4294967296^lo*val y<=val u) :
  ∃c j,F.UI u lo hi y=some (c,j)/\j.length=u.length/\val j+4294967296^lo*val y=val u:=by
 obtain⟨⟨c,j⟩,O,G,r3,I,A⟩:=Kw u y lo hi J N hu (by omega)
 dsimp only at G r3 I A
 rw[aC hy,show lo+(hi - lo)=hi by omega]at A
 refine⟨c,j,O,G,?_⟩
 have hz:val j<4294967296^hi:=rO fun k R=>by rw[I k (by omega)]; exact DL B k R
 rcases bY c.toNat 1 with h | h
 ·have:c.toNat=0:=by omega
  rw[this]at A; omega
 ·have:c.toNat=1:=by omega
  rw[this]at A; omega
theorem Mn (n:Nat) (l:L00) (h:l.length=n):cpL (List.replicate n 0) l 0 (List.replicate n (0:UInt32)).length=l:=by
 unfold cpL
 simp only[bq,fX,bm,h,Nat.min_self,gq,bT]
 rw[aC (by omega),bK (by simp),bM]
theorem ti (a b:L00) (ha:a.length<=40000000000000) (hb:b.length<=40000000000000):F.UL a b=some (if val a<val b then ([],false) else (au (val a - val b),true)):=by
 obtain⟨m,A,O,B⟩:=im a (by omega)
 obtain⟨R,G,U,I⟩:=im b (by omega)
 have V:(au (val a)).length<=a.length:=bv (cv a)
 unfold F.UL
 rw[ka a b (by omega) (by omega),aa]
 by_cases hl:val a<val b
 ·rw[ag hl]; unfold eA; rw[ag hl,ag (by decide)]
 ·rw[ae hl]; unfold eA
  rw[ae hl,ae (by split <;> decide),A,aa,G,aa,B,I,iG (by omega),aa,aq,aG,Mn _ _ rfl]
  have N:(au (val b)).length<=(au (val a)).length:=gv (by omega)
  obtain⟨c,j,J,X,t3⟩:=BC (au (val a)) (au (val b)) 0 (au (val a)).length (eZ _) (aw _) (by omega) (by omega) (cv _) (by rw[ay,ay]; omega)
  rw[J,aa]
  obtain⟨k,p1,p2,p3⟩:=jJ j (by omega)
  dsimp only
  rw[p1,aa,p3]
  rw[ay,ay,gw,cy]at t3
  rw[show val j=val a - val b by omega]
def MuI (x:UInt32) (y o:L00) (i j:Nat) (s:UInt64×L00):Prop:=
 s.2.length=o.length/\s.1.toNat<=4294967295/\(∀k,i+j<=k->s.2.getD k 0=o.getD k 0)/\val s.2+4294967296^(i+j)*s.1.toNat=val o+4294967296^i*(x.toNat*val (y.take j))
theorem Fb (a b:L00) (m:Nat) (i:Nat) (x:UInt32) (y o:L00) (hy:b.take m=y) (ho:i+y.length<o.length) (ac:o.length<=4611686018427387904) :
  ∃c o',MuI x y o i y.length (c,o')/\loop (F.VE b m (i:Int) x) (0,0,o)=some (.inl (((i+1:Nat):Int),o'.set (i+y.length) c.toUInt32)):=by
 have G:∀(k j:Nat) (s:UInt64×L00),j+k=y.length->MuI x y o i j s->∃c o',MuI x y o i y.length (c,o')/\loop (F.VE b m (i:Int) x) (s.1,(j:Int),s.2)=some (.inl (((i+1:Nat):Int),o'.set (i+y.length) c.toUInt32)):=by
  intro k
  induction k with
  | zero=>
   intro j s X hs
   have:j=y.length:=by omega
   subst this
   refine⟨s.1,s.2,hs,cd ?_⟩
   have B:wI ((i:Int)+(y.length:Int))=((i+y.length:Nat):Int):=by rw[aD (by omega) (by omega)]; omega
   have w2:wI ((i:Int)+1)=((i+1:Nat):Int):=by rw[aD (by omega) (by omega)]; rfl
   unfold F.VE
   dsimp only
   have:=hs.1
   rw[hy,ae (by rw[ak]; omega),B,w2,bh (show i+y.length<s.2.length by omega) 0,aa,aG,aq]; rfl
  | succ k ih=>
   intro j s X hs
   obtain⟨Y,g2,g3,g4⟩:=hs
   have B:wI ((i:Int)+(j:Int))=((i+j:Nat):Int):=by rw[aD (by omega) (by omega)]; omega
   have w2:wI ((j:Int)+1)=((j+1:Nat):Int):=by rw[aD (by omega) (by omega)]; rfl
   obtain⟨t,I⟩:∃t,s.1+((x.toUInt64*(y.getD j 0).toUInt64)+(s.2.getD (i+j) 0).toUInt64)=t:=⟨_,rfl⟩
   have J:F.VE b m (i:Int) x (s.1,(j:Int),s.2)=some (.inl (bb t 32,((j+1:Nat):Int),s.2.set (i+j) t.toUInt32)):=by
    unfold F.VE
    dsimp only
    rw[hy,ag (ai (by omega)),bh (show j<y.length by omega) 0,aa,B,bh (show i+j<s.2.length by omega) 0,aa,aG,I,aa,aG,w2,aq]; rfl
   rw[bp J]
   have x1:=eg x; have x2:=eg (y.getD j 0); have x3:=eg (s.2.getD (i+j) 0)
   have hp:=eb (show x.toNat<=4294967295 by omega) (show (y.getD j 0).toNat<=4294967295 by omega)
   have N:(x.toUInt64*(y.getD j 0).toUInt64).toNat=x.toNat*(y.getD j 0).toNat:=by rw[sQ _ _ (by rw[c9,c9]; omega),c9,c9]
   have O:(x.toUInt64*(y.getD j 0).toUInt64+(s.2.getD (i+j) 0).toUInt64).toNat=x.toNat*(y.getD j 0).toNat+(s.2.getD (i+j) 0).toNat:=by rw[li _ _ (by rw[N,c9]; omega),N,c9]
   have Z:t.toNat=s.1.toNat+(x.toNat*(y.getD j 0).toNat+(s.2.getD (i+j) 0).toNat):=by rw[<-I,li _ _ (by rw[O]; omega),O]
   have R:(bb t 32).toNat=t.toNat / 4294967296:=by rw[i6]; rfl
   refine ih (j+1) (bb t 32,s.2.set (i+j) t.toUInt32) (by omega) ⟨by simpa using Y,by show (bb t 32).toNat<=_; rw[R]; omega,fun U hk=>?_,?_⟩
   ·show (s.2.set (i+j) t.toUInt32).getD U 0=_
    rw[ij (by omega)]; exact g3 U (by omega)
   ·show val (s.2.set (i+j) t.toUInt32)+_*(bb t 32).toNat=_
    have V:=jw s.2 (i+j) t.toUInt32 (by omega)
    rw[jB]at V
    rw[cJ y j,aJ,aJ,R,show i+(j+1)=(i+j)+1 by omega,bo]
    have e0:4294967296^i*(x.toNat*(4294967296^j*(y.getD j 0).toNat))=4294967296^(i+j)*(x.toNat*(y.getD j 0).toNat):=by
     rw[bS,dD x.toNat,aK]
    rw[e0]
    obtain⟨A,hP⟩:∃A,(4294967296:Nat)^(i+j)=A:=⟨_,rfl⟩
    rw[hP]at g4 V ⊢
    have hd:=c7 t.toNat 4294967296
    have e3:A*(t.toNat%4294967296)+A*4294967296*(t.toNat / 4294967296)=A*t.toNat:=by
     rw[aK,<-aJ,cw,hd]
    have e4:A*t.toNat=A*s.1.toNat+(A*(x.toNat*(y.getD j 0).toNat)+A*(s.2.getD (i+j) 0).toNat):=by rw[Z,aJ,aJ]
    omega
 exact G y.length 0 (0,o) (by omega) ⟨rfl,eZ _,fun _ _=>rfl,by simp[val]⟩
theorem Eb (a b:L00) (ha:a.length<=40000000000000) (hb:b.length<=40000000000000) (hs:(au (val a)).length+(au (val b)).length<=50000000000000):F.UN a b=some (au (val a*val b)):=by
 obtain⟨m,Y,h2,A⟩:=im a (by omega)
 obtain⟨B,Z,h5,G⟩:=im b (by omega)
 have la:(au (val a)).length<=a.length:=bv (cv a)
 have lb:(au (val b)).length<=b.length:=bv (cv b)
 obtain⟨x,hx⟩:∃x,au (val a)=x:=⟨_,rfl⟩
 obtain⟨y,hy⟩:∃y,au (val b)=y:=⟨_,rfl⟩
 have vx:val x=val a:=by rw[<-hx,ay]
 have vy:val y=val b:=by rw[<-hy,ay]
 rw[hx]at A la hs; rw[hy]at G lb hs
 unfold F.UN
 have w0:wI ((x.length:Int)+(y.length:Int))=((x.length+y.length:Nat):Int):=by rw[aD (by omega) (by omega)]; omega
 rw[Y,aa,Z,aa,A,G,w0,iG (by omega),aa,aq]
 have J:∀(k i:Nat) (o:L00),i+k=x.length->o.length=x.length+y.length->(∀k,i+y.length<=k->o.getD k 0=0)->val o=val (x.take i)*val y->loop (F.Xn a m b B) ((i:Int),o)=some (au (val a*val b)):=by
  intro k
  induction k with
  | zero=>
   intro i o hi N _ I
   have:i=x.length:=by omega
   subst this
   refine cd ?_
   unfold F.Xn
   dsimp only
   obtain⟨q,p1,p2,p3⟩:=jJ o (by omega)
   rw[A,ae (by rw[ak]; omega),p1,aa,p3,I,aC (aw _),vx,vy]
  | succ k ih=>
   intro i o hi N hz I
   obtain⟨c,o',⟨O,g2,g3,g4⟩,hl⟩:=Fb a b B i (x.getD i 0) y o G (by omega) (by omega)
   dsimp only at O g2 g3 g4
   have R:F.Xn a m b B ((i:Int),o)=some (.inl (((i+1:Nat):Int),o'.set (i+y.length) c.toUInt32)):=by
    unfold F.Xn
    dsimp only
    rw[A,ag (ai (by omega)),bh (show i<x.length by omega) 0,aa,hl]
   rw[bp R]
   have U:o'.getD (i+y.length) 0=0:=by rw[g3 _ (aw _)]; exact hz _ (aw _)
   have j:=jw o' (i+y.length) c.toUInt32 (by omega)
   have z0:(0:UInt32).toNat=0:=rfl
   rw[U,z0,cp,br,jB,az (by omega)]at j
   refine ih (i+1) _ (by omega) (by simpa using (O.trans N)) (fun V X=>?_) ?_
   ·rw[ij (by omega),g3 V (by omega)]; exact hz V (by omega)
   ·rw[j,g4,aC (aw _),I,cJ x i,aW,aK]
 exact J x.length 0 (List.replicate (x.length+y.length) 0) (by omega) (by simp) (fun k _=>by rw[an]; by_cases X:k<x.length+y.length <;> simp[X]) (by rw[gC]; simp[val])
theorem KA (a b d:UInt32) (h:a.toNat<d.toNat):∃q r:UInt32,F.YV a b d=some (q,r)/\q.toNat=(4294967296*a.toNat+b.toNat) / d.toNat/\r.toNat=(4294967296*a.toNat+b.toNat)%d.toNat:=by
 have hb:=eg b; have hd:=eg d
 have j:¬d.toUInt64=0:=fun A=>by
  have:=da UInt64.toNat A
  rw[c9]at this; simp at this; omega
 have B:(d != 0)=true:=by
  rw[dz]; intro A; rw[A]at h; simp at h
 have G:¬d<=a:=fun I=>by have:=ff.1 I; omega
 refine⟨(((cV a.toUInt64 32) ||| b.toUInt64) / d.toUInt64).toUInt32,(((cV a.toUInt64 32) ||| b.toUInt64)%d.toUInt64).toUInt32,?_,?_,?_⟩
 rotate_left
 ·show ((((cV a.toUInt64 32) ||| b.toUInt64) / d.toUInt64).toUInt32).toNat=_
  rw[jB,fp,zL,c9,az]
  exact Nat.div_lt_of_lt_mul (by rw[aP]; omega)
 ·show ((((cV a.toUInt64 32) ||| b.toUInt64)%d.toUInt64).toUInt32).toNat=_
  rw[jB,dh,zL,c9,az]
  exact fU (bG _ (by omega)) hd
 ·unfold F.YV F.ZH
  dsimp only
  rw[ag B,ae (by rw[ak]; exact G),aG,grd_true _ j,grd_true _ j,aG,aG]
theorem G6 (x:L00) (d:UInt32) (hd:d.toNat≠0) (hx:x.length<=50000000000000):∃q r,F.Yl x d=some (q,r)/\q.length=x.length/\val q=val x / d.toNat/\r.toNat=val x%d.toNat:=by
 unfold F.Yl
 rw[iG (by omega),aa,aG,aq,aD (by omega) (by omega)]
 have J:∀(k:Nat) (o:L00) (r:UInt32),k<=x.length->o.length=x.length->r.toNat<d.toNat->val (o.drop k)*d.toNat+r.toNat=val (x.drop k)->∃q A,loop (F.WU x d) (r,(k:Int) - 1,o)=some (q,A)/\q.length=x.length/\A.toNat<d.toNat/\val q*d.toNat+A.toNat=val x:=by
  intro k
  induction k with
  | zero=>
   intro o r Y B G I
   refine⟨o,r,cd ?_,B,G,by simpa using I⟩
   unfold F.WU
   dsimp only
   rw[ae (by decide)]
  | succ k ih=>
   intro o r Y B G I
   have Z:(((k+1:Nat):Int)) - 1=(k:Int):=by omega
   obtain⟨j,N,s1,s2,O⟩:=KA r (x.getD k 0) d G
   have w:wI ((k:Int) - 1)=(k:Int) - 1:=aD (by omega) (by omega)
   have R:F.WU x d (r,(k:Int),o)=some (.inl (N,(k:Int) - 1,o.set k j)):=by
    unfold F.WU
    dsimp only
    rw[ag (ai (by omega)),bh (show k<x.length by omega) 0,aa,s1,aa,bh (show k<o.length by omega) 0,aa,aG,w,aq]; rfl
   rw[Z,bp R]
   refine ih (o.set k j) N (by omega) (by simpa using B) (by rw[O]; exact bG _ (by omega)) ?_
   have U:val ((o.set k j).drop k)=j.toNat+4294967296*val (o.drop (k+1)):=by
    rw[ef,List.drop_set_of_lt (by omega)]
    congr 2
    rw[an,cU (by omega)]; rfl
   rw[U,ef x k,<-I,s2,O]
   have ap:=c7 (4294967296*r.toNat+(x.getD k 0).toNat) d.toNat
   rw[aW,aP (_ / _),aK,aJ]
   omega
 obtain⟨q,r,h1,h2,V,X⟩:=J x.length (List.replicate x.length 0) 0 (aw _) (by simp) (by show 0<_; omega) (by rw[bK (by simp),bK (by omega)]; simp[val])
 refine⟨q,r,h1,h2,?_,?_⟩
 ·rw[<-X,cw,Nat.add_mul_div_right _ _ (by omega),cT V,bm]
 ·rw[<-X,cw,gK,az V]
theorem Oh (x c:UInt32) {s:Nat} (hs:s<32) (hc:c.toNat<2^s):(iK x s ||| c).toNat=x.toNat*2^s%4294967296+c.toNat:=by
 rw[UInt32.toNat_or,tG,bg (by omega)]
 have hp:=nU hs
 have e:x.toNat*2^s%4294967296=2^s*(x.toNat%2^(32 - s)):=by
  rw[aP,<-hp,Nat.mul_mod_mul_left]
 rw[e,Nat.two_pow_add_eq_or_of_lt hc]
theorem OK (x:UInt32) {s:Nat} (hs:s<32):((bb (cV x.toUInt64 s) 32).toUInt32).toNat=x.toNat*2^s / 4294967296/\x.toNat*2^s / 4294967296<2^s:=by
 have hx:=eg x
 have j:x.toNat*2^s<4294967296*2^s:=Nat.mul_lt_mul_of_pos_right hx (dx s)
 have B:2^s<2^32:=Nat.pow_lt_pow_right (by decide) hs
 have A:x.toNat*2^s / 4294967296<2^s:=Nat.div_lt_of_lt_mul j
 refine⟨?_,A⟩
 rw[jB,i6,kM,c9,bg (by omega),show (2:Nat)^min 32 64=4294967296 from rfl]
 rw[az (b:=18446744073709551616) (by omega),az (by omega)]
def UpI (u x:L00) (lo s i:Nat) (t:UInt32×L00):Prop:=
 t.2.length=u.length/\t.2.take lo=u.take lo/\(∀k,lo+i<=k->t.2.getD k 0=u.getD k 0)/\t.1.toNat<2^s/\val ((t.2.drop lo).take i)+4294967296^i*t.1.toNat=2^s*val (x.take i)
theorem PI (u x:L00) (lo hi s:Nat) (hs:s<32) (J:lo<=hi) (N:hi<=u.length) (hu:u.length<=4611686018427387904) (hx:x.length<=4611686018427387904) :
  ∃c B,F.WE u lo hi x (s:Int)=some B/\UpI u x lo s (hi - lo) (c,B):=by
 have O:∀(k i:Nat) (t:UInt32×L00),i+k=hi - lo->UpI u x lo s i t->∃c B,loop (F.WH lo hi u x (s:Int)) (t.1,(i:Int),t.2)=some B/\UpI u x lo s (hi - lo) (c,B):=by
  intro k
  induction k with
  | zero=>
   intro i t R I
   have:i=hi - lo:=by omega
   subst this
   refine⟨t.1,t.2,cd ?_,I⟩
   unfold F.WH
   dsimp only
   rw[sW J N,ae (by rw[ak]; omega)]
  | succ k ih=>
   intro i t R I
   obtain⟨Y,Z,g3,g4,g5⟩:=I
   have U:i<hi - lo:=by omega
   have w4:wI ((i:Int)+1)=((i+1:Nat):Int):=by rw[aD (by omega) (by omega)]; rfl
   obtain⟨z,hz⟩:∃z,iK (x.getD i 0) s ||| t.1=z:=⟨_,rfl⟩
   obtain⟨c,hc⟩:∃c,(bb (cV (x.getD i 0).toUInt64 s) 32).toUInt32=c:=⟨_,rfl⟩
   have G:=Oh (x.getD i 0) t.1 hs g4
   have A:=OK (x.getD i 0) hs
   rw[hz]at G; rw[hc]at A
   have hK:F.Zk lo hi (s:Int) t.1 (i:Int) t.2 (x.getD i 0)=some (.inl (c,((i+1:Nat):Int),t.2.set (lo+i) z)):=by
    unfold F.Zk
    dsimp only
    rw[grd_true _ (by omega),D7 (by omega) U,aa,aG,aq,hz,grd_true _ (by omega),aG,hc,w4,aq]; rfl
   have V:F.WH lo hi u x (s:Int) (t.1,(i:Int),t.2)=some (.inl (c,((i+1:Nat):Int),t.2.set (lo+i) z)):=by
    unfold F.WH
    dsimp only
    rw[sW J N,ag (ai (by omega))]
    by_cases hb:i<x.length
    ·rw[ag (ai (by omega)),bh hb 0,aa,hK]
    ·rw[ae (by rw[ak]; omega)]
     rw[iJ (by omega)]at hK; exact hK
   rw[bp V]
   refine ih (i+1) (c,t.2.set (lo+i) z) (by omega) ⟨by simpa using Y,?_,fun X hk=>?_,by show c.toNat<_; rw[A.1]; exact A.2,?_⟩
   ·show (t.2.set (lo+i) z).take lo=_
    rw[fJ (by omega)]; exact Z
   ·show (t.2.set (lo+i) z).getD X 0=_
    rw[ij (by omega)]; exact g3 X (by omega)
   ·show val (((t.2.set (lo+i) z).drop lo).take (i+1))+_*c.toNat=_
    have e1:(t.2.set (lo+i) z).drop lo=(t.2.drop lo).set i z:=by rw[List.drop_set,ae (by omega),show lo+i - lo=i by omega]
    have e2:((t.2.drop lo).set i z).getD i 0=z:=by
     rw[an,cU (by rw[bZ]; omega)]; rfl
    rw[e1,cJ,e2,fJ (by omega),cJ x i,aJ,<-g5,G,A.1,bo]
    obtain⟨j,hP⟩:∃j,(4294967296:Nat)^i=j:=⟨_,rfl⟩
    obtain⟨m,hm⟩:∃m,(x.getD i 0).toNat*2^s=m:=⟨_,rfl⟩
    rw[hP,hm]
    have hd:=c7 m 4294967296
    have e3:j*(m%4294967296)+j*4294967296*(m / 4294967296)=j*m:=by
     rw[aK,<-aJ,cw,hd]
    have e4:2^s*(j*(x.getD i 0).toNat)=j*m:=by rw[<-hm,dD,aP (2^s)]
    rw[e4,aJ]
    omega
 exact O (hi - lo) 0 (0,u) (by omega) ⟨rfl,rfl,fun _ _=>rfl,dx s,by simp[val]⟩
theorem Gj (u x:L00) (s:Nat) (hs:s<32) (hu:u.length<=4611686018427387904) (hx:x.length<=u.length) (hf:2^s*val x<4294967296^u.length) :
  ∃j,F.WE u 0 u.length x (s:Int)=some j/\j.length=u.length/\val j=2^s*val x:=by
 obtain⟨c,j,G,B,r3,J,I,A⟩:=PI u x 0 u.length s hs (eZ _) (aw _) hu (by omega)
 dsimp only at B I A
 rw[fX,dP,aC (by omega),aC hx]at A
 refine⟨j,G,B,?_⟩
 rcases bO c.toNat with h | h
 ·rw[h]at A; omega
 ·have:=eK (4294967296^u.length) h
  omega
theorem t7 (u:L00) (s:Nat) (hs:s<32) (hu:u.length<=4611686018427387904):∃A,F.XJ u (s:Int)=some A/\A.length=u.length/\val A=val u / 2^s:=by
 have I:=nU hs
 have kd:∀i,(val u / 2^s) / 4294967296^i%4294967296=((u.getD i 0).toNat+4294967296*(u.getD (i+1) 0).toNat) / 2^s%4294967296:=by
  intro i
  rw[dM,aP,<-dM,kB,ef,ef]
  have:(u.getD i 0).toNat+4294967296*((u.getD (i+1) 0).toNat+4294967296*val (u.drop (i+1+1)))=((u.getD i 0).toNat+4294967296*(u.getD (i+1) 0).toNat)+2^s*(4294967296*(2^(32 - s)*val (u.drop (i+1+1)))):=by
   have:2^s*(4294967296*(2^(32 - s)*val (u.drop (i+1+1))))=4294967296*(4294967296*val (u.drop (i+1+1))):=by
    rw[dD,<-aK (2^s),I]
   rw[this,aJ]; omega
  rw[this,gV _ _ (dx s),gU]
 have J:∀(k i:Nat) (o:L00),i+k=u.length->o.length=u.length->(∀j,i<=j->o.getD j 0=u.getD j 0)->val (o.take i)=(val u / 2^s)%4294967296^i ->
   ∃A,loop (F.XA u (s:Int)) ((i:Int),o)=some A/\A.length=u.length/\val A=val u / 2^s:=by
  intro k
  induction k with
  | zero=>
   intro i o hi G _ B
   have:i=u.length:=by omega
   subst this
   refine⟨o,cd ?_,G,?_⟩
   ·unfold F.XA
    dsimp only
    rw[ae (by rw[ak]; omega)]
   ·rw[aC (by omega)]at B
    rw[B,az]
    exact du (dw _ _) (cv u)
  | succ k ih=>
   intro i o hi G hg B
   have w4:wI ((i:Int)+1)=((i+1:Nat):Int):=by rw[aD (by omega) (by omega)]; rfl
   obtain⟨z,hz⟩:∃z,(bb ((u.getD i 0).toUInt64 ||| (cV (u.getD (i+1) 0).toUInt64 32)) s).toUInt32=z:=⟨_,rfl⟩
   have N:z.toNat=((u.getD i 0).toNat+4294967296*(u.getD (i+1) 0).toNat) / 2^s%4294967296:=by
    rw[<-hz,jB,i6,vg,bg (by omega)]
   have hK:∀v:UInt64,v=((u.getD i 0).toUInt64 ||| (cV (u.getD (i+1) 0).toUInt64 32))->F.XU (s:Int) (i:Int) o v=some (.inl (((i+1:Nat):Int),o.set i z)):=by
    rintro v rfl
    unfold F.XU
    dsimp only
    rw[grd_true _ (by omega),bh (show i<o.length by omega) 0,aa,aG,aq,aq,hz,w4]; rfl
   have O:F.XA u (s:Int) ((i:Int),o)=some (.inl (((i+1:Nat):Int),o.set i z)):=by
    unfold F.XA
    dsimp only
    rw[ag (ai (by omega)),bh (show i<o.length by omega) 0,aa,w4,hg i (aw _)]
    by_cases hb:i+1<o.length
    ·rw[ag (ai (by omega)),bh hb 0,aa,aG,hg (i+1) (by omega),hK _ rfl]
    ·rw[ae (by rw[ak]; omega),hK _ (by
      apply cx.1
      rw[vg,iJ (a:=u) (i:=i+1) (by omega),c9]; rfl)]
   rw[bp O]
   refine ih (i+1) (o.set i z) (by omega) (by simpa using G) (fun j U=>by rw[ij (by omega)]; exact hg j (by omega)) ?_
   have R:(o.set i z).getD i 0=z:=by
    rw[an,cU (by omega)]; rfl
   rw[cJ,R,fJ (by omega),B,Nat.mod_pow_succ,kd i,N]
 exact J u.length 0 u (by omega) rfl (fun _ _=>rfl) (by simp[val,Nat.mod_one])
theorem xR (u v:L00) (hl:u.length=v.length) (hu:u.length<=4611686018427387904):F.Vy u v=some (decide (val u<val v)):=by
 have j:∀k:Nat,k<=u.length->val (u.drop k)=val (v.drop k)->loop (F.UQ u v) ((k:Int) - 1)=some (decide (val u<val v)):=by
  intro k
  induction k with
  | zero=>
   intro _ h
   rw[dP,dP]at h
   refine cd ?_
   unfold F.UQ
   dsimp only
   rw[ae (by decide),av (by omega)]
  | succ k ih=>
   intro G h
   have A:(((k+1:Nat):Int)) - 1=(k:Int):=by omega
   have w:wI ((k:Int) - 1)=(k:Int) - 1:=aD (by omega) (by omega)
   rw[A]
   by_cases hne:u.getD k 0=v.getD k 0
   ·have hL:F.UQ u v (k:Int)=some (.inl ((k:Int) - 1)):=by
     unfold F.UQ
     dsimp only
     rw[ag (ai (by omega)),bh (show k<u.length by omega) 0,aa,bh (show k<v.length by omega) 0,aa,ae (by rw[hne]; simp),w]; rfl
    rw[bp hL]
    refine ih (by omega) ?_
    rw[ef u k,ef v k,h,hne]
   ·have hL:F.UQ u v (k:Int)=bk (some (decide (u.getD k 0<v.getD k 0))):=by
     unfold F.UQ
     dsimp only
     rw[ag (ai (by omega)),bh (show k<u.length by omega) 0,aa,bh (show k<v.length by omega) 0,aa,ag (by rw[dz]; exact hne),aa,aa]
    rw[cd hL]
    congr 1
    by_cases hlt:u.getD k 0<v.getD k 0
    ·rw[ai hlt,ai (oE u v k h (dt.1 hlt))]
    ·have B:(v.getD k 0).toNat<(u.getD k 0).toNat:=by
      have a1:¬(u.getD k 0).toNat<(v.getD k 0).toNat:=fun q=>hlt (dt.2 q)
      have a2:(u.getD k 0).toNat≠(v.getD k 0).toNat:=fun q=>hne (cL.1 q)
      omega
     have:=oE v u k h.symm B
     rw[av hlt,av (by omega)]
 unfold F.Vy
 rw[aG,aD (by omega) (by omega)]
 exact j u.length (aw _) (by rw[bK (by omega),bK (by omega)])
theorem H8 (v a:L00) (j B A:UInt32) (h K I V':Nat) (hn:2<=v.length) (ha:v.length<=a.length) (hs:v.length<=70368744177664)
  (V:v.getD (v.length - 1) 0=j) (X:v.getD (v.length - 2) 0=B) (ac:a.getD (v.length - 2) 0=A) (hV:val v=(j.toNat*4294967296+B.toNat)*K+V') (al:I<K) (ce:V'<K) (cf:1<=j.toNat)
  (ap:(h*4294967296+A.toNat)*K+I<4294967296*val v) (hh:h<=j.toNat*4294967296+4294967295) :
  ∀(m:Nat) (g r:UInt64),g.toNat=m->h=g.toNat*j.toNat+r.toNat->r.toNat<=4294967295->(h*4294967296+A.toNat)*K+I<(g.toNat+1)*val v ->
   ∃G:UInt64,loop (F.UZ a v) (g,r)=some G/\G.toNat<=4294967295/\(h*4294967296+A.toNat)*K+I<(G.toNat+1)*val v:=by
 have x1:=eg j; have x2:=eg B; have x3:=eg A
 have w1:wI ((v.length:Int) - 1)=((v.length - 1:Nat):Int):=by rw[aD (by omega) (by omega)]; omega
 have w2:wI ((v.length:Int) - 2)=((v.length - 2:Nat):Int):=by rw[aD (by omega) (by omega)]; omega
 intro m
 induction m using Nat.strongRecOn with
 | ind m ih=>
  intro g r hm R hr bx
  have J:F.UZ a v (g,r)=F.Xv v g r true->(4294967296<=g.toNat\/r.toNat*4294967296+A.toNat<g.toNat*B.toNat) ->
    ∃G:UInt64,loop (F.UZ a v) (g,r)=some G/\G.toNat<=4294967295/\(h*4294967296+A.toNat)*K+I<(G.toNat+1)*val v:=by
   intro hL O
   have b2:1<=g.toNat:=by
    rcases bO g.toNat with Y | Y
    ·rw[Y]at O; omega
    ·exact Y
   have U:(g - 1).toNat=g.toNat - 1:=by
    rw[ee _ _ (by rw[cK]; exact b2)]; rfl
   have b3:(r+j.toUInt64).toNat=r.toNat+j.toNat:=by rw[li _ _ (by rw[c9]; omega),c9]
   have hd:=As (K:=K) (V':=V') R al O (by rw[<-hV]; exact ap)
   rw[<-hV]at hd
   obtain⟨k,Z⟩:∃k,g.toNat=k+1:=⟨g.toNat - 1,by omega⟩
   have ab:h=(g - 1).toNat*j.toNat+(r+j.toUInt64).toNat:=by
    rw[U,b3,R,Z,eG,aW]; omega
   have N:(h*4294967296+A.toNat)*K+I<((g - 1).toNat+1)*val v:=by
    rw[U,Z,eG,<-Z]; exact hd
   unfold F.Xv at hL
   rw[ag rfl,w1,bh (show v.length - 1<v.length by omega) 0,aa,V]at hL
   by_cases hb:4294967296<=(r+j.toUInt64).toNat
   ·rw[ag (ai (by rw[cK]; exact hb))]at hL
    have cm:(g - 1).toNat<4294967296:=by
     have:(g - 1).toNat*j.toNat<4294967296*j.toNat:=by omega
     exact Nat.lt_of_mul_lt_mul_right this
    exact⟨g - 1,cd hL,by omega,N⟩
   ·rw[ae (by simp only[ak,cK]; exact hb)]at hL
    obtain⟨G,q1,q2⟩:=ih (g - 1).toNat (by omega) (g - 1) (r+j.toUInt64) rfl ab (by omega) N
    exact⟨G,(bp hL).trans q1,q2⟩
  by_cases hg:4294967296<=g.toNat
  ·refine J ?_ (.inl hg)
   unfold F.UZ
   dsimp only
   rw[ag (ai (by rw[cK]; exact hg))]
  ·have e1:((cV r 32) ||| A.toUInt64).toNat=4294967296*r.toNat+A.toNat:=BQ _ _ hr
   have hp:=eb (show g.toNat<=4294967295 by omega) (show B.toNat<=4294967295 by omega)
   have e2:(g*B.toUInt64).toNat=g.toNat*B.toNat:=by rw[sQ _ _ (by rw[c9]; omega),c9]
   have hL:F.UZ a v (g,r)=F.Xv v g r (decide (((cV r 32) ||| A.toUInt64)<(g*B.toUInt64))):=by
    unfold F.UZ
    dsimp only
    rw[ae (by simp only[ak,cK]; exact hg),w2,bh (show v.length - 2<v.length by omega) 0,aa,bh (show v.length - 2<a.length by omega) 0,aa,X,ac]
   by_cases O:r.toNat*4294967296+A.toNat<g.toNat*B.toNat
   ·rw[show decide (((cV r 32) ||| A.toUInt64)<(g*B.toUInt64))=true from ai (by rw[bd,e1,e2]; omega)]at hL
    exact J hL (.inr O)
   ·rw[show decide (((cV r 32) ||| A.toUInt64)<(g*B.toUInt64))=false from av (by rw[bd,e1,e2]; omega)]at hL
    unfold F.Xv at hL
    rw[ae (by decide)]at hL
    exact⟨g,cd hL,by omega,bx⟩
theorem C8 (v a:L00) (hn:2<=v.length) (ha:a.length=v.length+1) (hs:v.length<=70368744177664) (ap:2147483648<=(v.getD (v.length - 1) 0).toNat) (b3:val a<4294967296*val v) :
  ∃g:UInt64,F.Zq a v=some g/\g.toNat<=4294967295/\val a<(g.toNat+1)*val v:=by
 obtain⟨j,J⟩:∃j,v.getD (v.length - 1) 0=j:=⟨_,rfl⟩
 obtain⟨G,U⟩:∃G,v.getD (v.length - 2) 0=G:=⟨_,rfl⟩
 obtain⟨A,V⟩:∃A,a.getD (v.length) 0=A:=⟨_,rfl⟩
 obtain⟨I,X⟩:∃I,a.getD (v.length - 1) 0=I:=⟨_,rfl⟩
 obtain⟨B,Y⟩:∃B,a.getD (v.length - 2) 0=B:=⟨_,rfl⟩
 rw[J]at ap
 have x1:=eg j; have x2:=eg G; have y0:=eg A; have y1:=eg I; have y2:=eg B
 have eV:val v=(j.toNat*4294967296+G.toNat)*4294967296^(v.length - 2)+val (v.take (v.length - 2)):=by
  have:=gB v (v.length - 2) (by omega)
  rw[ef,show v.length - 2+1=v.length - 1 by omega,ef,show v.length - 1+1=v.length by omega,eJ,jz,J,U]at this
  rw[this,cp,br,aP (4294967296^_),cw G.toNat,aP 4294967296 j.toNat]
  omega
 have O:val (v.take (v.length - 2))<4294967296^(v.length - 2):=by
  have:=cv (v.take (v.length - 2))
  rwa [aN,bg (by omega)]at this
 obtain⟨K,hK⟩:∃K,4294967296^(v.length - 2)=K:=⟨_,rfl⟩
 obtain⟨N,Z⟩:∃N,val (a.take (v.length - 2))=N:=⟨_,rfl⟩
 have bx:N<K:=by
  have:=cv (a.take (v.length - 2))
  rw[aN,bg (by omega)]at this
  rw[<-Z,<-hK]; exact this
 obtain⟨h,hh⟩:∃h,A.toNat*4294967296+I.toNat=h:=⟨_,rfl⟩
 have eU:val a=(h*4294967296+B.toNat)*K+N:=by
  have R:=gB a (v.length - 2) (by omega)
  rw[ef a (v.length - 2),show v.length - 2+1=v.length - 1 by omega,ef a (v.length - 1),show v.length - 1+1=v.length by omega,ef a v.length,bK (l:=a) (i:=v.length+1) (by omega),jz,Z,hK,V,X,Y]at R
  rw[R,<-hh,cp,br,aP K]
  have:B.toNat+4294967296*(I.toNat+4294967296*A.toNat)=(A.toNat*4294967296+I.toNat)*4294967296+B.toNat:=by omega
  rw[this]; omega
 rw[hK]at eV O
 have b2:(h*4294967296+B.toNat)*K+N<4294967296*val v:=by rw[<-eU]; exact b3
 have b6:A.toNat<=j.toNat:=by
  rcases bY j.toNat A.toNat with R | R
  ·exfalso
   have a1:(j.toNat*4294967296+G.toNat+1)*K<=(A.toNat*4294967296)*K:=aT _ (by omega)
   have a2:val v<(j.toNat*4294967296+G.toNat+1)*K:=by rw[eV,aW (j.toNat*4294967296+G.toNat) 1 K,cy]; exact Nat.add_lt_add_left O _
   have a4:=aT K (show 4294967296*(A.toNat*4294967296)<=h*4294967296+B.toNat by omega)
   rw[aK 4294967296]at a4
   omega
  ·exact R
 have ab:¬j.toUInt64=0:=by
  intro h0
  have:=da UInt64.toNat h0
  rw[c9]at this
  simp at this
  omega
 obtain⟨H,hH⟩:∃H,(cV A.toUInt64 32) ||| I.toUInt64=H:=⟨_,rfl⟩
 have ac:H.toNat=h:=by rw[<-hH,zL,<-hh]; omega
 have ad:(H / j.toUInt64).toNat=h / j.toNat:=by rw[fp,c9,ac]
 have al:(H%j.toUInt64).toNat=h%j.toNat:=by rw[dh,c9,ac]
 have cf:=c7 h j.toNat
 have cm:=bG h (show 0<j.toNat by omega)
 obtain⟨g,hg,g1,g2⟩:=H8 v a j G B h K N (val (v.take (v.length - 2))) hn (by omega) hs J U Y eV bx O (by omega) b2 (by omega) _ (H / j.toUInt64) (H%j.toUInt64) rfl
  (by rw[ad,al,aP]; omega) (by rw[al]; omega) (by
   rw[ad]
   have a1:h+1<=(h / j.toNat+1)*j.toNat:=by rw[aW,aP (h / j.toNat)]; omega
   have a2:(h+1)*(4294967296*K)<=(h / j.toNat+1)*j.toNat*(4294967296*K):=aT _ a1
   have a3:(h / j.toNat+1)*(j.toNat*(4294967296*K))<=(h / j.toNat+1)*val v:=by
    refine bj _ ?_
    rw[eV,aW,aK]; omega
   have a4:(h*4294967296+B.toNat+1)*K<=(h+1)*(4294967296*K):=by
    rw[<-aK]; exact aT _ (by omega)
   rw[aW (h*4294967296+B.toNat) 1 K,cy]at a4
   rw[aK]at a2
   omega)
 refine⟨g,?_,g1,by rw[eU]; exact g2⟩
 have w1:wI ((v.length:Int) - 1)=((v.length - 1:Nat):Int):=by rw[aD (by omega) (by omega)]; omega
 unfold F.Zq
 rw[bh (show v.length<a.length by omega) 0,aa,w1,bh (show v.length - 1<a.length by omega) 0,aa,aG,V,X,hH,bh (show v.length - 1<v.length by omega) 0,aa,J,grd_true _ ab,aa,grd_true _ ab,hg]
def PtI (g:UInt64) (v p:L00) (i:Nat) (s:UInt64×L00):Prop:=
 s.2.length=p.length/\s.1.toNat<=4294967295/\val (s.2.take i)+4294967296^i*s.1.toNat=g.toNat*val (v.take i)
theorem DJ (v u q p:L00) (j:Int) (g:UInt64) (hg:g.toNat<=4294967295) (hp:p.length=v.length+1) (hv:v.length<=4611686018427387900) :
  ∃p':L00,p'.length=v.length+1/\val p'=g.toNat*val v/\loop (F.U8 v j u q g) (0,0,p) =
   af (slO u j (wI ((wI (j+(v.length:Int)))+1):Int)) fun B=>af (F.Vy B p') fun G=>
    if (!G)=true then (bk (af (slO u j (wI ((wI (j+(v.length:Int)))+1):Int)) fun N=>af (F.UI u j.toNat ((wI ((wI (j+(v.length:Int)))+1):Int).toNat) p') fun I=>
     af (ax q j) fun O=>bz (q.set j.toNat g.toUInt32) fun J=>bU (wI (j - 1),I.2,J,p'))) else bU (g - 1,p'):=by
 have U:∀(k i:Nat) (s:UInt64×L00),i+k=v.length->PtI g v p i s->∃p':L00,p'.length=v.length+1/\val p'=g.toNat*val v/\loop (F.U8 v j u q g) (s.1,(i:Int),s.2) =
   af (slO u j (wI ((wI (j+(v.length:Int)))+1):Int)) fun B=>af (F.Vy B p') fun G=>
    if (!G)=true then (bk (af (slO u j (wI ((wI (j+(v.length:Int)))+1):Int)) fun N=>af (F.UI u j.toNat ((wI ((wI (j+(v.length:Int)))+1):Int).toNat) p') fun I=>
     af (ax q j) fun O=>bz (q.set j.toNat g.toUInt32) fun J=>bU (wI (j - 1),I.2,J,p'))) else bU (g - 1,p'):=by
  intro k
  induction k with
  | zero=>
   intro i s hi hs
   obtain⟨V,g2,g3⟩:=hs
   have:i=v.length:=by omega
   subst this
   refine⟨s.2.set v.length s.1.toUInt32,by simp; omega,?_,cd ?_⟩
   ·have e0:(s.2.set v.length s.1.toUInt32)=(s.2.set v.length s.1.toUInt32).take (v.length+1):=by rw[aC (by simp; omega)]
    have R:(s.2.set v.length s.1.toUInt32).getD v.length 0=s.1.toUInt32:=by
     rw[an,cU (by omega)]; rfl
    rw[e0,cJ,R,fJ (by omega),jB,az (by omega),g3,aC (aw _)]
   ·unfold F.U8
    dsimp only
    rw[ae (by rw[ak]; omega),bh (show v.length<s.2.length by omega) 0,aa,aG,aq]
  | succ k ih=>
   intro i s hi hs
   obtain⟨V,g2,g3⟩:=hs
   have w2:wI ((i:Int)+1)=((i+1:Nat):Int):=by rw[aD (by omega) (by omega)]; rfl
   obtain⟨t,X⟩:∃t,s.1+(g*(v.getD i 0).toUInt64)=t:=⟨_,rfl⟩
   have Y:F.U8 v j u q g (s.1,(i:Int),s.2)=some (.inl (bb t 32,((i+1:Nat):Int),s.2.set i t.toUInt32)):=by
    unfold F.U8
    dsimp only
    rw[ag (ai (by omega)),bh (show i<v.length by omega) 0,aa,aG,X,bh (show i<s.2.length by omega) 0,aa,aG,w2,aq]; rfl
   rw[bp Y]
   have x2:=eg (v.getD i 0)
   have bx:=eb hg (show (v.getD i 0).toNat<=4294967295 by omega)
   have Z:(g*(v.getD i 0).toUInt64).toNat=g.toNat*(v.getD i 0).toNat:=by rw[sQ _ _ (by rw[c9]; omega),c9]
   have m3:t.toNat=s.1.toNat+g.toNat*(v.getD i 0).toNat:=by rw[<-X,li _ _ (by rw[Z]; omega),Z]
   have c1:(bb t 32).toNat=t.toNat / 4294967296:=by rw[i6]; rfl
   refine ih (i+1) (bb t 32,s.2.set i t.toUInt32) (by omega) ⟨by simpa using V,by show (bb t 32).toNat<=_; rw[c1]; omega,?_⟩
   show val ((s.2.set i t.toUInt32).take (i+1))+_*(bb t 32).toNat=_
   have R:(s.2.set i t.toUInt32).getD i 0=t.toUInt32:=by
    rw[an,cU (by omega)]; rfl
   rw[cJ,R,fJ (by omega),jB,cJ v i,aJ,<-g3,c1,bo]
   obtain⟨A,hP⟩:∃A,(4294967296:Nat)^i=A:=⟨_,rfl⟩
   rw[hP]
   have hd:=c7 t.toNat 4294967296
   have e3:A*(t.toNat%4294967296)+A*4294967296*(t.toNat / 4294967296)=A*t.toNat:=by
    rw[aK,<-aJ,cw,hd]
   have e4:A*t.toNat=A*s.1.toNat+A*(g.toNat*(v.getD i 0).toNat):=by rw[m3,aJ]
   have e5:g.toNat*(A*(v.getD i 0).toNat)=A*(g.toNat*(v.getD i 0).toNat):=by rw[dD]
   rw[e5]
   omega
 exact U v.length 0 (0,p) (by omega) ⟨rfl,eZ _,by simp[val]⟩
theorem EI (v u q:L00) (j:Nat) (hj:j+v.length<u.length) (hq:j<q.length) (b6:u.length<=4611686018427387900) (b7:q.length<=4611686018427387900) (N:0<val v) (hu:val u<4294967296^(j+1)*val v) :
  ∀(m:Nat) (g:UInt64) (p:L00),g.toNat=val u / 4294967296^j / val v+m->g.toNat<=4294967295->p.length=v.length+1 ->
   ∃(d:UInt64) (I A:L00),loop (F.WJ v (j:Int) u q) (g,p)=some (.inl ((j:Int) - 1,I,q.set j d.toUInt32,A))/\A.length=v.length+1/\I.length=u.length/\d.toNat<=4294967295 /\
    val I+4294967296^j*(d.toNat*val v)=val u/\val I<4294967296^j*val v:=by
 have Y:=cv v
 have O:val u<4294967296^(j+v.length+1):=by
  have:=fa Y (eX (n:=j+1) (show 0<4294967296 by decide))
  rw[<-bS,show j+1+v.length=j+v.length+1 by omega]at this
  omega
 have Z:wI ((wI ((j:Int)+(v.length:Int)))+1)=((j+v.length+1:Nat):Int):=by
  rw[aD (x:=(j:Int)+(v.length:Int)) (by omega) (by omega),aD (by omega) (by omega)]; omega
 have wk:wI ((j:Int) - 1)=(j:Int) - 1:=aD (by omega) (by omega)
 have R:slO u (j:Int) ((j+v.length+1:Nat):Int)=some ((u.drop j).take (j+v.length+1 - j)):=lP (by omega) (by omega)
 have b8:((u.drop j).take (j+v.length+1 - j)).length=v.length+1:=by rw[aN,bZ]; omega
 have U:val ((u.drop j).take (j+v.length+1 - j))=val u / 4294967296^j:=by
  rw[kB]
  have:=gB (u.drop j) (v.length+1) (by rw[bZ]; omega)
  rw[gk,show j+(v.length+1)=j+v.length+1 by omega,lT O,cp,br]at this
  rw[show j+v.length+1 - j=v.length+1 by omega,this]
 obtain⟨M,G⟩:∃M,val u / 4294967296^j=M:=⟨_,rfl⟩
 have X:=eX (n:=j) (show 0<4294967296 by decide)
 intro m
 induction m with
 | zero=>
  intro g p B hg hp
  rw[br,G]at B
  obtain⟨A,p1,p2,p3⟩:=DJ v u q p (j:Int) g hg hp (by omega)
  have ab:g.toNat*val v<=M:=by rw[B]; exact Nat.div_mul_le_self _ _
  have J:=Nat.div_mul_le_self (val u) (4294967296^j)
  rw[G,aP]at J
  have ac:=Nat.lt_div_mul_add X (a:=val u)
  rw[G,aP]at ac
  obtain⟨c,I,t1,t2,t3⟩:=BC u A j (j+v.length+1) (by omega) (by omega) (by omega) (by omega) O (by rw[p2]; exact aZ (bj _ ab) J)
  refine⟨g,I,A,?_,p1,t2,hg,by rw[<-p2]; exact t3,?_⟩
  ·refine cd ?_
   unfold F.WJ
   dsimp only
   rw[p3,Z,R,aa,xR _ _ (by omega) (by omega),aa,U,G,p2,av (by omega),ag (by rfl),aa,aq,aq,t1,aa,bh hq 0,aa,aG,wk]
   rfl
  ·have h1:M<(g.toNat+1)*val v:=by
    rw[B]
    have:=Nat.lt_div_mul_add N (a:=M)
    rw[aW,cy]; exact this
   rw[aW,cy]at h1
   have h2:=bj (4294967296^j) (show M+1<=g.toNat*val v+val v by omega)
   rw[aJ,cE,aJ]at h2
   rw[p2]at t3
   omega
 | succ m ih=>
  intro g p B hg hp
  rw[G]at B
  obtain⟨A,p1,p2,p3⟩:=DJ v u q p (j:Int) g hg hp (by omega)
  have V:M<g.toNat*val v:=by
   rcases bY M (g.toNat*val v) with h | h
   ·exact h
   ·have:=(Nat.le_div_iff_mul_le N).2 h
    omega
  have ad:1<=g.toNat:=by
   rcases bO g.toNat with h | h
   ·rw[h,fv]at V; omega
   ·exact h
  have al:(g - 1).toNat=g.toNat - 1:=by
   rw[ee _ _ (by rw[cK]; exact ad)]; rfl
  have ap:F.WJ v (j:Int) u q (g,p)=some (.inl (g - 1,A)):=by
   unfold F.WJ
   dsimp only
   rw[p3,Z,R,aa,xR _ _ (by omega) (by omega),aa,U,G,p2,ai V,ae (by decide)]
   rfl
  rw[bp ap]
  exact ih (g - 1) A (by rw[al,G]; omega) (by omega) p1
theorem Fo (s:Int) (v u q p:L00) (j:Nat) (hn:2<=v.length) (J:2147483648<=(v.getD (v.length - 1) 0).toNat) (Y:j+v.length<u.length) (Z:j<q.length) (bx:u.length<=70368744177664) (b2:q.length<=70368744177664) (hp:p.length=v.length+1) (G:0<val v) (hu:val u<4294967296^(j+1)*val v) :
  ∃(d:UInt64) (A B:L00),F.Wm s v ((j:Int),u,q,p)=some (.inl ((j:Int) - 1,A,q.set j d.toUInt32,B))/\B.length=v.length+1/\A.length=u.length/\d.toNat<=4294967295 /\
    val A+4294967296^j*(d.toNat*val v)=val u/\val A<4294967296^j*val v:=by
 have R:=cv v
 have U:val u<4294967296^(j+v.length+1):=by
  have:=fa R (eX (n:=j+1) (show 0<4294967296 by decide))
  rw[<-bS,show j+1+v.length=j+v.length+1 by omega]at this
  omega
 have wj:wI ((wI ((j:Int)+(v.length:Int)))+1)=((j+v.length+1:Nat):Int):=by
  rw[aD (x:=(j:Int)+(v.length:Int)) (by omega) (by omega),aD (by omega) (by omega)]; omega
 have V:slO u (j:Int) ((j+v.length+1:Nat):Int)=some ((u.drop j).take (j+v.length+1 - j)):=lP (by omega) (by omega)
 have X:((u.drop j).take (j+v.length+1 - j)).length=v.length+1:=by rw[aN,bZ]; omega
 have I:val ((u.drop j).take (j+v.length+1 - j))=val u / 4294967296^j:=by
  rw[kB]
  have:=gB (u.drop j) (v.length+1) (by rw[bZ]; omega)
  rw[gk,show j+(v.length+1)=j+v.length+1 by omega,lT U,cp,br]at this
  rw[show j+v.length+1 - j=v.length+1 by omega,this]
 have N:=eX (n:=j) (show 0<4294967296 by decide)
 have O:val u / 4294967296^j<4294967296*val v:=by
  rw[fo N,aP]
  rw[bo,aK]at hu
  exact hu
 obtain⟨g,g1,g2,g3⟩:=C8 v _ hn X (by omega) J (by rw[I]; exact O)
 rw[I]at g3
 have b3:val u / 4294967296^j / val v<=g.toNat:=by
  have:=(fo G).2 g3
  omega
 obtain⟨d,A,B,r1,r2⟩:=EI v u q j Y Z (by omega) (by omega) G hu (g.toNat - val u / 4294967296^j / val v) g p (by omega) g2 hp
 refine⟨d,A,B,?_,r2⟩
 unfold F.Wm
 dsimp only
 rw[ag (ai (by omega)),wj,V,aa,g1,aa,r1]
theorem Hx (s:Nat) (v:L00) (A:Nat) (hn:2<=v.length) (N:2147483648<=(v.getD (v.length - 1) 0).toNat) (hs:s<32) (J:0<val v) :
  ∀(k:Nat) (u q p:L00),k+v.length<=u.length->k<=q.length->u.length<=70368744177664->q.length<=70368744177664->p.length=v.length+1->(∀i,i<k->q.getD i 0=0)->val q*val v+val u=A->val u<4294967296^k*val v ->
   ∃B j:L00,loop (F.Wm (s:Int) v) ((k:Int) - 1,u,q,p)=some (B,(j,v.length))/\B.length=q.length/\j.length=u.length/\val B=A / val v/\val j=A%val v / 2^s:=by
 intro k
 induction k with
 | zero=>
  intro u q p Y Z V O hp R I G
  rw[gw,cy]at G
  have eq:A / val v=val q:=by rw[<-I,cw,Nat.add_mul_div_right _ _ J,cT G,bm]
  have er:A%val v=val u:=by rw[<-I,cw,gK,az G]
  obtain⟨j,d1,d2,d3⟩:=t7 u s hs (by omega)
  refine⟨q,j,cd ?_,rfl,d2,eq.symm,by rw[er]; exact d3⟩
  unfold F.Wm
  dsimp only
  rw[ae (by decide),d1,aa,aq,grd_true _ ⟨by omega,by omega⟩]
 | succ k ih=>
  intro u q p Y Z V O hp R I G
  have e1:(((k+1:Nat):Int)) - 1=(k:Int):=by omega
  obtain⟨d,j,p',r1,rp,r2,r5,r3,r4⟩:=Fo (s:Int) v u q p k hn N (by omega) (by omega) V O hp J G
  rw[e1,bp r1]
  obtain⟨B,X,z1,z2,z3,z4⟩:=ih j (q.set k d.toUInt32) p' (by omega) (by simp; omega) (by omega) (by simpa using O) rp (fun i hi=>by rw[ij (by omega)]; exact R i (by omega)) (by
   have U:=jw q k d.toUInt32 (by omega)
   rw[R k (by omega)]at U
   have z0:(0:UInt32).toNat=0:=rfl
   rw[z0,cp,br]at U
   rw[U,jB,az (by omega),aW,aK,<-I]
   omega) r4
  exact⟨B,X,z1,by simpa using z2,by omega,z4⟩
theorem KC (n k:Nat):(List.replicate n (0:UInt32)).getD k 0=0:=by
 rw[an]
 by_cases hk:k<n <;> simp[hk]
theorem IW (x y:L00) (hy:2<=y.length) (J:y.getD (y.length - 1) 0≠0) (c5:y.length<=x.length) (hx:x.length<=50000000000000) :
  ∃q u:L00,F.Y6 x y=some (q,(u,y.length))/\q.length<=x.length+1/\u.length=x.length+1/\val q=val x / val y/\val u=val x%val y:=by
 obtain⟨j,N⟩:∃j,y.getD (y.length - 1) 0=j:=⟨_,rfl⟩
 rw[N]at J
 have X:j.toNat≠0:=fun h=>J (cL.1 h)
 obtain⟨b1,U⟩:=gp j.toNat
 obtain⟨U,b3⟩:=U X
 have b4:nb j.toNat<=32:=lL (eg j)
 obtain⟨s,hs⟩:∃s,s=32 - nb j.toNat:=⟨_,rfl⟩
 have B:s<32:=by omega
 have Y:F.Ym j=some (s:Int):=by
  unfold F.Ym
  rw[Aj,aa,aD (by omega) (by omega)]; congr 1; omega
 have O:val y=val (y.take (y.length - 1))+4294967296^(y.length - 1)*j.toNat:=by
  have:=cJ y (y.length - 1)
  rw[show y.length - 1+1=y.length by omega,aC (aw _),N]at this
  exact this
 have Z:val (y.take (y.length - 1))<4294967296^(y.length - 1):=by
  have:=cv (y.take (y.length - 1))
  rwa [aN,bg (by omega)]at this
 obtain⟨Q,G⟩:∃Q,(4294967296:Nat)^(y.length - 1)=Q:=⟨_,rfl⟩
 have ab:(4294967296:Nat)^y.length=4294967296*Q:=by
  have e:(4294967296:Nat)^(y.length - 1+1)=4294967296^(y.length - 1)*4294967296:=bo _ _
  rw[show y.length - 1+1=y.length by omega,G,aP]at e
  exact e
 rw[G]at O Z
 have ac:2^s*(j.toNat+1)<=4294967296:=by
  have A:2^s*(j.toNat+1)<=2^s*2^nb j.toNat:=bj _ b1
  rw[<-bS,show s+nb j.toNat=32 by omega]at A
  exact A
 have ad:2147483648<=2^s*j.toNat:=by
  have A:2^s*2^(nb j.toNat - 1)<=2^s*j.toNat:=bj _ U
  rw[<-bS,show s+(nb j.toNat - 1)=31 by omega]at A
  exact A
 have al:2^s*val y<4294967296^y.length:=by
  have A:val y<(j.toNat+1)*Q:=by rw[O,aW,cy,aP Q]; omega
  have I:2^s*val y<2^s*((j.toNat+1)*Q):=fa A (dx s)
  rw[<-aK]at I
  have V:=aT Q ac
  rw[ab]; omega
 have c6:2147483648*Q<=2^s*val y:=by
  have A:=aT Q ad
  have I:2^s*j.toNat*Q<=2^s*val y:=by
   rw[aK]; refine bj _ ?_; rw[O,aP]; omega
  omega
 have dc:0<Q:=by rw[<-G]; exact eX (by decide)
 obtain⟨v,v1,v2,v3⟩:=Gj (List.replicate y.length 0) y s B (by simp; omega) (by simp) (by rw[bq]; exact al)
 have bx:2^s*val x<4294967296^(x.length+1):=by
  have A:=cv x
  have I:2^s<=4294967296:=cA (Nat.pow_lt_pow_right (a:=2) (m:=s) (n:=32) (by decide) B)
  have V:=aT (val x) I
  rw[bo]; omega
 obtain⟨u,u1,u2,u3⟩:=Gj (List.replicate (x.length+1) 0) x s B (by simp; omega) (by simp) (by rw[bq]; exact bx)
 rw[bq]at v2 u2
 have R:2147483648<=(v.getD (v.length - 1) 0).toNat:=by
  have e:=cJ v (v.length - 1)
  rw[show v.length - 1+1=v.length by omega,aC (aw _),v3]at e
  have hl:=cv (v.take (v.length - 1))
  rw[aN,bg (by omega),show v.length - 1=y.length - 1 by omega,G]at hl
  rw[show v.length - 1=y.length - 1 by omega,G]at e
  rw[show v.length - 1=y.length - 1 by omega]
  rcases bY (v.getD (y.length - 1) 0).toNat 2147483648 with h | h
  ·have:=bj Q (show (v.getD (y.length - 1) 0).toNat<=2147483647 by omega)
   omega
  ·exact h
 have b6:0<val v:=by rw[v3]; omega
 have hk:val u<4294967296^(x.length - y.length+1)*val v:=by
  rw[u3,v3,dD]
  refine fa ?_ (dx s)
  have A:=cv x
  have I:Q<=val y:=by rw[O]; have:=eK Q (show 0<j.toNat by omega); omega
  have V:=bj (4294967296^(x.length - y.length+1)) I
  rw[<-G,<-bS,show x.length - y.length+1+(y.length - 1)=x.length by omega]at V
  omega
 obtain⟨q',u',l1,l2,l3,l4,l5⟩:=Hx s v (2^s*val x) (by omega) R B b6 (x.length - y.length+1) u (List.replicate (x.length - y.length+1) 0) (List.replicate (y.length+1) 0) (by omega) (by simp) (by omega) (by simp; omega) (by simp; omega)
  (fun i _=>KC _ _) (by rw[gC,u3]; omega) hk
 rw[bq]at l2
 refine⟨q',u',?_,by omega,by omega,?_,?_⟩
 rotate_left
 ·rw[l4,v3,Nat.mul_div_mul_left _ _ (dx s)]
 ·rw[l5,v3,Nat.mul_mod_mul_left,Nat.mul_div_cancel_left _ (dx s)]
 ·have w1:wI ((y.length:Int) - 1)=((y.length - 1:Nat):Int):=by rw[aD (by omega) (by omega)]; omega
  have w2:wI ((x.length:Int)+1)=((x.length+1:Nat):Int):=by rw[aD (by omega) (by omega)]; omega
  have w3:wI ((wI ((x.length:Int) - (v.length:Int)))+1)=((x.length - y.length+1:Nat):Int):=by
   rw[aD (x:=(x.length:Int) - (v.length:Int)) (by omega) (by omega),aD (by omega) (by omega)]; omega
  have w4:wI ((v.length:Int)+1)=((y.length+1:Nat):Int):=by rw[aD (by omega) (by omega)]; omega
  have w5:wI ((((x.length - y.length+1:Nat)):Int) - 1)=((x.length - y.length+1:Nat):Int) - 1:=aD (by omega) (by omega)
  unfold F.Y6
  rw[w1,bh (show y.length - 1<y.length by omega) 0,aa,N,Y,aa,iG (by omega),aa,aq,v1,aa,w2,iG (by omega),aa,aq,u1,aa,w3,iG (by omega),aa,
   w4,iG (by omega),aa,aq,aq,bq,aG,w5,l1,v2]
theorem CV (u:UInt64):F.YU u=some (au u.toNat):=by
 unfold F.YU
 obtain⟨m,j,B,A⟩:=jJ [u.toUInt32,(bb u 32).toUInt32] (by simp)
 have hu:u.toNat<18446744073709551616:=u.toNat_lt
 have e:val [u.toUInt32,(bb u 32).toUInt32]=u.toNat:=by
  simp only[gy,jz,jB,i6]
  rw[show (2:Nat)^min 32 64=4294967296 from rfl]
  omega
 rw[j,aa,A,e]
theorem Hy {n:Nat} (h:(au n).length≠0):(au n).getD ((au n).length - 1) 0≠0:=by
 intro A
 obtain⟨l,hl⟩:∃l,au n=l:=⟨_,rfl⟩
 have B:val l=n:=by rw[<-hl,ay]
 rw[hl]at h A
 have e:=cJ l (l.length - 1)
 have z0:(0:UInt32).toNat=0:=rfl
 rw[show l.length - 1+1=l.length by omega,aC (aw _),A,z0,cp,br,B]at e
 have j:=cv (l.take (l.length - 1))
 rw[aN,bg (by omega),<-e]at j
 have:=bv j
 rw[hl]at this
 omega
theorem l8 (n:Nat):(au n).length=0↔n=0:=by
 constructor
 ·intro h
  have:=ay n
  rw[bn h]at this
  exact this.symm
 ·intro h; rw[h,cH]; rfl
theorem rg (a b:L00) (ha:a.length<=40000000000000) (hb:b.length<=40000000000000):F.VH a b=some (if val b=0 then ([],[],60) else (au (val a / val b),au (val a%val b),0)):=by
 obtain⟨m,Y,h2,Z⟩:=im a (by omega)
 obtain⟨m',h4,h5,h6⟩:=im b (by omega)
 have la:(au (val a)).length<=a.length:=bv (cv a)
 have lb:(au (val b)).length<=b.length:=bv (cv b)
 unfold F.VH
 rw[Y,aa,h4,aa,Z,h6]
 by_cases hb0:val b=0
 ·rw[ag (by rw[hb0,cH]; rfl),ag hb0]
 ·have N:(au (val b)).length≠0:=fun h=>hb0 ((l8 _).1 h)
  rw[ae (by rw[fL]; omega),ae hb0,ka a b (by omega) (by omega),aa]
  unfold eA
  by_cases hl:val a<val b
  ·have O:apO 4 [] (au (val a))=some (au (val a)):=by unfold apO; rw[ag (by simp; omega)]; simp
   rw[ag hl,ag (by decide),O,aa,cT hl,az hl,cH]
  ·rw[ae hl,ae (by split <;> decide)]
   have R:(au (val b)).length<=(au (val a)).length:=gv (by omega)
   have B:=Hy N
   by_cases h11:(au (val b)).length=1
   ·have A:val b=((au (val b)).getD 0 0).toNat:=by
     have e:=cJ (au (val b)) 0
     rw[bm,aC (by omega),ay]at e
     simpa [val] using e
    obtain⟨q,r,G,s2,I,j⟩:=G6 (au (val a)) ((au (val b)).getD 0 0) (by rw[<-A]; exact hb0) (by omega)
    rw[ay,<-A]at I j
    obtain⟨k,p1,p2,p3⟩:=jJ q (by omega)
    rw[ag (by rw[fL]; omega),show (0:Int)=((0:Nat):Int) from rfl,bh (show 0<(au (val b)).length by omega) 0,aa,G,aa]
    dsimp only
    rw[p1,aa,p3,CV,aa,c9,I,j]
   ·obtain⟨q,u,G,s2,I,j,J⟩:=IW (au (val a)) (au (val b)) (by omega) B R (by omega)
    rw[ay,ay]at j J
    obtain⟨k,p1,p2,p3⟩:=jJ q (by omega)
    obtain⟨k',p4,p5,p6⟩:=jJ (u.take (au (val b)).length) (by rw[aN]; omega)
    have U:val (u.take (au (val b)).length)=val u:=by
     have e:=gB u (au (val b)).length (by omega)
     have V:val u<4294967296^(au (val b)).length:=by
      have X:=cv (au (val b))
      rw[ay]at X
      rw[J]
      exact fU (bG _ (by omega)) X
     rw[lT V,cp,br]at e
     exact e.symm
    rw[ae (by rw[fL]; omega),G,aa]
    dsimp only
    rw[p1,aa,p4,aa,p3,p6,U,j,J]
end Go.Gk.Bn
end
section
namespace Go.Gk.Bn
open Go Go.Gk Go.Gk.Sh Go.Gk.Ec Go.Gk.Pr
theorem s7 (a:L00) (ha:a.length<=40000000000000):F.Yb a=some (((nb (val a)+31) / 32:Nat):Int):=by
 have j:nb (val a)<=32*a.length:=aZ (mu _) (bj 32 (bv (cv a)))
 unfold F.Yb
 rw[jO a (by omega),aa,aD (x:=((nb (val a):Nat):Int)+31) (by omega) (by omega),bN (by omega),aD (by omega) (by omega)]
 congr 1
def nV (l:List L00) (m:L00):Int:=if l.any (fun a=>decide (4096<nb (val a))) then 10 else if val m<2 then 60 else 0
theorem ur (l:List L00) (k:Nat) (N:l.length=k+1) (J:k<=100) (hl:∀a∈l,a.length<=40000000000000):F.TY l=some (nV l (l.getD k [])):=by
 have G:∀(n i:Nat),i+n=l.length->loop (F.Vr l) (i:Int)=some (nV (l.drop i) (l.getD k [])):=by
  intro n
  induction n with
  | zero=>
   intro i hi
   have:i=l.length:=by omega
   subst this
   have B:wI ((l.length:Int) - 1)=(k:Int):=by rw[aD (by omega) (by omega)]; omega
   have hm:(l.getD k []).length<=40000000000000:=by
    refine hl _ ?_
    rw[an,aA (by omega)]
    exact cM _
   refine cd ?_
   unfold F.Vr nV
   dsimp only
   rw[ae (by rw[ak]; omega),B,bh (show k<l.length by omega) [],aa,jO _ (by omega),aa,eJ]
   rw[ae (show ¬(List.any [] fun a=>decide (4096<nb (val a)))=true by simp)]
   congr 1
   by_cases h:val (l.getD k [])<2
   ·have:nb (val (l.getD k []))<=1:=lL (k:=1) h
    rw[ag h,ag (ai (by omega))]
   ·rw[ae h,ae]
    rw[ak]
    intro O
    have hb:=(gp (val (l.getD k []))).1
    have R:=ba (show 0<2 by decide) (show nb (val (l.getD k []))<=1 by omega)
    omega
  | succ n ih=>
   intro i hi
   have B:wI ((i:Int)+1)=((i+1:Nat):Int):=by rw[aD (by omega) (by omega)]; rfl
   obtain⟨a,ha⟩:∃a,l.getD i []=a:=⟨_,rfl⟩
   have j:a.length<=40000000000000:=by
    refine hl _ ?_
    rw[<-ha,an,aA (by omega)]
    exact cM _
   have A:l.drop i=a :: l.drop (i+1):=by
    rw[bc (by omega)]
    congr 1
    rw[<-ha,an,aA (by omega)]; rfl
   by_cases hb:4096<nb (val a)
   ·refine (cd (X:=some 10) ?_).trans ?_
    ·unfold F.Vr
     dsimp only
     rw[ag (ai (by omega)),bh (show i<l.length by omega) [],aa,ha,s7 a j,aa,ag (ai (by omega))]
    ·unfold nV
     rw[A,ag (by simp[hb])]
   ·have I:F.Vr l (i:Int)=some (.inl ((i+1:Nat):Int)):=by
     unfold F.Vr
     dsimp only
     rw[ag (ai (by omega)),bh (show i<l.length by omega) [],aa,ha,s7 a j,aa,ae (by rw[ak]; omega),B]; rfl
    rw[bp I,ih (i+1) (by omega)]
    unfold nV
    rw[A,List.any_cons,av hb,Bool.false_or]
 have:=G l.length 0 (by omega)
 rw[dP]at this
 exact this
theorem qW {a b m:L00} (ha:nb (val a)<=4096) (hb:nb (val b)<=4096) (hm:nb (val m)<=4096) (j:2<=val m) (A:a.length<=40000000000000) (B:b.length<=40000000000000) (G:m.length<=40000000000000):F.TY [a,b,m]=some 0:=by
 rw[ur [a,b,m] 2 rfl (by decide) (by intro x hx; simp at hx; rcases hx with rfl | rfl | rfl <;> assumption)]
 unfold nV
 rw[ae (by simp; omega),ae (by show ¬val m<2; omega)]
theorem kO (a m:L00) (ha:a.length<=40000000000000) (hm:m.length<=40000000000000) (h:val m≠0):F.Tv a m=some (au (val a%val m)):=by
 unfold F.Tv
 rw[rg a m ha hm,ae h,aa]
theorem uj {x y m:Nat} (hx:x<m) (hy:y<m) (j:(au m).length<=1000) (l:L00) (hl:val l=m) (A:l.length<=40000000000000):F.VU (au x) (au y) l=some (au ((m - y+x)%m)):=by
 have lx:(au x).length<=1000:=aZ (gv (by omega)) j
 have G:(au y).length<=1000:=aZ (gv (by omega)) j
 unfold F.VU F.aau
 rw[ti _ _ (by omega) (by omega),aa,ay,ay]
 by_cases h:x<y
 ·have B:(au (x+m)).length<=1001:=by
   have I:=lR x m
   have J:=gv (show x<=m by omega)
   omega
  rw[ag h,ag (by rfl),sV _ _ (by omega) A,aa,ay,hl,ti _ _ (by omega) (by omega),aa,ay,ay,ae (by omega),az (by omega),show x+m - y=m - y+x by omega]
 ·rw[ae h,ae (show ¬(!true)=true by decide),show m - y+x=(x - y)+m by omega,Nat.add_mod_right,az (by omega)]
section
variable (c:Int)
end
section
variable {c:Int}
end
end Go.Gk.Bn
end
section
namespace Go.Gk.Bn
open Go Go.Gk Go.Gk.Sh
theorem CN {m x y:Nat} (hm:m%2=1) (h:2*x%m=2*y%m):x%m=y%m:=by
 have j:∀x:Nat,x%m=((m+1) / 2*(2*x%m))%m:=fun x=>by
  rw[Nat.mul_mod_mod,<-aK,show (m+1) / 2*2=m+1 by omega,aW,cy,Nat.mul_add_mod]
 rw[j x,j y,h]
theorem CP {m x y v:Nat} (h:(x+v)%m=(y+v)%m):x%m=y%m:=by
 rcases bO m with A | A
 ·subst A; rw[Nat.mod_zero,Nat.mod_zero]at h ⊢; omega
 ·have j:∀x:Nat,x%m=((x+v)%m+v*(m - 1))%m:=fun x=>by
   rw[Nat.mod_add_mod]
   have:x+v+v*(m - 1)=x+v*m:=by
    obtain⟨k,B⟩:∃k,m=k+1:=⟨m - 1,by omega⟩
    rw[B,eG,aJ,cE]; omega
   rw[this,gK]
  rw[j x,j y,h]
def ot (x m:Nat):Nat:=if x%2=1 then (x+m) / 2 else x / 2
theorem AL {x m:Nat} (hx:x<m):ot x m<m:=by unfold ot; split <;> omega
theorem Gi {x m:Nat} (hm:m%2=1):2*ot x m%m=x%m:=by
 unfold ot
 split
 ·rw[show 2*((x+m) / 2)=x+m by omega,Nat.add_mod_right]
 ·rw[show 2*(x / 2)=x by omega]
theorem rv {m a u p:Nat} (hm:m%2=1) (hu:u%2=0) (h:p*a%m=u%m):ot p m*a%m=u / 2%m:=by
 refine CN hm ?_
 rw[<-aK,dH,Gi hm,<-dH,h,show 2*(u / 2)=u by omega]
theorem r8 {m a u v p q:Nat} (B:q<=m) (G:v<=u) (j:p*a%m=u%m) (A:q*a%m=v%m):(m - q+p)%m*a%m=(u - v)%m:=by
 refine CP (v:=v) ?_
 rw[show u - v+v=u by omega,<-j,Nat.add_mod,Nat.mod_mul_mod,<-A,<-Nat.add_mod,<-aW,show m - q+p+q=m+p by omega,aW,aP m,Nat.mul_add_mod_self_right]
theorem uI {u v:Nat} (hu:u%2=0) (A:v%2=1):Nat.gcd (u / 2) v=Nat.gcd u v:=by
 apply Nat.dvd_antisymm
 ·refine Nat.dvd_gcd ?_ (gf _ _)
  exact Nat.dvd_trans (je _ _) ⟨2,by omega⟩
 ·refine Nat.dvd_gcd ?_ (gf _ _)
  have B:Nat.gcd u v ∣ 2*(u / 2):=by rw[show 2*(u / 2)=u by omega]; exact je _ _
  refine Nat.Coprime.dvd_of_dvd_mul_left ?_ B
  have G:Nat.gcd (Nat.gcd u v) 2 ∣ 2:=gf _ _
  have I:Nat.gcd (Nat.gcd u v) 2 ∣ v:=Nat.dvd_trans (je _ _) (gf _ _)
  have j:Nat.gcd (Nat.gcd u v) 2 ∣ v%2:=(Nat.dvd_mod_iff G).2 I
  rw[A]at j
  exact Nat.eq_one_of_dvd_one j
theorem xo {u v:Nat} (h:v<=u):Nat.gcd (u - v) v=Nat.gcd u v:=Nat.gcd_sub_self_left h
theorem OX (x:UInt32):((x &&& 1) == 1)=decide (x.toNat%2=1):=by
 have h:(x &&& 1).toNat=x.toNat%2:=by
  rw[UInt32.toNat_and]
  exact Nat.and_one_is_mod _
 by_cases h1:x.toNat%2=1
 ·rw[ai h1,fL]
  apply cL.1
  rw[h,h1]; rfl
 ·rw[av h1]
  apply Bool.eq_false_iff.2
  intro j
  rw[fL]at j
  rw[j]at h
  exact h1 h.symm
theorem mS (l:L00) (hl:l.length<=4611686018427387904):F.Tz l 0=some (decide (val l%2=1)):=by
 have w0:wI (Int.tdiv 0 32)=((0:Nat):Int):=by decide
 have t0:Int.tmod 0 32=0:=by decide
 unfold F.Tz
 rw[ag (by decide),w0,t0]
 by_cases h:l.length=0
 ·rw[ae (by rw[ak]; omega),bn h]; rfl
 ·rw[ag (ai (by omega)),bh (show 0<l.length by omega) 0,aa,grd_true _ (by decide)]
  have e:dB (l.getD 0 0) (0:Int).toNat=l.getD 0 0:=by
   apply cL.1
   unfold dB
   rw[di]
   have:=eg (l.getD 0 0)
   rw[show min (0:Int).toNat 32=0 from rfl,gw,Nat.div_one]
   omega
  rw[e,OX]
  congr 2
  match l,h with
  | x :: r,_=>
   rw[gy]
   show (x.toNat%2=1)=((x.toNat+4294967296*val r)%2=1)
   rw[show (x.toNat+4294967296*val r)%2=x.toNat%2 by omega]
theorem sZ (l:L00) (hl:l.length<=40000000000000):F.TL l 1=some (au (val l / 2)):=by
 obtain⟨m,B,O,G⟩:=im l (by omega)
 have R:(au (val l)).length<=l.length:=bv (cv l)
 have w0:wI (Int.tdiv (max 1 0) 32)=((0:Nat):Int):=by decide
 have I:Int.tmod (max 1 0) 32=((1:Nat):Int):=by decide
 unfold F.TL
 rw[B,aa,G,w0,I]
 by_cases h:(au (val l)).length=0
 ·have:val l=0:=(l8 _).1 h
  rw[ag (ai (by omega)),this,Nat.zero_div,cH]
 ·have j:apO 4 [] (au (val l))=some (au (val l)):=by unfold apO; rw[ag (by simp; omega)]; simp
  obtain⟨J,N,U,A⟩:=t7 (au (val l)) 1 (by decide) (by omega)
  rw[ay,Nat.pow_one]at A
  obtain⟨k,p1,p2,p3⟩:=jJ J (by omega)
  rw[ae (by rw[ak]; omega),oJ (by omega),aa,dP,j,aa,N,aa,p1,aa,p3,A]
theorem DC (x m:L00) (hx:x.length<=1000) (hm:m.length<=1000):F.WY x m=some (au (ot (val x) (val m))):=by
 have l1:(au (val x+val m)).length<=1001:=by
  have j:=lR (val x) (val m)
  have A:(au (val x)).length<=x.length:=bv (cv x)
  have B:(au (val m)).length<=m.length:=bv (cv m)
  omega
 unfold F.WY ot
 rw[mS x (by omega),aa]
 by_cases h:val x%2=1
 ·rw[ag (ai h),ag h,sV x m (by omega) (by omega),aa,sZ _ (by omega),aa,ay]
 ·rw[ae (by rw[ak]; exact h),ae h,sZ x (by omega),aa]
def sub3 (m u v p q:Nat):L00×L00×L00×L00:=
 if v<=u then (au (u - v),au v,au ((m - q+p)%m),au q) else (au u,au (v - u),au p,au ((m - p+q)%m))
theorem iw {n m k:Nat} (h:n<=m) (hm:(au m).length<=k):(au n).length<=k:=aZ (gv h) hm
theorem PF {m a u p:Nat} (hm:m%2=1) (G:(au m).length<=900) (I:u<=m) (hp:p<m) :
  ∀v q,0<v->v<=m->q<m->q*a%m=v%m->∃j A,0<j/\j<=v/\A<m/\A*a%m=j%m/\(u%2=1->Nat.gcd u j=Nat.gcd u v) /\
   loop (F.XY (au m) (au u) (au p)) (au v,au q)=some (.inl (sub3 m u j p A)):=by
 intro v
 induction v using Nat.strongRecOn with
 | _ v ih=>
  intro q O J B h
  have R:=iw J G
  have U:=iw (cA B) G
  have V:=iw I G
  have X:=iw (cA hp) G
  by_cases ho:v%2=1
  ·refine⟨v,q,O,aw _,B,h,fun _=>rfl,?_⟩
   refine bI ?_
   unfold F.XY sub3
   dsimp only
   rw[mS _ (by omega),aa,ay,ae (by rw[ai ho]; decide),ka _ _ (by omega) (by omega),aa,ay,ay]
   by_cases hc:v<=u
   ·have hz:0<=eA u v:=by
     unfold eA
     rw[ae (by omega)]
     split <;> decide
    rw[ag (ai hz),ag hc,ti _ _ (by omega) (by omega),aa,ay,ay,ae (by omega),uj hp B (by omega) (au m) (ay m) (by omega),aa]
    rfl
   ·have hz:¬0<=eA u v:=by
     unfold eA
     rw[ag (by omega)]
     decide
    rw[ae (by rw[ak]; exact hz),ae hc,ti _ _ (by omega) (by omega),aa,ay,ay,ae (by omega),uj B hp (by omega) (au m) (ay m) (by omega),aa]
    rfl
  ·have N:v%2=0:=by omega
   obtain⟨j,A,a1,a2,a3,a4,a5,a6⟩:=ih (v / 2) (by omega) (ot q m) (by omega) (by omega) (AL B) (rv hm N h)
   refine⟨j,A,a1,by omega,a3,a4,fun hu=>?_,?_⟩
   ·rw[a5 hu,fC,uI N hu,fC]
   ·refine Eq.trans (bp ?_) a6
    unfold F.XY
    dsimp only
    rw[mS _ (by omega),aa,ay,ag (by rw[av ho]; decide),sZ _ (by omega),aa,ay,DC _ _ (by omega) (by omega),aa,ay,ay]
    rfl
theorem Qm {m a v q:Nat} (hm:m%2=1) (G:(au m).length<=900) (Y:0<v) (N:v<=m) (U:q<m) (V:q*a%m=v%m) :
  ∀u p,0<u->u<=m->p<m->p*a%m=u%m->Nat.gcd u v%2=1->∃A j I B,0<A/\A<=u/\I<m/\I*a%m=A%m/\0<j/\j<=v/\B<m/\B*a%m=j%m /\
   Nat.gcd A j=Nat.gcd u v/\loop (F.Zf (au m) (au v) (au q)) (au u,au p)=some (.inl (sub3 m A j I B)):=by
 intro u
 induction u using Nat.strongRecOn with
 | _ u ih=>
  intro p hu O hp h hg
  have lv:=iw N G
  have lq:=iw (cA U) G
  have lu:=iw O G
  have lp:=iw (cA hp) G
  by_cases ho:u%2=1
  ·obtain⟨j,B,a1,a2,a3,a4,a5,a6⟩:=PF (a:=a) hm G O hp v q Y N U V
   refine⟨u,j,p,B,hu,aw _,hp,h,a1,a2,a3,a4,a5 ho,?_⟩
   refine cd ?_ |>.trans a6
   unfold F.Zf
   dsimp only
   rw[mS _ (by omega),aa,ay,ae (by rw[ai ho]; decide)]
  ·have J:u%2=0:=by omega
   have R:v%2=1:=by
    apply gR
    intro hc
    have d1:2 ∣ Nat.gcd u v:=Nat.dvd_gcd (fe J) (fe (by omega))
    omega
   obtain⟨A,j,I,B,b1,b2,Z,b4,b5,b6,b7,b8,b9,X⟩:=ih (u / 2) (by omega) (ot p m) (by omega) (by omega) (AL hp) (rv hm J h) (by rw[uI J R]; exact hg)
   refine⟨A,j,I,B,b1,by omega,Z,b4,b5,b6,b7,b8,by rw[b9,uI J R],?_⟩
   refine Eq.trans (bp ?_) X
   unfold F.Zf
   dsimp only
   rw[mS _ (by omega),aa,ay,ag (by rw[av ho]; decide),sZ _ (by omega),aa,ay,DC _ _ (by omega) (by omega),aa,ay,ay]
   rfl
theorem HC {m a:Nat} (hm:m%2=1) (Z:(au m).length<=900):∀n u v p q,u+v<=n->u<=m->0<v->v<=m->p<m->q<m->p*a%m=u%m->q*a%m=v%m->Nat.gcd u v%2=1 ->
  ∃x,x<m/\x*a%m=Nat.gcd u v%m/\loop (F.W7 (au m)) (au u,au v,au p,au q)=some (au (Nat.gcd u v),au x):=by
 intro n
 induction n with
 | zero=>intro u v p q h1 h2 h3; omega
 | succ n ih=>
  intro u v p q hn N hv ab hp hq ad O hg
  have lu:=iw N Z
  by_cases hu:u=0
  ·subst hu
   rw[Nat.gcd_zero_left]
   refine⟨q,hq,O,?_⟩
   refine bI ?_
   unfold F.W7
   dsimp only
   rw[jO _ (by omega),aa,ay,kU]
   rfl
  ·obtain⟨j,A,I,J,b1,b2,b3,U,b5,b6,b7,V,X,al⟩:=Qm (a:=a) hm Z hv ab hq O u p (by omega) N hp ad hg
   have hs:F.W7 (au m) (au u,au v,au p,au q)=some (.inl (sub3 m j A I J)):=by
    unfold F.W7
    dsimp only
    have:=(gp u).2 hu
    rw[jO _ (by omega),aa,ay,ag (ai (by omega)),al]
   have R:0<m:=by omega
   rw[bp hs]
   unfold sub3
   by_cases hc:A<=j
   ·rw[ag hc]
    obtain⟨x,Y,B,G⟩:=ih (j - A) A ((m - J+I)%m) J (by omega) (by omega) b5 (by omega) (bG _ R) b7 (r8 (by omega) hc U V) V (by rw[xo hc,X]; exact hg)
    rw[xo hc,X]at B G
    exact⟨x,Y,B,G⟩
   ·rw[ae hc]
    have e:Nat.gcd j (A - j)=Nat.gcd u v:=by rw[fC,xo (by omega),fC,X]
    obtain⟨x,Y,B,G⟩:=ih j (A - j) I ((m - I+J)%m) (by omega) (by omega) (by omega) (by omega) b3 (bG _ R) U (r8 (by omega) (by omega) V U) (by rw[e]; exact hg)
    rw[e]at B G
    exact⟨x,Y,B,G⟩
theorem Gp (a:L00) (m:Nat) (B:1<m) (hm:m%2=1) (R:nb m<=4096) (G:(au m).length<=900) (U:nb (val a)<=4096) (I:a.length<=40000000000000) (hg:Nat.gcd (val a) m=1) :
  ∃w,w<m/\val a*w%m=1/\F.Ut a (au m)=some (au w,0):=by
 have hw:F.TY [a,au m]=some 0:=by
  have hl:∀x∈[a,au m],x.length<=40000000000000:=by
   intro x hx
   simp only[aM,aR,bD]at hx
   rcases hx with h | h
   ·rw[h]; exact I
   ·rw[h]; omega
  rw[ur [a,au m] 1 rfl (by decide) hl]
  unfold nV
  rw[ae]
  ·rw[show [a,au m].getD 1 []=au m from rfl,ay,ae (by omega)]
  ·simp only[List.any_cons,List.any_nil,Bool.or_false,fD,ak,ay]
   omega
 have j:Nat.gcd (val a%m) m=1:=by rw[<-hg,<-Nat.gcd_rec,fC]
 obtain⟨x,A,J,N⟩:=HC (a:=val a%m) hm G (val a%m+m) (val a%m) m 1 0 (aw _) (cA (bG _ (by omega))) (by omega) (aw _) B (by omega) (by rw[cy]) (by rw[fv,Nat.mod_self,jC]) (by rw[j])
 rw[j,az B]at J
 rw[j]at N
 have l1:au 1=[1]:=by rw[ld (by decide),show 1 / 4294967296=0 by decide,cH]; rfl
 refine⟨x,A,?_,?_⟩
 ·rw[<-J,aP,Nat.mul_mod_mod]
 ·have lx:=iw (cA A) G
  unfold F.Ut
  rw[hw,aa,ae (by decide),kO a _ I (by omega) (by rw[ay]; omega),ay,aa,mS _ (by omega),ay,aa,ag (ai hm)]
  have O:F.Vb (au (val a%m)) (au m)=some ([1],au x):=by
   unfold F.Vb
   rw[<-l1,<-cH]at *
   exact N
  rw[O,aa]
  dsimp only
  rw[ka _ _ (by decide) (by decide),yr,aa,ae (by decide),kO _ _ (by omega) (by omega) (by rw[ay]; omega),ay,ay,az A,aa]
end Go.Gk.Bn
end
section
namespace Go.Gk.Bn
open Go Go.Gk Go.Gk.Sh Go.Gk.Ec Go.Gk.Pr
theorem nq {n:Nat} (h:nb n<=4096):(au n).length<=128:=by
 have j:=(gp n).1
 have A:=ba (show 0<2 by decide) (show nb n<=32*128 by omega)
 refine bv ?_
 rw[show (4294967296:Nat)=2^32 from rfl,<-cr]
 exact aU j A
theorem xy (a b:L00) (m:Nat) (B:1<m) (hm:nb m<=4096) (ha:nb (val a)<=4096) (hb:nb (val b)<=4096) (G:a.length<=40000000000000) (I:b.length<=40000000000000) (J:(au m).length<=900) :
  F.V6 a b (au m)=some (au (val a*val b%m),0):=by
 have l1:=nq ha
 have N:=nq hb
 have hs:(au (val a*val b)).length<=256:=bv (by
  have j:=cv (au (val a)); have A:=cv (au (val b))
  rw[ay]at j A
  have:=Nat.mul_lt_mul'' j A
  rw[<-bS]at this
  exact aU this (ba (by decide) (by omega)))
 unfold F.V6
 rw[qW ha hb (by rw[ay]; omega) (by rw[ay]; omega) (by omega) (by omega) (by omega),aa,ae (by decide),Eb _ _ (by omega) (by omega) (by omega),aa,
  kO _ _ (by omega) (by omega) (by rw[ay]; omega),aa,ay,ay]
theorem qL (c:Int):1<cN c/\nb (cN c)<=4096/\(au (cN c)).length<=12/\cN c<cP c/\cP c<4294967296^12:=by
 have h:=kC c
 have l:=td c (cA h.2.2.1)
 exact⟨(A8 c).1,aZ (Lh l) (by decide),l,h.2.2.1,h.1⟩
theorem OB (c:Int):cN c%2=1:=by
 unfold cN
 split <;> decide +kernel
theorem Oy {c:Int} {s:Nat} (j:0<s) (h:s<cN c):Nat.gcd s (cN c)=1:=by
 rw[fC]
 exact (A8 c).coprime fun hd=>by have:=gc j hd; omega
theorem oV {c:Int} {s:Nat} (h:s<cN c):nb s<=384:=by
 have j:=Lh (iw (cA h) (qL c).2.2.1)
 omega
theorem vM {n s w v:Nat} (hw:w<n) (A:v<n) (B:s*w%n=1) (G:s*v%n=1):w=v:=by
 have I:s*w*v%n=v%n:=by rw[dH,B,cy,ji]
 have j:s*w*v%n=w%n:=by rw[show s*w*v=(s*v)*w by rw[aK,aP w,<-aK],dH,G,cy,ji]
 rw[I,az A,az hw]at j
 exact j.symm
open Classical in
noncomputable def rX (c:Int) (s:Nat):Nat:=if h:∃w,w<cN c/\s*w%cN c=1 then Classical.choose h else 0
theorem MQ {c:Int} {s w:Nat} (hw:w<cN c) (h:s*w%cN c=1):rX c s=w:=by
 have hx:∃w,w<cN c/\s*w%cN c=1:=⟨w,hw,h⟩
 unfold rX
 rw[dif_pos hx]
 have j:=gI hx
 exact vM j.1 hw j.2 h
theorem MZ {c:Int} {s:Nat} (l:L00) (hl:val l=s) (j:l.length<=40000000000000) (A:0<s) (h:s<cN c):rX c s<cN c/\s*rX c s%cN c=1/\F.Ut l (au (cN c))=some (au (rX c s),0):=by
 obtain⟨n1,B,G,_,_⟩:=qL c
 have hb:=oV h
 obtain⟨w,a1,a2,a3⟩:=Gp l (cN c) n1 (OB c) B (by omega) (by rw[hl]; omega) j (by rw[hl]; exact Oy A h)
 rw[hl]at a2
 rw[MQ a1 a2]
 exact⟨a1,a2,a3⟩
abbrev isH (a:Int):Prop:=a=1\/a=2\/a=3
theorem uG (a:Int):F.Tp a=some (if isH a then ((Sz a:Nat):Int) else 0):=by
 unfold F.Tp isH
 by_cases h1:a=1
 ·subst h1; rfl
 ·by_cases h2:a=2
  ·subst h2; rfl
  ·by_cases h3:a=3
   ·subst h3; rfl
   ·rw[ae (by simpa using h1),ae (by simpa using h2),ae (by simpa using h3),ae (by omega)]
theorem ng (a:Int):32<=Sz a/\Sz a<=64:=by unfold Sz; split; decide; split <;> decide
theorem mP (a:Int) (D:L01):(ge a D).length=Sz a:=by
 unfold ge sa
 split
 ·rename_i h
  unfold zn
  have:=fH (fun i (x:L01)=>x.length=4*i) (fun x i=>x++q32 (((og a (H0 a) (D++nt (Bk a) D) ((D++nt (Bk a) D).length / Bk a)).1).getD i 0)) (fun i x hx=>by simp only[aE,q32,ca,eu,hx]; omega) 8 0 [] rfl
  refine Eq.trans this ?_
  unfold Sz
  rw[ag h]
 ·rename_i h
  rw[aN,xW]; unfold Sz; rw[ae h]; split <;> rfl
def zN (h c:Int) (m:L01):Nat:=beN ((ge h m).take (nS c))
theorem xB (h:Int) (hh:isH h) (m:L01) (hm:m.length<=900000000000000):F.To h [m]=some (ge h m):=by
 rw[lj h hh [m] (by simp) (by simpa using hm)]
 simp
theorem Fv (h c:Int) (hh:isH h) (hc:isC c) (m:L01) (hm:m.length<=900000000000000):F.Yn h c m=some (au (zN h c m)):=by
 obtain⟨n1,B,G⟩:=nS4 c
 have hl:=mP h m
 have hz:=ng h
 have e:(min ((ge h m).length:Int) ((nS c:Nat):Int)).toNat=min (Sz h) (nS c):=by omega
 have A:(ge h m).take (min (Sz h) (nS c))=(ge h m).take (nS c):=by
  rcases Nat.le_total (nS c) (Sz h) with j | j
  ·rw[Nat.min_eq_right j]
  ·rw[bg j,aC (by omega),aC (by omega)]
 unfold F.Yn zN
 rw[xB h hh m hm,aa,Dq,aa,ag hc,EJ,e,grd_true _ ⟨by omega,by omega⟩,A,fy _ (by rw[aN]; omega),aa]
theorem JN (l:L01):nb (beN l)<=8*l.length:=lL (by rw[<-KZ]; exact lG l)
theorem QP (h c:Int) (m:L01):nb (zN h c m)<=512/\(au (zN h c m)).length<=100:=by
 have hl:=mP h m
 have hz:=ng h
 have l1:((ge h m).take (nS c)).length<=64:=by rw[aN]; omega
 have j:zN h c m<256^64:=aU (lG _) (ba (by decide) l1)
 have A:nb (zN h c m)<=8*_:=JN _
 refine⟨by omega,bv (aU j (by decide +kernel))⟩
theorem xU (a n:L00) (j:a.length<=100000000000000) (ln:n.length<=100000000000000):F.Wx a n=some (decide (0<val a/\val a<val n)):=by
 unfold F.Wx
 rw[jO a j,aa]
 by_cases h:val a=0
 ·rw[h,kU,ae (by decide),av (by omega)]
 ·have:=(gp (val a)).2 h
  rw[ag (ai (by omega)),ka a n (by omega) (by omega),aa]
  unfold eA
  by_cases h2:val a<val n
  ·rw[ag h2,ai (show 0<val a/\val a<val n by omega)]; rfl
  ·rw[ae h2,av (show ¬(0<val a/\val a<val n) by omega)]
   split <;> rfl
theorem Ki (a b:Nat):(eA a b == 0)=decide (a=b):=by
 unfold eA
 by_cases h:a<b
 ·rw[ag h,av (by omega)]; rfl
 ·rw[ae h]
  by_cases h2:a=b
  ·rw[ag h2,ai h2]; rfl
  ·rw[ae h2,av h2]; rfl
theorem NS (X Y:L00) (j:Bool) (r n:L00) (A:X.length<=40000000000000) (B:r.length<=40000000000000) (ln:n.length<=40000000000000) (hn:val n≠0) :
  F.VP X Y j r n=some (!j&&decide (val X%val n=val r)):=by
 unfold F.VP
 cases j with
 | true=>rfl
 | false=>
  have l1:(au (val X%val n)).length<=X.length:=iw (Nat.mod_le _ _) (bv (cv X))
  rw[ae (by decide),rg X n A ln,ae hn,aa]
  dsimp only
  rw[ka _ _ (by omega) (by omega),aa,ay,Ki]
  rfl
def IQ {c:Int} (P:Pt (cP c)) (r:Nat):Bool:=match P with
 | none=>false
 | some (x,_)=>decide (x.val%cN c=r)
theorem JD {c:Int} (P:Pt (cP c)) (r:L00) (j:r.length<=40000000000000):F.VP (rep P).1 (rep P).2.1 (rep P).2.2 r (au (cN c))=some (IQ P (val r)):=by
 obtain⟨n1,A,B,_,_⟩:=qL c
 have hl:(rep P).1.length<=12:=by
  cases P with
  | none=>exact eZ _
  | some q=>obtain⟨x,y⟩:=q; exact Bv c x
 rw[NS _ _ _ _ _ (by omega) j (by omega) (by rw[ay]; omega)]
 cases P with
 | none=>rfl
 | some q=>
  obtain⟨x,y⟩:=q
  show some (!false&&decide (val (rl x)%val (au (cN c))=val r))=some (decide (x.val%cN c=val r))
  rw[AX,ay]
  rfl
def inN (c:Int) (r:Nat):Prop:=0<r/\r<cN c
instance (c:Int) (r:Nat):Decidable (inN c r):=inferInstanceAs (Decidable (0<r/\r<cN c))
theorem Nn {c:Int} {x y:L01} (h:(n9 c x y).2.2.2=0):isC c/\n9 c x y=(au (beN x),au (beN y),false,0)/\onS c (au (beN x)) (au (beN y)) false=true/\x.length=nS c/\y.length=nS c:=by
 unfold n9 at h ⊢
 split at h
 ·rename_i hc
  rw[ag hc]
  refine⟨hc.1,rfl,?_,hc.2.1,hc.2.2.1⟩
  unfold onS
  rw[ag hc.1,ay,ay]
  exact hc.2.2.2
 ·exact absurd h (by decide)
theorem GZ (b:Bool):F.aak b=some (if b=true then 91 else 0):=by cases b <;> rfl
theorem vX {l:L01} {k:Nat} (h:l.length<=k) (A:k<=48):(au (beN l)).length<=100:=by
 have j:beN l<256^48:=aU (lG l) (ba (by decide) (by omega))
 exact bv (aU j (by decide +kernel))
noncomputable def dT {c:Int} (Q:Pt (cP c)):L01×L01×Int:=match Q with
 | none=>([],[],91)
 | some (x,y)=>(beB (nS c) x.val,beB (nS c) y.val,0)
theorem Ib (a:L00) (m:Nat) (ha:a.length<=35184372087808) (hm:m<=16384) (A:val a<256^m):F.Um a (m:Int)=some (beB m (val a),true):=by
 have hb:nb (val a)<=32*a.length:=aZ (mu _) (bj 32 (bv (cv a)))
 have G:(nb (val a)+7) / 8<=m:=GX A
 obtain⟨k,B,I,v3⟩:=im a (by omega)
 have hl:(au (val a)).length<=a.length:=bv (cv a)
 have j:mkO 1 (m:Int) (m:Int) (0:UInt8)=some (List.replicate m 0):=by
  unfold mkO
  rw[ag ⟨by omega,by omega,by omega,by omega⟩,aq]
 unfold F.Um
 rw[ae (by rw[ak]; omega),ae (by rw[ak]; omega),jO a (by omega),aa,aD (x:=((nb (val a):Nat):Int)+7) (by omega) (by omega),bN (by omega),aD (by omega) (by omega),
  av (show ¬(m:Int)<(((nb (val a):Nat):Int)+7) / 8 by omega)]
 unfold F.Yh
 rw[ae (by decide),j,aa,B,aa,v3,Ek _ _ (by rw[bq]; omega) (by omega),aa,bq,ay]
def kN (c:Int):Nat:=(au (cP c)).length
def B2 (c:Int):Nat:=4294967296^(2*kN c)
def muN (c:Int):Nat:=B2 c / cP c
theorem ID (c:Int):1<=kN c/\kN c<=12/\(au (muN c)).length<=25/\0<cP c:=by
 have h:=kC c
 have l:=td c (aw (cP c))
 have j:(au (cP c)).length≠0:=fun q=>by have:=(l8 _).1 q; omega
 refine⟨by unfold kN; omega,l,?_,by omega⟩
 unfold muN B2
 refine bv (du (dw _ _) ?_)
 exact Nat.pow_lt_pow_right (by decide) (by unfold kN; omega)
section
variable (c:Int)
theorem a12 (m:L00) (k:Int) (u v:Fin (cP c)):F.abM (au (cP c)) m k (rl u) (rl v)=some (rl (u+v)):=by
 have hp:=(ID c).2.2.2
 have l:=td c (aw (cP c))
 have l1:=Bv c u; have j:=Bv c v
 have hs:(au (u.val+v.val)).length<=13:=by
  have:=lR u.val v.val
  unfold rl at l1 j
  omega
 have hu:=u.isLt; have A:=v.isLt
 unfold F.abM
 rw[NA _ _ (by omega) (by omega),aa,AX,AX,M5 _ _ (by omega) (by omega),aa,ay,ay]
 have e:rl (u+v)=au ((u.val+v.val)%cP c):=rfl
 rw[e]
 by_cases h:u.val+v.val<cP c
 ·have hz:¬0<=eA (u.val+v.val) (cP c):=by unfold eA; rw[ag h]; decide
  rw[ae (by rw[ak]; exact hz),az h]
 ·have hz:0<=eA (u.val+v.val) (cP c):=by unfold eA; rw[ae h]; split <;> decide
  rw[ag (ai hz),J2 _ _ (by omega) (by rw[ay,ay]; omega),aa,ay,ay,Nat.mod_eq_sub_mod (by omega),az (by omega)]
abbrev T3F (c:Int):=Fin (cP c)×Fin (cP c)×Fin (cP c)
def r3 (t:T3F c):L00×L00×L00:=(rl t.1,rl t.2.1,rl t.2.2)
end
end Go.Gk.Bn
end
section
namespace Go.Gk.Ec
variable {p:Nat} [NeZero p] {a b:Fin p}
noncomputable def wq (a:Fin p) (P Q:Pt p) (x y:Bool):Pt p:=if x&&y then add a P Q else if y then Q else if x then P else none
noncomputable def jq (a:Fin p) (P Q:Pt p) (m n:Nat):Nat->Pt p->Pt p
 | 0,T=>T
 | i+1,T=>jq a P Q m n i (add a (add a T T) (wq a P Q (decide (m / 2^i%2=1)) (decide (n / 2^i%2=1))))
theorem QR (C:Fld p) {P Q:Pt p} (hP:On a b P) (j:On a b Q) (x y:Bool):On a b (wq a P Q x y):=by
 unfold wq
 split
 ·exact C.on_add hP j
 ·split
  ·exact j
  ·split
   ·exact hP
   ·trivial
end Go.Gk.Ec
end
section
namespace Go.Gk.Bn
open Go Go.Gk Go.Gk.Sh Go.Gk.Ec Go.Gk.Pr
theorem Lc {c:Int} (hc:isC c) {q:J3 c} (j:On (-3) (bF c) (jpt q)) (x y:Bool):jpt (whJ c q x y)=wq (-3) (gP c) (jpt q) x y:=by
 have hg:=LJ c hc
 unfold whJ wq
 cases x <;> cases y
 ·exact lC _ _
 ·rfl
 ·show jpt (gJ c)=_
  rw[EP]; rfl
 ·show jpt (pX _ _ _ _ _ _)=_
  rw[D0 (b:=bF c) (sI c) _ _ (by rw[EP]; exact hg) j,EP]
  rfl
theorem H9 {c:Int} (hc:isC c) (m n:Nat) {q:J3 c} (j:On (-3) (bF c) (jpt q)):∀(i:Nat) (t:J3 c),On (-3) (bF c) (jpt t)->jpt (wU c m n q i t)=jq (-3) (gP c) (jpt q) m n i (jpt t)
 | 0,t,h=>rfl
 | i+1,t,h=>by
  have hw:=QR (sI c) (LJ c hc) j (decide (m / 2^i%2=1)) (decide (n / 2^i%2=1))
  have e:=KU (b:=bF c) (sI c) h (q:=whJ c q (decide (m / 2^i%2=1)) (decide (n / 2^i%2=1))) (by rw[Lc hc j]; exact hw) true
  rw[ag rfl,Lc hc j]at e
  unfold wU
  rw[H9 hc m n j i _ (by rw[e]; exact (sI c).on_add ((sI c).on_add h h) hw),e]
  rfl
noncomputable def JQ {c:Int} (P Q:Pt (cP c)) (m n:Nat):Pt (cP c):=jq (-3) P Q m n (max (nb m) (nb n)) none
theorem LV {c:Int}:On (-3) (bF c) (jpt ((0,0,0):J3 c)):=by
 have:jpt ((0,0,0):J3 c)=none:=lC _ _
 rw[this]; trivial
theorem Nw {c:Int} {a k X Y:L00} {q:Bool} (A:onS c X Y q=true) (hb:nb (val a)<=1024) (B:nb (val k)<=1024) (ha:a.length<=35184372087808) (N:k.length<=35184372087808) (hX:X.length<=35184372087808) (O:Y.length<=35184372087808) :
  F.ZC c a k X Y q=some (res (JQ (gP c) (tU c X Y q) (val a) (val k))):=by
 have n1:¬(!true)=true:=by decide
 have hc:=EZ A
 unfold F.ZC
 rw[Jd c X Y q hX O,aa,yj a ha,yj k N,ag hc]
 dsimp only[gO]
 rw[A,ae n1,aa,aa]
 dsimp only
 rw[ai hb,ae n1,ai B,Qg A]
 show F.YL (gQ c (jT c X Y q)) _ _ _=_
 unfold F.YL
 dsimp only
 rw[ae n1,mT 1 (by decide) (by decide),aa]
 have j:=QL c (gJ c) (jT c X Y q)
 have G:=Eg c (jT c X Y q)
 rw[<-G]at j
 rw[show F.Uq (gQ c (jT c X Y q)).1 (gQ c (jT c X Y q)).2.1 (gQ c (jT c X Y q)).2.2.1 (gQ c (jT c X Y q)).2.2.2.1 (gQ c (jT c X Y q)).2.2.2.2.1 (gQ c (jT c X Y q)).2.2.2.2.2.1 (gQ c (jT c X Y q)).2.2.2.2.2.2.1 (gQ c (jT c X Y q)).2.2.2.2.2.2.2.1 (gQ c (jT c X Y q)).2.2.2.2.2.2.2.2.1 (gQ c (jT c X Y q)).2.2.2.2.2.2.2.2.2.1 (gQ c (jT c X Y q)).2.2.2.2.2.2.2.2.2.2.1
  (gQ c (jT c X Y q)).2.2.2.2.2.2.1 (gQ c (jT c X Y q)).2.2.2.2.2.2.2.1 (gQ c (jT c X Y q)).2.2.2.2.2.2.2.2.1 (gQ c (jT c X Y q)).2.2.2.2.2.2.2.2.2.1 (bi 1).1 (bi 1).2
  (gQ c (jT c X Y q)).2.2.2.2.2.2.2.2.2.2.2.1 (gQ c (jT c X Y q)).2.2.2.2.2.2.2.2.2.2.2.2.1 (gQ c (jT c X Y q)).2.2.2.2.2.2.2.2.2.2.2.2.2.1 (gQ c (jT c X Y q)).2.2.2.2.2.2.2.2.2.2.2.2.2.2.1 (gQ c (jT c X Y q)).2.2.2.2.2.2.2.2.2.2.2.2.2.2.2.1 (gQ c (jT c X Y q)).2.2.2.2.2.2.2.2.2.2.2.2.2.2.2.2=_ from j,aa]
 unfold F.T8
 have U:=DU hb; have lk:=DU B
 rw[aa,yA _ (by omega),aa,yA _ (by omega),aa]
 have I:wI (max ((nb (val a):Nat):Int) ((nb (val k):Nat):Int) - 1)=((max (nb (val a)) (nb (val k)):Nat):Int) - 1:=by
  rw[aD (by omega) (by omega)]; omega
 rw[I]
 have hl:=uS c (val a) (val k) (by omega) (by omega) (jT c X Y q) true true (max (nb (val a)) (nb (val k))) (0,0,0) (by omega)
 rw[Du]at hl
 refine hl.trans ?_
 have J:On (-3) (bF c) (jpt (jT c X Y q)):=by rw[Li]; exact PU A
 have R:jpt ((0,0,0):J3 c)=none:=lC _ _
 rw[H9 hc _ _ J _ _ LV,Li,R]
 rfl
theorem LY {τ:Type} (l:List τ) (i r:Nat) (v:τ) (h:i+(r+1)=l.length):(l.set i v).take (i+1)++List.replicate r v=l.take i++List.replicate (r+1) v:=by
 rw[List.take_set,List.take_add_one,aA (by omega)]
 have hl:(l.take i).length=i:=by rw[aN]; omega
 rw[dV _ _ (by omega),hl,Nat.sub_self]
 show l.take i++[v]++_=_
 rw[aS]
 rfl
theorem yw {τ ρ:Type} [Inhabited τ] {f:Int×List τ->Option ((Int×List τ)⊕ρ)} {X:List τ->Option ρ} (v:τ)
  (hf:∀i l,f (i,l)=if (decide (i<(l.length:Int)))=true then (af (ax l (i:Int)) fun _=>bz (l.set (i:Int).toNat v) fun x=>bU (wI (i+1),x)) else bk (X l)) :
  ∀(r i:Nat) (l:List τ),i+r=l.length->l.length<=4611686018427387904->loop f ((i:Int),l)=X (l.take i++List.replicate r v)
 | 0,i,l,h,hl=>by
  refine cd ?_
  rw[hf,ae (by rw[ak]; omega),aC (by omega),List.replicate_zero,bM]
 | r+1,i,l,h,hl=>by
  have w:wI ((i:Int)+1)=((i+1:Nat):Int):=by rw[aD (by omega) (by omega)]; omega
  have hs:f ((i:Int),l)=some (.inl (((i+1:Nat):Int),l.set i v)):=by
   rw[hf,ag (ai (by omega)),bh (show i<l.length by omega) v,aa,aG,aq,w]
   rfl
  rw[bp hs,yw v hf r (i+1) (l.set i v) (by rw[dI]; omega) (by rw[dI]; exact hl),LY l i r v h]
theorem wm (b:L00) (hb:b.length<=35184372087808):F.abL b=some (b++List.replicate 4 2779096485,b.length):=by
 have A:wI ((b.length:Int)+4)=((b.length+4:Nat):Int):=by rw[aD (by omega) (by omega)]; omega
 have j:mkO 4 ((b.length+4:Nat):Int) ((b.length+4:Nat):Int) (0:UInt32)=some (List.replicate (b.length+4) 0):=by
  unfold mkO
  rw[ag ⟨by omega,by omega,by omega,by omega⟩,aq]
 have hc:cpL (List.replicate (b.length+4) (0:UInt32)) b 0 (List.replicate (b.length+4) (0:UInt32)).length=b++List.replicate 4 0:=by
  unfold cpL
  rw[bq,fX,bg (by omega),gq,bT,aC (by omega),bm,List.drop_replicate,dm]
 unfold F.abL
 rw[A,j,aa,aG,hc,yw (f:=F.abx b) (X:=fun l=>grd (0<=((b.length:Int):Int)/\((b.length:Int):Int).toNat<=l.length) (some (l,((b.length:Int):Int).toNat))) 2779096485 (fun i l=>rfl) 4 b.length _ (by simp) (by simp; omega)]
 rw[fE rfl,grd_true _ ⟨by omega,by simp⟩,aq]
noncomputable def okJ {c:Int} (z r s:Nat) (Q:Pt (cP c)):Bool:=IQ (JQ (gP c) Q (z*rX c s%cN c) (r*rX c s%cN c)) r
noncomputable def IG (h c:Int) (x y m sig:L01):Int:=
 if ¬isH h then 111 else if ¬((n9 c x y).2.2.2=0) then 90 else if ¬(sig.length=2*nS c) then 91 else
 if ¬(inN c (beN (sig.take (nS c)))/\inN c (beN (sig.drop (nS c)))) then 91 else
 if okJ (zN h c m) (beN (sig.take (nS c))) (beN (sig.drop (nS c))) (tU c (n9 c x y).1 (n9 c x y).2.1 (n9 c x y).2.2.1)=true then 0 else 91
theorem Jo (h c:Int) (x y m j:L01) (hm:m.length<=900000000000000) (hs:j.length<=140737488351232):F.XX h c x y m j=some (IG h c x y m j):=by
 obtain⟨n1,B,n3⟩:=nS4 c
 obtain⟨O,R,J,c4,c5⟩:=qL c
 unfold F.XX IG
 rw[uG,aa]
 by_cases hh:isH h
 ·have hz:=ng h
  rw[ag hh,ae (show ¬(((Sz h:Nat):Int) == 0)=true by rw[fL]; omega),ae (not_not_intro hh),xH,aa]
  by_cases hd:(n9 c x y).2.2.2=0
  ·obtain⟨hc,d1,d2,d3,d4⟩:=Nn hd
   rw[ae (by rw[hd]; decide),ae (not_not_intro hd),Dq,aa,I7,aa,ag hc,ag hc,EJ,show wI (2*((nS c:Nat):Int))=((2*nS c:Nat):Int) by rw[aD (by omega) (by omega)]; omega]
   by_cases hl:j.length=2*nS c
   ·have U:(j.take (nS c)).length=nS c:=by rw[aN]; omega
    have V:(j.drop (nS c)).length=nS c:=by rw[bZ]; omega
    have b1:=vX (Nat.le_of_eq U) B
    have b2:=vX (Nat.le_of_eq V) B
    have X:slO j ((nS c:Nat):Int) ((2*nS c:Nat):Int)=some (j.drop (nS c)):=by
     unfold slO
     rw[ag ⟨by omega,by omega,by omega⟩,aq,aq,aC (by omega)]
    rw[ae (by rw[hl]; simp),grd_true _ ⟨by omega,by omega,rfl⟩,X,aa,aq,fy _ (by omega),aa,fy _ (by omega),aa,xU _ _ (by omega) (by omega),aa,ay,ay,
     ae (not_not_intro hl)]
    have G:∀(x2:L00×L00×Bool×Int) (Y Z ab:L00),F.YR h c m x2 Y Z ab true=some 91:=fun _ _ _ _=>rfl
    by_cases hr:inN c (beN (j.take (nS c)))
    ·have I:0<beN (j.take (nS c))/\beN (j.take (nS c))<cN c:=hr
     rw[ai I,ae (by decide),xU _ _ (by omega) (by omega),aa,ay,ay]
     by_cases hs2:inN c (beN (j.drop (nS c)))
     ·have A:0<beN (j.drop (nS c))/\beN (j.drop (nS c))<cN c:=hs2
      rw[ai A,ae (not_not_intro ⟨hr,hs2⟩)]
      obtain⟨N,w2,w3⟩:=MZ (c:=c) (au (beN (j.drop (nS c)))) (ay _) (by omega) A.1 A.2
      generalize hw:rX c (beN (j.drop (nS c)))=w at N w2 w3
      have nw:=oV N
      have lw:=iw (cA N) J
      have nr:=oV I.2
      obtain⟨z1,z2⟩:=QP h c m
      have m1:zN h c m*w%cN c<cN c:=bG _ (by omega)
      have m2:beN (j.take (nS c))*w%cN c<cN c:=bG _ (by omega)
      have b5:=oV m1; have b6:=oV m2
      have b7:=iw (cA m1) J; have b8:=iw (cA m2) J
      unfold F.YR
      rw[ae (by decide),w3,aa,Fv h c hh hc m hm,aa]
      dsimp only
      rw[xy _ _ _ O R (by rw[ay]; omega) (by rw[ay]; omega) (by omega) (by omega) (by omega),aa]
      rw[xy _ _ _ O R (by rw[ay]; omega) (by rw[ay]; omega) (by omega) (by omega) (by omega),aa,ay,ay,ay,d1]
      dsimp only
      rw[Nw d2 (by rw[ay]; omega) (by rw[ay]; omega) (by omega) (by omega) (by have:=vX (Nat.le_of_eq d3) B; omega) (by have:=vX (Nat.le_of_eq d4) B; omega),aa,ay,ay]
      show (if ((0:Int) != 0)=true then _ else af (F.VP (rep _).1 (rep _).2.1 (rep _).2.2 _ _) _)=_
      rw[ae (by decide),JD _ _ (by omega),aa,GZ,ay]
      unfold okJ
      rw[hw]
      cases IQ (JQ (gP c) (tU c (au (beN x)) (au (beN y)) false) (zN h c m*w%cN c) (beN (j.take (nS c))*w%cN c)) (beN (j.take (nS c))) <;> rfl
     ·rw[av (show ¬(0<beN (j.drop (nS c))/\beN (j.drop (nS c))<cN c) from hs2),ag (fun q=>hs2 q.2)]; exact G _ _ _ _
    ·rw[av (show ¬(0<beN (j.take (nS c))/\beN (j.take (nS c))<cN c) from hr),ag (by decide),ag (fun q=>hr q.1)]; exact G _ _ _ _
   ·rw[ag (by rw[dz]; omega),ag hl]
  ·rw[ag (by rw[dz]; exact hd),ag hd]
 ·rw[ae hh,ag (by decide),ag hh]
end Go.Gk.Bn
end
section
namespace Go.Gk.Bn
open Go Go.Gk Go.Gk.Sh
theorem Sv (x:UInt32) (r:Nat) (j:r<32):((dB x r &&& 1) == 1)=decide (x.toNat / 2^r%2=1):=by
 rw[OX,lJ,bg (by omega)]
theorem Dt (l:L00) (i:Nat) (hi:i<=4611686018427387904) (hl:l.length<=4611686018427387904):F.Tz l (i:Int)=some (decide (val l / 2^i%2=1)):=by
 have j:wI (Int.tdiv (i:Int) 32)=((i / 32:Nat):Int):=by rw[bN (by omega),aD (by omega) (by omega)]; omega
 have w2:Int.tmod (i:Int) 32=((i%32:Nat):Int):=by rw[cn (by omega)]; omega
 unfold F.Tz
 rw[ag (ai (by omega)),j,w2,<-uJ]
 by_cases h:i / 32<l.length
 ·rw[ag (ai (by omega)),bh h 0,aa,grd_true _ (by omega),aq,Sv _ _ (by omega)]
 ·rw[ae (by rw[ak]; omega),an,dC (by omega)]
  simp
theorem M0 (l:L00) (s:Nat) (hs:s<32) (hl:l.length<=40000000000000):F.TL l (s:Int)=some (au (val l / 2^s)):=by
 obtain⟨m,B,O,G⟩:=im l (by omega)
 have R:(au (val l)).length<=l.length:=bv (cv l)
 have w0:wI (Int.tdiv (max (s:Int) 0) 32)=((0:Nat):Int):=by
  rw[show max (s:Int) 0=(s:Int) by omega,bN (by omega),aD (by omega) (by omega)]; omega
 have I:Int.tmod (max (s:Int) 0) 32=(s:Int):=by rw[show max (s:Int) 0=(s:Int) by omega,cn (by omega)]; omega
 unfold F.TL
 rw[B,aa,G,w0,I]
 by_cases h:(au (val l)).length=0
 ·have:val l=0:=(l8 _).1 h
  rw[ag (ai (by omega)),this,Nat.zero_div,cH]
 ·have j:apO 4 [] (au (val l))=some (au (val l)):=by unfold apO; rw[ag (by simp; omega)]; simp
  obtain⟨J,N,U,A⟩:=t7 (au (val l)) s hs (by omega)
  rw[ay]at A
  obtain⟨k,p1,p2,p3⟩:=jJ J (by omega)
  rw[ae (by rw[ak]; omega),oJ (by omega),aa,dP,j,aa,N,aa,p1,aa,p3,A]
theorem Sx (e i:Nat):e / 2^i=2*(e / 2^(i+1))+(if decide (e / 2^i%2=1)=true then 1 else 0):=MJ e i
theorem AW (z m:Nat) (B:1<m) (G:(au m).length<=900) (hz:z<m) (e:L00) (le:e.length<=4611686018427387904):∀i:Nat,i<=4000000000000000 ->
  loop (F.X8 e (au m) (au z)) (au (z^(val e / 2^i)%m),(i:Int) - 1)=some (au (z^val e%m),0)
 | 0,_=>by
  rw[gw,Nat.div_one]
  refine cd ?_
  unfold F.X8
  dsimp only
  rw[ae (by decide)]
 | i+1,hi=>by
  have hm:∀x,x%m<m:=fun x=>bG _ (by omega)
  have I:(((i+1:Nat):Int)) - 1=(i:Int):=by omega
  have w:wI ((i:Int) - 1)=(i:Int) - 1:=aD (by omega) (by omega)
  have j:∀x,x<m->(au x).length<=900:=fun x hx=>iw (cA hx) G
  have J:∀x y,x<m->y<m->(au (x*y)).length<=1800:=fun x y hx hy=>by
   have B:=pt x y; have N:=j x hx; have O:=j y hy
   omega
  have mul:∀x y,x<m->y<m->F.UN (au x) (au y)=some (au (x*y)):=fun x y hx hy=>by
   have a1:=j x hx; have a2:=j y hy
   rw[Eb _ _ (by omega) (by omega) (by rw[ay,ay]; omega),ay,ay]
  have rest:∀x y,x<m->y<m->F.Tv (au (x*y)) (au m)=some (au (x*y%m)):=fun x y hx hy=>by
   have a1:=J x y hx hy
   rw[kO _ _ (by omega) (by omega) (by rw[ay]; omega),ay,ay]
  rw[I,<-AW z m B G hz e le i (by omega)]
  refine bp ?_
  unfold F.X8
  dsimp only
  rw[ag (ai (by omega)),mul _ _ (hm _) (hm _),aa,rest _ _ (hm _) (hm _),aa,Dt _ _ (by omega) le,aa]
  have hb:=Sx (val e) i
  have A:z^(val e / 2^(i+1))%m*(z^(val e / 2^(i+1))%m)%m=z^(2*(val e / 2^(i+1)))%m:=by
   rw[<-dH,<-bS]; congr 2; omega
  by_cases h:val e / 2^i%2=1
  ·rw[ag (ai h)]at hb ⊢
   rw[mul _ _ (hm _) hz,aa,rest _ _ (hm _) hz,aa]
   unfold F.XT
   dsimp only
   rw[w,A,Nat.mod_mul_mod,<-bo,Nat.succ_eq_add_one,<-hb]
   rfl
  ·have hf:¬decide (val e / 2^i%2=1)=true:=by rw[ak]; exact h
   rw[ae hf]at hb ⊢
   unfold F.XT
   dsimp only
   rw[w,A,<-br (2*(val e / 2^(i+1))),<-hb]
   rfl
theorem wW (a e:L00) (m:Nat) (A:1<m) (hm:nb m<=4096) (B:(au m).length<=900) (ha:nb (val a)<=4096) (he:nb (val e)<=4096) (j:a.length<=40000000000000) (le:e.length<=40000000000000) :
  F.VG a e (au m)=some (au (val a^val e%m),0):=by
 have G:wI (((nb (val e):Nat):Int) - 1)=((nb (val e):Nat):Int) - 1:=aD (by omega) (by omega)
 have I:val e / 2^nb (val e)=0:=cT (gp (val e)).1
 have l1:val ([1]:L00)=1:=rfl
 unfold F.VG
 rw[qW ha he (by rw[ay]; exact hm) (by rw[ay]; omega) j le (by omega),aa,ae (by decide),kO a _ j (by omega) (by rw[ay]; omega),aa,kO [1] _ (by decide) (by omega) (by rw[ay]; omega),aa,
  jO e (by omega),aa,G,ay,l1]
 have:=AW (val a%m) m A B (bG _ (by omega)) e (by omega) (nb (val e)) (by omega)
 rw[I,gw]at this
 rw[this,<-Nat.pow_mod]
noncomputable def rU (m a:Nat):Nat:=if h:∃w,w<m/\a*w%m=1 then Classical.choose h else 0
theorem MX {n s w v:Nat} (hw:w<n) (j:v<n) (A:s*w%n=1) (B:s*v%n=1):w=v:=vM hw j A B
theorem L8 {m a w:Nat} (hw:w<m) (h:a*w%m=1):rU m a=w:=by
 unfold rU
 have hx:∃w,w<m/\a*w%m=1:=⟨w,hw,h⟩
 rw[dif_pos hx]
 exact MX (gI hx).1 hw (gI hx).2 h
theorem My {m a:Nat} (h:0<m):rU m a<m:=by
 unfold rU
 split
 ·rename_i hx; exact (gI hx).1
 ·exact h
theorem Hl {m a:Nat} (j:1<m) (hg:Nat.gcd a m≠1):rU m a=0:=by
 unfold rU
 rw[dif_neg]
 rintro⟨w,_,h⟩
 apply hg
 have hd:Nat.gcd a m ∣ a*w%m:=(Nat.dvd_mod_iff (gf a m)).2 (Nat.dvd_mul_right_of_dvd (je a m) w)
 rw[h]at hd
 exact Nat.dvd_one.1 hd
theorem MU (a:L00) (m:Nat) (A:1<m) (hm:m%2=1) (I:nb m<=4096) (j:(au m).length<=900) (J:nb (val a)<=4096) (B:a.length<=40000000000000) :
  F.Ut a (au m)=some (au (rU m (val a)),if Nat.gcd (val a) m=1 then 0 else 61):=by
 by_cases hg:Nat.gcd (val a) m=1
 ·obtain⟨w,U,w2,V⟩:=Gp a m A hm I j J B hg
  rw[V,ag hg,L8 U w2]
 ·have hw:F.TY [a,au m]=some 0:=by
   have hl:∀x∈[a,au m],x.length<=40000000000000:=by
    intro x hx
    simp only[aM,aR,bD]at hx
    rcases hx with h | h
    ·rw[h]; exact B
    ·rw[h]; omega
   rw[ur [a,au m] 1 rfl (by decide) hl]
   unfold nV
   rw[ae]
   ·rw[show [a,au m].getD 1 []=au m from rfl,ay,ae (by omega)]
   ·simp only[List.any_cons,List.any_nil,Bool.or_false,fD,ak,ay]
    omega
  have X:Nat.gcd (val a%m) m=Nat.gcd (val a) m:=by rw[<-Nat.gcd_rec,fC]
  have G:Nat.gcd (val a%m) m%2=1:=by
   have:=gf (val a%m) m
   rcases gF (Nat.gcd (val a%m) m) with h | h
   ·obtain⟨k,Y⟩:=this
    rw[Y,dH,h,fv,jC]at hm
    omega
   ·exact h
  obtain⟨x,Z,c2,N⟩:=HC (a:=val a%m) hm j (val a%m+m) (val a%m) m 1 0 (aw _) (cA (bG _ (by omega))) (by omega) (aw _) A (by omega) (by rw[cy]) (by rw[fv,Nat.mod_self,jC]) G
  rw[X]at N
  have l1:au 1=[1]:=by rw[ld (by decide),show 1 / 4294967296=0 by decide,cH]; rfl
  have O:Nat.gcd (val a) m<=m:=Nat.gcd_le_right _ (by omega)
  have lg:=iw O j
  have lx:=iw (cA Z) j
  have ho:F.Vb (au (val a%m)) (au m)=some (au (Nat.gcd (val a) m),au x):=by
   unfold F.Vb
   rw[<-l1,<-cH]at *
   exact N
  have R:(eA (Nat.gcd (val a) m) 1 != 0)=true:=by
   rw[dz]; intro h
   have:=Ki (Nat.gcd (val a) m) 1
   rw[h,av hg]at this
   exact absurd this (by decide)
  unfold F.Ut
  rw[hw,aa,ae (by decide),kO a _ B (by omega) (by rw[ay]; omega),ay,aa,mS _ (by omega),ay,aa,ag (ai hm),ho,aa]
  dsimp only
  rw[ka _ _ (by omega) (by decide),aa,ay,show val ([1]:L00)=1 from rfl,ag R,ae hg,Hl A hg,cH]
theorem wC (a:L00) (m:Nat) (ha:a.length<=35184372087808) (hm:m<=16384):F.Um a (m:Int)=some (if val a<256^m then (beB m (val a),true) else ([],false)):=by
 by_cases hv:val a<256^m
 ·rw[ag hv]; exact Ib a m ha hm hv
 ·have hb:nb (val a)<=32*a.length:=aZ (mu _) (bj 32 (bv (cv a)))
  have j:m<(nb (val a)+7) / 8:=by
   rcases bY m (nby (val a)) with h | h
   ·exact h
   ·exact absurd (aU (vN (val a)) (ba (by decide) h)) hv
  rw[ae hv]
  unfold F.Um
  rw[ae (by rw[ak]; omega),ae (by rw[ak]; omega),jO a (by omega),aa,aD (x:=((nb (val a):Nat):Int)+7) (by omega) (by omega),bN (by omega),aD (by omega) (by omega),
   ai (show (m:Int)<(((nb (val a):Nat):Int)+7) / 8 by omega)]
  rfl
theorem Ni (a:L00) (ha:a.length<=40000000000000):∃u,F.YH a=some (u,decide (val a<18446744073709551616))/\(val a<18446744073709551616->u.toNat=val a):=by
 obtain⟨m,J,U,A⟩:=im a (by omega)
 have hl:=ay (val a)
 unfold F.YH
 rw[J,aa]
 have hU:F.U6 a m=fun s=>F.U6 a m s:=rfl
 by_cases h:2<(au (val a)).length
 ·have B:¬val a<18446744073709551616:=fun G=>by
   have:=bv (n:=val a) (k:=2) (by omega)
   omega
  rw[A,ag (ai (by omega)),av B]
  exact⟨0,rfl,fun q=>absurd q B⟩
 ·have G:val a<18446744073709551616:=by
   have I:=cv (au (val a))
   rw[hl]at I
   refine aU I ?_
   refine aZ (ba (by decide) (show (au (val a)).length<=2 by omega)) (by decide)
  rw[A,ae (by rw[ak]; omega),ai G]
  have step:∀(s:UInt64) (i:Nat) (x:UInt32),i<2->(au (val a))[i]? = some x->F.U6 a m (s,(i:Int))=some (.inl (s ||| cV x.toUInt64 (32*i),((i+1:Nat):Int))):=by
   intro s i x hi hx
   have R:i<(au (val a)).length:=(aF.1 hx).1
   unfold F.U6
   dsimp only
   rw[A,ag (ai (by omega)),lA,hx,aa,aD (x:=32*(i:Int)) (by omega) (by omega),grd_true _ (by omega),aG,aD (by omega) (by omega),show (32*(i:Int)).toNat=32*i by omega]
   rfl
  have j:∀(s:UInt64) (i:Nat),(au (val a)).length<=i->F.U6 a m (s,(i:Int))=bk (some (s,true)):=by
   intro s i hi
   unfold F.U6
   dsimp only
   rw[A,ae (by rw[ak]; omega)]
  match hq:au (val a),h with
  | [],_=>
   rw[hq]at hl j
   have:=cd (j 0 0 (aw _))
   exact⟨0,this,fun _=>hl⟩
  | [x],_=>
   rw[hq]at hl j step
   refine⟨_,(bp (step 0 0 x (by decide) rfl)).trans (cd (j _ 1 (aw _))),fun _=>?_⟩
   rw[<-hl,jt,kM]
   simp[val]
  | [x,y],_=>
   rw[hq]at hl j step
   refine⟨_,(bp (step 0 0 x (by decide) rfl)).trans ((bp (step _ 1 y (by decide) rfl)).trans (cd (j _ 2 (aw _)))),fun _=>?_⟩
   have hx:=eg x; have hy:=eg y
   rw[<-hl,jt,jt,kM,kM]
   have N:x.toUInt64.toNat=x.toNat:=c9 x
   have O:y.toUInt64.toNat=y.toNat:=c9 y
   rw[N,O]
   simp only[val,cp,br,gw,cE,show min 0 64=0 from rfl,show min 32 64=32 from rfl]
   rw[show (0:UInt64).toNat=0 from rfl,Nat.zero_or,az (a:=x.toNat) (by omega),az (a:=y.toNat*_) (by omega)]
   have:=sq (x:=y.toNat*2^32) (y:=x.toNat) 32 (by omega) (by omega)
   rw[Nat.or_comm,this]; omega
  | x :: y :: z :: r,h=>simp at h
theorem CB (x:UInt8):(x == 0)=decide (x.toNat=0):=by
 by_cases h:x.toNat=0
 ·rw[ai h,fL]; exact et.1 h
 ·rw[av h,c8]; intro e; rw[e]at h; exact h rfl
theorem L5 (x:UInt8):(x%2 == 0)=decide (x.toNat%2=0):=by rw[CB,UInt8.toNat_mod]; rfl
theorem Dy {τ:Type} (l:List τ):((l.length:Int) == 0)=decide (l.length=0):=by
 by_cases h:l.length=0
 ·rw[ai h,h]; rfl
 ·rw[av h,c8]; omega
theorem I1 (l:L01) (h:l.length≠0):beN l%2=(l.getD (l.length - 1) 0).toNat%2:=by
 have j:=mE l (i:=l.length - 1) (by omega)
 rw[show l.length - 1+1=l.length by omega,cO]at j
 rw[j]; omega
theorem I4 {l:L01} (h:l.length≠0) (j:(l.getD 0 0).toNat≠0):256^(l.length - 1)<=beN l:=by
 match l,h with
 | x :: r,_=>
  rw[show x :: r=[x]++r from rfl,qZ]
  have e:beN [x]=x.toNat:=by simp[beN]
  simp only[List.getD_cons_zero]at j
  rw[e,fZ,ca,eG]
  have:=Nat.le_mul_of_pos_left (256^r.length) (eF j)
  omega
theorem BO {l:L01} (h:l.length≠0) (j:(l.getD 0 0).toNat≠0):nby (beN l)=l.length:=by
 have B:=GX (lG l)
 rcases bY (nby (beN l)) l.length with A | A
 ·have G:=vN (beN l)
  have I:=I4 h j
  have:=ba (show 0<256 by decide) (show nby (beN l)<=l.length - 1 by omega)
  omega
 ·omega
def lB (n e:L01):Prop:=n.length≠0/\(n.getD 0 0).toNat≠0/\beN n%2=1/\e.length≠0/\(e.getD 0 0).toNat≠0/\(2048<=nb (beN n)/\nb (beN n)<=4096)/\beN e%2=1/\3<=beN e/\beN e<=4294967295
instance (n e:L01):Decidable (lB n e):=by unfold lB; infer_instance
theorem ON (n e:L01) (hn:n.length<=140737488351232) (he:e.length<=140737488351232) (h:n.length≠0/\(n.getD 0 0).toNat≠0/\beN n%2=1/\e.length≠0/\(e.getD 0 0).toNat≠0):F.Ul n e false=some (if lB n e then 0 else 90):=by
 obtain⟨G,I,J,N,O⟩:=h
 have l1:(au (beN n)).length<=40000000000000:=by
  have:beN n<4294967296^((n.length+3) / 4):=by
   have:=lG n
   refine aU this ?_
   rw[show (4294967296:Nat)=256^4 from rfl,<-cr]
   exact ba (by decide) (by omega)
  have:=bv this
  omega
 have R:(au (beN e)).length<=40000000000000:=by
  have:beN e<4294967296^((e.length+3) / 4):=by
   have:=lG e
   refine aU this ?_
   rw[show (4294967296:Nat)=256^4 from rfl,<-cr]
   exact ba (by decide) (by omega)
  have:=bv this
  omega
 have j:∀b,F.UE b=some (if b=true then 90 else 0):=fun b=>by cases b <;> rfl
 obtain⟨u,hu,A⟩:=Ni (au (beN e)) R
 rw[ay]at hu A
 unfold F.Ul
 rw[ae (by decide),fy n hn,aa,jO _ (by omega),aa,ay,fy e he,aa,hu,aa]
 have B:¬lB n e->some (90:Int)=some (if lB n e then 0 else 90):=fun q=>by rw[ae q]
 by_cases c1:nb (beN n)<2048
 ·rw[ag (ai (by omega)),j,ag rfl]; exact B fun q=>by have:=q.2.2.2.2.2.1.1; omega
 by_cases c2:4096<nb (beN n)
 ·rw[ae (by rw[ak]; omega),ag (ai (by omega)),j,ag rfl]; exact B fun q=>by have:=q.2.2.2.2.2.1.2; omega
 rw[ae (by rw[ak]; omega),ae (by rw[ak]; omega)]
 by_cases c3:beN e<18446744073709551616
 ·have A:=A c3
  rw[ai c3,ae (show ¬(!true)=true by decide)]
  have U:((u%2) == 0)=decide (beN e%2=0):=by
   rw[<-A]
   by_cases q:u.toNat%2=0
   ·rw[ai q,fL]; apply cx.1; rw[dh]; exact q
   ·rw[av q,c8]; intro h; apply q; rw[<-show (u%2).toNat=u.toNat%2 from dh u 2,h]; rfl
  have V:(decide (u<3))=decide (beN e<3):=by rw[<-A,fS,bd]; rfl
  have X:(decide ((4294967295:UInt64)<u))=decide (4294967295<beN e):=by rw[<-A,fS,bd]; rfl
  rw[U,V,X]
  by_cases c4:beN e%2=0
  ·rw[ag (ai c4),j,ag rfl]; exact B fun q=>by have:=q.2.2.2.2.2.2.1; omega
  by_cases c5:beN e<3
  ·rw[ae (by rw[ak]; omega),ag (ai c5),j,ag rfl]; exact B fun q=>by have:=q.2.2.2.2.2.2.2.1; omega
  rw[ae (by rw[ak]; omega),ae (by rw[ak]; omega),j]
  by_cases c6:4294967295<beN e
  ·rw[ag (ai c6)]; exact B fun q=>by have:=q.2.2.2.2.2.2.2.2; omega
  ·rw[ae (by rw[ak]; omega),ag ⟨G,I,J,N,O,⟨by omega,by omega⟩,by omega,by omega,by omega⟩]
 ·rw[av c3,ag (show (!false)=true by decide),j,ag rfl]; exact B fun q=>by have:=q.2.2.2.2.2.2.2.2; omega
theorem BY (n e:L01) (hn:n.length<=140737488351232) (he:e.length<=140737488351232):F.VB n e=some (if lB n e then 0 else 90):=by
 have j:F.Ul n e true=some 90:=rfl
 have A:¬lB n e->some (90:Int)=some (if lB n e then 0 else 90):=fun q=>by rw[ae q]
 unfold F.VB
 rw[Dy,Dy]
 by_cases c1:n.length=0
 ·rw[ag (ai c1),j]; exact A fun q=>q.1 c1
 rw[ae (by rw[ak]; exact c1),show (0:Int)=((0:Nat):Int) from rfl,bh (show 0<n.length by omega) 0,aa,CB]
 by_cases c2:(n.getD 0 0).toNat=0
 ·rw[ag (ai c2),j]; exact A fun q=>q.2.1 c2
 rw[ae (by rw[ak]; exact c2),aD (by omega) (by omega),show (n.length:Int) - 1=((n.length - 1:Nat):Int) by omega,bh (show n.length - 1<n.length by omega) 0,aa,L5,<-I1 n c1]
 by_cases c3:beN n%2=0
 ·rw[ag (ai c3),j]; exact A fun q=>by have:=q.2.2.1; omega
 rw[ae (by rw[ak]; exact c3)]
 by_cases c4:e.length=0
 ·rw[ag (ai c4),j]; exact A fun q=>q.2.2.2.1 c4
 rw[ae (by rw[ak]; exact c4),bh (show 0<e.length by omega) 0,aa,CB]
 by_cases c5:(e.getD 0 0).toNat=0
 ·rw[ai c5,j]; exact A fun q=>q.2.2.2.2.1 c5
 ·rw[av c5]; exact ON n e hn he ⟨c1,c2,by omega,c4,c5⟩
theorem Aq {n e:L01} (h:lB n e):256<=n.length/\n.length<=512/\e.length<=4/\1<beN n:=by
 obtain⟨j,A,N,B,G,⟨I,O⟩,R,U,J⟩:=h
 have a1:=BO j A
 have a2:=BO B G
 have a3:nb (beN e)<=32:=lL (by omega)
 have a4:beN n≠0:=by omega
 have a5:beN n≠1:=fun q=>by
  have:nb 1=1:=by rw[vW (by decide),show 1 / 2=0 from rfl,kU]
  rw[q,this]at I; omega
 unfold nby at a1 a2
 omega
def vQ (h:Int):L01:=F.US.getD h.toNat []
theorem Co {h:Int} (hh:isH h):(vQ h).length=19/\ax F.US h=some (vQ h):=by
 rcases hh with rfl | rfl | rfl <;> exact⟨rfl,rfl⟩
def cz (h:Int) (m:L01) (size:Nat):L01:=((([0,1]++List.replicate (size - 22 - Sz h) 255)++[0])++vQ h)++ge h m
theorem Al (h:Int):F.Xp h=some (decide (isH h)):=by
 unfold F.Xp
 by_cases c:1<=h
 ·rw[ag (ai c)]; congr 1; rw[fS]; unfold isH; omega
 ·rw[ae (by rw[ak]; exact c)]; congr 1; symm; rw[iq]; unfold isH; omega
theorem vF {l m:L01} (h:l.length+m.length<=225000000000000):apO 1 l m=some (l++m):=by unfold apO; rw[ag (by omega)]
theorem tI (h:Int) (hh:isH h) (s:L01) (hs:s.length<=64) (k:Nat) (j:k<=512):∀(r i:Nat),i+r=k ->
  loop (F.Yq s (vQ h) (k:Int)) ([0,1]++List.replicate i 255,(i:Int))=some (((([0,1]++List.replicate k 255)++[0])++vQ h)++s,0)
 | 0,i,e=>by
  have:i=k:=by omega
  subst this
  have hi:=(Co hh).1
  refine cd ?_
  unfold F.Yq
  dsimp only
  rw[ae (by rw[ak]; omega),vF (by simp; omega),aa,vF (by simp; omega),aa,vF (by simp; omega),aa]
 | r+1,i,e=>by
  rw[<-tI h hh s hs k j r (i+1) (by omega)]
  refine bp ?_
  unfold F.Yq
  dsimp only
  rw[ag (ai (by omega)),vF (by simp; omega),aa,aD (by omega) (by omega),aS,show List.replicate i (255:UInt8)++[255]=List.replicate (i+1) 255 from (List.replicate_succ' ..).symm]
  rfl
theorem FL (h:Int) (hh:isH h) (m:L01) (hm:m.length<=900000000000000) (j:Nat) (A:94<=j) (B:j<=512):F.Yk h m (j:Int)=some (cz h m j,0):=by
 have hi:=Co hh
 have hz:=ng h
 have hl:=mP h m
 unfold F.Yk
 rw[Al,ai hh,aa,ae (by decide),xB h hh m hm,aa,hi.2,aa,hi.1,hl,aD (x:=3+((19:Nat):Int)) (by omega) (by omega),aD (x:=_+((Sz h:Nat):Int)) (by omega) (by omega),aD (by omega) (by omega),
  ae (by rw[ak]; omega),av (by omega)]
 unfold F.ZU
 rw[ae (by decide),hi.1,hl,aD (x:=(j:Int) - 3) (by omega) (by omega),aD (x:=(j:Int) - 3 - ((19:Nat):Int)) (by omega) (by omega),aD (by omega) (by omega),aG,iG (by omega),aa,vF (by simp),aa,
  show (j:Int) - 3 - ((19:Nat):Int) - ((Sz h:Nat):Int)=((j - 22 - Sz h:Nat):Int) by omega]
 have:=tI h hh (ge h m) (by omega) (j - 22 - Sz h) (by omega) (j - 22 - Sz h) 0 (by omega)
 exact this
def La (h:Int) (n e m sig:L01):Int:=
 if isH h then if lB n e then if sig.length=n.length/\beN sig<beN n/\beB n.length (beN sig^beN e%beN n)=cz h m n.length then 0 else 91 else 90 else 111
theorem Bb (a b:L01):F.VI a b=some (decide (a=b)):=by
 unfold F.VI
 by_cases h:a=b
 ·subst h; simp
 ·simp[h]
theorem EO (b:Bool):F.YK b=some (if b=true then 91 else 0):=by cases b <;> rfl
theorem kv {l:L01} (h:l.length<=140737488351232):(au (beN l)).length<=40000000000000:=by
 have:beN l<4294967296^((l.length+3) / 4):=by
  refine aU (lG l) ?_
  rw[show (4294967296:Nat)=256^4 from rfl,<-cr]
  exact ba (by decide) (by omega)
 have:=bv this
 omega
theorem FO (h:Int) (hh:isH h) (n e m j:L01) (hm:m.length<=900000000000000) (A:lB n e) (hs:j.length=n.length) (B:beN j<beN n) :
  F.Yd h n e m (au (beN n)) (au (beN j)) false=some (if beB n.length (beN j^beN e%beN n)=cz h m n.length then 0 else 91):=by
 obtain⟨O,R,U,G⟩:=Aq A
 have b1:=A.2.2.2.2.2.1.2
 have V:nb (beN e)<=32:=lL (by have:=A.2.2.2.2.2.2.2.2; omega)
 have I:nb (beN j)<=4096:=aZ (lL (fU B (gp (beN n)).1)) b1
 have l1:=kv (l:=j) (by omega); have J:=kv (l:=e) (by omega); have N:=nq b1
 have hp:beN j^beN e%beN n<256^n.length:=fU (bG _ (by omega)) (lG n)
 have X:(au (beN j^beN e%beN n)).length<=128:=aZ (gv (cA (bG _ (by omega)))) N
 unfold F.Yd
 rw[ae (by decide),FL h hh m hm _ (by omega) (by omega),aa,ae (show ¬((0:Int) != 0)=true by decide),fy e (by omega),aa,wW _ _ _ G b1 (by omega) (by rw[ay]; exact I) (by rw[ay]; omega) l1 J,aa,ay,ay,
  wC (au (beN j^beN e%beN n)) _ (by omega) (by omega),ay,ag hp,aa,ae (show ¬((0:Int) != 0)=true by decide),ae (show ¬(!true)=true by decide),Bb,aa,EO]
 by_cases hq:beB n.length (beN j^beN e%beN n)=cz h m n.length
 ·rw[ag hq,ai hq]; rfl
 ·rw[ae hq,av hq]; rfl
theorem FZ (h:Int) (n e m j:L01) (hn:n.length<=140737488351232) (he:e.length<=140737488351232) (hm:m.length<=900000000000000) (hs:j.length<=140737488351232):F.YZ h n e m j=some (La h n e m j):=by
 unfold F.YZ La
 rw[Al,aa]
 by_cases hh:isH h
 ·rw[ai hh,ae (by decide),ag hh,BY n e hn he,aa]
  by_cases hk:lB n e
  ·rw[ag hk,ae (by decide),ag hk,fy n hn,aa,fy j hs,aa]
   by_cases c1:j.length=n.length
   ·have l1:=kv hs; have A:=kv hn
    rw[ae (by rw[c1]; simp),ka _ _ (by omega) (by omega),aa,ay,ay]
    by_cases c2:beN j<beN n
    ·have:¬0<=eA (beN j) (beN n):=by unfold eA; rw[ag c2]; decide
     rw[av this,FO h hh n e m j hm hk c1 c2]
     by_cases c3:beB n.length (beN j^beN e%beN n)=cz h m n.length
     ·rw[ag c3,ag ⟨c1,c2,c3⟩]
     ·rw[ae c3,ae fun q=>c3 q.2.2]
    ·have:0<=eA (beN j) (beN n):=by unfold eA; rw[ae c2]; split <;> decide
     rw[ai this,ae fun q=>c2 q.2.1]; rfl
   ·rw[ag (by rw[dz]; omega),ae fun q=>c1 q.1]; rfl
  ·rw[ae hk,ag (by decide),ae hk]
 ·rw[av hh,ag (by decide),ae hh]
def c4B (x:UInt32):L01:=[(dB x 24).toUInt8,(dB x 16).toUInt8,(dB x 8).toUInt8,x.toUInt8]
def mkB (h:Int) (s:L01) (c:Nat):L01:=ge h (s++c4B (UInt32.ofNat c))
def mk1 (h:Int) (s:L01) (j:Nat):UInt8:=(mkB h s (j / Sz h)).getD (j%Sz h) 0
def xk (h:Int) (s o:L01) (k:Nat):L01:=o.mapIdx fun i x=>if i<k then x ^^^ mk1 h s i else x
theorem sD (h:Int) (s o:L01) (k:Nat):(xk h s o k).length=o.length:=by simp[xk]
theorem Pv {h:Int} {s o:L01} {k i:Nat} (hi:i<o.length):(xk h s o k).getD i 0=if i<k then o.getD i 0 ^^^ mk1 h s i else o.getD i 0:=by
 simp[xk,List.getD,hi]
theorem N1 {h:Int} {s o:L01} {k:Nat} (A:k<o.length):(xk h s o k).set k (o.getD k 0 ^^^ mk1 h s k)=xk h s o (k+1):=by
 apply gx (by simp[xk])
 intro i j B
 simp only[dI,sD]at j
 by_cases hik:k=i
 ·subst hik; simp[xk,List.getD,j]
 ·rw[List.getElem_set_ne hik]
  simp only[xk,List.getElem_mapIdx]
  by_cases hl:i<k
  ·rw[ag hl,ag (by omega)]
  ·rw[ae hl,ae (by omega)]
theorem L9 (h:Int) (s o:L01):xk h s o 0=o:=by
 apply gx (by simp[xk])
 intro i j A
 simp[xk]
theorem R0 {l:L01} {lo hi i:Nat} (A:hi<=l.length) (j:i<hi - lo):ax ((l.drop lo).take (hi - lo)) (i:Int)=some (l.getD (lo+i) 0):=by
 rw[lA,bP,ag j,dX,aA (by omega),an,aA (by omega)]; rfl
theorem Bt {l:L01} {lo hi:Nat} (j:hi<=l.length):((l.drop lo).take (hi - lo)).length=hi - lo:=by simp; omega
theorem K0 (c:Nat):UInt32.ofNat c+1=UInt32.ofNat (c+1):=by
 apply cL.1
 rw[UInt32.toNat_add,di,di,show (1:UInt32).toNat=1 from rfl]; omega
theorem vw (h:Int) (s o:L01) (c lo:Nat) (hc:lo=c*Sz h) (G:lo<o.length) (J:o.length<=1000000):∀r i:Nat,i+r=min (Sz h) (o.length - lo) ->
  loop (F.VV o.length lo (UInt32.ofNat c) (xk h s o lo) (mkB h s c)) ((i:Int),xk h s o (lo+i))=some (.inl (lo+min (Sz h) (o.length - lo),UInt32.ofNat (c+1),xk h s o (lo+min (Sz h) (o.length - lo))))
 | r,i,e=>by
  have hz:=ng h
  have l1:(mkB h s c).length=Sz h:=mP _ _
  have I:=fun k=>sD h s o k
  have B:∀k,(((xk h s o k).drop lo).take (o.length - lo)).length=o.length - lo:=fun k=>Bt (by rw[I]; exact aw _)
  have j:(min ((Sz h:Nat):Int) ((o.length - lo:Nat):Int))=((min (Sz h) (o.length - lo):Nat):Int):=by omega
  match r,e with
  | 0,e=>
   have:i=min (Sz h) (o.length - lo):=by omega
   subst this
   refine cd ?_
   unfold F.VV
   dsimp only
   rw[l1,B,B,j,ae (by rw[ak]; omega),oJ (by rw[B]; omega),aa,K0,aq]
   rfl
  | r+1,e=>
   rw[<-vw h s o c lo hc G J r (i+1) (by omega)]
   have hi:i<o.length - lo:=by omega
   have A:i<Sz h:=by omega
   have N:mk1 h s (lo+i)=(mkB h s c).getD i 0:=by
    unfold mk1
    rw[hc,aP c,Nat.mul_add_div (by omega),cT A,br,Nat.mul_add_mod,az A]
   refine bp ?_
   unfold F.VV
   dsimp only
   rw[l1,B,j,ag (ai (by omega)),R0 (by rw[I]; exact aw _) hi,aa,bh (by rw[l1]; exact A) 0,aa,aa,aG,Pv (by omega),ae (by omega),<-N,aq,N1 (by omega),aD (by omega) (by omega)]
   rfl
theorem yh (h:Int) (hh:isH h) (s o:L01) (hs:s.length<=1000000) (G:o.length<=1000000):∀r c lo:Nat,o.length - lo<=r->(lo=c*Sz h/\lo<=o.length\/lo=o.length)->loop (F.V0 h s o.length) (lo,UInt32.ofNat c,xk h s o lo)=some (xk h s o o.length)
 | r,c,lo,hr,hlo=>by
  have hz:=ng h
  have I:(((xk h s o lo).drop lo).take (o.length - lo)).length=o.length - lo:=Bt (by rw[sD]; exact aw _)
  by_cases he:lo=o.length
  ·refine cd ?_
   unfold F.V0
   dsimp only
   rw[I,ae (by rw[ak]; omega),he]
  ·have hc:lo=c*Sz h:=by omega
   match r,hr with
   | 0,hr=>omega
   | r+1,hr=>
    have J:lo<o.length:=by omega
    have j:[s,c4B (UInt32.ofNat c)].flatten=s++c4B (UInt32.ofNat c):=by simp
    have A:F.To h [s,c4B (UInt32.ofNat c)]=some (mkB h s c):=by
     rw[lj h hh _ (by simp) (by rw[j]; simp[c4B]; omega),j]; rfl
    have N:=vw h s o c lo hc J G (min (Sz h) (o.length - lo)) 0 (by omega)
    have O:F.V0 h s o.length (lo,UInt32.ofNat c,xk h s o lo)=some (.inl (lo+min (Sz h) (o.length - lo),UInt32.ofNat (c+1),xk h s o (lo+min (Sz h) (o.length - lo)))):=by
     unfold F.V0
     dsimp only
     rw[I,ag (ai (by omega))]
     have:af (F.To h [s,c4B (UInt32.ofNat c)]) (fun B=>loop (F.VV o.length lo (UInt32.ofNat c) (xk h s o lo) B) (0,xk h s o lo))=some (.inl (lo+min (Sz h) (o.length - lo),UInt32.ofNat (c+1),xk h s o (lo+min (Sz h) (o.length - lo)))):=by
      rw[A,aa]; exact N
     exact this
    rw[bp O]
    refine yh h hh s o hs G r (c+1) _ (by omega) ?_
    by_cases hq:Sz h<=o.length - lo
    ·left; rw[bg hq,aW,cy,<-hc]; omega
    ·right; omega
theorem M8 (h:Int) (hh:isH h) (s o:L01) (hs:s.length<=1000000) (j:o.length<=1000000):F.Z3 h s o 0 o.length=some (xk h s o o.length):=by
 have:=yh h hh s o hs j o.length 0 0 (by omega) (by left; omega)
 rw[L9]at this
 exact this
def hiB (b:Nat):UInt8:=oP 255 ((8 - b%8)%8)
theorem DW (b:Nat) (hb:b<=1000000):F.Xz (b:Int)=some (hiB b):=by
 have j:∀n,n &&& 7=n%8:=fun n=>fi n 3
 have A:rh (b:Int) 7=((b%8:Nat):Int):=by rw[<-j]; exact Cs b 7 (by omega) (by omega)
 have B:rh ((8 - b%8:Nat):Int) 7=(((8 - b%8)%8:Nat):Int):=by rw[<-j (8 - b%8)]; exact Cs (8 - b%8) 7 (by omega) (by omega)
 unfold F.Xz hiB
 have G:wI (8 - ((b%8:Nat):Int))=((8 - b%8:Nat):Int):=by rw[aD (by omega) (by omega)]; omega
 rw[A,G,B,grd_true _ (by omega),aq]
theorem Hg (h:Int) (hh:isH h) (d s:L01) (hd:d.length<=1000000) (hs:s.length<=1000000):F.Zu h d s=some (ge h (List.replicate 8 0++(d++s))):=by
 have j:[List.replicate 8 (0:UInt8),d,s].flatten=List.replicate 8 0++(d++s):=by simp
 unfold F.Zu
 rw[iG (by decide),aa,show (8:Int).toNat=8 from rfl,lj h hh _ (by simp) (by rw[j]; simp; omega),j,aa]
def Cj (h:Int) (d sum blk:L01) (at_:Nat):Bool:=decide ((∀i,i<at_->blk.getD i 0=0)/\blk.getD at_ 0=1/\ge h (List.replicate 8 0++(d++blk.drop (at_+1)))=sum)
theorem vf (h:Int) (hh:isH h) (d B blk:L01) (A:Nat) (ha:A<blk.length) (hb:blk.length<=100000) (hd:d.length<=1000):∀r i:Nat,i+r=A->(∀j,j<i->blk.getD j 0=0) ->
  loop (F.Xe h d B blk (A:Int)) (i:Int)=some (Cj h d B blk A)
 | 0,i,e,hz=>by
  have:i=A:=by omega
  subst this
  have G:(∀j,j<i->blk.getD j 0=0):=hz
  refine cd ?_
  unfold F.Xe Cj
  dsimp only
  rw[aq,ae (by rw[ak,aN]; omega),bh ha 0,aa]
  by_cases h1:blk.getD i 0=1
  ·rw[ag (by rw[h1]; rfl),aD (by omega) (by omega),show (i:Int)+1=((i+1:Nat):Int) by omega,oJ (by omega),aa,Hg h hh _ _ (by omega) (by simp; omega),aa,Bb,aa]
   congr 2
   rw[fS]
   exact⟨fun q=>⟨G,h1,q⟩,fun q=>q.2.2⟩
  ·rw[ae (by rw[fL]; exact h1),av fun q=>h1 q.2.1]
 | r+1,i,e,hz=>by
  have hg:ax (blk.take A) (i:Int)=some (blk.getD i 0):=by
   rw[lA,bP,ag (by omega),aA (by omega),an,aA (by omega)]; rfl
  by_cases h0:blk.getD i 0=0
  ·rw[<-vf h hh d B blk A ha hb hd r (i+1) (by omega) (fun j I=>by
    rcases bY j i with q | q
    ·exact hz j q
    ·have:j=i:=by omega
     rw[this]; exact h0)]
   refine bp ?_
   unfold F.Xe
   dsimp only
   rw[aq,ag (ai (by rw[aN]; omega)),hg,aa,ae (by rw[h0]; decide),aD (by omega) (by omega)]
   rfl
  ·refine cd ?_
   unfold F.Xe Cj
   dsimp only
   rw[aq,ag (ai (by rw[aN]; omega)),hg,aa,ag (by rw[dz]; exact h0),av fun q=>h0 (q.1 i (by omega))]
def AZ (h:Int) (em:L01) (k b:Nat):L01:=
 (xk h ((em.drop k).take (Sz h)) (em.take k) k).set 0 ((xk h ((em.drop k).take (Sz h)) (em.take k) k).getD 0 0 &&& hiB b)
def sN (h:Int) (d em:L01) (b:Nat):Bool:=
 if em.length=(b+7) / 8/\2*Sz h+2<=(b+7) / 8/\em.getD ((b+7) / 8 - 1) 0=188/\(em.getD 0 0 &&& ~~~ hiB b)=0 then
  Cj h d ((em.drop ((b+7) / 8 - Sz h - 1)).take (Sz h)) (AZ h em ((b+7) / 8 - Sz h - 1) b) ((b+7) / 8 - Sz h - 1 - Sz h - 1)
 else false
theorem K3 (a:L01) (h:a.length<=225000000000000):F.Uj a=some a:=by
 unfold F.Uj
 rw[show apO 1 [] a=some a by unfold apO; rw[ag (by simp; omega)]; rfl,aa]
theorem B9 (h:Int) (hh:isH h):F.Tp h=some ((Sz h:Nat):Int):=by rw[uG,ag hh]
theorem JM (h:Int) (hh:isH h) (d A:L01) (b:Nat) (hb:b<=65536) (hd:d.length<=1000) (N:A.length=(b+7) / 8) (O:2*Sz h+2<=(b+7) / 8) :
  F.UA h A (b:Int) ((Sz h:Nat):Int) d false=some (Cj h d ((A.drop ((b+7) / 8 - Sz h - 1)).take (Sz h)) (AZ h A ((b+7) / 8 - Sz h - 1) b) ((b+7) / 8 - Sz h - 1 - Sz h - 1)):=by
 have hz:=ng h
 have G:jx (wI ((b:Int)+7)) 3=(((b+7) / 8:Nat):Int):=by
  rw[aD (by omega) (by omega),show (b:Int)+7=((b+7:Nat):Int) by omega,uC _ _ (by decide)]
 obtain⟨B,I⟩:∃B,(b+7) / 8=B:=⟨_,rfl⟩
 rw[I]at N O G ⊢
 obtain⟨k,R⟩:∃k,B - Sz h - 1=k:=⟨_,rfl⟩
 have Z:B=k+Sz h+1:=by omega
 have w2:wI (wI ((B:Int) - ((Sz h:Nat):Int)) - 1)=(k:Int):=by rw[aD (x:=(B:Int) - _) (by omega) (by omega),aD (by omega) (by omega)]; omega
 have U:wI ((B:Int) - 1)=((k+Sz h:Nat):Int):=by rw[aD (by omega) (by omega)]; omega
 have J:slO A (k:Int) ((k+Sz h:Nat):Int)=some ((A.drop k).take (Sz h)):=by
  unfold slO; rw[ag (by omega),aq,aq,show k+Sz h - k=Sz h by omega]
 have lt:(A.take k).length=k:=by rw[aN]; omega
 have V:(AZ h A k b).length=k:=by unfold AZ; rw[dI,sD,lt]
 unfold F.UA
 rw[ae (by decide),G,w2,U,J,aa,Bj (by omega),aa,K3 _ (by omega),aa,M8 h hh _ _ (by simp; omega) (by omega),aa,lt,
  show (0:Int)=((0:Nat):Int) from rfl,bh (by rw[sD,lt]; omega) 0,aa,DW b (by omega),aa,aa,aG,aq]
 have X:(xk h ((A.drop k).take (Sz h)) (A.take k) k).set 0 ((xk h ((A.drop k).take (Sz h)) (A.take k) k).getD 0 0 &&& hiB b)=AZ h A k b:=rfl
 rw[X,V,R,aD (x:=(k:Int) - _) (by omega) (by omega),aD (by omega) (by omega),aG,show (k:Int) - ((Sz h:Nat):Int) - 1=((k - Sz h - 1:Nat):Int) by omega,grd_true _ (by omega)]
 exact vf h hh d _ _ (k - Sz h - 1) (by omega) (by omega) hd (k - Sz h - 1) 0 (by omega) (fun j Y=>absurd Y (Nat.not_lt_zero _))
theorem pp (h:Int) (d j:L01) (b z:Int):F.UA h j b z d true=some false:=rfl
theorem IP (h:Int) (hh:isH h) (d j:L01) (b:Nat) (hb:b<=65536) (hd:d.length=Sz h) (J:j.length<=1000000):F.XO h d j (b:Int)=some (sN h d j b):=by
 have hz:=ng h
 have G:jx (wI ((b:Int)+7)) 3=(((b+7) / 8:Nat):Int):=by
  rw[aD (by omega) (by omega),show (b:Int)+7=((b+7:Nat):Int) by omega,uC _ _ (by decide)]
 have w2:wI (wI (2*((Sz h:Nat):Int))+2)=((2*Sz h+2:Nat):Int):=by rw[aD (x:=2*_) (by omega) (by omega),aD (by omega) (by omega)]; omega
 have B:=JM h hh d j b hb (by omega)
 obtain⟨A,I⟩:∃A,(b+7) / 8=A:=⟨_,rfl⟩
 unfold F.XO sN
 rw[B9 h hh,aa,ae (by rw[fL]; omega),ae (by rw[ak]; omega),ae (by rw[ak]; omega),hd,dn]
 unfold F.Xj
 rw[I]at G B ⊢
 rw[ae (by decide),G,w2]
 by_cases c1:j.length=A
 ·rw[ae (by rw[c1]; simp)]
  by_cases c2:2*Sz h+2<=A
  ·rw[ae (by rw[ak]; omega),aD (by omega) (by omega),show (A:Int) - 1=((A - 1:Nat):Int) by omega,bh (show A - 1<j.length by omega) 0,aa]
   by_cases c3:j.getD (A - 1) 0=188
   ·rw[ae (by rw[c3]; decide),show (0:Int)=((0:Nat):Int) from rfl,bh (show 0<j.length by omega) 0,aa,DW b (by omega),aa]
    by_cases c4:(j.getD 0 0 &&& ~~~ hiB b)=0
    ·rw[ag ⟨c1,c2,c3,c4⟩,c4,show ((0:UInt8) != 0)=false from rfl,B c1 c2]
    ·rw[show ((j.getD 0 0 &&& ~~~ hiB b) != 0)=true by rw[dz]; exact c4,pp,ae fun q=>c4 q.2.2.2]
   ·rw[ag (by rw[dz]; exact c3),pp,ae fun q=>c3 q.2.2.1]
  ·rw[ag (ai (by omega)),pp,ae fun q=>c2 q.2.1]
 ·rw[ag (by rw[dz]; omega),pp,ae fun q=>c1 q.1]
def J4 (h:Int) (n e m sig:L01):Int:=
 if isH h then if lB n e then if sig.length=n.length/\beN sig<beN n then
  if beN sig^beN e%beN n<256^((nb (beN n) - 1+7) / 8)/\sN h (ge h m) (beB ((nb (beN n) - 1+7) / 8) (beN sig^beN e%beN n)) (nb (beN n) - 1)=true then 0 else 91 else 91 else 90 else 111
theorem vJ (b:Bool):F.ZP b=some (if b=true then 91 else 0):=by cases b <;> rfl
theorem FB (h:Int) (hh:isH h) (n e m j:L01) (hm:m.length<=900000000000000) (A:lB n e) (hs:j.length=n.length) (B:beN j<beN n) :
  F.Zh h e m (au (beN n)) (au (beN j)) false=some (if beN j^beN e%beN n<256^((nb (beN n) - 1+7) / 8)/\sN h (ge h m) (beB ((nb (beN n) - 1+7) / 8) (beN j^beN e%beN n)) (nb (beN n) - 1)=true then 0 else 91):=by
 obtain⟨R,U,V,G⟩:=Aq A
 have b0:=A.2.2.2.2.2.1.1
 have b1:=A.2.2.2.2.2.1.2
 have X:nb (beN e)<=32:=lL (by have:=A.2.2.2.2.2.2.2.2; omega)
 have I:nb (beN j)<=4096:=aZ (lL (fU B (gp (beN n)).1)) b1
 have l1:=kv (l:=j) (by omega); have J:=kv (l:=e) (by omega); have N:=nq b1
 have Y:(au (beN j^beN e%beN n)).length<=128:=aZ (gv (cA (bG _ (by omega)))) N
 have O:wI (((nb (beN n):Nat):Int) - 1)=((nb (beN n) - 1:Nat):Int):=by rw[aD (by omega) (by omega)]; omega
 have w2:jx (wI (((nb (beN n) - 1:Nat):Int)+7)) 3=(((nb (beN n) - 1+7) / 8:Nat):Int):=by
  rw[aD (by omega) (by omega),show ((nb (beN n) - 1:Nat):Int)+7=((nb (beN n) - 1+7:Nat):Int) by omega,uC _ _ (by decide)]
 have hl:=mP h m
 unfold F.Zh
 rw[ae (by decide),fy e (by omega),aa,wW _ _ _ G b1 (by omega) (by rw[ay]; exact I) (by rw[ay]; omega) l1 J,aa,ay,ay,ae (show ¬((0:Int) != 0)=true by decide),
  jO _ (by omega),aa,ay,O,w2,wC (au (beN j^beN e%beN n)) _ (by omega) (by omega),ay]
 by_cases c1:beN j^beN e%beN n<256^((nb (beN n) - 1+7) / 8)
 ·rw[ag c1,aa,ae (show ¬(!true)=true by decide),xB h hh m hm,aa,IP h hh _ _ _ (by omega) hl (by rw[mb]; omega),aa,vJ]
  cases hq:sN h (ge h m) (beB ((nb (beN n) - 1+7) / 8) (beN j^beN e%beN n)) (nb (beN n) - 1) with
  | true=>rw[ae (by decide),ag ⟨c1,rfl⟩]
  | false=>rw[ag (by decide),ae fun q=>by cases q.2]
 ·rw[ae c1,aa,ag (show (!false)=true by decide),vJ,ag rfl,ae fun q=>c1 q.1]
theorem Ew (h:Int) (n e m j:L01) (hn:n.length<=140737488351232) (he:e.length<=140737488351232) (hm:m.length<=900000000000000) (hs:j.length<=140737488351232):F.Zl h n e m j=some (J4 h n e m j):=by
 unfold F.Zl J4
 rw[uG,aa]
 by_cases hh:isH h
 ·have hz:=ng h
  rw[ag hh,ae (by rw[fL]; omega),ag hh,BY n e hn he,aa]
  by_cases hk:lB n e
  ·rw[ag hk,ae (by decide),ag hk,fy n hn,aa,fy j hs,aa]
   by_cases c1:j.length=n.length
   ·have l1:=kv hs; have A:=kv hn
    rw[ae (by rw[c1]; simp),ka _ _ (by omega) (by omega),aa,ay,ay]
    by_cases c2:beN j<beN n
    ·have:¬0<=eA (beN j) (beN n):=by unfold eA; rw[ag c2]; decide
     rw[av this,FB h hh n e m j hm hk c1 c2,ag (show j.length=n.length/\beN j<beN n from⟨c1,c2⟩)]
    ·have:0<=eA (beN j) (beN n):=by unfold eA; rw[ae c2]; split <;> decide
     rw[ai this,ae fun q=>c2 q.2]; rfl
   ·rw[ag (by rw[dz]; omega),ae fun q=>c1 q.1]; rfl
  ·rw[ae hk,ag (by decide),ae hk]
 ·rw[ae hh,ag (by decide),ae hh]
def pE:Nat:=57896044618658097711785492504343953926634992332820282019728792003956564819949
def nE:Nat:=7237005577332262213973186563042994240857116359379907606001950938285454250989
theorem jh:1<pE/\pE%2=1/\pE<2^255/\0<pE:=by decide +kernel
theorem Cx:1<nE/\nE<2^253:=by decide +kernel
instance:NeZero pE:=⟨Nat.ne_of_gt jh.2.2.2⟩
theorem vq:nb pE<=255:=lL jh.2.2.1
theorem yx {n k:Nat} (h:n<2^(32*k)):(au n).length<=k:=bv (by rw[show (4294967296:Nat)=2^32 from rfl,<-cr]; exact h)
theorem mw:(au pE).length<=8:=yx (aU jh.2.2.1 (ba (by decide) (by decide)))
abbrev Fe:=Fin pE
def le (x:Fe):L00:=au x.val
theorem kG (x:Fe):(le x).length<=8:=aZ (gv (cA x.isLt)) mw
theorem ke (x:Fe):val (le x)=x.val:=ay _
theorem pu (x:Fe):nb (val (le x))<=255:=by rw[ke]; exact lL (fU x.isLt jh.2.2.1)
theorem tl:le 0=[]:=by unfold le; rw[show (0:Fe).val=0 from rfl,cH]
theorem Ns:(1:Fe).val=1:=az jh.1
theorem uR:le 1=[1]:=by
 unfold le; rw[Ns,ld (by decide),show 1 / 4294967296=0 by decide,cH]; rfl
theorem qp {l:L00} {n:Nat} (h:val l=n) (hc:l.getLast?≠some 0):l=au n:=AK h hc
theorem lW:F.TO=some (au pE):=by
 rw[<-qp (l:=F.VK) (n:=pE) (by decide +kernel) (by decide)]; rfl
theorem IX:F.Yf=some (au nE):=by
 rw[<-qp (l:=F.VM) (n:=nE) (by decide +kernel) (by decide)]; rfl
def dE:Fe:=⟨37095705934669439343138083508754565189542113879843219016388785533085940283555,by decide +kernel⟩
def iE:Fe:=⟨38214883241950591754978413199355411911188925816896391856984770930832735035197,by decide +kernel⟩
def gX:Fe:=⟨15112221349535400772501151409588531511454012693041857206046113283949847762202,by decide +kernel⟩
def gY:Fe:=⟨46316835694926478169428394003475163141307993866256225615783033603165251855960,by decide +kernel⟩
theorem uM:F.Vq=some (le dE):=by
 unfold le
 rw[<-qp (l:=F.Vt) (n:=dE.val) (by decide +kernel) (by decide)]; rfl
theorem L7:F.aax=some (le iE):=by
 unfold le
 rw[<-qp (l:=F.VA) (n:=iE.val) (by decide +kernel) (by decide)]; rfl
theorem MN:F.aaq=some (le gX,le gY,false):=by
 unfold le
 rw[<-qp (l:=F.TZ) (n:=gX.val) (by decide +kernel) (by decide),<-qp (l:=F.TW) (n:=gY.val) (by decide +kernel) (by decide)]; rfl
theorem L2 (a b:L00) (m:Nat) (B:1<m) (hm:nb m<=4096) (ha:nb (val a)<=4096) (hb:nb (val b)<=4096) (j:a.length<=40000000000000) (A:b.length<=40000000000000) (G:(au m).length<=900) :
  F.YD a b (au m)=some (au ((val a+val b)%m),0):=by
 have l1:=nq ha; have I:=nq hb
 have hs:(au (val a+val b)).length<=200:=aZ (lR _ _) (by omega)
 unfold F.YD
 rw[qW ha hb (by rw[ay]; omega) (by rw[ay]; omega) j A (by omega),aa,ae (by decide),sV _ _ j A,aa,kO _ _ (by omega) (by omega) (by rw[ay]; omega),aa,ay,ay]
theorem MF (a b:L00) (m:Nat) (B:1<m) (hm:nb m<=4096) (ha:nb (val a)<=4096) (hb:nb (val b)<=4096) (j:a.length<=40000000000000) (A:b.length<=40000000000000) (G:(au m).length<=900) :
  F.Y7 a b (au m)=some (au ((m - val b%m+val a%m)%m),0):=by
 unfold F.Y7
 rw[qW ha hb (by rw[ay]; omega) (by rw[ay]; omega) j A (by omega),aa,ae (by decide),kO _ _ j (by omega) (by rw[ay]; omega),aa,kO _ _ A (by omega) (by rw[ay]; omega),aa,ay,
  uj (bG _ (by omega)) (bG _ (by omega)) (by omega) (au m) (ay m) (by omega),aa]
theorem Az (x y:Fe):F.Tr (le x) (le y)=some (le (x+y)):=by
 have a:=kG x; have b:=kG y; have c:=pu x; have d:=pu y; have e:=vq; have f:=mw
 unfold F.Tr
 rw[lW,aa,L2 _ _ _ jh.1 (by omega) (by omega) (by omega) (by omega) (by omega) (by omega),aa,ke,ke]; rfl
theorem wT (x y:Fe):F.TF (le x) (le y)=some (le (x - y)):=by
 have a:=kG x; have b:=kG y; have c:=pu x; have d:=pu y; have e:=vq; have f:=mw
 unfold F.TF
 rw[lW,aa,MF _ _ _ jh.1 (by omega) (by omega) (by omega) (by omega) (by omega) (by omega),aa,ke,ke,az x.isLt,az y.isLt]; rfl
theorem mJ (x y:Fe):F.SZ (le x) (le y)=some (le (x*y)):=by
 have a:=kG x; have b:=kG y; have c:=pu x; have d:=pu y; have e:=vq; have f:=mw
 unfold F.SZ
 rw[lW,aa,xy _ _ _ jh.1 (by omega) (by omega) (by omega) (by omega) (by omega) (by omega),aa,ke,ke]; rfl
noncomputable def xr (x:Fe):Fe:=⟨rU pE x.val,My jh.2.2.2⟩
def uq (x:Fe) (e:Nat):Fe:=⟨x.val^e%pE,bG _ jh.2.2.2⟩
theorem Ql (x:Fe):F.Xd (le x)=some (le (xr x)):=by
 have a:=kG x; have c:=pu x; have e:=vq; have f:=mw
 unfold F.Xd
 rw[lW,aa,MU _ _ jh.1 jh.2.1 (by omega) (by omega) (by omega) (by omega),aa,ke]
 simp only[le,xr]
theorem Sq (x:Fe) (e:L00) (j:e.length<=1000) (he:nb (val e)<=4096):F.Zz (le x) e=some (le (uq x (val e))):=by
 have a:=kG x; have c:=pu x; have A:=vq; have f:=mw
 unfold F.Zz
 rw[lW,aa,wW _ _ _ jh.1 (by omega) (by omega) (by omega) he (by omega) (by omega),aa,ke]; rfl
theorem LA (x:Fe):F.WX (le x)=some (le x):=by
 unfold F.WX
 rw[<-tl,Az,aa,Fin.add_zero]
abbrev Q4:=Fe×Fe×Fe×Fe
def q4 (s:Q4):L00×L00×L00×L00:=(le s.1,le s.2.1,le s.2.2.1,le s.2.2.2)
def twE (s:Q4):Q4:=
 let a:=s.1*s.1; let b:=s.2.1*s.2.1; let c:=s.2.2.1*(s.2.2.1+s.2.2.1); let h:=a+b; let w:=s.1+s.2.1; let e:=h - w*w; let g:=a - b; let f:=c+g
 (e*f,g*h,f*g,e*h)
def plE (s q:Q4):Q4:=
 let a:=(s.2.1 - s.1)*(q.2.1 - q.1); let b:=(s.2.1+s.1)*(q.2.1+q.1); let c:=s.2.2.2*q.2.2.2*(dE+dE); let d:=s.2.2.1*(q.2.2.1+q.2.2.1); let e:=b - a; let f:=d - c; let g:=d+c; let h:=b+a
 (e*f,g*h,f*g,e*h)
theorem IF (s:Q4):F.YG (le s.1) (le s.2.1) (le s.2.2.1) (le s.2.2.2)=some (q4 (twE s)):=by
 unfold F.YG
 simp only[mJ,Az,wT,aa]
 rfl
theorem Ea (s q:Q4):F.Xb (le s.1) (le s.2.1) (le s.2.2.1) (le s.2.2.2) (le q.1) (le q.2.1) (le q.2.2.1) (le q.2.2.2)=some (q4 (plE s q)):=by
 unfold F.Xb
 simp only[mJ,Az,wT,uM,aa]
 rfl
def tmE (s:Q4) (k:Nat):Nat->Q4->Q4
 | 0,a=>a
 | i+1,a=>tmE s k i (if k / 2^i%2=1 then plE (twE a) s else twE a)
theorem vz (s:Q4) (k:L00) (j:k.length<=1000):∀(i:Nat) (a:Q4),i<=1000000->loop (F.XN (le s.1) (le s.2.1) (le s.2.2.1) (le s.2.2.2) k) ((i:Int) - 1,q4 a)=some (q4 (tmE s (val k) i a))
 | 0,a,_=>by
  refine cd ?_
  unfold F.XN q4
  dsimp only
  rw[ae (by decide)]; rfl
 | i+1,a,hi=>by
  have A:(((i+1:Nat):Int)) - 1=(i:Int):=by omega
  have w:wI ((i:Int) - 1)=(i:Int) - 1:=aD (by omega) (by omega)
  rw[A]
  show _=some (q4 (tmE s (val k) i (if val k / 2^i%2=1 then plE (twE a) s else twE a)))
  rw[<-vz s k j i _ (by omega)]
  refine bp ?_
  unfold F.XN q4
  dsimp only
  rw[ag (ai (by omega)),IF,aa,Dt _ _ (by omega) (by omega),aa]
  by_cases h:val k / 2^i%2=1
  ·rw[ag (ai h),ag h]
   have:=Ea (twE a) s
   unfold q4 at this ⊢
   rw[this,aa]
   unfold F.Y3
   dsimp only
   rw[w]; rfl
  ·rw[ae (by rw[ak]; exact h),ae h]
   unfold F.Y3 q4
   dsimp only
   rw[w]; rfl
def tiE (s:Q4) (k:Nat):Q4:=tmE s k (nb k) (0,1,1,0)
theorem An (s:Q4) (k:L00) (j:k.length<=1000):F.Xc (le s.1) (le s.2.1) (le s.2.2.1) (le s.2.2.2) k=some (q4 (tiE s (val k))):=by
 have hb:nb (val k)<=32*k.length:=aZ (mu _) (bj 32 (bv (cv k)))
 have w:wI (((nb (val k):Nat):Int) - 1)=((nb (val k):Nat):Int) - 1:=aD (by omega) (by omega)
 unfold F.Xc
 rw[jO k (by omega),aa,w,<-uR,<-tl]
 exact vz s k j (nb (val k)) (0,1,1,0) (by omega)
noncomputable def ptE (s:Q4):Fe×Fe:=(s.1*xr s.2.2.1,s.2.1*xr s.2.2.1)
theorem JG (s:Q4):F.YA (le s.1) (le s.2.1) (le s.2.2.1) (le s.2.2.2)=some (le (ptE s).1,le (ptE s).2,false):=by
 unfold F.YA
 rw[Ql,aa,mJ,aa,mJ,aa]; rfl
theorem yd (x y:Fe):F.Xx (le x) (le y) false=some (q4 (x,y,1,x*y)):=by
 unfold F.Xx
 rw[LA,aa,LA,aa,mJ,aa,<-uR]; rfl
def onE (x y:Fe):Bool:=decide (y*y - x*x=1+dE*(x*x*(y*y)))
theorem JA (x y:Fe):F.Tb (le x) (le y)=some (eA x.val y.val):=by
 have a:=kG x; have b:=kG y
 rw[ka _ _ (by omega) (by omega),ke,ke]
theorem OT (x y:Fe):(eA x.val y.val == 0)=decide (x=y):=by
 rw[Ki,fS]; exact⟨fun h=>iI h,fun h=>by rw[h]⟩
theorem H4 (x:Fe):F.Tb (le x) (au pE)=some (-1):=by
 have a:=kG x; have f:=mw
 rw[ka _ _ (by omega) (by omega),ke,ay]; unfold eA; rw[ag x.isLt]
theorem Od (x y:Fe):F.YM (le x) (le y) false=some (onE x y):=by
 unfold F.YM
 rw[ae (by decide),lW,aa,H4,aa,ae (by decide),aa,H4,aa]
 unfold F.Yy onE
 dsimp only
 rw[ae (by decide),mJ,aa,mJ,aa,wT,aa,uM,aa,mJ,aa,mJ,aa,<-uR,Az,aa,JA,aa,OT]
theorem A5 (l:L01) (hl:l.length<=1000000):∀(r i:Nat) (x:L01),l.length - 1 - 2*i<=r->2*i<=l.length->x.length=l.length->(∀j,j<l.length->x.getD j 0=if j<i\/l.length - i<=j then l.getD (l.length - 1 - j) 0 else l.getD j 0) ->
  loop F.W9 ((i:Int),(l.length:Int) - 1 - (i:Int),x)=some l.reverse
 | r,i,x,hr,hi,hx,hj=>by
  by_cases hlt:i+i+1<l.length
  ·match r,hr with
   | 0,hr=>omega
   | r+1,hr=>
    have A:=A5 l hl r (i+1) ((x.set i (x.getD (l.length - 1 - i) 0)).set (l.length - 1 - i) (x.getD i 0)) (by omega) (by omega) (by simpa using hx) (fun j G=>by
     by_cases e1:j=l.length - 1 - i
     ·subst e1
      rw[an,cU (by simp[hx]; omega),ag (by omega)]
      show x.getD i 0=_
      rw[hj i (by omega),ae (by omega)]; congr 1; omega
     ·by_cases e2:j=i
      ·subst e2
       rw[an,List.getElem?_set_ne (by omega),cU (by omega),ag (by omega)]
       show x.getD (l.length - 1 - j) 0=_
       rw[hj _ (by omega),ae (by omega)]
      ·rw[an,List.getElem?_set_ne (by omega),List.getElem?_set_ne (by omega),<-an,hj j G]
       by_cases e3:j<i\/l.length - i<=j
       ·rw[ag e3,ag (by omega)]
       ·rw[ae e3,ae (by omega)])
    rw[<-A]
    refine bp ?_
    have ei:(l.length:Int) - 1 - (i:Int)=((l.length - 1 - i:Nat):Int):=by omega
    unfold F.W9
    dsimp only
    rw[ei,ag (ai (by omega)),bh (by omega) 0,aa,bh (by omega) 0,aa,aa,aG,bh (by rw[dI]; omega) 0,aa,aG,aq,aq,aD (by omega) (by omega),aD (by omega) (by omega)]
    rw[show ((l.length - 1 - i:Nat):Int) - 1=(l.length:Int) - 1 - ((i+1:Nat):Int) by omega]
    rfl
  ·refine cd ?_
   unfold F.W9
   dsimp only
   rw[ae (by rw[ak]; omega)]
   congr 2
   apply gx (by simp[hx])
   intro j A N
   have B:=hj j (by omega)
   rw[an,aA A]at B
   simp only[Option.getD_some]at B
   rw[B,List.getElem_reverse]
   have I:∀k (J:k<l.length),l.getD k 0=l[k]:=fun k J=>by rw[an,aA J]; rfl
   split
   ·rw[I _ (by omega)]
   ·rw[I _ (by omega)]
    have:j=l.length - 1 - j:=by omega
    congr 1
theorem vn (l:L01) (hl:l.length<=1000000):F.Xi l=some l.reverse:=by
 unfold F.Xi
 rw[aG,aD (by omega) (by omega)]
 have:=A5 l hl l.length 0 l (by omega) (by omega) rfl (fun j A=>by rw[ae (by omega)])
 rw[<-this]
 congr 3
 omega
def leN (l:L01):Nat:=beN l.reverse
theorem B3 (l:L01):leN l<256^l.length:=by have:=lG l.reverse; rwa [List.length_reverse]at this
theorem Gg (a:L01) (h:a.length<=225000000000000):F.Uj a=some a:=by
 unfold F.Uj
 rw[show apO 1 [] a=some a by unfold apO; rw[ag (by simp; omega)]; rfl,aa]
theorem qw (l:L01) (hl:l.length<=1000000):F.Vo l=some (au (leN l)):=by
 unfold F.Vo
 rw[Gg l (by omega),aa,vn l hl,aa,fy _ (by rw[List.length_reverse]; omega),aa]; rfl
noncomputable def xxE (y:Fe):Fe:=(y*y - 1)*xr (dE*(y*y)+1)
noncomputable def x1E (y:Fe):Fe:=if uq (xxE y) ((pE+3) / 8)*uq (xxE y) ((pE+3) / 8)=xxE y then uq (xxE y) ((pE+3) / 8) else uq (xxE y) ((pE+3) / 8)*iE
noncomputable def EU (y:Fe) (odd:Bool):Option Fe:=
 if x1E y*x1E y=xxE y/\¬(x1E y=0/\odd=true) then some (if decide ((x1E y).val%2=1)=odd then x1E y else 0 - x1E y) else none
def O6 (o:Option Fe):L00×Bool:=match o with
 | some x=>(le x,true)
 | none=>([],false)
theorem Lu (x y:Fe):(eA x.val y.val != 0)=decide (¬x=y):=by
 rw[bne,OT]; by_cases h:x=y
 ·rw[ai h,av (by simpa using h)]; rfl
 ·rw[av h,ai h]; rfl
theorem LF (x:Fe):F.Tz (le x) 0=some (decide (x.val%2=1)):=by
 have a:=kG x
 rw[mS _ (by omega),ke]
theorem Hj (j:Bool) (x:Fe):F.Wk j (le x) false=some (le (if decide (x.val%2=1)=j then x else 0 - x),true):=by
 unfold F.Wk
 rw[ae (by decide),LF,aa]
 by_cases h:decide (x.val%2=1)=j
 ·rw[ae (by rw[h]; simp),ag h]; rfl
 ·rw[ag (by rw[dz]; exact h),<-tl,wT,aa,ae h]; rfl
theorem GH (j:Bool) (A x:Fe):F.YC j (le A) (le x)=some (O6 (if x*x=A/\¬(x=0/\j=true) then some (if decide (x.val%2=1)=j then x else 0 - x) else none)):=by
 have a:=kG x
 have hb:(((nb x.val:Nat):Int) == 0)=decide (x=0):=by
  by_cases h:x=0
  ·rw[h,ai rfl,show (0:Fe).val=0 from rfl,kU]; rfl
  ·rw[av h,c8]
   have B:x.val≠0:=fun q=>h (iI q)
   have:=(gp x.val).2 B
   omega
 unfold F.YC
 dsimp only
 rw[mJ,aa,JA,aa,Lu]
 by_cases h1:x*x=A
 ·rw[ae (by rw[ak]; exact fun q=>q h1),jO _ (by omega),aa,ke,hb]
  by_cases h2:x=0
  ·rw[ag (ai h2)]
   cases j with
   | true=>rw[ae (fun q=>q.2 ⟨h2,rfl⟩)]; rfl
   | false=>rw[ag ⟨h1,fun q=>by cases q.2⟩,Hj]; rfl
  ·rw[ae (by rw[ak]; exact h2),ag ⟨h1,fun q=>h2 q.1⟩,Hj]; rfl
 ·rw[ag (ai h1),ae fun q=>h1 q.1]; rfl
theorem Oq:F.TL (au (pE+3)) 3=some (au ((pE+3) / 8)):=by
 have h:(au (pE+3)).length<=9:=aZ (lR _ _) (by have:=mw; have:(au 3).length<=1:=bv (by decide); omega)
 have:=M0 (au (pE+3)) 3 (by decide) (by omega)
 rw[ay]at this
 exact this
theorem P6 (y:Fe) (j:Bool):F.Y5 (le y) j=some (O6 (EU y j)):=by
 have f:=mw
 have A:val ([3]:L00)=3:=rfl
 have he:(au ((pE+3) / 8)).length<=9:=aZ (gv (dw _ _)) (aZ (lR _ _) (by have:(au 3).length<=1:=bv (by decide); omega))
 have B:nb ((pE+3) / 8)<=32*9:=aZ (mu _) (by omega)
 unfold F.Y5
 rw[mJ,aa,<-uR,wT,aa,uM,aa,mJ,aa,Az,aa,Ql,aa,mJ,aa,lW,aa,sV _ _ (by omega) (by decide),aa,ay,A,Oq,aa,
  Sq _ _ (by omega) (by rw[ay]; omega),aa,ay,mJ,aa,JA,aa,Lu]
 have hx:(y*y - 1)*xr (dE*(y*y)+1)=xxE y:=rfl
 rw[hx]
 unfold EU x1E
 by_cases h:uq (xxE y) ((pE+3) / 8)*uq (xxE y) ((pE+3) / 8)=xxE y
 ·rw[ae (by rw[ak]; exact fun q=>q h),ag h,GH]
 ·rw[ag (ai h),L7,aa,mJ,aa,ae h,GH]
def clr (b:L01):L01:=b.set 31 (b.getD 31 0 &&& 127)
noncomputable def r7 (b:L01):Option (Fe×Fe):=
 if b.length=32 then if h:leN (clr b)<pE then match EU ⟨leN (clr b),h⟩ ((b.getD 31 0 &&& 128) != 0) with
  | some x=>some (x,⟨leN (clr b),h⟩)
  | none=>none else none else none
def Pq (o:Option (Fe×Fe)):L00×L00×Bool×Int:=match o with
 | some (x,y)=>(le x,le y,false,0)
 | none=>([],[],false,93)
theorem vj (b:L01):F.Xl b=some (Pq (r7 b)):=by
 unfold F.Xl r7
 by_cases h:b.length=32
 ·have hl:(clr b).length=32:=by unfold clr; rw[dI,h]
  have j:=B3 (clr b)
  rw[hl]at j
  have G:(au (leN (clr b))).length<=8:=bv (by rw[show (4294967296:Nat)=256^4 from rfl,<-cr]; exact j)
  have f:=mw
  rw[ae (by rw[h]; simp),ag h,Gg b (by omega),aa,show (31:Int)=((31:Nat):Int) from rfl,bh (show 31<b.length by omega) 0,aa,aa,aa,aG,aq]
  have A:b.set 31 (b.getD 31 0 &&& 127)=clr b:=rfl
  rw[A,qw _ (by omega),aa,lW,aa,ka _ _ (by omega) (by omega),aa,ay,ay]
  by_cases hc:leN (clr b)<pE
  ·have:¬0<=eA (leN (clr b)) pE:=by unfold eA; rw[ag hc]; decide
   rw[ae (by rw[ak]; exact this),dif_pos hc]
   have B:au (leN (clr b))=le ⟨leN (clr b),hc⟩:=rfl
   rw[B,P6,aa]
   cases EU ⟨leN (clr b),hc⟩ ((b.getD 31 0 &&& 128) != 0) <;> rfl
  ·have:0<=eA (leN (clr b)) pE:=by unfold eA; rw[ae hc]; split <;> decide
   rw[ag (ai this),dif_neg hc]; rfl
 ·rw[ag (by rw[dz]; omega),ae h]; rfl
def Fu (x y:Fe):L01:=if x.val%2=1 then (beB 32 y.val).reverse.set 31 ((beB 32 y.val).reverse.getD 31 0 ||| 128) else (beB 32 y.val).reverse
theorem FY (x y:Fe):F.XK (le x) (le y) false=some (if onE x y=true then (Fu x y,0) else ([],93)):=by
 have a:=kG y
 have hy:y.val<256^32:=fU y.isLt (aU jh.2.2.1 (by decide))
 have hl:((beB 32 y.val).reverse).length=32:=by rw[List.length_reverse,mb]
 unfold F.XK
 rw[Od,aa]
 cases onE x y with
 | false=>rfl
 | true=>
  rw[ae (by decide),show (32:Int)=((32:Nat):Int) from rfl,wC (le y) 32 (by omega) (by decide),ke,ag hy,aa,vn _ (by rw[mb]; decide),aa,LF,aa,ag rfl]
  unfold Fu F.ZO
  by_cases h:x.val%2=1
  ·rw[ag (ai h),ag h,show (31:Int)=((31:Nat):Int) from rfl,bh (show 31<_ by rw[hl]; decide) 0,aa,aa,aG,aq]
  ·rw[ae (by rw[ak]; exact h),ae h]
noncomputable def rE (x y:Fe) (s k:Nat):Fe×Fe:=ptE (plE (tiE (gX,gY,1,gX*gY) s) (tiE (0 - x,y,1,(0 - x)*y) k))
noncomputable def edT (pub m sig:L01):Int:=match r7 pub with
 | none=>90
 | some (x,y)=>if sig.length=64/\leN (sig.drop 32)<nE/\onE (rE x y (leN (sig.drop 32)) (leN (ge 3 (sig.take 32++(pub++m)))%nE)).1 (rE x y (leN (sig.drop 32)) (leN (ge 3 (sig.take 32++(pub++m)))%nE)).2=true /\
   Fu (rE x y (leN (sig.drop 32)) (leN (ge 3 (sig.take 32++(pub++m)))%nE)).1 (rE x y (leN (sig.drop 32)) (leN (ge 3 (sig.take 32++(pub++m)))%nE)).2=sig.take 32 then 0 else 91
theorem u6 (b:Bool):F.ZS b=some (if b=true then 91 else 0):=by cases b <;> rfl
theorem Jt {b:L01} {p:Fe×Fe} (h:r7 b=some p):b.length=32:=by
 unfold r7 at h
 split at h
 ·assumption
 ·cases h
theorem Fl (A m j:L01) (hm:m.length<=800000000000000) (hs:j.length<=140737488351232):F.YY A m j=some (edT A m j):=by
 unfold F.YY edT
 rw[vj,aa]
 cases hd:r7 A with
 | none=>rfl
 | some p=>
  obtain⟨x,y⟩:=p
  have hp:=Jt hd
  show (if ((0:Int) != 0)=true then _ else _)=_
  rw[ae (by decide)]
  by_cases h1:j.length=64
  ·have O:=B3 (j.drop 32)
   rw[bZ,h1]at O
   have Y:(au (leN (j.drop 32))).length<=8:=bv (by rw[show (4294967296:Nat)=256^4 from rfl,<-cr]; exact O)
   have hn:(au nE).length<=8:=yx (aU Cx.2 (ba (by decide) (by decide)))
   rw[ae (by rw[h1]; simp),show (32:Int)=((32:Nat):Int) from rfl,oJ (by omega),aa,qw _ (by rw[bZ]; omega),aa,IX,aa,ka _ _ (by omega) (by omega),aa,ay,ay]
   by_cases h2:leN (j.drop 32)<nE
   ·have:¬0<=eA (leN (j.drop 32)) nE:=by unfold eA; rw[ag h2]; decide
    have B:[j.take 32,A,m].flatten=j.take 32++(A++m):=by simp
    have hS:F.To 3 [j.take 32,A,m]=some (ge 3 (j.take 32++(A++m))):=by
     rw[lj 3 (by right; right; rfl) _ (by simp) (by rw[B]; simp; omega),B]
    have G:=mP 3 (j.take 32++(A++m))
    rw[show Sz 3=64 from rfl]at G
    have I:=B3 (ge 3 (j.take 32++(A++m)))
    rw[G]at I
    have Z:(au (leN (ge 3 (j.take 32++(A++m))))).length<=16:=bv (by rw[show (4294967296:Nat)=256^4 from rfl,<-cr]; exact I)
    have U:nE≠0:=by have:=Cx.1; omega
    have ab:(au (leN (ge 3 (j.take 32++(A++m)))%nE)).length<=8:=aZ (gv (cA (bG _ (by omega)))) hn
    rw[ae (by rw[ak]; exact this),Bj (by omega),aa,hS,aa,qw _ (by omega),aa,aa,rg _ _ (by omega) (by omega),aa,ay,ay,ae U,<-tl]
    dsimp only[Pq]
    rw[wT,aa,MN,aa,yd,aa]
    have J:=An (gX,gY,1,gX*gY) (au (leN (j.drop 32))) (by omega)
    have N:=An (0 - x,y,1,(0 - x)*y) (au (leN (ge 3 (j.take 32++(A++m)))%nE)) (by omega)
    rw[ay]at J N
    dsimp only[q4]at J N ⊢
    rw[J,aa,yd,aa]
    dsimp only[q4]
    rw[N,aa]
    dsimp only
    have p1:=Ea (tiE (gX,gY,1,gX*gY) (leN (j.drop 32))) (tiE (0 - x,y,1,(0 - x)*y) (leN (ge 3 (j.take 32++(A++m)))%nE))
    dsimp only[q4]at p1
    rw[p1,aa]
    dsimp only
    rw[JG,aa]
    dsimp only
    rw[FY,aa]
    have V:ptE (plE (tiE (gX,gY,1,gX*gY) (leN (j.drop 32))) (tiE (0 - x,y,1,(0 - x)*y) (leN (ge 3 (j.take 32++(A++m)))%nE)))=rE x y (leN (j.drop 32)) (leN (ge 3 (j.take 32++(A++m)))%nE):=rfl
    rw[V]
    obtain⟨R,X⟩:∃R,rE x y (leN (j.drop 32)) (leN (ge 3 (j.take 32++(A++m)))%nE)=R:=⟨_,rfl⟩
    rw[X]
    cases h3:onE R.1 R.2 with
    | false=>
     rw[ae (show ¬false=true by decide)]
     show (if ((93:Int) != 0)=true then _ else _)=_
     rw[ag (by decide),u6,ag rfl,ae fun q=>by cases q.2.2.1]
    | true=>
     rw[ag rfl]
     show (if ((0:Int) != 0)=true then _ else _)=_
     rw[ae (by decide),aa,Bb,aa,u6]
     by_cases h4:Fu R.1 R.2=j.take 32
     ·rw[ai h4,ae (by decide),ag ⟨h1,h2,rfl,h4⟩]
     ·rw[av h4,ag (by decide),ae fun q=>h4 q.2.2.2]
   ·have:0<=eA (leN (j.drop 32)) nE:=by unfold eA; rw[ae h2]; split <;> decide
    rw[ag (ai this)]
    show _=some (if _ then _ else _)
    rw[ae fun q=>h2 q.2.1]
  ·rw[ag (by rw[dz]; omega)]
   show _=some (if _ then _ else _)
   rw[ae fun q=>h1 q.1]
abbrev LB:Nat:=140737488351232
def kh (l:List L01):Nat:=(l.map List.length).sum
theorem tJ (l:List L01) (hl:l.length<=10) (hb:∀x∈l,x.length<=LB):∀(r i:Nat),i+r=l.length->loop (F.XG l) (((kh (l.take i):Nat):Int),(i:Int))=some (decide (kh l=0))
 | 0,i,e=>by
  refine cd ?_
  unfold F.XG
  dsimp only
  rw[ae (by rw[ak]; omega),aC (by omega)]
  congr 2
  by_cases h:kh l=0
  ·rw[h,ai rfl]; rfl
  ·rw[av h,c8]; omega
 | r+1,i,e=>by
  have hi:i<l.length:=by omega
  have G:l.take (i+1)=l.take i++[l[i]]:=by rw[List.take_add_one,aA hi]; rfl
  have hs:kh (l.take (i+1))=kh (l.take i)+l[i].length:=by unfold kh; rw[G,List.map_append,List.sum_append]; simp
  have A:∀(m:List L01),(∀x∈m,x.length<=LB)->kh m<=m.length*LB:=by
   intro m
   induction m with
   | nil=>intro _; simp[kh]
   | cons a m ih=>
    intro h
    have j:=ih fun x hx=>h x (by simp[hx])
    have B:=h a (by simp)
    simp only[kh,cZ,List.sum_cons,ca,aW]at j ⊢
    omega
  have j:=A (l.take (i+1)) fun x hx=>hb x (List.mem_of_mem_take hx)
  have B:(l.take (i+1)).length<=10:=by rw[aN]; omega
  have I:kh (l.take (i+1))<=10*LB:=aZ j (aT _ B)
  rw[<-tJ l hl hb r (i+1) (by omega)]
  refine bp ?_
  unfold F.XG
  dsimp only
  rw[ag (ai (by omega)),bX hi,aa,aD (by omega) (by unfold LB at I; omega),aG,aD (by omega) (by omega),hs]
  rfl
theorem pC (l:List L01) (hl:l.length<=10) (hb:∀x∈l,x.length<=LB):F.T0 l=some (decide (kh l=0)):=tJ l hl hb l.length 0 (by omega)
noncomputable def tm (kty crv:Int) (s n e x y:L01):Bool:=
 if kty=1 then decide (crv=0/\32<=s.length/\s.length<=4096/\kh [n,e,x,y]=0)
 else if kty=2 then decide (crv=0/\kh [s,x,y]=0/\lB n e)
 else if kty=3 then decide ((n9 crv x y).2.2.2=0/\kh [s,n,e]=0)
 else if kty=4 then decide (crv=3/\kh [s,n,e,y]=0/\(r7 x).isSome=true) else false
theorem n6 (a b:Int):(a == b)=decide (a=b):=by
 by_cases h:a=b
 ·rw[ai h,fL]; exact h
 ·rw[av h,c8]; exact h
theorem Nr (kty crv:Int) (s n e x y:L01) (hs:s.length<=LB) (hn:n.length<=LB) (he:e.length<=LB) (hx:x.length<=LB) (hy:y.length<=LB):F.Zt kty crv s n e x y=some (tm kty crv s n e x y):=by
 have j:F.T0 [n,e,x,y]=some (decide (kh [n,e,x,y]=0)):=pC _ (by simp) (by simp[hn,he,hx,hy])
 have A:F.T0 [s,x,y]=some (decide (kh [s,x,y]=0)):=pC _ (by simp) (by simp[hs,hx,hy])
 have B:F.T0 [s,n,e]=some (decide (kh [s,n,e]=0)):=pC _ (by simp) (by simp[hs,hn,he])
 have G:F.T0 [s,n,e,y]=some (decide (kh [s,n,e,y]=0)):=pC _ (by simp) (by simp[hs,hn,he,hy])
 unfold F.Zt tm
 simp only[n6,ak]
 by_cases k1:kty=1
 ·rw[ag k1,ag k1]
  by_cases c1:crv=0
  ·rw[ag c1]
   by_cases c2:32<=s.length
   ·rw[ag (by omega)]
    by_cases c3:s.length<=4096
    ·rw[ag (by omega),j,aa]; congr 1; rw[fS]; exact⟨fun q=>⟨c1,c2,c3,q⟩,fun q=>q.2.2.2⟩
    ·rw[ae (by omega),av fun q=>c3 q.2.2.1]
   ·rw[ae (by omega),av fun q=>c2 q.2.1]
  ·rw[ae c1,av fun q=>c1 q.1]
 rw[ae k1,ae k1]
 by_cases k2:kty=2
 ·rw[ag k2,ag k2]
  by_cases c1:crv=0
  ·rw[ag c1,A,aa]
   by_cases c2:kh [s,x,y]=0
   ·rw[ag (ai c2),BY n e hn he,aa]
    by_cases c3:lB n e
    ·rw[ag c3,ai (show crv=0/\kh [s,x,y]=0/\lB n e from⟨c1,c2,c3⟩)]; rfl
    ·rw[ae c3,av (show ¬(crv=0/\kh [s,x,y]=0/\lB n e) from fun q=>c3 q.2.2)]; rfl
   ·rw[ae (by rw[ak]; exact c2),av fun q=>c2 q.2.1]
  ·rw[ae c1,av fun q=>c1 q.1]
 rw[ae k2,ae k2]
 by_cases k3:kty=3
 ·rw[ag k3,ag k3,xH,aa]
  by_cases c1:(n9 crv x y).2.2.2=0
  ·rw[ag c1,B,aa]; congr 1; rw[fS]; exact⟨fun q=>⟨c1,q⟩,fun q=>q.2⟩
  ·rw[ae c1,av fun q=>c1 q.1]
 rw[ae k3,ae k3]
 by_cases k4:kty=4
 ·rw[ag k4,ag k4]
  by_cases c1:crv=3
  ·rw[ae (by rw[c1]; decide),G,aa]
   by_cases c2:kh [s,n,e,y]=0
   ·rw[ai c2]
    unfold F.aac
    dsimp only
    rw[ae (by decide),vj,aa]
    cases hd:r7 x with
    | none=>rw[av fun q=>by cases q.2.2]; rfl
    | some p=>rw[ai ⟨c1,c2,rfl⟩]; rfl
   ·rw[av c2,av fun q=>c2 q.2.1]; rfl
  ·rw[ag (by rw[dz]; exact c1),av fun q=>c1 q.1]; rfl
 rw[ae k4,ae k4]
theorem GD (kty crv:Int) (s n e x y:L01) (hs:s.length<=LB) (hn:n.length<=LB) (he:e.length<=LB) (hx:x.length<=LB) (hy:y.length<=LB):F.XR kty crv s n e x y=some (if tm kty crv s n e x y=true then 0 else 90):=by
 unfold F.XR
 rw[Nr kty crv s n e x y hs hn he hx hy,aa]
 cases tm kty crv s n e x y <;> rfl
def iZ (a:Int):Int×Int×Int:=
 if 1<=a/\a<=3 then (1,a,0) else if 4<=a/\a<=6 then (2,a - 3,0) else if 7<=a/\a<=9 then (3,a - 6,0) else if a=10 then (4,1,1) else if a=11 then (4,2,2) else if a=12 then (5,0,3) else (0,0,0)
theorem rZ (a:Int):(a=1\/a=2\/a=3\/a=4\/a=5\/a=6\/a=7\/a=8\/a=9\/a=10\/a=11\/a=12)\/(a<1\/12<a):=by omega
theorem DO (a:Int):F.W4 a=some (iZ a):=by
 rcases rZ a with (rfl | rfl | rfl | rfl | rfl | rfl | rfl | rfl | rfl | rfl | rfl | rfl) | h
 all_goals first | rfl | skip
 have j:∀k:Int,1<=k->k<=12->(a == k)=false:=fun k B G=>by rw[c8]; omega
 have A:iZ a=(0,0,0):=by
  unfold iZ
  rw[ae (by omega),ae (by omega),ae (by omega),ae (by omega),ae (by omega),ae (by omega)]
 rw[A]
 unfold F.W4 F.Yc F.YE F.Zs
 simp only[j 1 (by decide) (by decide),j 2 (by decide) (by decide),j 3 (by decide) (by decide),j 4 (by decide) (by decide),j 5 (by decide) (by decide),j 6 (by decide) (by decide),j 7 (by decide) (by decide),j 8 (by decide) (by decide),j 9 (by decide) (by decide),
  j 10 (by decide) (by decide),j 11 (by decide) (by decide),j 12 (by decide) (by decide)]
 rfl
def Cd (a kty crv:Int):Bool:=
 if 1<=a/\a<=3 then decide (kty=1) else if 4<=a/\a<=9 then decide (kty=2) else if a=10\/a=11 then decide (kty=3/\crv=a - 9) else if a=12 then decide (kty=4/\crv=3) else false
theorem ML (a kty crv:Int) (s n e x y:L01):F.YF a kty crv s n e x y=some (Cd a kty crv):=by
 unfold F.YF
 rw[DO,aa]
 have A:∀(p q:Int) (h:¬p=q),decide (p=q)=false:=fun p q h=>av h
 rcases rZ a with (rfl | rfl | rfl | rfl | rfl | rfl | rfl | rfl | rfl | rfl | rfl | rfl) | h
 all_goals first
  | (show some (kty == 1)=some (decide (kty=1)); rw[n6])
  | (show some (kty == 2)=some (decide (kty=2)); rw[n6])
  | (show (if (kty == 3)=true then some (crv == 1) else some false)=some (decide (kty=3/\crv=10 - 9)); rw[n6,n6]; by_cases h:kty=3 <;> simp[h])
  | (show (if (kty == 3)=true then some (crv == 2) else some false)=some (decide (kty=3/\crv=11 - 9)); rw[n6,n6]; by_cases h:kty=3 <;> simp[h])
  | (show (if (kty == 4)=true then some (crv == 3) else some false)=some (decide (kty=4/\crv=3)); rw[n6,n6]; by_cases h:kty=4 <;> simp[h])
  | skip
 have j:iZ a=(0,0,0):=by
  unfold iZ
  rw[ae (by omega),ae (by omega),ae (by omega),ae (by omega),ae (by omega),ae (by omega)]
 have hf:Cd a kty crv=false:=by
  unfold Cd
  rw[ae (by omega),ae (by omega),ae (by omega),ae (by omega)]
 rw[j,hf]
 rfl
noncomputable def FU (k:Int×Int×Int) (s n e x y m sig:L01):Bool:=
 if k.1=1 then decide (qF k.2.1 s m=sig) else if k.1=2 then decide (La k.2.1 n e m sig=0) else if k.1=3 then decide (J4 k.2.1 n e m sig=0) else if k.1=4 then decide (IG k.2.1 k.2.2 x y m sig=0) else decide (edT x m sig=0)
noncomputable def qe (a kty crv:Int) (s n e x y m sig:L01):Int:=
 if (iZ a).1=0 then 111 else if Cd a kty crv=true then if tm kty crv s n e x y=true/\¬((iZ a).1=1/\s.length<Sz (iZ a).2.1) then if FU (iZ a) s n e x y m sig=true then 0 else 91 else 90 else 105
theorem yu {a:Int} (h:(iZ a).1=1):zr (iZ a).2.1:=by
 rcases rZ a with (rfl | rfl | rfl | rfl | rfl | rfl | rfl | rfl | rfl | rfl | rfl | rfl) | j
 all_goals first | (exact .inl rfl) | (exact .inr (.inl rfl)) | (exact .inr (.inr rfl)) | (exact absurd h (by decide)) | skip
 unfold iZ at h
 rw[ae (by omega),ae (by omega),ae (by omega),ae (by omega),ae (by omega),ae (by omega)]at h
 exact absurd h (by decide)
theorem pA (z:Int):F.Ur z=some (if z=0 then 0 else 91):=by
 unfold F.Ur
 by_cases h:z=0
 ·rw[ae (by rw[h]; decide),ag h]
 ·rw[ag (by rw[dz]; exact h),ae h]
theorem sR {p:Prop} [Decidable p]:(if decide p=true then (0:Int) else 91)=if p then 0 else 91:=by simp
theorem yv (a:Int) (s n e x y m j:L01) (hs:s.length<=LB) (hn:n.length<=LB) (he:e.length<=LB) (hm:m.length<=LB) (hg:j.length<=LB):F.V7 s n e x y m j (iZ a) false=some (if FU (iZ a) s n e x y m j=true then 0 else 91):=by
 unfold LB at hs hn he hm hg
 unfold F.V7 FU
 rw[ae (by decide)]
 simp only[n6,ak]
 by_cases k1:(iZ a).1=1
 ·rw[ag k1,ag k1,zf _ (yu k1) _ _ _ (by omega) (by omega),aa]
  by_cases h:qF (iZ a).2.1 s m=j
  ·rw[ai h]; rfl
  ·rw[av h]; rfl
 rw[ae k1,ae k1]
 by_cases k2:(iZ a).1=2
 ·rw[ag k2,ag k2,FZ _ _ _ _ _ hn he (by omega) hg,aa,pA,sR]
 rw[ae k2,ae k2]
 by_cases k3:(iZ a).1=3
 ·rw[ag k3,ag k3,Ew _ _ _ _ _ hn he (by omega) hg,aa,pA,sR]
 rw[ae k3,ae k3]
 by_cases k4:(iZ a).1=4
 ·rw[ag k4,ag k4,Jo _ _ _ _ _ _ (by omega) hg,aa,pA,sR]
 rw[ae k4,ae k4,Fl _ _ _ (by omega) hg,aa,pA,sR]
theorem H3 (a kty crv:Int) (s n e x y m j:L01) (hs:s.length<=LB) (hn:n.length<=LB) (he:e.length<=LB) (hx:x.length<=LB) (hy:y.length<=LB) (hm:m.length<=LB) (hg:j.length<=LB):F.Wl a kty crv s n e x y m j=some (qe a kty crv s n e x y m j):=by
 unfold F.Wl qe
 rw[DO,aa,n6]
 by_cases k0:(iZ a).1=0
 ·rw[ag (ai k0),ag k0]
 rw[ae (by rw[ak]; exact k0),ae k0,ML,aa]
 cases hf:Cd a kty crv with
 | false=>rfl
 | true=>
  rw[ae (by decide),ag rfl,GD kty crv s n e x y hs hn he hx hy,aa]
  cases hgd:tm kty crv s n e x y with
  | false=>rw[ag (by decide),ae (show ¬(false=true/\_) from fun q=>by cases q.1)]; rfl
  | true=>
   rw[ag rfl,ae (by decide),n6]
   by_cases k1:(iZ a).1=1
   ·have B:=yu k1
    have A:F.Tp (iZ a).2.1=some ((Sz (iZ a).2.1:Nat):Int):=B9 _ B
    rw[ag (ai k1),A,aa]
    by_cases c:s.length<Sz (iZ a).2.1
    ·rw[ai (by omega),ae fun q=>q.2 ⟨k1,c⟩]; rfl
    ·rw[av (by omega),ag ⟨rfl,fun q=>c q.2⟩]; exact yv a s n e x y m j hs hn he hm hg
   ·rw[ae (by rw[ak]; exact k1),ag ⟨rfl,fun q=>k1 q.1⟩]; exact yv a s n e x y m j hs hn he hm hg
end Go.Gk.Bn
end
