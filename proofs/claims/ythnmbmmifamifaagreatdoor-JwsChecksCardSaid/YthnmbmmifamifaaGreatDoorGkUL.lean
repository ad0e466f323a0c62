import Derived.Test.YthnmbmmifamifaaGreatDoorGkP0
import Derived.Test.YthnmbmmifamifaaGreatDoorGkFman
set_option linter.unusedVariables false
set_option linter.unusedSimpArgs false
set_option linter.unusedSectionVars false
section
namespace Go.Gk.Bn
open Go Go.Gk Go.Gk.Sh
theorem Lc {τ:Type} (x:τ):au [x] 0=some x:=rfl
theorem I8 (m a:L8) (hm:m.length<=50000000000000) (ha:a.length<=50000000000000) (A:(am (val a)).length<=128) (B:(am (val m)).length<=128) (G:1<val m) :
  F.U3 m [a]=some 0:=by
 unfold F.U3
 have k:F.UP m [a] 0=some (.inl 1):=by
  unfold F.UP
  rw[af (by simp),Lc,aa,fX a ha,aa,ae (by simp only[aj]; omega)]; rfl
 have z:F.UP m [a] 1=bz (some 0):=by
  unfold F.UP
  rw[ae (by simp),fX m hm,aa,ae (by simp only[aj]; omega)]
  unfold F.U4
  have j:val [1]=1:=rfl
  have hc:cW (val m) 1=1:=by unfold cW; rw[ae q10,ae q10]
  rw[aa,jj _ _ q10 (by simp),aa,j,hc,ae q11]
 rw[bv k,bm z]
def Cof (m a x r:Nat):Prop:=(m:Int) ∣ (x:Int)*a - r
theorem Cof.step {m a x y r s q t:Nat} (O:Cof m a x r) (R:Cof m a y s) (hm:0<m) (A:r=q*s+t):Cof m a ((x+m - q*y%m)%m) t:=by
 unfold Cof at *
 obtain⟨U,X⟩:=O
 obtain⟨V,Y⟩:=R
 have B:=ba (q*y) hm
 have G:((q*y%m:Nat):Int)=q*y - m*((q*y / m:Nat):Int):=by
  have:=cQ (q*y) m
  have z:((q*y:Nat):Int)=((m*(q*y / m)+q*y%m:Nat):Int):=by rw[this]
  rw[jl,dK,dK m]at z
  omega
 obtain⟨N,I⟩:∃N,x+m - q*y%m=N:=⟨_,rfl⟩
 have j:(N:Int)=x+m - ((q*y%m:Nat):Int):=by omega
 have J:((N%m:Nat):Int)=N - m*((N / m:Nat):Int):=by
  have:=cQ N m
  have z:(N:Int)=((m*(N / m)+N%m:Nat):Int):=by rw[this]
  rw[jl,dK]at z
  omega
 rw[I]
 have k:(t:Int)=r - q*s:=by rw[A]; push_cast; omega
 refine⟨U - q*V+a+a*((q*y / m:Nat):Int) - a*((N / m:Nat):Int),?_⟩
 rw[J,j,G,k]
 generalize ((q*y / m:Nat):Int)=Z
 generalize ((N / m:Nat):Int)=k2
 clear G J k A B hm I j
 grobner
theorem Cof.le {m a x r:Nat} (h:Cof m a x r) (hm:0<m) (j:r=1):a*(x%m)%m=1%m:=by
 subst j
 obtain⟨c,e⟩:=h
 have k:((a*x:Nat):Int)=1+m*c:=by push_cast; rw[Int.mul_comm]; omega
 have z:(((a*x)%m:Nat):Int)=((1%m:Nat):Int):=by
  rw[cv,k,Int.add_mul_emod_self_left]; rfl
 rw[cF,eA,<-cF]
 exact Int.natCast_inj.1 z
theorem zS (m a:Nat) (z:1<m) (A:(am m).length<=128) (hg:Nat.gcd a m=1):∀n s r x y:Nat,s<=n->s<=m->r<=m->x<m->y<m->Cof m a x r->Cof m a y s->Nat.gcd r s=1 ->
  ∃v,v<m/\a*v%m=1/\loop (F.ZB (am m)) (am r,am s,am x,am y)=some (am v,0)
 | n,s,r,x,y,hsn,hs,hr,hx,hy,c1,c2,hgr=>by
  have L:∀k,k<=m->(am k).length<=128:=fun k I=>aA (db I) A
  by_cases h0:s=0
  ·subst h0
   rw[Nat.gcd_zero_right]at hgr
   refine⟨x%m,ba _ q10,?_,?_⟩
   ·have:=c1.le q10 hgr
    rwa [av z]at this
   ·refine bm ?_
    unfold F.ZB
    dsimp only
    rw[ae (by rw[cu]; decide)]
    unfold F.U4
    have j:val [1]=1:=rfl
    rw[aa,jj _ _ (by have:=L r hr; omega) (by simp),aa,al,j,hgr,ae q11,kL _ _ (by have:=L x q10; omega) q10 (by rw[al]; omega),aa,al,al]
  ·cases n with
   | zero=>omega
   | succ n=>
    have J:=cQ r s
    have O:=ba r (show 0<s by omega)
    have R:=ba (r / s*y) (show 0<m by omega)
    have B:r / s<=m:=aA (dy _ _) hr
    have l1:=L r hr; have U:=L s hs; have V:=L x q10; have X:=L y q10; have Y:=L (r / s) B
    have Z:=kc (r / s) y
    have l7:=kH x m
    obtain⟨v,N,j,G⟩:=zS m a z A hg n (r%s) s y ((x+m - r / s*y%m)%m) q10 q10 hs hy (ba _ q10) c2
     (c1.step c2 q10 (by rw[aP]; exact J.symm)) (by rw[eg,<-jF,eg]; exact hgr)
    refine⟨v,N,j,?_⟩
    rw[<-G]
    refine bv ?_
    unfold F.ZB
    dsimp only
    have l8:=db (show x+m - r / s*y%m<=x+m by omega)
    rw[af (by have:=mi.2 h0; simp only[aj]; omega),oJ _ _ q10 q10 (by rw[al]; exact h0),aa,al,al,nX _ _ q10 q10,aa,al,al]
    dsimp only
    rw[mC _ _ q10,aa,al,al,kL _ _ q10 q10 (by rw[al]; omega),aa,al,al]
    have l9:=db (show r / s*y%m<=m by omega)
    rw[ku _ _ q10 (by rw[al,al]; omega),aa,al,al,kL _ _ q10 q10 (by rw[al]; omega),aa,al,al]
    rfl
theorem DA (n0:Bool) (j:L8) (x:Int) (h:nl x<=50000000000000):F.Vn n0 j (bi x).1 (bi x).2=some (bi (x.natAbs:Int)):=by
 unfold F.Vn
 have k:(bi x).2=am (x.natAbs:Int).natAbs:=by rw[cU]; rfl
 rw[FA (bi x).2 h,aa,k,mN _ _ _ (x.natAbs:Int) (fun _=>by simp),aa]
theorem SJ (s a b d t:Int) (h:s*t<=0) (hd:0<=d):(s - d*t).natAbs=s.natAbs+d.natAbs*t.natAbs:=by
 rcases Int.lt_trichotomy t 0 with k | k | k
 ·have hs:0<=s:=by
   rcases Int.lt_or_le s 0 with j | j
   ·have:=Int.mul_pos_of_neg_of_neg j k; omega
   ·exact j
  have A:0<=d*-t:=gp hd q10
  have z:(d*-t).natAbs=d.natAbs*t.natAbs:=by rw[Int.natAbs_mul,Int.natAbs_neg]
  rw[<-z]
  have B:s - d*t=s+d*-t:=by rw[Int.mul_neg]; omega
  rw[B]; omega
 ·subst k; simp
 ·have hs:s<=0:=by
   rcases Int.lt_or_le 0 s with j | j
   ·have:=Int.mul_pos j k; omega
   ·exact j
  have A:0<=d*t:=gp hd q10
  have z:(d*t).natAbs=d.natAbs*t.natAbs:=Int.natAbs_mul ..
  rw[<-z]; omega
theorem Qk (s d t:Int) (h:s*t<=0) (hd:0<=d):t*(s - d*t)<=0:=by
 have k:0<=d*(t*t):=gp hd (by rcases Int.le_total 0 t with j | j; exact gp j j; exact Int.mul_nonneg_of_nonpos_of_nonpos j j)
 have j:t*(s - d*t)=s*t - d*(t*t):=by grobner
 omega
theorem BC (m a:Nat) (O:1<m) (A:nl (m:Int)<=1000000) (R:0<a) (U:a<m) (hg:Nat.gcd a m=1):∀n q p:Nat,∀s t:Int,q<=n->q<=m->p<=m->0<p->s*t<=0->s.natAbs<=m->t.natAbs<=m ->
  s.natAbs*q+t.natAbs*p=m->(m:Int) ∣ s*a - p->(m:Int) ∣ t*a - q->Nat.gcd p q=1 ->
  ∃z:Int,z.natAbs<=m/\(m:Int) ∣ z*a - 1/\loop (F.ZJ false [] false [] (bi (a:Int)).1 (bi (a:Int)).2 (bi (m:Int)).1 (bi (m:Int)).2)
   ((bi (p:Int)).1,(bi (p:Int)).2,(bi (q:Int)).1,(bi (q:Int)).2,(bi s).1,(bi s).2,(bi t).1,(bi t).2)=some ((bi 1).1,(bi 1).2,(bi z).1,(bi z).2)
 | n,q,p,s,t,hqn,hqm,hpm,hp0,hst,hs,ht,hb,d1,d2,hgg=>by
  have L:∀k:Int,k.natAbs<=m->nl k<=1000000:=fun k hk=>aA (mF q10) A
  by_cases h0:q=0
  ·subst h0
   rw[Nat.gcd_zero_right]at hgg
   subst hgg
   refine⟨s,hs,by simpa using d1,?_⟩
   refine bm ?_
   unfold F.ZJ
   dsimp only
   have l1:=L s hs; have l2:=L (a:Int) q10; have l3:=CN (a:Int) s; have l4:=Iz ((1:Nat):Int) ((a:Int)*s); have l5:=L ((1:Nat):Int) q10
   rw[ae (by rw[show (bi ((0:Nat):Int)).2=[] from cu]; decide),ae (by rw[bi1 q10]; decide),Cs _ _ _ _ q10,aa,
    Gb _ _ q10 q10,aa]
   have j:∀x:Int,nl x<=70000000->∃r,F.aaK (bi x).1 (bi x).2 (bi (m:Int)).1 (bi (m:Int)).2=some r:=fun x hx=>by
    have e:F.aaK (bi x).1 (bi x).2 (bi (m:Int)).1 (bi (m:Int)).2=ag (F.W9 (bi x).1 (bi x).2 (bi x).1 (bi x).2 (bi (m:Int)).1 (bi (m:Int)).2 false []) fun B=>some (B.1,B.2.1):=rfl
    rw[e,tC _ _ _ _ _ _ q10 q10 q10,aa]
    exact⟨_,rfl⟩
   obtain⟨r,hr⟩:=j (((1:Nat):Int) - (a:Int)*s) q10
   rw[hr,aa,Dp _ _ _ q10,aa,Dp _ _ _ q10,aa]
   rfl
  ·cases n with
   | zero=>omega
   | succ n=>
    have j:=cQ p q
    have ca:=ba p (show 0<q by omega)
    have b4:p / q<=m:=aA (dy _ _) hpm
    have V:Int.tdiv (p:Int) (q:Int)=((p / q:Nat):Int):=by rw[bQ (eb p)]; rfl
    have X:Int.tmod (p:Int) (q:Int)=((p%q:Nat):Int):=by rw[dv (eb p)]; rfl
    have J:Nat.gcd q (p%q)=1:=by rw[eg,<-jF,eg]; exact hgg
    generalize p / q=k at *
    generalize p%q=r at *
    have N:=SJ s 0 0 (k:Int) t hst q10
    rw[cU]at N
    have G:t.natAbs*r+(s - (k:Int)*t).natAbs*q=m:=by
     rw[N,<-hb]
     have h3:t.natAbs*p=t.natAbs*(q*(k)+r):=by rw[j]
     rw[h3,aF,bd]
     have h4:k*t.natAbs*q=t.natAbs*(q*(k)):=by
      rw[aP (k) t.natAbs,aD,aP (k) q]
     rw[h4]; omega
    have I:(s - (k:Int)*t).natAbs<=m:=by
     have:=dX (s - (k:Int)*t).natAbs (show 0<q by omega)
     omega
    obtain⟨c1,cf⟩:=d1
    obtain⟨Y,Z⟩:=d2
    have d3:(m:Int) ∣ (s - (k:Int)*t)*a - (r:Int):=by
     refine⟨c1 - (k:Int)*Y,?_⟩
     have h5:(p:Int)=q*(k:Int)+(r:Int):=by
      have:=cD (fun x:Nat=>(x:Int)) j
      simp only[jl,dK]at this
      exact this.symm
     generalize (k:Int)=k at *
     generalize (r:Int)=k2 at *
     clear N G I hb hst hs ht V X
     grobner
    obtain⟨z,hz,ac,ad⟩:=BC m a O A R U hg n r q t (s - (k:Int)*t) q10 q10 hqm q10 (Qk _ _ _ hst q10) ht I G ⟨Y,Z⟩ d3
     J
    refine⟨z,hz,ac,?_⟩
    rw[<-ad]
    refine bv ?_
    unfold F.ZJ
    dsimp only
    have l1:=L (p:Int) q10; have l2:=L (q:Int) q10; have l3:=L s hs; have l4:=L t ht; have l5:=L (k:Int) q10
    have l6:=CN (k:Int) t
    rw[af (by have:=mi.2 h0; rw[show (bi (q:Int)).2=am q by rw[bi2,cU]]; simp only[aj]; omega),tC _ _ _ _ _ _ q10 q10 q10,aa,V,X]
    dsimp only
    rw[Cs _ _ _ _ q10,aa,JO _ _ _ _ q10 q10,aa]
    rfl
theorem AC (n0:Bool) (R:L8) (a m:Nat) (B:1<m) (j:nl (m:Int)<=1000000) (ha:nl (a:Int)<=1000000) (hg:Nat.gcd a m=1) :
  ∃v:Nat,v<m/\a*v%m=1/\F.Xr n0 R (bi (a:Int)).1 (bi (a:Int)).2 (bi (m:Int)).1 (bi (m:Int)).2=some (bi (v:Int)):=by
 have G:=ba a (show 0<m by omega)
 have k:Nat.gcd (a%m) m=1:=by rw[<-jF,eg]; exact hg
 have A:0<a%m:=by
  rcases bR (a%m) with h | h
  ·rw[h,Nat.gcd_zero_left]at k; omega
  ·exact h
 obtain⟨z,hz,I,J⟩:=BC m (a%m) B j A G k m m (a%m) 1 0 (aq _) (aq _) q10 A q10 q10 q10 (by simp) ⟨0,by simp⟩ ⟨-1,by omega⟩ k
 have lz:nl z<=1000000:=aA (mF q10) j
 have N:=jh z (show (m:Int)≠0 by omega)
 have Y:=Int.emod_lt_of_pos z (show (0:Int)<m by omega)
 refine⟨(z%m).toNat,by omega,?_,?_⟩
 ·obtain⟨c,hc⟩:=I
  have O:((a*(z%m).toNat%m:Nat):Int)=1:=by
   rw[cv,dK,jd N,show (a:Int)*(z%m)%m=(a:Int)*z%m by rw[Int.mul_emod,Int.emod_emod,<-Int.mul_emod]]
   have U:(a:Int)*z%m=(((a%m:Nat):Int)*z)%m:=by rw[cv,Int.mul_emod,Int.mul_emod ((a:Int)%m) z,Int.emod_emod]
   rw[U,show ((a%m:Nat):Int)*z=1+m*c by rw[Int.mul_comm]; omega,Int.add_mul_emod_self_left]
   exact gg q10 q10
  omega
 ·unfold F.Xr
  rw[DA _ _ _ q10,aa,cU,Kd _ _ _ _ q10 q10 q10 (fun h=>by omega),aa]
  have e:((a:Int)%(m:Int))=((a%m:Nat):Int):=by rw[cv]
  rw[e]
  unfold F.aca F.acD
  have O:((bi ((a%m:Nat):Int)).2.length:Int)≠0:=by
   rw[bi2,cU]; have:=mi.2 (show a%m≠0 by omega); omega
  have V:((bi (m:Int)).2.length:Int)≠0:=by
   rw[bi2,cU]; have:=mi.2 (show m≠0 by omega); omega
  have l1:nl ((a%m:Nat):Int)<=1000000:=aA (mF q10) j
  rw[ae (by simpa using O),ae (by simpa using V),DA _ _ _ q10,aa,DA _ _ _ q10,aa,cU,cU,
   oK 1 q11 q11,aa,oK 0 q11 q11,aa,J,aa,aa]
  dsimp only
  rw[wK 1 1 (by have:=CZ; omega) (by have:=CZ; omega),aa,ae q11,Kd _ _ _ _ q10 q10 q10 (fun h=>by omega),aa]
  have X:z%(m:Int)=(((z%m).toNat:Nat):Int):=by omega
  rw[<-X]
end Go.Gk.Bn
end
section
namespace Go.Gk.Pr
def Prm (p:Nat):Prop:=1<p/\∀d,d ∣ p->d=1\/d=p
theorem Prm.coprime {p a:Nat} (h:Prm p) (ha:¬p ∣ a):Nat.Coprime p a:=by
 rcases h.2 _ (jO p a) with e | e
 ·exact e
 ·exact (ha (e ▸ gO p a)).elim
theorem Prm.dvd_mul {p a b:Nat} (h:Prm p) (hd:p ∣ a*b):p ∣ a\/p ∣ b:=by
 by_cases ha:p ∣ a
 ·exact .inl ha
 ·exact .inr ((h.coprime ha).dvd_of_dvd_mul_left hd)
theorem tj:∀n d:Nat,d<=n->1<d->∃r,Prm r/\r ∣ d
 | 0,d,h,h1=>by omega
 | n+1,d,h,h1=>by
  by_cases hp:Prm d
  ·exact⟨d,hp,Nat.dvd_refl d⟩
  ·have:∃e,e ∣ d/\e≠1/\e≠d:=by
    refine iR fun hn=>hp ⟨h1,fun e he=>?_⟩
    by_cases j:e=1
    ·exact .inl j
    by_cases k:e=d
    ·exact .inr k
    exact (hn ⟨e,he,j,k⟩).elim
   obtain⟨e,he,j,k⟩:=this
   have A:=fG q10 he
   have B:e≠0:=by rintro rfl; exact (by omega:d≠0) (Nat.zero_dvd.1 he)
   obtain⟨r,z,hd⟩:=tj n e q10 q10
   exact⟨r,z,Nat.dvd_trans hd he⟩
def nP:List Nat->Nat
 | []=>1
 | x :: l=>x*nP l
theorem G0 {l j:List Nat} (h:l.Perm j):nP l=nP j:=by
 induction h with
 | nil=>rfl
 | cons x _ ih=>simp only[nP]; rw[ih]
 | swap x y l=>simp only[nP]; rw[<-aD,<-aD,aP y x]
 | trans _ _ ih1 ih2=>rw[ih1,ih2]
theorem Ag (r a:Nat):∀l:List Nat,nP (l.map (fun x=>a*x%r))%r=a^l.length*nP l%r
 | []=>by simp[nP]
 | x :: l=>by
  have j:=Ag r a l
  simp only[dm,nP,dN,aU]
  rw[cF,j,eA,<-cF]
  congr 1
  rw[aD a x,aP a,aP (a^l.length) a]
  simp only[aD,aP,dO]
theorem Al {r:Nat} (h:Prm r):∀l:List Nat,(∀x∈l,¬r ∣ x)->¬r ∣ nP l
 | [],_=>by simp[nP]; have:=h.1; omega
 | x :: l,hl=>fun hd=>by
  rcases h.dvd_mul hd with j | j
  ·exact hl x (fQ ..) j
  ·exact Al h l (fun y hy=>hl y (gU _ hy)) j
theorem s8 {r a b:Nat} (h:a%r=b%r) (j:b<=a):r ∣ a - b:=ee (Nat.sub_mod_eq_zero_of_mod_eq h)
theorem rK {r a x y:Nat} (h:Prm r) (ha:¬r ∣ a) (e:a*x%r=a*y%r):x%r=y%r:=by
 have z:∀x y:Nat,y<=x->a*x%r=a*y%r->x%r=y%r:=fun x y j e=>by
  have B:=s8 e (bf a j)
  rw[<-Nat.mul_sub]at B
  rcases h.dvd_mul B with A | A
  ·exact (ha A).elim
  ·obtain⟨k,G⟩:=A
   have:x=y+r*k:=by omega
   rw[this,eJ]
 rcases Nat.le_total y x with j | j
 ·exact z x y j e
 ·exact (z y x j e.symm).symm
theorem Oy {r b:Nat} (m n:Nat):b^m%r=1%r->b^n%r=1%r->b^(Nat.gcd m n)%r=1%r:=by
 refine Nat.gcd.induction (P:=fun m n=>b^m%r=1%r->b^n%r=1%r->b^(Nat.gcd m n)%r=1%r) m n (fun n _ h=>by rwa [Nat.gcd_zero_left]) (fun m n hm z j k=>?_)
 rw[jF]
 refine z ?_ j
 have A:b^n=(b^m)^(n / m)*b^(n%m):=by rw[<-bB,<-bu,cQ]
 rw[A,cF,Nat.pow_mod,j,<-Nat.pow_mod,Nat.one_pow,<-cF,ci]at k
 exact k
theorem vo:∀{l j:List Nat},l.Nodup->(∀x∈l,x∈j)->j.length<=l.length->l.Perm j
 | [],j,_,_,h=>by
  have:j=[]:=bA (by simpa using h)
  rw[this]
 | x :: l,j,hn,hs,h=>by
  have hx:=hs x (fQ ..)
  have hp:=List.perm_cons_erase hx
  have k:=List.nodup_cons.1 hn
  have hl:=hp.length_eq
  refine List.Perm.trans (List.Perm.cons x (vo k.2 (fun y hy=>?_) ?_)) hp.symm
  ·have z:y≠x:=by rintro rfl; exact k.1 hy
   exact (List.mem_erase_of_ne z).2 (hs y (gU _ hy))
  ·simp only[dN]at h hl; omega
theorem tK {r a:Nat} (h:Prm r) (ha:¬r ∣ a):a^(r - 1)%r=1:=by
 have J:=h.1
 have B:∀x,0<x->x<r->¬r ∣ x:=fun x N j hd=>by have:=fG N hd; omega
 have G:((List.range' 1 (r - 1)).map (fun x=>a*x%r)).Nodup:=by
  refine List.pairwise_map.2 (List.Pairwise.imp_of_mem (R:=(·≠·)) ?_ (List.nodup_range' (s:=1) (n:=r - 1)))
  intro x y hx hy I e
  have:=jA.1 hx
  have:=jA.1 hy
  have j:=rK h ha e
  rw[av q10,av q10]at j
  exact I j
 have A:∀y∈(List.range' 1 (r - 1)).map (fun x=>a*x%r),y∈List.range' 1 (r - 1):=by
  intro y hy
  obtain⟨x,hx,rfl⟩:=List.mem_map.1 hy
  have:=jA.1 hx
  have j:=ba (a*x) (show 0<r by omega)
  refine jA.2 ⟨?_,by omega⟩
  rcases bR (a*x%r) with k | k
  ·rcases h.dvd_mul (ee k) with z | z
   ·exact (ha z).elim
   ·exact (B x q10 q10 z).elim
  ·exact k
 have hp:((List.range' 1 (r - 1)).map (fun x=>a*x%r)).Perm (List.range' 1 (r - 1)):=vo G A (by simp)
 have j:=Ag r a (List.range' 1 (r - 1))
 rw[G0 hp,List.length_range']at j
 have hc:=Al h (List.range' 1 (r - 1)) (fun x hx=>by have:=jA.1 hx; exact B x q10 q10)
 have k:(nP (List.range' 1 (r - 1)))*(a^(r - 1))%r=(nP (List.range' 1 (r - 1)))*1%r:=by rw[de,j,aP]
 have z:=rK h hc k
 rwa [av J]at z
def frc {α:Type} (n:Nat) (k:Nat->α):α:=match n with
 | 0=>k 0
 | m+1=>k (m+1)
theorem P1 {α:Type} (n:Nat) (k:Nat->α):frc n k=k n:=by cases n <;> rfl
def pwG (m a e:Nat):Nat->Nat->Nat
 | 0,acc=>acc
 | k+1,acc=>frc (bif Nat.beq (e / 2^k%2) 0 then acc*acc%m else acc*acc%m*a%m) (pwG m a e k)
theorem Ia (m a e:Nat):∀k acc:Nat,acc=a^(e / 2^k)%m->pwG m a e k acc=a^e%m
 | 0,acc,h=>by rw[h]; simp[pwG]
 | k+1,acc,h=>by
  unfold pwG
  rw[P1]
  refine Ia m a e k _ ?_
  have j:e / 2^k=2*(e / 2^(k+1))+e / 2^k%2:=by
   rw[aU,<-dq]; omega
  generalize e / 2^k%2=c at j ⊢
  rw[j,h]
  have z:(a^(e / 2^(k+1))%m)*(a^(e / 2^(k+1))%m)%m=a^(2*(e / 2^(k+1)))%m:=by
   rw[<-cF,<-bu]; congr 2; omega
  rw[z]
  cases hb:Nat.beq c 0 with
  | true=>
   have:=bP hb
   subst this; rfl
  | false=>
   have hc:c=1:=by
    have A:c<2:=by
     have:c=e / 2^k - 2*(e / 2^(k+1)):=by omega
     rw[this,aU,<-dq]; omega
    have B:c≠0:=by rintro rfl; cases hb
    omega
   subst hc
   show a^(2*(e / 2^(k+1)))%m*a%m=_
   rw[aU a,cF,eA,<-cF]
def pw (m a e:Nat):Nat:=pwG m a e (Nat.log2 e+1) (1%m)
theorem Gx (m a e:Nat):pw m a e=a^e%m:=by
 unfold pw
 refine Ia _ _ _ _ _ ?_
 rw[bE Nat.lt_log2_self,dg]
def Jf (n:Nat):Bool:=Nat.blt 1 n&&Nat.blt n 16384&&(List.range 128).all fun d=>Nat.blt d 2 || Nat.ble n d || !Nat.beq (n%d) 0
theorem jr {n:Nat} (h:Jf n=true):Prm n:=by
 unfold Jf at h
 simp only[aW,gm]at h
 obtain⟨⟨B,R⟩,G⟩:=h
 have z:∀d,d ∣ n->2<=d->d<128->n<=d:=fun d hd k A=>by
  have:=cr.1 G d (dY.2 A)
  simp only[fu,gm,Bool.not_eq_true']at this
  rcases this with (j | j) | j
  ·omega
  ·exact ai j
  ·rw[Nat.mod_eq_zero_of_dvd hd]at j; cases j
 refine⟨B,fun d hd=>?_⟩
 by_cases e1:d=1
 ·exact .inl e1
 by_cases e2:d=n
 ·exact .inr e2
 exfalso
 obtain⟨e,he⟩:=hd
 have I:d≠0:=by rintro rfl; omega
 have J:e≠0:=by rintro rfl; omega
 have N:e≠1:=by rintro rfl; omega
 have O:d<n:=by
  have k:d ∣ n:=⟨e,he⟩
  have:=fG q10 k; omega
 by_cases k:d<128
 ·have:=z d ⟨e,he⟩ q10 k; omega
 ·have A:e<128:=by
   rcases cI e 128 with h | h
   ·exact h
   ·have:=en (show 128<=d by omega) h; omega
  have j:=z e ⟨d,by rw[aP]; exact he⟩ q10 A
  have U:=en (show 2<=d by omega) (aq e)
  omega
def yp (N:Nat):List (Nat×Nat)->Nat->Option Nat
 | [],F=>some F
 | (q,a) :: l,F=>if Nat.beq (Nat.gcd F q) 1&&Nat.beq ((N - 1)%q) 0&&Nat.beq (pw N a (N - 1)) 1&&Nat.beq (Nat.gcd (pw N a ((N - 1) / q)+N - 1) N) 1 then yp N l (F*q) else none
def chk (N:Nat) (l:List (Nat×Nat)):Bool:=Nat.blt 1 N&&match yp N l 1 with
 | none=>false
 | some F=>Nat.blt N (F*F)
theorem RJ {N q a r:Nat} (hN:1<N) (A:Prm q) (B:Prm r) (hd:r ∣ N) (O:q ∣ N - 1) (R:a^(N - 1)%N=1) (U:Nat.gcd (a^((N - 1) / q)%N+N - 1) N=1):q ∣ r - 1:=by
 refine iR fun hn=>?_
 have hg:=A.coprime hn
 have j:=B.1
 have z:(a^((N - 1) / q))^q%r=1%r:=by
  rw[<-bB,Nat.div_mul_cancel O]
  have:a^(N - 1)%N%r=a^(N - 1)%r:=Nat.mod_mod_of_dvd _ hd
  rw[<-this,R]
 have G:¬r ∣ a^((N - 1) / q):=fun hx=>by
  have V:(a^((N - 1) / q))^q%r=0:=by
   rw[Nat.pow_mod,Nat.mod_eq_zero_of_dvd hx,Nat.zero_pow (by have:=A.1; omega)]; exact Nat.zero_mod _
  rw[V,av j]at z
  cases z
 have X:=tK B G
 have I:=Oy (r:=r) (b:=a^((N - 1) / q)) q (r - 1) z (by rw[X,av j])
 rw[show Nat.gcd q (r - 1)=1 from hg,Nat.pow_one]at I
 have Y:r ∣ a^((N - 1) / q)%N+N - 1:=by
  have Z:(a^((N - 1) / q)%N)%r=1%r:=by rw[Nat.mod_mod_of_dvd _ hd]; exact I
  obtain⟨k,hk⟩:=hd
  have h7:(a^((N - 1) / q)%N+N)%r=1%r:=by
   rw[Nat.add_mod,Z,Nat.mod_eq_zero_of_dvd ⟨k,hk⟩,bb,eA]
  exact s8 h7 q10
 have J:=Nat.dvd_gcd Y hd
 rw[U]at J
 have:=fG q11 J
 omega
theorem Ji {N r:Nat} (B:1<N) (I:Prm r) (hd:r ∣ N):∀(l:List (Nat×Nat)) (F G:Nat),(∀q∈l,Prm q.1)->F ∣ r - 1->yp N l F=some G->G ∣ r - 1
 | [],F,G,_,hF,h=>by simp[yp]at h; exact h ▸ hF
 | (q,a) :: l,F,G,hl,hF,h=>by
  simp only[yp]at h
  split at h
  ·rename_i hc
   simp only[aW]at hc
   obtain⟨⟨⟨z,A⟩,j⟩,k⟩:=hc
   have z:=bP z
   have A:=bP A
   have j:=bP j
   have k:=bP k
   rw[Gx]at j k
   have J:=RJ B (hl (q,a) (fQ ..)) I hd (ee A) j k
   exact Ji B I hd l (F*q) G (fun x hx=>hl x (gU _ hx)) (Nat.Coprime.mul_dvd_of_dvd_of_dvd z hF J) h
  ·cases h
theorem ff {N:Nat} (l:List (Nat×Nat)) (hl:∀q∈l,Prm q.1) (h:chk N l=true):Prm N:=by
 unfold chk at h
 simp only[aW,gm]at h
 obtain⟨G,h⟩:=h
 cases hF:yp N l 1 with
 | none=>rw[hF]at h; cases h
 | some F=>
  rw[hF]at h
  have J:N<F*F:=by simpa using h
  have j:∀d,d ∣ N->1<d->F<d:=fun d hd z=>by
   obtain⟨r,A,k⟩:=tj d d (aq d) z
   have B:=Ji G A (Nat.dvd_trans k hd) l 1 F hl (Nat.one_dvd _) hF
   have I:=fG (by have:=A.1; omega) B
   have V:=fG q10 k
   have:=A.1
   omega
  refine⟨G,fun d hd=>?_⟩
  by_cases e1:d=1
  ·exact .inl e1
  by_cases e2:d=N
  ·exact .inr e2
  exfalso
  obtain⟨e,he⟩:=hd
  have O:d≠0:=by rintro rfl; omega
  have R:e≠0:=by rintro rfl; omega
  have U:e≠1:=by rintro rfl; omega
  have z:=j d ⟨e,he⟩ q10
  have B:=j e ⟨d,by rw[aP]; exact he⟩ q10
  have I:=en (bG z) (bG B)
  omega
theorem TE:Prm 3:=jr (by decide +kernel)
theorem Tu:Prm 5:=jr (by decide +kernel)
theorem TC:Prm 7:=jr (by decide +kernel)
theorem SM:Prm 11:=jr (by decide +kernel)
theorem SI:Prm 43:=jr (by decide +kernel)
theorem Q7:Prm 139:=jr (by decide +kernel)
theorem RC:Prm 197:=jr (by decide +kernel)
theorem PS:Prm 211:=jr (by decide +kernel)
theorem Rj:Prm 233:=jr (by decide +kernel)
theorem QF:Prm 311:=jr (by decide +kernel)
theorem QN:Prm 313:=jr (by decide +kernel)
theorem Ql:Prm 337:=jr (by decide +kernel)
theorem PW:Prm 421:=jr (by decide +kernel)
theorem II:Prm 881:=jr (by decide +kernel)
theorem PU:Prm 937:=jr (by decide +kernel)
theorem O3:Prm 3023:=jr (by decide +kernel)
theorem Pq:Prm 3677:=jr (by decide +kernel)
theorem N8:Prm 4349:=jr (by decide +kernel)
theorem Iu:Prm 704251:=ff [(313,2),(5,2)] (by
 intro q j
 simp only[aJ,aM,bC]at j
 rcases j with rfl | rfl
 ·exact QN
 ·exact Tu) (by decide +kernel)
theorem KX:Prm 78283:=ff [(4349,2)] (by
 intro q j
 simp only[aJ,aM,bC]at j
 rw[j]; exact N8) (by decide +kernel)
theorem rY:Prm 46076956964474543:=ff [(704251,2),(78283,2)] (by
 intro q j
 simp only[aJ,aM,bC]at j
 rcases j with rfl | rfl
 ·exact Iu
 ·exact KX) (by decide +kernel)
theorem zw:Prm 66417393611:=ff [(3677,2),(197,2)] (by
 intro q j
 simp only[aJ,aM,bC]at j
 rcases j with rfl | rfl
 ·exact Pq
 ·exact RC) (by decide +kernel)
theorem vd:Prm 11290956913871:=ff [(66417393611,2)] (by
 intro q j
 simp only[aJ,aM,bC]at j
 rw[j]; exact zw) (by decide +kernel)
theorem ma:Prm 774023187263532362759620327192479577272145303:=ff [(46076956964474543,2),(11290956913871,2)] (by
 intro q j
 simp only[aJ,aM,bC]at j
 rcases j with rfl | rfl
 ·exact rY
 ·exact vd) (by decide +kernel)
theorem kU:Prm 835945042244614951780389953367877943453916927241:=ff [(774023187263532362759620327192479577272145303,2)] (by
 intro q j
 simp only[aJ,aM,bC]at j
 rw[j]; exact ma) (by decide +kernel)
theorem ib:Prm 115792089210356248762697446949407573530086143415290314195533631308867097853951:=ff [(835945042244614951780389953367877943453916927241,2)] (by
 intro q j
 simp only[aJ,aM,bC]at j
 rw[j]; exact kU) (by decide +kernel)
theorem IY:Prm 155317:=ff [(43,2),(7,2),(3,3)] (by
 intro q j
 simp only[aJ,aM,bC]at j
 rcases j with rfl | rfl | rfl
 ·exact SI
 ·exact TC
 ·exact TE) (by decide +kernel)
theorem Bp:Prm 191039911:=ff [(155317,2)] (by
 intro q j
 simp only[aJ,aM,bC]at j
 rw[j]; exact IY) (by decide +kernel)
theorem rP:Prm 208150935158385979:=ff [(191039911,2),(3023,2)] (by
 intro q j
 simp only[aJ,aM,bC]at j
 rcases j with rfl | rfl
 ·exact Bp
 ·exact O3) (by decide +kernel)
theorem oM:Prm 2624747550333869278416773953:=ff [(208150935158385979,2)] (by
 intro q j
 simp only[aJ,aM,bC]at j
 rw[j]; exact rP) (by decide +kernel)
theorem IH:Prm 104471:=ff [(337,2)] (by
 intro q j
 simp only[aJ,aM,bC]at j
 rw[j]; exact Ql) (by decide +kernel)
theorem Gq:Prm 3969899:=ff [(104471,2)] (by
 intro q j
 simp only[aJ,aM,bC]at j
 rw[j]; exact IH) (by decide +kernel)
theorem vW:Prm 1002328039319:=ff [(3969899,2)] (by
 intro q j
 simp only[aJ,aM,bC]at j
 rw[j]; exact Gq) (by decide +kernel)
theorem ic:Prm 115792089210356248762697446949407573529996955224135760342422259061068512044369:=ff [(2624747550333869278416773953,2),(1002328039319,2)] (by
 intro q j
 simp only[aJ,aM,bC]at j
 rcases j with rfl | rfl
 ·exact oM
 ·exact vW) (by decide +kernel)
theorem I7:Prm 363557:=ff [(937,2)] (by
 intro q j
 simp only[aJ,aM,bC]at j
 rw[j]; exact PU) (by decide +kernel)
theorem CY:Prm 532247449:=ff [(363557,2)] (by
 intro q j
 simp only[aJ,aM,bC]at j
 rw[j]; exact I7) (by decide +kernel)
theorem uZ:Prm 44925942675193:=ff [(532247449,2)] (by
 intro q j
 simp only[aJ,aM,bC]at j
 rw[j]; exact CY) (by decide +kernel)
theorem pW:Prm 35581458644053887931343:=ff [(44925942675193,2)] (by
 intro q j
 simp only[aJ,aM,bC]at j
 rw[j]; exact uZ) (by decide +kernel)
theorem oz:Prm 23964610537191310276190549303:=ff [(35581458644053887931343,2)] (by
 intro q j
 simp only[aJ,aM,bC]at j
 rw[j]; exact pW) (by decide +kernel)
theorem oa:Prm 862725979338887169942859774909:=ff [(23964610537191310276190549303,2)] (by
 intro q j
 simp only[aJ,aM,bC]at j
 rw[j]; exact oz) (by decide +kernel)
theorem nO:Prm 20705423504133292078628634597817:=ff [(862725979338887169942859774909,2)] (by
 intro q j
 simp only[aJ,aM,bC]at j
 rw[j]; exact oa) (by decide +kernel)
theorem mn:Prm 413244619895455989650825325680172591660047:=ff [(20705423504133292078628634597817,2)] (by
 intro q j
 simp only[aJ,aM,bC]at j
 rw[j]; exact nO) (by decide +kernel)
theorem mh:Prm 12397338596863679689524759770405177749801411:=ff [(413244619895455989650825325680172591660047,2)] (by
 intro q j
 simp only[aJ,aM,bC]at j
 rw[j]; exact mn) (by decide +kernel)
theorem MZ:Prm 21407:=ff [(139,2),(11,2)] (by
 intro q j
 simp only[aJ,aM,bC]at j
 rcases j with rfl | rfl
 ·exact Q7
 ·exact SM) (by decide +kernel)
theorem Cr:Prm 246608641:=ff [(21407,2)] (by
 intro q j
 simp only[aJ,aM,bC]at j
 rw[j]; exact MZ) (by decide +kernel)
theorem Dl:Prm 105957871:=ff [(881,2),(211,2)] (by
 intro q j
 simp only[aJ,aM,bC]at j
 rcases j with rfl | rfl
 ·exact II
 ·exact PS) (by decide +kernel)
theorem qy:Prm 529709925838459440593:=ff [(246608641,2),(105957871,2)] (by
 intro q j
 simp only[aJ,aM,bC]at j
 rcases j with rfl | rfl
 ·exact Cr
 ·exact Dl) (by decide +kernel)
theorem fx:Prm 19173790298027098165721053155794528970226934547887232785722672956982046098136719667167519737147526097:=ff [(12397338596863679689524759770405177749801411,2),(529709925838459440593,2)] (by
 intro q j
 simp only[aJ,aM,bC]at j
 rcases j with rfl | rfl
 ·exact mh
 ·exact qy) (by decide +kernel)
theorem eB:Prm 39402006196394479212279040100143613805079739270465446667948293404245721771496870329047266088258938001861606973112319:=ff [(19173790298027098165721053155794528970226934547887232785722672956982046098136719667167519737147526097,2)] (by
 intro q j
 simp only[aJ,aM,bC]at j
 rw[j]; exact fx) (by decide +kernel)
theorem Bx:Prm 272109983:=ff [(421,2),(233,2)] (by
 intro q j
 simp only[aJ,aM,bC]at j
 rcases j with rfl | rfl
 ·exact PW
 ·exact Rj) (by decide +kernel)
theorem xZ:Prm 228572385721:=ff [(272109983,2)] (by
 intro q j
 simp only[aJ,aM,bC]at j
 rw[j]; exact Bx) (by decide +kernel)
theorem uY:Prm 23314383343543:=ff [(228572385721,2)] (by
 intro q j
 simp only[aJ,aM,bC]at j
 rw[j]; exact xZ) (by decide +kernel)
theorem qz:Prm 426632512014427833817:=ff [(23314383343543,2)] (by
 intro q j
 simp only[aJ,aM,bC]at j
 rw[j]; exact uY) (by decide +kernel)
theorem oN:Prm 1495199339761412565498084319:=ff [(426632512014427833817,2)] (by
 intro q j
 simp only[aJ,aM,bC]at j
 rw[j]; exact qz) (by decide +kernel)
theorem ot:Prm 17942392077136950785977011829:=ff [(1495199339761412565498084319,2)] (by
 intro q j
 simp only[aJ,aM,bC]at j
 rw[j]; exact oN) (by decide +kernel)
theorem GR:Prm 9863677:=ff [(881,2),(311,2)] (by
 intro q j
 simp only[aJ,aM,bC]at j
 rcases j with rfl | rfl
 ·exact II
 ·exact QF) (by decide +kernel)
theorem vc:Prm 37344768852931:=ff [(9863677,2)] (by
 intro q j
 simp only[aJ,aM,bC]at j
 rw[j]; exact GR) (by decide +kernel)
theorem sn:Prm 55942463741690639:=ff [(37344768852931,2)] (by
 intro q j
 simp only[aJ,aM,bC]at j
 rw[j]; exact vc) (by decide +kernel)
theorem jt:Prm 1059392654943455286185473617842338478315215895509773412096307:=ff [(17942392077136950785977011829,2),(55942463741690639,2)] (by
 intro q j
 simp only[aJ,aM,bC]at j
 rcases j with rfl | rfl
 ·exact ot
 ·exact sn) (by decide +kernel)
theorem gw:Prm 3055465788140352002733946906144561090641249606160407884365391979704929268480326390471:=ff [(1059392654943455286185473617842338478315215895509773412096307,2)] (by
 intro q j
 simp only[aJ,aM,bC]at j
 rw[j]; exact jt) (by decide +kernel)
theorem eD:Prm 39402006196394479212279040100143613805079739270465446667946905279627659399113263569398956308152294913554433653942643:=ff [(3055465788140352002733946906144561090641249606160407884365391979704929268480326390471,2)] (by
 intro q j
 simp only[aJ,aM,bC]at j
 rw[j]; exact gw) (by decide +kernel)
end Go.Gk.Pr
end
section
namespace Go.Gk.Ec
section ring
variable {p:Nat} [NeZero p]
theorem lH {a b:Fin p} (h:a - b=0):a=b:=by grobner
theorem JL (a:Fin p):a*0=0:=by grobner
theorem Pd (a:Fin p):a+-a=0:=by grobner
structure Ln (a b x1 y1 x2 y2 s x3 y3:Fin p):Prop where
 hy:y2=y1+s*(x2 - x1)
 ha:a=s*(y1+y2) - x1*x1 - x1*x2 - x2*x2
 hb:b=y1*y1 - x1*x1*x1 - a*x1
 hx:x3=s*s - x1 - x2
 hz:y3=s*(x1 - x3) - y1
variable {a b x1 y1 x2 y2 s x3 y3:Fin p}
theorem Ln.on1 (h:Ln a b x1 y1 x2 y2 s x3 y3):y1*y1=x1*x1*x1+a*x1+b:=by
 have hb:=h.hb
 clear h; subst hb; grobner
theorem Ln.on2 (h:Ln a b x1 y1 x2 y2 s x3 y3):y2*y2=x2*x2*x2+a*x2+b:=by
 obtain⟨hy,ha,hb,hx,hz⟩:=h
 subst hy ha hb hx hz; grobner
theorem Ln.on3 (h:Ln a b x1 y1 x2 y2 s x3 y3):y3*y3=x3*x3*x3+a*x3+b:=by
 obtain⟨hy,ha,hb,hx,hz⟩:=h
 subst hy ha hb hx hz; grobner
theorem Ln.symm (h:Ln a b x1 y1 x2 y2 s x3 y3):Ln a b x2 y2 x1 y1 s x3 y3:=by
 obtain⟨hy,ha,hb,hx,hz⟩:=h
 refine⟨?_,?_,?_,?_,?_⟩ <;> (subst hy ha hb hx hz; grobner)
theorem Ln.xS {j z g xS A:Fin p} (h:Ln a b x1 y1 x2 y2 s x3 y3) (k:Ln a b x3 y3 j z g xS A) :
  xS=(s+g)*(s+g) - 2*(x3+s*g) - x1 - x2 - j:=by
 have B:=h.hx
 have G:=k.hx
 clear h k
 subst B G; grobner
end ring
structure Fld (p:Nat) [NeZero p]:Prop where
 nz:∀u v:Fin p,u*v=0->u=0\/v=0
 iv:∀u:Fin p,u≠0->∃v:Fin p,u*v=1
 two:(2:Fin p)≠0
variable {p:Nat} [NeZero p]
open Classical in
noncomputable def rcp (u:Fin p):Fin p:=if h:∃v:Fin p,u*v=1 then Classical.choose h else 0
theorem Fld.mul_iv (F:Fld p) {u:Fin p} (h:u≠0):u*rcp u=1:=by
 unfold rcp
 rw[dif_pos (F.iv u h)]
 exact iJ (F.iv u h)
theorem Fld.cancel (F:Fld p) {u v w:Fin p} (h:u≠0) (e:u*v=u*w):v=w:=by
 rcases F.nz u (v - w) (by grobner) with j | j
 ·exact (h j).elim
 ·exact lH j
theorem Fld.iv_uniq (F:Fld p) {u v:Fin p} (e:u*v=1):v=rcp u:=by
 have h:u≠0:=by
  intro j
  have:(2:Fin p)=0:=by subst j; grobner
  exact F.two this
 exact F.cancel h (e.trans (F.mul_iv h).symm)
theorem Fld.dbl (F:Fld p) {u:Fin p} (h:u+u=0):u=0:=by
 rcases F.nz 2 u (by grobner) with j | j
 ·exact (F.two j).elim
 ·exact j
abbrev Pt (p:Nat):=Option (Fin p×Fin p)
def On (a b:Fin p):Pt p->Prop
 | none=>True
 | some (x,y)=>y*y=x*x*x+a*x+b
def sW (x1 y1 x2 s:Fin p):Pt p:=some (s*s - x1 - x2,s*(x1 - (s*s - x1 - x2)) - y1)
noncomputable def add (a:Fin p):Pt p->Pt p->Pt p
 | none,Q=>Q
 | some P,none=>some P
 | some (x1,y1),some (x2,y2)=>
  if x1=x2 then (if y1+y2=0 then none else sW x1 y1 x2 ((3*(x1*x1)+a)*rcp (2*y1)))
  else sW x1 y1 x2 ((y2 - y1)*rcp (x2 - x1))
theorem qw (a x1 y1 x2 y2:Fin p):add a (some (x1,y1)) (some (x2,y2)) =
  if x1=x2 then (if y1+y2=0 then none else sW x1 y1 x2 ((3*(x1*x1)+a)*rcp (2*y1)))
  else sW x1 y1 x2 ((y2 - y1)*rcp (x2 - x1)):=rfl
structure Cv (p:Nat) [NeZero p] (a b:Fin p):Prop extends Fld p where
 odd:∀x:Fin p,x*x*x+a*x+b≠0
variable {a b:Fin p}
theorem Dd (P:Pt p):add a P none=P:=by cases P <;> rfl
theorem Cv.y_ne (C:Cv p a b) {x y:Fin p} (h:On a b (some (x,y))):y≠0:=by
 intro j
 apply C.odd x
 unfold On at h
 dsimp only at h
 rw[<-h,j,JL]
theorem Fld.ln (C:Fld p) {x1 y1 x2 y2:Fin p} (A:On a b (some (x1,y1))) (j:On a b (some (x2,y2))) (h:¬(x1=x2/\y1+y2=0)) :
  ∃s x3 y3,Ln a b x1 y1 x2 y2 s x3 y3/\add a (some (x1,y1)) (some (x2,y2))=some (x3,y3):=by
 unfold On at A j
 dsimp only at A j
 rw[qw]
 unfold sW
 by_cases hx:x1=x2
 ·rw[af hx,ae (fun q=>h ⟨hx,q⟩)]
  refine⟨((3*(x1*x1)+a)*rcp (2*y1)),_,_,?_,rfl⟩
  have B:(y1 - y2)*(y1+y2)=0:=by subst hx; grobner
  have hy:y2=y1:=by
   rcases C.nz _ _ B with q | q
   ·exact (lH q).symm
   ·exact (h ⟨hx,q⟩).elim
  subst hx hy
  have G:y2≠0:=by intro k; apply h; refine⟨rfl,?_⟩; rw[k]; grobner
  have j:2*y2≠0:=by
   intro k; rcases C.nz _ _ k with q | q
   ·exact C.two q
   ·exact G q
  have e:=C.mul_iv j
  generalize rcp (2*y2)=z at e ⊢
  refine⟨by grobner,?_,?_,rfl,rfl⟩
  ·have:(3*(x1*x1)+a)*z*(y2+y2)=3*(x1*x1)+a:=by
    have:y2+y2=2*y2:=by grobner
    rw[this]; clear this
    generalize 2*y2=w at *
    grobner
   rw[this]; clear this
   grobner
  ·clear e; grobner
 ·rw[ae hx]
  refine⟨(y2 - y1)*rcp (x2 - x1),_,_,?_,rfl⟩
  have I:x2 - x1≠0:=fun k=>hx (lH k).symm
  have e:=C.mul_iv I
  generalize rcp (x2 - x1)=z at e ⊢
  have hs:(y2 - y1)*z*(x2 - x1)=y2 - y1:=by generalize x2 - x1=w at *; clear A j; grobner
  generalize (y2 - y1)*z=s at hs ⊢
  clear e
  refine⟨?_,?_,?_,rfl,rfl⟩
  ·rw[hs]; grobner
  ·have:(x2 - x1)*a=(x2 - x1)*(s*(y1+y2) - x1*x1 - x1*x2 - x2*x2):=by
    have:(x2 - x1)*(s*(y1+y2) - x1*x1 - x1*x2 - x2*x2)=s*(x2 - x1)*(y1+y2) - (x2 - x1)*(x1*x1+x1*x2+x2*x2):=by clear A j hs; grobner
    rw[this,hs]; clear this hs
    grobner
   exact C.cancel I this
  ·clear hs; grobner
end Go.Gk.Ec
end
section
namespace Go.Gk.Ec
variable {p:Nat} [NeZero p] {a b:Fin p}
theorem Fld.on_add (C:Fld p) {P Q:Pt p} (hP:On a b P) (j:On a b Q):On a b (add a P Q):=by
 rcases P with _ | ⟨x1,y1⟩
 ·exact j
 rcases Q with _ | ⟨x2,y2⟩
 ·exact hP
 by_cases h:x1=x2/\y1+y2=0
 ·rw[qw,af h.1,af h.2]; trivial
 ·obtain⟨s,x3,y3,hl,e⟩:=C.ln hP j h
  rw[e]; exact hl.on3
theorem Cv.off (C:Cv p a b) {x1 y1 x2 y2 s z B x3 y3 g xS N:Fin p} (h:Ln a b x1 y1 x2 y2 s z B) (j:Ln a b z B x3 y3 g xS N)
  (n1:x3≠x1) (G:x3≠x2):y3 - y1 - s*(x3 - x1)≠0:=by
 intro e
 have O:y3=y1+s*(x3 - x1):=by clear h j; grobner
 have I:=j.on2
 have hx:(x3 - x1)*((x3 - x2)*(x3 - z))=0:=by
  have ha:=h.ha
  have hb:=h.hb
  have hy:=h.hy
  have hp:=h.hx
  clear h j n1 G e
  subst hy ha hb hp O
  grobner
 rcases C.nz _ _ hx with q | q
 ·exact n1 (lH q)
 rcases C.nz _ _ q with q | q
 ·exact G (lH q)
 have J:=lH q
 have R:=h.hz
 have U:=j.hy
 have k:=j.on1
 have A:B≠0:=C.y_ne (x:=z) (by unfold On; exact k)
 apply A
 apply C.dbl
 clear h j I hx k A
 subst J
 grobner
theorem Cv.last (C:Cv p a b) {xS z j A m k c x1 x2 x3:Fin p} (G:k≠0) (eS:xS=k*k - 2*m - x1 - x2 - x3) (B:j=k*k - 2*m - x1 - x2 - x3)
  (hS:xS*xS+m*xS+k*z+c=0) (hT:j*j+m*j+k*A+c=0):xS=j/\z=A:=by
 have e:xS=j:=by rw[eS,B]
 clear eS B
 subst e
 refine⟨rfl,C.cancel G ?_⟩
 grobner
end Go.Gk.Ec
end
section
namespace Go.Gk.Ec
variable {p:Nat} [NeZero p] {a b:Fin p}
theorem Fld.same_x (C:Fld p) {x y z:Fin p} (j:On a b (some (x,y))) (k:On a b (some (x,z))):z=y\/z=-y:=by
 unfold On at j k
 dsimp only at j k
 have:(z - y)*(z+y)=0:=by grobner
 rcases C.nz _ _ this with q | q
 ·exact .inl (lH q)
 ·exact .inr (by grobner)
theorem sub3 {u x y z:Fin p}:u - x - y - z=u - z - x - y:=by grobner
end Go.Gk.Ec
end
section
namespace Go.Gk.Ec
open Go.Gk.Pr
variable {p:Nat} [NeZero p]
theorem sH:0<p:=eu (NeZero.ne p)
def fz (z:Int):Fin p:=⟨(z%p).toNat,by
 have h1:=Int.emod_lt_of_pos z (show (0:Int)<p by have:=sH (p:=p); omega)
 have h2:=jh z (show (p:Int)≠0 by have:=sH (p:=p); omega)
 omega⟩
theorem ob (z:Int):((fz (p:=p) z).val:Int)=z%p:=by
 have j:=jh z (show (p:Int)≠0 by have:=sH (p:=p); omega)
 show (((z%p).toNat:Nat):Int)=_
 omega
theorem B5 {a:Fin p} {z:Int} (h:(a.val:Int)%p=z%p):a=fz z:=by
 apply dI
 have:=ob (p:=p) z
 have j:=gg (a:=(a.val:Int)) (b:=p) q10 (by have:=a.isLt; omega)
 omega
theorem nR (a:Fin p):fz (a.val:Int)=a:=(B5 rfl).symm
theorem wS (n:Nat) (h:n<p):((fz (p:=p) (n:Int)).val)=n:=by
 have j:=ob (p:=p) (n:Int)
 rw[gg q10 q10]at j
 omega
theorem pt (z:Int):fz (p:=p) (z%p)=fz z:=by
 apply dI
 show ((z%p%p).toNat)=(z%p).toNat
 rw[Int.emod_emod]
theorem yg (x y:Int):fz (p:=p) (x+y)=fz x+fz y:=by
 refine (B5 ?_).symm
 rw[Fin.val_add,cv,jl,ob,ob,Int.emod_emod,<-Int.add_emod]
theorem tY (x y:Int):fz (p:=p) (x*y)=fz x*fz y:=by
 refine (B5 ?_).symm
 rw[gt,cv,dK,ob,ob,Int.emod_emod,<-Int.mul_emod]
theorem PE:fz (p:=p) 0=0:=by
 apply dI
 show ((0:Int)%p).toNat=_
 rw[Int.zero_emod]; rfl
theorem J1 (x y:Int):fz (p:=p) (x - y)=fz x - fz y:=by
 have h:=yg (p:=p) (x - y) y
 rw[show x - y+y=x by omega]at h
 rw[h]; grobner
theorem wv (n:Nat):fz (p:=p) (n:Int)=Fin.ofNat p n:=by
 apply dI
 show ((n:Int)%p).toNat=n%p
 rw[<-cv]; rfl
theorem Hy {z:Int}:fz (p:=p) z=0↔z%p=0:=by
 constructor
 ·intro h
  have:=ob (p:=p) z
  rw[h]at this
  simpa using this.symm
 ·intro h
  have:=pt (p:=p) z
  rw[<-this,h,PE]
theorem HY (hp:Prm p) (B:2<p):Fld p:=by
 have z:∀u:Fin p,u≠0->¬p ∣ u.val:=fun u hu hd=>by
  apply hu
  apply dI
  have k:=u.isLt
  have:(0:Fin p).val=0:=by simp
  rw[this]
  rcases bR u.val with h | h
  ·exact h
  ·have:=fG h hd; omega
 refine⟨fun u v h=>?_,fun u hu=>?_,fun h=>?_⟩
 ·by_cases hu:u=0
  ·exact .inl hu
  ·right
   have A:p ∣ u.val*v.val:=by
    have:=cD Fin.val h
    rw[gt]at this
    have k:(0:Fin p).val=0:=by simp
    rw[k]at this
    exact ee this
   rcases hp.dvd_mul A with j | j
   ·exact (z u hu j).elim
   ·refine iR fun G=>z v G j
 ·refine⟨⟨u.val^(p - 2)%p,ba _ q10⟩,?_⟩
  apply dI
  rw[gt]
  have A:(1:Fin p).val=1%p:=rfl
  have I:1%p=1:=av q10
  rw[A,I]
  have j:=tK hp (z u hu)
  show u.val*(u.val^(p - 2)%p)%p=1
  rw[cF,eA,<-cF,aP,<-aU,show (p - 2).succ=p - 1 by omega]
  exact j
 ·have j:=cD Fin.val h
  have J:(2:Fin p).val=2%p:=rfl
  have k:(0:Fin p).val=0:=by simp
  rw[J,k,av B]at j
  cases j
open Classical in
noncomputable def jac (X Y Z:Fin p):Pt p:=if Z=0 then none else some (X*(rcp Z*rcp Z),Y*(rcp Z*(rcp Z*rcp Z)))
theorem ju (X Y:Fin p):jac X Y 0=none:=af rfl
theorem Fld.jac_of (F:Fld p) {X Y Z x y:Fin p} (hz:Z≠0) (hx:X=x*(Z*Z)) (hy:Y=y*(Z*(Z*Z))):jac X Y Z=some (x,y):=by
 have e:=F.mul_iv hz
 unfold jac
 rw[ae hz]
 generalize rcp Z=i at e ⊢
 have j:X*(i*i)=x:=by subst hx; clear hy; grobner
 have k:Y*(i*(i*i))=y:=by subst hy; clear hx j; grobner
 rw[j,k]
theorem Fld.of_jac (F:Fld p) (X Y:Fin p) {Z:Fin p} (hz:Z≠0):∃x y,X=x*(Z*Z)/\Y=y*(Z*(Z*Z))/\jac X Y Z=some (x,y):=by
 have e:=F.mul_iv hz
 refine⟨X*(rcp Z*rcp Z),Y*(rcp Z*(rcp Z*rcp Z)),?_,?_,ae hz⟩
 ·generalize rcp Z=i at e ⊢; grobner
 ·generalize rcp Z=i at e ⊢; grobner
theorem Fld.mul_ne (F:Fld p) {u v:Fin p} (hu:u≠0) (j:v≠0):u*v≠0:=fun h=>(F.nz u v h).elim hu j
theorem Fld.jac_dbl (F:Fld p) {X Y Z N k s m O R:Fin p} (hz:Z≠0) (z:N=Z*Z) (A:k=Y*Y) (B:s=4*(X*k)) (j:m=3*((X - N)*(X+N))) (G:O=m*m - 2*s) (I:R=m*(s - O) - 8*(k*k)) :
  jac O R (2*(Y*Z))=add (-3) (jac X Y Z) (jac X Y Z):=by
 obtain⟨x,y,hx,hy,hj⟩:=F.of_jac X Y hz
 rw[hj,qw,af rfl]
 by_cases y0:y+y=0
 ·have:y=0:=F.dbl y0
  rw[af y0,hy,this,show (2:Fin p)*(0*(Z*(Z*Z))*Z)=0 by grobner,ju]
 ·rw[ae y0]
  have J:y≠0:=by rintro rfl; exact y0 (by grobner)
  have U:2*y≠0:=F.mul_ne F.two J
  have e:=F.mul_iv U
  obtain⟨l,hl⟩:∃l,(3*(x*x)+-3)*rcp (2*y)=l:=⟨_,rfl⟩
  have hs:l*(2*y)=3*(x*x) - 3:=by rw[<-hl]; generalize rcp (2*y)=i at e; clear hl z A B j G I hx hy; grobner
  rw[hl]
  clear hl e
  unfold sW
  have hm:m=l*(2*y)*(Z*Z*(Z*Z)):=by rw[hs]; subst z hx; clear hs A B G I; rw[j]; clear j; grobner
  have V:2*(Y*Z)≠0:=by rw[hy]; exact F.mul_ne F.two (F.mul_ne (F.mul_ne J (F.mul_ne hz (F.mul_ne hz hz))) hz)
  refine F.jac_of V ?_ ?_
  ·clear hs j z; subst G hm B A hx hy; clear I; grobner
  ·clear hs j z; subst I G hm B A hx hy; grobner
theorem Fld.jac_add (F:Fld p) {X1 Y1 j X2 Y2 k u1 u2 s1 s2 h r hh ap v x' y':Fin p} (z1:j≠0) (z2:k≠0) (X:u1=X1*(k*k)) (Y:u2=X2*(j*j)) (Z:s1=Y1*(k*(k*k))) (e4:s2=Y2*(j*(j*j)))
  (e5:h=u2 - u1) (e6:r=s2 - s1) (R:hh=h*h) (e8:ap=h*hh) (U:v=u1*hh) (z:x'=r*r - ap - 2*v) (A:y'=r*(v - x') - s1*ap) (hn:h≠0) (a:Fin p) :
  jac x' y' (h*(j*k))=add a (jac X1 Y1 j) (jac X2 Y2 k):=by
 obtain⟨x1,y1,G,I,b4⟩:=F.of_jac X1 Y1 z1
 obtain⟨x2,y2,J,N,b5⟩:=F.of_jac X2 Y2 z2
 have hW:=F.mul_ne z1 z2
 have B:h=(x2 - x1)*(j*k*(j*k)):=by subst e5 X Y G J; clear Z e4 e6 R e8 U z A hn I N; grobner
 have O:r=(y2 - y1)*(j*k*(j*k*(j*k))):=by subst e6 Z e4 I N; clear X Y e5 R e8 U z A hn G J B; grobner
 have V:u1=x1*(j*k*(j*k)):=by subst X G; clear Y Z e4 e5 e6 R e8 U z A hn B O I N J; grobner
 have ax:s1=y1*(j*k*(j*k*(j*k))):=by subst Z I; clear Y X e4 e5 e6 R e8 U z A hn B O G N J V; grobner
 have hx:x1≠x2:=by
  rintro rfl
  apply hn; rw[B]; grobner
 have hd:x2 - x1≠0:=fun h0=>hx (lH h0).symm
 rw[b4,b5,qw,ae hx]
 have e:=F.mul_iv hd
 obtain⟨l,hl⟩:∃l,(y2 - y1)*rcp (x2 - x1)=l:=⟨_,rfl⟩
 have hs:l*(x2 - x1)=y2 - y1:=by
  rw[<-hl]; generalize rcp (x2 - x1)=i at e
  generalize x2 - x1=d at *; clear hl X Y Z e4 e5 e6 R e8 U z A G J I N B O V ax hn; grobner
 rw[hl]
 clear hl e
 unfold sW
 have bx:h*(j*k)≠0:=F.mul_ne hn hW
 rw[<-hs]at O
 clear X Y Z e4 e5 e6 G I J N b4 b5 hs
 refine F.jac_of bx ?_ ?_
 ·clear hn bx hW hd hx A ax; subst z U e8 R B O V; generalize j*k=W; grobner
 ·clear hn bx hW hd hx; subst A z U e8 R B O V ax; generalize j*k=W; grobner
end Go.Gk.Ec
end
section
namespace Go.Gk.Ec
open Go.Gk.Pr
variable {p:Nat} [NeZero p] {a b:Fin p}
noncomputable def mul (a:Fin p):Nat->Pt p->Pt p
 | 0,_=>none
 | k+1,P=>add a (mul a k P) P
end Go.Gk.Ec
end
section
namespace Go.Gk.Ec
open Go.Gk.Pr
section
variable {p:Nat} [NeZero p]
end
end Go.Gk.Ec
end
section
namespace Go.Gk.Bn
open Go Go.Gk Go.Gk.Sh Go.Gk.Ec Go.Gk.Pr
instance cP_nz (c:Int):NeZero (cP c):=⟨by have:=(ii c).2.2.2.2.2.1; omega⟩
theorem pq (c:Int):Prm (cP c):=by
 unfold cP
 split
 ·exact ib
 ·exact eB
theorem Cx (c:Int):Prm (cN c):=by
 unfold cN
 split
 ·exact ic
 ·exact eD
theorem o7 (c:Int):Fld (cP c):=HY (pq c) (by have:=(ii c).2.2.2.2.2.1; omega)
section
variable {p:Nat} [NeZero p]
def be (u:Fin p):Bool×L8:=bi (u.val:Int)
theorem Jp {x y:Int}:fz (p:=p) x=fz y↔x%p=y%p:=by
 constructor
 ·intro h
  rw[<-ob (p:=p) x,h,ob]
 ·intro h
  rw[<-pt x,h,pt]
theorem q6 (z:Int):be (fz (p:=p) z)=bi (z%p):=by unfold be; rw[ob]
theorem Jw:fz (p:=p) 1=1:=wv 1
theorem oP (u:Fin p) (hpl:nl (p:Int)<=1000):nl (u.val:Int)<=1000:=aA (mF (by have:=u.isLt; omega)) hpl
theorem pp (u:Fin p):F.UJ (be u).1 (be u).2=some (if u=0 then 0 else 1):=by
 unfold be
 rw[yE]
 by_cases h:u=0
 ·have j:(0:Fin p).val=0:=by simp
  rw[af h,h,j,af (by rfl)]
 ·have k:u.val≠0:=fun e=>h (dI (by rw[e]; simp))
  rw[ae h,ae q10,ae q10]
variable (b0:Bool) (b1:L8) (n0:Bool) (n1:L8) (x0:Bool) (x1:L8) (y0:Bool) (y1:L8) (s:Int) (hpl:nl (p:Int)<=1000)
include hpl
theorem vO (u v:Fin p):F.TZ (bi (p:Int)).1 (bi (p:Int)).2 b0 b1 n0 n1 x0 x1 y0 y1 s (be u).1 (be u).2 (be v).1 (be v).2=some (be (u*v)):=by
 have j:=oP u hpl; have k:=oP v hpl
 have z:=gp (eb u.val) (eb v.val)
 unfold be
 rw[ry p b0 b1 n0 n1 x0 x1 y0 y1 s sH hpl _ _ q10 (fun h=>by omega),gt,cv,dK]
theorem CX (u v:Fin p):F.Un (bi (p:Int)).1 (bi (p:Int)).2 b0 b1 n0 n1 x0 x1 y0 y1 s (be u).1 (be u).2 (be v).1 (be v).2=some (be (u - v)):=by
 have k:=oP u hpl; have z:=oP v hpl
 have j:be (u - v)=bi (((u.val:Int) - (v.val:Int))%p):=by rw[<-q6,J1,nR,nR]
 rw[j]
 unfold be
 rw[FR p b0 b1 n0 n1 x0 x1 y0 y1 s sH hpl _ _ q10 q10]
theorem xz (k:Nat) (z:k<=1000) (u:Fin p):F.UO (bi (p:Int)).1 (bi (p:Int)).2 b0 b1 n0 n1 x0 x1 y0 y1 s (k:Int) (be u).1 (be u).2=some (be (Fin.ofNat p k*u)):=by
 have A:=oP u hpl
 have j:be (Fin.ofNat p k*u)=bi (((k:Int)*(u.val:Int))%p):=by rw[<-q6,tY,nR,wv]
 rw[j]
 unfold be
 rw[zK p b0 b1 n0 n1 x0 x1 y0 y1 s sH hpl (k:Int) _ q10 q10 q10 q10]
theorem L3 (u v:Fin p):(ag (F.X7 false [] (be u).1 (be u).2 (be v).1 (be v).2) fun x=>F.Vc (bi (p:Int)).1 (bi (p:Int)).2 b0 b1 n0 n1 x0 x1 y0 y1 s x.1 x.2)=some (be (u+v)):=by
 have k:=oP u hpl; have z:=oP v hpl
 have j:be (u+v)=bi (((u.val:Int)+(v.val:Int))%p):=by rw[<-q6,yg,nR,nR]
 have A:=CJ (u.val:Int) (v.val:Int)
 rw[j]
 unfold be
 rw[P6 _ _ _ _ q10 q10,aa,uR p b0 b1 n0 n1 x0 x1 y0 y1 s sH hpl _ q10 (fun _=>by omega)]
omit hpl in
def r9 (X Y Z:Fin p):Fin p×Fin p×Fin p:=
 if Z=0 then (X,Y,Z) else
  let zz:=Z*Z; let yy:=Y*Y; let s:=4*(X*yy); let m:=3*((X - zz)*(X+zz)); let x:=m*m - 2*s
  (x,m*(s - x) - 8*(yy*yy),2*(Y*Z))
omit hpl in
def qG (X1 Y1 Z1 X2 Y2 Z2:Fin p):Fin p×Fin p×Fin p:=
 if Z1=0 then (X2,Y2,Z2) else if Z2=0 then (X1,Y1,Z1) else
  let u1:=X1*(Z2*Z2); let s1:=Y1*(Z2*(Z2*Z2)); let h:=X2*(Z1*Z1) - u1; let r:=Y2*(Z1*(Z1*Z1)) - s1
  if h=0 then (if r=0 then r9 X1 Y1 Z1 else (0,0,0)) else
   let hh:=h*h; let hhh:=h*hh; let v:=u1*hh; let x:=r*r - hhh - 2*v
   (x,r*(v - x) - s1*hhh,h*(Z1*Z2))
omit hpl in
def bt (t:Fin p×Fin p×Fin p):Bool×L8×Bool×L8×Bool×L8:=((be t.1).1,(be t.1).2,(be t.2.1).1,(be t.2.1).2,(be t.2.2).1,(be t.2.2).2)
omit hpl in
noncomputable def jpt (t:Fin p×Fin p×Fin p):Pt p:=jac t.1 t.2.1 t.2.2
omit hpl in
theorem sg0 {u:Fin p}:(((if u=0 then (0:Int) else 1) == 0)=true)↔u=0:=by
 by_cases h:u=0
 ·rw[af h]; simp[h]
 ·rw[ae h]; simp[h]
theorem yc (X Y Z:Fin p):F.W7 (bi (p:Int)).1 (bi (p:Int)).2 b0 b1 n0 n1 x0 x1 y0 y1 s (be X).1 (be X).2 (be Y).1 (be Y).2 (be Z).1 (be Z).2=some (bt (r9 X Y Z)):=by
 have mul:=vO b0 b1 n0 n1 x0 x1 y0 y1 s hpl
 have sub:=CX b0 b1 n0 n1 x0 x1 y0 y1 s hpl
 have j:=fun k I=>xz b0 b1 n0 n1 x0 x1 y0 y1 s hpl k I
 have J:=L3 b0 b1 n0 n1 x0 x1 y0 y1 s hpl
 unfold F.W7
 rw[pp,aa]
 by_cases h:Z=0
 ·rw[af (sg0.2 h)]
  unfold r9
  rw[af h]; rfl
 ·rw[ae (fun q=>h (sg0.1 q)),mul,aa,mul,aa,mul,aa]
  have A:=j 4 q11; have B:=j 3 q11; have z:=j 2 q11; have G:=j 8 q11
  have N:((4:Nat):Int)=4:=rfl
  have O:((3:Nat):Int)=3:=rfl
  have R:((2:Nat):Int)=2:=rfl
  have e8:((8:Nat):Int)=8:=rfl
  rw[N]at A; rw[O]at B; rw[R]at z; rw[e8]at G
  rw[A,aa,sub,aa]
  have hb:∀{α β γ:Type} (x:Option α) (f:α->Option β) (g:β->Option γ),(ag x fun a=>ag (f a) g)=ag (ag x f) g:=fun x f g=>by cases x <;> rfl
  rw[hb,J,aa,mul,aa,B,aa,mul,aa,z,aa,sub,aa,sub,aa,mul,aa,mul,aa,G,aa,sub,aa,mul,aa,z,aa]
  unfold r9
  rw[ae h]
  rfl
theorem Fb (z A j B G k:Fin p):F.Vl (bi (p:Int)).1 (bi (p:Int)).2 b0 b1 n0 n1 x0 x1 y0 y1 s (be z).1 (be z).2 (be A).1 (be A).2 (be j).1 (be j).2 (be B).1 (be B).2 (be G).1 (be G).2 (be k).1 (be k).2=some (bt (qG z A j B G k)):=by
 have mul:=vO b0 b1 n0 n1 x0 x1 y0 y1 s hpl
 have sub:=CX b0 b1 n0 n1 x0 x1 y0 y1 s hpl
 have I:=xz b0 b1 n0 n1 x0 x1 y0 y1 s hpl 2 q11
 have J:((2:Nat):Int)=2:=rfl
 rw[J]at I
 unfold F.Vl qG
 rw[pp,aa]
 by_cases h1:j=0
 ·rw[af (sg0.2 h1),af h1]; rfl
 rw[ae (fun q=>h1 (sg0.1 q)),ae h1,pp,aa]
 by_cases h2:k=0
 ·rw[af (sg0.2 h2),af h2]; rfl
 rw[ae (fun q=>h2 (sg0.1 q)),ae h2,mul,aa,mul,aa,mul,aa,mul,aa,mul,aa,mul,aa,mul,aa,mul,aa,sub,aa,sub,aa,pp,aa]
 dsimp only
 by_cases h3:B*(j*j) - z*(k*k)=0
 ·rw[af (sg0.2 h3),af h3,pp,aa]
  by_cases h4:G*(j*(j*j)) - A*(k*(k*k))=0
  ·rw[af (sg0.2 h4),af h4,yc b0 b1 n0 n1 x0 x1 y0 y1 s hpl,aa]
  ·rw[ae (fun q=>h4 (sg0.1 q)),ae h4]
   unfold F.U5
   rw[aa]
   have N:be (0:Fin p)=(false,[]):=by
    unfold be
    have:(0:Fin p).val=0:=by simp
    rw[this]
    exact cD (fun l=>(false,l)) cu
   unfold bt
   dsimp only
   rw[N]
 ·rw[ae (fun q=>h3 (sg0.1 q)),ae h3,mul,aa,mul,aa,mul,aa,mul,aa,sub,aa,I,aa,sub,aa,sub,aa,mul,aa,mul,aa,sub,aa,mul,aa,mul,aa]
  rfl
end
section
variable {p:Nat} [NeZero p]
theorem uW (F:Fld p) (t:Fin p×Fin p×Fin p):jpt (r9 t.1 t.2.1 t.2.2)=Ec.add (-3) (jpt t) (jpt t):=by
 obtain⟨X,Y,Z⟩:=t
 unfold jpt r9
 by_cases h:Z=0
 ·subst h
  rw[af rfl,ju]; rfl
 ·rw[ae h]
  exact F.jac_dbl h rfl rfl rfl rfl rfl rfl
theorem za (F:Fld p) {b:Fin p} (t u:Fin p×Fin p×Fin p) (Z:On (-3) b (jpt t)) (hu:On (-3) b (jpt u)):jpt (qG t.1 t.2.1 t.2.2 u.1 u.2.1 u.2.2)=Ec.add (-3) (jpt t) (jpt u):=by
 obtain⟨A,B,j⟩:=t
 obtain⟨I,J,G⟩:=u
 unfold qG
 dsimp only
 by_cases h1:j=0
 ·subst h1
  rw[af rfl]
  show _=Ec.add (-3) (jac A B 0) _
  rw[ju]; rfl
 rw[ae h1]
 by_cases h2:G=0
 ·subst h2
  rw[af rfl]
  show _=Ec.add (-3) _ (jac I J 0)
  rw[ju,Dd]
 rw[ae h2]
 by_cases h3:I*(j*j) - A*(G*G)=0
 ·rw[af h3]
  obtain⟨x1,y1,N,O,k⟩:=F.of_jac A B h1
  obtain⟨x2,y2,R,U,z⟩:=F.of_jac I J h2
  have V:=F.mul_ne h1 h2
  have ab:x1=x2:=by
   refine F.cancel (F.mul_ne V V) ?_
   subst N R; clear O U k z Z hu; grobner
  have X:On (-3) b (some (x1,y1)):=by rw[<-k]; exact Z
  have Y:On (-3) b (some (x2,y2)):=by rw[<-z]; exact hu
  subst ab
  by_cases h4:J*(j*(j*j)) - B*(G*(G*G))=0
  ·rw[af h4]
   have ac:y1=y2:=by
    refine F.cancel (F.mul_ne V (F.mul_ne V V)) ?_
    subst O U; clear k z Z hu X Y N R h3; grobner
   have e:=uW F (A,B,j)
   refine e.trans ?_
   show Ec.add (-3) (jac A B j) (jac A B j)=Ec.add (-3) (jac A B j) (jac I J G)
   rw[k,z,ac]
  ·rw[ae h4]
   have ad:y1+y2=0:=by
    rcases F.same_x X Y with q | q
    ·exfalso; apply h4
     subst O U q; clear k z Z hu X Y N R h3 h4; grobner
    ·rw[q,Pd]
   show jac 0 0 0=Ec.add (-3) (jac A B j) (jac I J G)
   rw[ju,k,z,qw,af rfl,af ad]
 ·rw[ae h3]
  exact F.jac_add h1 h2 rfl rfl rfl rfl rfl rfl rfl rfl rfl rfl rfl h3 (-3)
end
section
variable {p:Nat} [NeZero p]
def rl (u:Fin p):L8:=am u.val
def rep (P:Pt p):L8×L8×Bool:=match P with
 | none=>([],[],true)
 | some (x,y)=>(rl x,rl y,false)
theorem nc (u:Fin p):val (rl u)=u.val:=al _
theorem Ja (F:Fld p) (hp:Prm p) {Z:Fin p} {v:Nat} (j:v<p) (h:Z.val*v%p=1):(⟨v,j⟩:Fin p)=rcp Z:=by
 apply F.iv_uniq
 apply dI
 rw[gt]
 show Z.val*v%p=1%p
 rw[h,av hp.1]
theorem Pb (hp:Prm p) {Z:Fin p} (h:Z≠0):Nat.gcd Z.val p=1:=by
 have hz:Z.val≠0:=fun e=>h (dI (by rw[e]; simp))
 have j:¬p ∣ Z.val:=fun hd=>by have:=fG q10 hd; have:=Z.isLt; omega
 rw[eg]
 exact hp.coprime j
theorem Fs (hpl:nl (p:Int)<=1000) (u:Fin p):F.UN (be u).1 (be u).2=some (rl u):=by
 have:=oP u hpl
 unfold be
 rw[xa _ q10]; rfl
theorem Ma (b0:Bool) (b1:L8) (n0:Bool) (n1:L8) (x0:Bool) (x1:L8) (y0:Bool) (y1:L8) (s:Int) (hpl:nl (p:Int)<=1000) (D:Fld p) (hp:Prm p) (X Y Z:Fin p) :
  F.Vu (bi (p:Int)).1 (bi (p:Int)).2 b0 b1 n0 n1 x0 x1 y0 y1 s (be X).1 (be X).2 (be Y).1 (be Y).2 (be Z).1 (be Z).2=some (rep (jac X Y Z)):=by
 have mul:=vO b0 b1 n0 n1 x0 x1 y0 y1 s hpl
 unfold F.Vu jac
 rw[pp,aa]
 by_cases h:Z=0
 ·rw[af (sg0.2 h),af h]; rfl
 ·rw[ae (fun q=>h (sg0.1 q)),ae h]
  have hz:=oP Z hpl
  obtain⟨v,z,k,j⟩:=AC false [] Z.val p hp.1 q10 q10 (Pb hp h)
  have e:bi (v:Int)=be (rcp Z):=by rw[<-Ja D hp z k]; rfl
  rw[e]at j
  rw[show F.Xr false [] (be Z).1 (be Z).2 (bi (p:Int)).1 (bi (p:Int)).2=some (be (rcp Z)) from j,aa,mul,aa,mul,aa,Fs hpl,aa,mul,aa,mul,aa,Fs hpl,aa]
  rfl
end
section
variable (c:Int) (hc:isC c)
theorem qC (u:Fin (cP c)):(rl u).length<=12:=jk c (bG u.isLt)
include hc
def kQ (X Y:L8) (inf:Bool):Pt (cP c):=if inf then none else some (fz (val X:Int),fz (val Y:Int))
theorem yi (x y:Nat) (hx:x<cP c) (hy:y<cP c):onN (cP c) (cB c) x y=true↔On (-3) (fz (cB c:Int)) (some (fz (p:=cP c) (x:Int),fz (y:Int))):=by
 have hp:=(ii c).2.2.2.2.2.1
 unfold onN
 rw[ah hx,ah hy,fH,fH,decide_eq_true_iff]
 obtain⟨A,hA⟩:∃A,x*(x*x%cP c)%cP c=A:=⟨_,rfl⟩
 obtain⟨B,j⟩:∃B,3*x%cP c=B:=⟨_,rfl⟩
 have O:B<cP c:=by rw[<-j]; exact ba _ q10
 have k:fz (p:=cP c) (A:Int)=fz x*(fz x*fz x):=by rw[<-hA,cv,pt,dK,tY,cv,pt,dK,tY]
 have z:fz (p:=cP c) (B:Int)=3*fz x:=by
  rw[<-j,cv,pt,dK,tY]
  congr 1
 have G:fz (p:=cP c) (cP c:Int)=0:=Hy.2 (Int.emod_self)
 rw[hA,j]
 have I:fz (p:=cP c) ((((A+cP c - B)%cP c+cB c:Nat)):Int)=fz x*(fz x*fz x) - 3*fz x+fz (cB c:Int):=by
  rw[jl,yg,cv,pt,show ((A+cP c - B:Nat):Int)=(A:Int)+cP c - B by omega,J1,yg,k,z,G]
  grobner
 have J:fz (p:=cP c) ((y*y:Nat):Int)=fz y*fz y:=by rw[dK,tY]
 have N:y*y%cP c=((A+cP c - B)%cP c+cB c)%cP c↔fz (p:=cP c) ((y*y:Nat):Int)=fz ((((A+cP c - B)%cP c+cB c:Nat)):Int):=by
  rw[Jp,<-cv,<-cv]
  exact Int.natCast_inj.symm
 rw[N,I,J]
 unfold On
 dsimp only
 constructor
 ·intro h; rw[h]; grobner
 ·intro h; rw[h]; grobner
end
abbrev bF (c:Int):Fin (cP c):=fz (cB c:Int)
theorem GM {c:Int} {X Y:L8} {q:Bool} (h:onS c X Y q=true):isC c:=by
 unfold onS at h
 split at h
 ·assumption
 ·cases h
theorem yq {c:Int} {X Y:L8} (h:onS c X Y false=true):val X<cP c/\val Y<cP c/\onN (cP c) (cB c) (val X) (val Y)=true:=by
 have hc:=GM h
 unfold onS at h
 rw[af hc,ae q11]at h
 exact⟨(Il h).1,(Il h).2,h⟩
theorem Dh {c:Int} {X Y:L8} {q:Bool} (h:onS c X Y q=true):On (-3) (bF c) (kQ c X Y q):=by
 unfold kQ
 cases q with
 | true=>rw[af rfl]; trivial
 | false=>
  obtain⟨j,k,z⟩:=yq h
  rw[ae q11]
  exact (yi c (GM h) _ _ j k).1 z
theorem lz {l:L8} (h:val l=0):am (val l)=[]:=by rw[h]; exact cu
def jT (c:Int) (X Y:L8) (q:Bool):Fin (cP c)×Fin (cP c)×Fin (cP c):=if q then (0,0,0) else (fz (val X:Int),fz (val Y:Int),1)
theorem FN {p:Nat} [NeZero p]:be (0:Fin p)=(false,[]):=by
 unfold be
 have:(0:Fin p).val=0:=by simp
 rw[this]
 exact cD (fun l=>(false,l)) cu
theorem RE {c:Int} {X Y:L8} {q:Bool} (h:onS c X Y q=true):rdT X Y q=bt (jT c X Y q):=by
 unfold rdT jT bt
 cases q with
 | true=>
  rw[af rfl,af rfl]
  dsimp only
  rw[FN]
 | false=>
  obtain⟨A,B,_⟩:=yq h
  have hp:=(pq c).1
  have j:be (fz (p:=cP c) (val X:Int))=bi (val X:Int):=by rw[q6,gg q10 q10]
  have k:be (fz (p:=cP c) (val Y:Int))=bi (val Y:Int):=by rw[q6,gg q10 q10]
  have z:be (1:Fin (cP c))=bi 1:=by rw[<-Jw,q6,gg q10 q10]
  rw[ae q11,ae q11]
  dsimp only
  rw[j,k,z]
theorem xv (c:Int):(1:Fin (cP c))≠0:=by
 intro h
 have k:(1:Fin (cP c)).val=1%cP c:=rfl
 have z:(0:Fin (cP c)).val=0:=by simp
 have j:=cD Fin.val h
 rw[k,z,av (pq c).1]at j
 cases j
theorem Nd (c:Int) (X Y:L8) (q:Bool):jpt (jT c X Y q)=kQ c X Y q:=by
 unfold jpt jT kQ
 cases q with
 | true=>exact ju _ _
 | false=>
  rw[ae q11,ae q11]
  exact (o7 c).jac_of (xv c) (by grobner) (by grobner)
theorem Rr (c:Int) (t:Fin (cP c)×Fin (cP c)×Fin (cP c)) :
  F.Vu (gT c).1 (gT c).2.1 (gT c).2.2.1 (gT c).2.2.2.1 (gT c).2.2.2.2.1 (gT c).2.2.2.2.2.1 (gT c).2.2.2.2.2.2.1 (gT c).2.2.2.2.2.2.2.1 (gT c).2.2.2.2.2.2.2.2.1 (gT c).2.2.2.2.2.2.2.2.2.1 (gT c).2.2.2.2.2.2.2.2.2.2
   (bt t).1 (bt t).2.1 (bt t).2.2.1 (bt t).2.2.2.1 (bt t).2.2.2.2.1 (bt t).2.2.2.2.2=some (rep (jpt t)):=
 Ma _ _ _ _ _ _ _ _ _ (by have:=uS c; omega) (o7 c) (pq c) t.1 t.2.1 t.2.2
theorem R9 (c:Int) (t u:Fin (cP c)×Fin (cP c)×Fin (cP c)) :
  F.Vl (gT c).1 (gT c).2.1 (gT c).2.2.1 (gT c).2.2.2.1 (gT c).2.2.2.2.1 (gT c).2.2.2.2.2.1 (gT c).2.2.2.2.2.2.1 (gT c).2.2.2.2.2.2.2.1 (gT c).2.2.2.2.2.2.2.2.1 (gT c).2.2.2.2.2.2.2.2.2.1 (gT c).2.2.2.2.2.2.2.2.2.2
   (bt t).1 (bt t).2.1 (bt t).2.2.1 (bt t).2.2.2.1 (bt t).2.2.2.2.1 (bt t).2.2.2.2.2 (bt u).1 (bt u).2.1 (bt u).2.2.1 (bt u).2.2.2.1 (bt u).2.2.2.2.1 (bt u).2.2.2.2.2=some (bt (qG t.1 t.2.1 t.2.2 u.1 u.2.1 u.2.2)):=
 Fb _ _ _ _ _ _ _ _ _ (by have:=uS c; omega) t.1 t.2.1 t.2.2 u.1 u.2.1 u.2.2
theorem Fy (c:Int) (P:Pt (cP c)):(rep P).1.length<=12/\(rep P).2.1.length<=12:=by
 rcases P with _ | ⟨x,y⟩
 ·exact⟨eR _,eR _⟩
 ·exact⟨qC c x,qC c y⟩
section
variable {p:Nat} [NeZero p]
end
def gP (c:Int):Pt (cP c):=some (fz (cX c:Int),fz (cY c:Int))
theorem Ht (c:Int) (hc:isC c):On (-3) (bF c) (gP c):=by
 obtain⟨_,_,_,j,k,_⟩:=ii c
 refine (yi c hc (cX c) (cY c) j k).1 ?_
 rcases hc with rfl | rfl
 ·decide +kernel
 ·decide +kernel
theorem Am (n:Nat) (hn:nl (n:Int)<=1000000000):F.Yo (bi (n:Int)).1 (bi (n:Int)).2=some (nb n:Int):=by
 unfold F.Yo
 rw[length_eq _ (by have:(bi (n:Int)).2.length=nl (n:Int):=rfl; omega),aa,bi2,cU,pz]
def bw (n i:Nat):UInt64:=UInt64.ofNat (n / 2^i%2)
theorem BA (n i:Nat):(bw n i == 1)=decide (n / 2^i%2=1):=by
 have h:n / 2^i%2=0\/n / 2^i%2=1:=by omega
 unfold bw
 rcases h with h | h <;> rw[h] <;> rfl
theorem OX (a:L8) (i:Nat) (hi:i<=4611686018427387904) (ha:a.length<=4611686018427387904):F.YX a (i:Int)=some (bw (val a) i):=by
 unfold F.YX F.acv
 have k:wI (Int.tdiv (i:Int) 32)=((i / 32:Nat):Int):=by rw[bQ q10,ay q10 q10]; omega
 have z:((UInt64.ofInt (i:Int))%32).toNat=i%32:=by
  rw[dM,UInt64.ofInt,bO]
  have:(32:UInt64).toNat=32:=rfl
  rw[this]; omega
 rw[ae (by simp only[aj]; omega),k]
 dsimp only
 by_cases h:a.length<=i / 32
 ·rw[af (ah q10)]
  have j:=sI a i
  have A:a.getD (i / 32) 0=0:=iW h
  rw[A]at j
  unfold bw
  rw[<-j]
  have:(0:UInt32).toNat=0:=rfl
  rw[this,kw]; rfl
 ·rw[ae (by simp only[aj]; omega),aG (show i / 32<a.length by omega) 0,aa,z]
  congr 1
  apply dA.1
  have j:((cq (a.getD (i / 32) 0) (i%32)).toUInt64 &&& 1).toNat=val a / 2^i%2:=by
   rw[UInt64.toNat_and,dD,lP,aT q10,<-sI]
   have:(1:UInt64).toNat=2^1 - 1:=rfl
   rw[this,dJ]
  rw[j]
  unfold bw
  rw[bO]
  omega
theorem KE (n i:Nat) (hi:i<=4611686018427387904) (hn:nl (n:Int)<=1000000000):F.Yb (bi (n:Int)).1 (bi (n:Int)).2 (i:Int)=some (bw n i):=by
 unfold F.Yb
 rw[ae (by simp only[aj]; omega),bi1 q10,af (by rfl),OX _ _ hi (by have:(bi (n:Int)).2.length=nl (n:Int):=rfl; omega),aa,r7,cU]
section
variable {p:Nat} [NeZero p]
def rg (t:Fin p×Fin p×Fin p) (b:Bool) (q:Fin p×Fin p×Fin p):Fin p×Fin p×Fin p:=
 let d:=r9 t.1 t.2.1 t.2.2
 if b then qG d.1 d.2.1 d.2.2 q.1 q.2.1 q.2.2 else d
variable (b0:Bool) (b1:L8) (n0:Bool) (n1:L8) (x0:Bool) (x1:L8) (y0:Bool) (y1:L8) (s:Int) (hpl:nl (p:Int)<=1000)
include hpl
theorem K7 (t:Fin p×Fin p×Fin p) (b:Bool) (q:Fin p×Fin p×Fin p) :
  F.Vs (bi (p:Int)).1 (bi (p:Int)).2 b0 b1 n0 n1 x0 x1 y0 y1 s (bt t).1 (bt t).2.1 (bt t).2.2.1 (bt t).2.2.2.1 (bt t).2.2.2.2.1 (bt t).2.2.2.2.2 b (bt q).1 (bt q).2.1 (bt q).2.2.1 (bt q).2.2.2.1 (bt q).2.2.2.2.1 (bt q).2.2.2.2.2=some (bt (rg t b q)):=by
 unfold F.Vs F.acK
 have hd:=yc b0 b1 n0 n1 x0 x1 y0 y1 s hpl t.1 t.2.1 t.2.2
 rw[show F.W7 (bi (p:Int)).1 (bi (p:Int)).2 b0 b1 n0 n1 x0 x1 y0 y1 s (bt t).1 (bt t).2.1 (bt t).2.2.1 (bt t).2.2.2.1 (bt t).2.2.2.2.1 (bt t).2.2.2.2.2=_ from hd,aa]
 unfold rg
 cases b with
 | false=>rfl
 | true=>
  rw[af rfl]
  generalize r9 t.1 t.2.1 t.2.2=d
  have ha:=Fb b0 b1 n0 n1 x0 x1 y0 y1 s hpl d.1 d.2.1 d.2.2 q.1 q.2.1 q.2.2
  rw[show F.Vl (bi (p:Int)).1 (bi (p:Int)).2 b0 b1 n0 n1 x0 x1 y0 y1 s (bt d).1 (bt d).2.1 (bt d).2.2.1 (bt d).2.2.2.1 (bt d).2.2.2.2.1 (bt d).2.2.2.2.2 (bt q).1 (bt q).2.1 (bt q).2.2.1 (bt q).2.2.2.1 (bt q).2.2.2.2.1 (bt q).2.2.2.2.2=_ from ha,aa]
  rfl
omit hpl in
omit hpl in
theorem MO {b:Fin p} (F:Fld p) {t q:Fin p×Fin p×Fin p} (j:On (-3) b (jpt t)) (k:On (-3) b (jpt q)) (c:Bool):jpt (rg t c q)=if c then Ec.add (-3) (Ec.add (-3) (jpt t) (jpt t)) (jpt q) else Ec.add (-3) (jpt t) (jpt t):=by
 have hd:=uW F t
 unfold rg
 cases c with
 | false=>exact hd
 | true=>
  rw[af rfl,af rfl,za (b:=b) F _ _ (by rw[hd]; exact F.on_add j j) k,hd]
omit hpl in
theorem Fm (e k:Nat):e / 2^k=2*(e / 2^(k+1))+(if decide (e / 2^k%2=1) then 1 else 0):=by
 have j:e / 2^(k+1)=e / 2^k / 2:=by rw[aU,dq]
 rw[j]
 by_cases h:e / 2^k%2=1
 ·rw[ah h,af rfl]; omega
 ·rw[an h,ae q11]; omega
omit hpl in
end
theorem Ad (k:L8) (j:k.length<=35184372087808):F.VV k=some ((bi (val k:Int)).1,(bi (val k:Int)).2,decide (nb (val k)<=1024)):=by
 unfold F.VV
 rw[Ha k j,aa,kO k q10,aa]
 congr 3
 by_cases h:nb (val k)<=1024
 ·rw[ah h,ah q10]
 ·rw[an h,an q10]
abbrev J3 (c:Int):=Fin (cP c)×Fin (cP c)×Fin (cP c)
def gJ (c:Int):J3 c:=(fz (cX c:Int),fz (cY c:Int),1)
theorem Gw (c:Int):jpt (gJ c)=gP c:=by
 show jac (fz (p:=cP c) (cX c:Int)) (fz (cY c:Int)) 1=_
 exact (o7 c).jac_of (xv c) (by grobner) (by grobner)
theorem DK (c:Int) {v:Nat} (h:v<cP c):be (fz (p:=cP c) (v:Int))=bi (v:Int):=by rw[q6,gg q10 q10]
theorem Rf (c:Int):be (1:Fin (cP c))=bi 1:=by
 have:=(pq c).1
 rw[<-Jw,q6,gg q10 q10]
theorem E7 (c:Int):bt ((0,0,0):J3 c)=(false,[],false,[],false,[]):=by
 unfold bt
 dsimp only
 rw[FN]
def gQ (c:Int) (t:J3 c):Bool×L8×Bool×L8×Bool×L8×Bool×L8×Bool×L8×Int×Bool×L8×Bool×L8×Bool×L8:=
 ((gT c).1,(gT c).2.1,(gT c).2.2.1,(gT c).2.2.2.1,(gT c).2.2.2.2.1,(gT c).2.2.2.2.2.1,(gT c).2.2.2.2.2.2.1,(gT c).2.2.2.2.2.2.2.1,(gT c).2.2.2.2.2.2.2.2.1,(gT c).2.2.2.2.2.2.2.2.2.1,(gT c).2.2.2.2.2.2.2.2.2.2,
  (bt t).1,(bt t).2.1,(bt t).2.2.1,(bt t).2.2.2.1,(bt t).2.2.2.2.1,(bt t).2.2.2.2.2)
theorem FV (c:Int) (t:J3 c):((gQ c t).2.2.2.2.2.2.1,(gQ c t).2.2.2.2.2.2.2.1,(gQ c t).2.2.2.2.2.2.2.2.1,(gQ c t).2.2.2.2.2.2.2.2.2.1,(bi 1).1,(bi 1).2)=bt (gJ c):=by
 obtain⟨_,_,_,j,k,_⟩:=ii c
 unfold bt gJ
 dsimp only
 rw[DK c j,DK c k,Rf]
 rfl
theorem Rx (c:Int) (t:J3 c) (b:Bool) (q:J3 c) :
  F.Vs (gT c).1 (gT c).2.1 (gT c).2.2.1 (gT c).2.2.2.1 (gT c).2.2.2.2.1 (gT c).2.2.2.2.2.1 (gT c).2.2.2.2.2.2.1 (gT c).2.2.2.2.2.2.2.1 (gT c).2.2.2.2.2.2.2.2.1 (gT c).2.2.2.2.2.2.2.2.2.1 (gT c).2.2.2.2.2.2.2.2.2.2
   (bt t).1 (bt t).2.1 (bt t).2.2.1 (bt t).2.2.2.1 (bt t).2.2.2.2.1 (bt t).2.2.2.2.2 b (bt q).1 (bt q).2.1 (bt q).2.2.1 (bt q).2.2.2.1 (bt q).2.2.2.2.1 (bt q).2.2.2.2.2=some (bt (rg t b q)):=
 K7 _ _ _ _ _ _ _ _ _ (by have:=uS c; omega) t b q
def whJ (c:Int) (q:J3 c) (x y:Bool):J3 c:=if x&&y then qG (gJ c).1 (gJ c).2.1 (gJ c).2.2 q.1 q.2.1 q.2.2 else if y then q else if x then gJ c else (0,0,0)
def yR (c:Int) (m n:Nat) (q:J3 c):Nat->J3 c->J3 c
 | 0,t=>t
 | i+1,t=>yR c m n q i (rg t true (whJ c q (decide (m / 2^i%2=1)) (decide (n / 2^i%2=1))))
theorem SA (c:Int) (q:J3 c) (i:Nat) (hi:i<=1000000000) (t u:J3 c) :
  F.Vq (gQ c q) (i:Int) (bt t).1 (bt t).2.1 (bt t).2.2.1 (bt t).2.2.2.1 (bt t).2.2.2.2.1 (bt t).2.2.2.2.2 (bt u)=some (.inl ((i:Int) - 1,bt (rg t true u))):=by
 have w:wI ((i:Int) - 1)=(i:Int) - 1:=ay q10 q10
 have h:=Rx c t true u
 unfold F.Vq
 generalize bt u=v at h ⊢
 obtain⟨j,k,z,A,B,G⟩:=v
 show ag (F.Vs _ _ _ _ _ _ _ _ _ _ _ _ _ _ _ _ _ _ _ _ _ _ _ _) _=_
 rw[show F.Vs (gQ c q).1 (gQ c q).2.1 (gQ c q).2.2.1 (gQ c q).2.2.2.1 (gQ c q).2.2.2.2.1 (gQ c q).2.2.2.2.2.1 (gQ c q).2.2.2.2.2.2.1 (gQ c q).2.2.2.2.2.2.2.1 (gQ c q).2.2.2.2.2.2.2.2.1 (gQ c q).2.2.2.2.2.2.2.2.2.1 (gQ c q).2.2.2.2.2.2.2.2.2.2.1
  (bt t).1 (bt t).2.1 (bt t).2.2.1 (bt t).2.2.2.1 (bt t).2.2.2.2.1 (bt t).2.2.2.2.2 true j k z A B G=_ from h,aa,w]
 rfl
theorem wy (c:Int) (m n:Nat) (hm:nl (m:Int)<=1000000000) (hn:nl (n:Int)<=1000000000) (q:J3 c) (k fn:Bool):∀(i:Nat) (t:J3 c),i<=100000000 ->
  loop (F.Xq (gQ c q) ((bi (m:Int)).1,(bi (m:Int)).2,k) ((bi (n:Int)).1,(bi (n:Int)).2,fn) (bi 1) (bt (qG (gJ c).1 (gJ c).2.1 (gJ c).2.2 q.1 q.2.1 q.2.2)))
   ((i:Int) - 1,bt t)=some ((rep (jpt (yR c m n q i t))).1,(rep (jpt (yR c m n q i t))).2.1,(rep (jpt (yR c m n q i t))).2.2,0)
 | 0,t,_=>by
  refine bm ?_
  unfold F.Xq
  dsimp only
  rw[ae (by simp)]
  congr 1
  show ag (F.Vu _ _ _ _ _ _ _ _ _ _ _ _ _ _ _ _ _) _=_
  have h:=Rr c t
  rw[show F.Vu (gQ c q).1 (gQ c q).2.1 (gQ c q).2.2.1 (gQ c q).2.2.2.1 (gQ c q).2.2.2.2.1 (gQ c q).2.2.2.2.2.1 (gQ c q).2.2.2.2.2.2.1 (gQ c q).2.2.2.2.2.2.2.1 (gQ c q).2.2.2.2.2.2.2.2.1 (gQ c q).2.2.2.2.2.2.2.2.2.1 (gQ c q).2.2.2.2.2.2.2.2.2.2.1
   (bt t).1 (bt t).2.1 (bt t).2.2.1 (bt t).2.2.2.1 (bt t).2.2.2.2.1 (bt t).2.2.2.2.2=_ from h,aa]
  rfl
 | i+1,t,hi=>by
  have e:(((i+1:Nat):Int) - 1)=(i:Int):=by omega
  rw[e]
  have z:F.Xq (gQ c q) ((bi (m:Int)).1,(bi (m:Int)).2,k) ((bi (n:Int)).1,(bi (n:Int)).2,fn) (bi 1) (bt (qG (gJ c).1 (gJ c).2.1 (gJ c).2.2 q.1 q.2.1 q.2.2)) ((i:Int),bt t)
    = some (.inl ((i:Int) - 1,bt (rg t true (whJ c q (decide (m / 2^i%2=1)) (decide (n / 2^i%2=1)))))):=by
   unfold F.Xq
   show (if decide ((0:Int)<=(i:Int))=true then _ else _)=_
   rw[af (ah q10)]
   dsimp only
   rw[KE m i q10 hm,aa,KE n i q10 hn,aa,BA]
   have j:=fun u=>SA c q i q10 t u
   unfold F.aci whJ
   cases hx:decide (m / 2^i%2=1) with
   | true=>
    rw[af rfl]
    show (if (bw n i == 1)=true then _ else _)=_
    rw[BA]
    cases hy:decide (n / 2^i%2=1) with
    | true=>
     rw[af rfl]
     exact j _
    | false=>
     rw[ae q11,ae q11,ae q11]
     show F.Vq _ _ _ _ _ _ _ _ ((gQ c q).2.2.2.2.2.2.1,(gQ c q).2.2.2.2.2.2.2.1,(gQ c q).2.2.2.2.2.2.2.2.1,(gQ c q).2.2.2.2.2.2.2.2.2.1,(bi 1).1,(bi 1).2)=_
     rw[FV]
     exact j _
   | false=>
    rw[ae q11]
    show (if false=true then _ else _)=_
    rw[ae q11,BA]
    cases hy:decide (n / 2^i%2=1) with
    | true=>
     rw[af rfl]
     exact j _
    | false=>
     rw[ae q11]
     rw[af (show (!false)=true from rfl)]
     unfold F.U5
     rw[aa]
     show F.Vq _ _ _ _ _ _ _ _ (false,[],false,[],false,[])=_
     rw[<-E7 c]
     exact j _
  rw[bv z]
  exact wy c m n hm hn q k fn i _ q10
theorem FB {n:Nat} (h:nb n<=1024):nl (n:Int)<=33:=by
 refine A8 ?_
 rw[cU]
 have j:=(fi n).1
 have k:=aE (show 0<2 by decide) (show nb n<=32*33 by omega)
 rw[show (4294967296:Nat)=2^32 from rfl,<-bB]
 omega
theorem KO {c:Int} (P:Pt (cP c)):kQ c (rep P).1 (rep P).2.1 (rep P).2.2=P:=by
 rcases P with _ | ⟨x,y⟩
 ·rfl
 ·show some (fz (val (am x.val):Int),fz (val (am y.val):Int))=_
  rw[al,al,nR,nR]
theorem OZ {c:Int} (hc:isC c) {P:Pt (cP c)} (hP:On (-3) (bF c) P):onS c (rep P).1 (rep P).2.1 (rep P).2.2=true:=by
 unfold onS
 rw[af hc]
 rcases P with _ | ⟨x,y⟩
 ·rfl
 ·show (if false=true then _ else onN (cP c) (cB c) (val (am x.val)) (val (am y.val)))=true
  rw[ae q11,al,al,yi c hc _ _ x.isLt y.isLt,nR,nR]
  exact hP
noncomputable def res {c:Int} (P:Pt (cP c)):L8×L8×Bool×Int:=((rep P).1,(rep P).2.1,(rep P).2.2,0)
theorem Lp (c:Int) (hc:isC c):F.ac8 c=some (rep (gP c)):=by
 obtain⟨_,_,_,j,k,_⟩:=ii c
 rw[FK,af hc]
 show some (am (cX c),am (cY c),false)=some (am (fz (p:=cP c) (cX c:Int)).val,am (fz (p:=cP c) (cY c:Int)).val,false)
 rw[wS _ j,wS _ k]
theorem Ai (n:Nat):cW n n=0:=by unfold cW; rw[ae q10,af rfl]
theorem z9 (a b:L8) (m j:Nat) (A B:L8) (ha:a.take m=A) (hb:b.take j=B) (hl:A.length=B.length) (hA:A.length<=4611686018427387904):∀k:Nat,k<=A.length->val (A.drop k)=val (B.drop k)->loop (F.XU a b m j) ((k:Int) - 1)=some (cW (val A) (val B))
 | 0,_,h=>by
  rw[cR,cR]at h
  refine bm ?_
  unfold F.XU
  rw[ae q11,h,Ai]
 | k+1,hk,h=>by
  have z:(((k+1:Nat):Int)) - 1=(k:Int):=by omega
  rw[z]
  have w:wI ((k:Int) - 1)=(k:Int) - 1:=ay q10 q10
  have hL:F.XU a b m j (k:Int)=if (A.getD k 0)<(B.getD k 0) then bz (some (-1)) else if (B.getD k 0)<(A.getD k 0) then bz (some 1) else bJ ((k:Int) - 1):=by
   unfold F.XU
   rw[ha,hb,af (ah q10),aG (show k<A.length by omega) 0,aa,aG (show k<B.length by omega) 0,aa]
   by_cases h1:A.getD k 0<B.getD k 0
   ·rw[af (ah h1),af h1]
   ·rw[ae (by rw[aj]; exact h1),ae h1,aa,aa]
    by_cases h2:B.getD k 0<A.getD k 0
    ·rw[af (ah h2),af h2]
    ·rw[ae (by rw[aj]; exact h2),ae h2,w]
  by_cases h1:A.getD k 0<B.getD k 0
  ·rw[af h1]at hL
   have:=oI A B k h (dn.1 h1)
   rw[bm hL]; unfold cW; rw[af this]
  ·rw[ae h1]at hL
   by_cases h2:B.getD k 0<A.getD k 0
   ·rw[af h2]at hL
    have:=oI B A k h.symm (dn.1 h2)
    rw[bm hL]; unfold cW; rw[ae q10,ae q10]
   ·rw[ae h2]at hL
    rw[bv hL]
    refine z9 a b m j A B ha hb hl hA k q10 ?_
    have G:¬(A.getD k 0).toNat<(B.getD k 0).toNat:=fun q=>h1 (dn.2 q)
    have I:¬(B.getD k 0).toNat<(A.getD k 0).toNat:=fun q=>h2 (dn.2 q)
    rw[d9 A k,d9 B k,h]; omega
theorem Cq {a b:Nat} (h:(am a).length<(am b).length):a<b:=by
 rcases cI a b with j | j
 ·exact j
 ·have:=db j; omega
theorem lQ (a b:L8) (ha:a.length<=4611686018427387904) (hb:b.length<=4611686018427387904):F.Uf a b=some (cW (val a) (val b)):=by
 obtain⟨m,z,G,j⟩:=jf a ha
 obtain⟨A,B,I,k⟩:=jf b hb
 have J:(am (val a)).length<=a.length:=bc (bN a)
 unfold F.Uf
 rw[z,aa,B,aa,j,k]
 by_cases hl:(am (val a)).length<(am (val b)).length
 ·have:=Cq hl
  rw[af (ah q10)]; unfold cW; rw[af this]
 ·rw[ae (by rw[aj]; omega)]
  by_cases hl2:(am (val b)).length<(am (val a)).length
  ·have:=Cq hl2
   rw[af (ah q10)]; unfold cW; rw[ae q10,ae q10]
  ·rw[ae (by rw[aj]; omega),aS,ay q10 q10]
   have:=z9 a b m A (am (val a)) (am (val b)) j k q10 q10 (am (val a)).length (aq _) (by rw[bp q10,bp q10])
   rw[al,al]at this
   exact this
def adS (A B:L8) (x:UInt64×L8) (i:Nat):UInt64×L8:=
 let s:=if i<B.length then (x.1+(A.getD i 0).toUInt64)+(B.getD i 0).toUInt64 else x.1+(A.getD i 0).toUInt64
 (bH s 32,x.2.set i s.toUInt32)
def AdI (A B:L8) (i:Nat) (x:UInt64×L8):Prop:=
 x.2.length=A.length+1/\x.1.toNat<=1/\val (x.2.take i)+4294967296^i*x.1.toNat=val (A.take i)+val (B.take i)
theorem qS {l:L8} {i:Nat} (h:i<l.length):val (l.take (i+1))=val (l.take i)+4294967296^i*(l.getD i 0).toNat:=by
 rw[pD h,oT,az,aT q10]
 simp[val]
theorem D6 {l:L8} {i:Nat} (h:l.length<=i):l.take (i+1)=l.take i:=by
 rw[aC q10,aC q10]
theorem Og {A B:L8} {x:UInt64×L8} {i:Nat} (hi:i<A.length) (h:AdI A B i x):AdI A B (i+1) (adS A B x i):=by
 obtain⟨G,U,I⟩:=h
 obtain⟨s,hs⟩:∃s,(if i<B.length then (x.1+(A.getD i 0).toUInt64)+(B.getD i 0).toUInt64 else x.1+(A.getD i 0).toUInt64)=s:=⟨_,rfl⟩
 have e:adS A B x i=(bH s 32,x.2.set i s.toUInt32):=by unfold adS; rw[hs]
 have V:=eF (A.getD i 0); have X:=eF (B.getD i 0)
 have j:s.toNat=x.1.toNat+(A.getD i 0).toNat+(if i<B.length then (B.getD i 0).toNat else 0):=by
  rw[<-hs]
  split
  ·rw[iX,iX,dD,dD]; omega
  ·rw[iX,dD]; omega
 have k:val (B.take (i+1))=val (B.take i)+4294967296^i*(if i<B.length then (B.getD i 0).toNat else 0):=by
  split
  ·rename_i hb; exact qS hb
  ·rename_i hb; rw[D6 q10]; omega
 have R:s.toNat<2*4294967296:=by rw[j]; split <;> omega
 rw[e]
 have z:(bH s 32).toNat=s.toNat / 4294967296:=by rw[jm]; rfl
 have J:s.toUInt32.toNat=s.toNat%4294967296:=by rw[UInt64.toNat_toUInt32]
 refine⟨by simpa using G,by show (bH s 32).toNat<=1; rw[z]; omega,?_⟩
 show val ((x.2.set i s.toUInt32).take (i+1))+4294967296^(i+1)*(bH s 32).toNat=_
 rw[qS (by simp; omega),qS hi,k,z]
 have N:(x.2.set i s.toUInt32).take i=x.2.take i:=gh q10
 have O:(x.2.set i s.toUInt32).getD i 0=s.toUInt32:=by
  rw[ak,dp q10]; rfl
 rw[N,O,J,aU]
 obtain⟨P,hP⟩:∃P,(4294967296:Nat)^i=P:=⟨_,rfl⟩
 rw[hP]at I k ⊢
 have hd:=cQ s.toNat 4294967296
 have Y:P*(s.toNat%4294967296)+P*4294967296*(s.toNat / 4294967296)=P*s.toNat:=by
  rw[aD,<-aF,bW,hd]
 have Z:P*s.toNat=P*x.1.toNat+P*(A.getD i 0).toNat+P*(if i<B.length then (B.getD i 0).toNat else 0):=by rw[j,aF,aF]
 omega
theorem E0 (A B:L8) (hl:B.length<=A.length) (hA:A.length<=50000000000000):F.abO (A,B)=some (am (val A+val B)):=by
 unfold F.abO
 dsimp only
 have J:wI ((A.length:Int)+1)=((A.length+1:Nat):Int):=by rw[ay q10 q10]; rfl
 have hm:mkO 4 ((A.length+1:Nat):Int) ((A.length+1:Nat):Int) (0:UInt32)=some (List.replicate (A.length+1) 0):=by
  unfold mkO
  rw[af q10,ao]
 rw[J,hm,aa]
 have j:∀(k i:Nat) (x:UInt64×L8),i+k=A.length->AdI A B i x->loop (F.Xt A B) (x.1,(i:Int),x.2)=some (am (val A+val B)):=by
  intro k
  induction k with
  | zero=>
   intro i x hi hx
   obtain⟨h1,h2,N⟩:=hx
   have z:i=A.length:=by omega
   subst z
   refine bm ?_
   unfold F.Xt
   dsimp only
   rw[ae (by rw[aj]; omega),aG (show A.length<x.2.length by omega) 0,aa,aS,ao]
   obtain⟨m,O,p2,R⟩:=kI (x.2.set A.length x.1.toUInt32) (by simp; omega)
   rw[O,aa,R]
   congr 2
   have U:(x.2.set A.length x.1.toUInt32)=(x.2.set A.length x.1.toUInt32).take (A.length+1):=by rw[aC (by simp; omega)]
   have V:(x.2.set A.length x.1.toUInt32).take A.length=x.2.take A.length:=gh q10
   have X:(x.2.set A.length x.1.toUInt32).getD A.length 0=x.1.toUInt32:=by
    rw[ak,dp q10]; rfl
   have Y:x.1.toUInt32.toNat=x.1.toNat:=by rw[UInt64.toNat_toUInt32]; omega
   rw[U,qS (by simp; omega),V,X,Y,N,aC q10,aC hl]
  | succ k ih=>
   intro i x hi hx
   have G:wI ((i:Int)+1)=((i+1:Nat):Int):=by rw[ay q10 q10]; rfl
   have Z:=hx.1
   have I:F.Xt A B (x.1,(i:Int),x.2)=some (.inl ((adS A B x i).1,((i+1:Nat):Int),(adS A B x i).2)):=by
    unfold F.Xt adS
    dsimp only
    rw[af (ah q10),aG (show i<A.length by omega) 0,aa]
    by_cases hb:i<B.length
    ·rw[af (ah q10),aG hb 0,aa,aS,af hb]
     unfold F.ab1
     rw[aG (show i<x.2.length by omega) 0,aa,aS,G,ao]
     rfl
    ·rw[ae (by rw[aj]; omega),ae hb]
     unfold F.ab1
     rw[aG (show i<x.2.length by omega) 0,aa,aS,G,ao]
     rfl
   rw[bv I]
   exact ih (i+1) (adS A B x i) q10 (Og q10 hx)
 exact j A.length 0 (0,List.replicate (A.length+1) 0) q10 ⟨by simp,eR 1,by simp[val]⟩
theorem uJ (a b:L8) (ha:a.length<=40000000000000) (hb:b.length<=40000000000000):F.VA a b=some (am (val a+val b)):=by
 obtain⟨m,j,B,k⟩:=jf a q10
 obtain⟨G,z,I,A⟩:=jf b q10
 have J:(am (val a)).length<=a.length:=bc (bN a)
 have N:(am (val b)).length<=b.length:=bc (bN b)
 unfold F.VA
 rw[j,aa,z,aa,k,A]
 by_cases hl:(am (val a)).length<(am (val b)).length
 ·rw[af (ah q10),E0 _ _ q10 q10,al,al,bW]
 ·rw[ae (by rw[aj]; omega),E0 _ _ q10 q10,al,al]
theorem Nc {n:Nat} {k:Nat} (h:(am n).length<=k):nb n<=32*k:=aA (mf n) (bf 32 h)
end Go.Gk.Bn
end
section
namespace Go.Gk.Bn
open Go Go.Gk Go.Gk.Sh
theorem uH (x:UInt32):x.toBitVec.msb=decide (2147483648<=x.toNat):=by
 rw[BitVec.msb_eq_decide]; rfl
theorem Pn (x:UInt32):(cq x 31).toNat=if x.toBitVec.msb=true then 1 else 0:=by
 have hx:=eF x
 have:(cq x 31).toNat=x.toNat / 2147483648:=by
  unfold cq
  rw[cV,show min 31 32=31 from rfl]
  omega
 rw[this,uH]
 by_cases h:2147483648<=x.toNat
 ·rw[af (ah h)]; omega
 ·rw[ae (by rw[aj]; exact h)]; omega
theorem Lu (a b c:UInt32) (hc:c.toNat<=1):∃d e:UInt32,F.acO a b c=some (d,e)/\e.toNat<=1/\d.toNat+b.toNat+c.toNat=a.toNat+4294967296*e.toNat:=by
 refine⟨(a - b) - c,_,rfl,?_⟩
 obtain⟨d,hd⟩:∃d,(a - b) - c=d:=⟨_,rfl⟩
 rw[hd]
 have k:d.toNat=(4294967296 - c.toNat+(4294967296 - b.toNat+a.toNat)%4294967296)%4294967296:=by rw[<-hd,UInt32.toNat_sub,UInt32.toNat_sub]
 have ha:=eF a; have hb:=eF b; have z:=eF d
 rw[Pn]
 have j:(((~~~ a) &&& b) ||| ((~~~ (a ^^^ b)) &&& d)).toBitVec.msb=((!a.toBitVec.msb&&b.toBitVec.msb) || (!(a.toBitVec.msb != b.toBitVec.msb)&&d.toBitVec.msb)):=by
  simp[BitVec.msb_or,BitVec.msb_and,BitVec.msb_xor,BitVec.msb_not]
 rw[j,uH,uH,uH]
 by_cases h1:2147483648<=a.toNat <;> by_cases h2:2147483648<=b.toNat <;> by_cases h3:2147483648<=d.toNat <;> simp only[h1,h2,h3,decide_true,decide_false] <;> simp <;> omega
theorem uK {l:L8} {lo hi:Nat} (j:lo<=hi) (k:hi<=l.length):((l.drop lo).take (hi - lo)).length=hi - lo:=by
 rw[az,bj]; omega
theorem FQ {l:L8} {lo hi i:Nat} (k:hi<=l.length) (j:i<hi - lo):au ((l.drop lo).take (hi - lo)) (i:Int)=some (l.getD (lo+i) 0):=by
 rw[aG (show i<((l.drop lo).take (hi - lo)).length by rw[az,bj]; omega) 0]
 congr 1
 rw[ak,List.getElem?_take_of_lt j,dt,<-ak]
def TkI (u y:L8) (lo i:Nat) (x:UInt32×L8):Prop:=
 x.2.length=u.length/\x.1.toNat<=1/\(∀k,lo+i<=k->x.2.getD k 0=u.getD k 0)/\val x.2+4294967296^lo*val (y.take i)=val u+4294967296^(lo+i)*x.1.toNat
theorem Mv (u y:L8) (lo hi:Nat) (B:lo<=hi) (G:hi<=u.length) (hu:u.length<=4611686018427387904) (hy:y.length<=4611686018427387904) :
  ∃r,F.Vz u lo hi y=some r/\TkI u y lo (hi - lo) r:=by
 have I:∀(k i:Nat) (x:UInt32×L8),i+k=hi - lo->TkI u y lo i x->∃r,loop (F.Ys lo hi u y) (x.1,(i:Int),x.2)=some r/\TkI u y lo (hi - lo) r:=by
  intro k
  induction k with
  | zero=>
   intro i x J hx
   have:i=hi - lo:=by omega
   subst this
   refine⟨x,bm ?_,hx⟩
   unfold F.Ys
   dsimp only
   rw[uK B G,ae (by rw[aj]; omega)]
  | succ k ih=>
   intro i x J hx
   obtain⟨U,V,X,Y⟩:=hx
   have N:i<hi - lo:=by omega
   have Z:wI ((i:Int)+1)=((i+1:Nat):Int):=by rw[ay q10 q10]; rfl
   obtain⟨d,e,s1,s2,s3⟩:=Lu (x.2.getD (lo+i) 0) (y.getD i 0) x.1 V
   have O:F.Ys lo hi u y (x.1,(i:Int),x.2)=some (.inl (e,((i+1:Nat):Int),x.2.set (lo+i) d)):=by
    have j:F.Zv lo hi x.1 (i:Int) x.2 (y.getD i 0)=some (.inl (e,((i+1:Nat):Int),x.2.set (lo+i) d)):=by
     unfold F.Zv
     rw[FQ q10 N,aa,s1,aa,aa,aS,Z,ao]; rfl
    unfold F.Ys
    dsimp only
    rw[uK B G,af (ah q10)]
    by_cases hb:i<y.length
    ·rw[af (ah q10),aG hb 0,aa,j]
    ·rw[ae (by rw[aj]; omega)]
     have:y.getD i 0=0:=by rw[ak,dw q10]; rfl
     rw[this]at j; exact j
   rw[bv O]
   refine ih (i+1) (e,x.2.set (lo+i) d) q10 ⟨by simpa using U,s2,fun R hk=>?_,?_⟩
   ·show (x.2.set (lo+i) d).getD R 0=_
    rw[ik q10]; exact X R q10
   ·show val (x.2.set (lo+i) d)+_=_+_*e.toNat
    have hv:=gI x.2 (lo+i) d q10
    rw[cH y i,aF,<-aD,<-bu,show lo+(i+1)=(lo+i)+1 by omega,aU]
    obtain⟨A,hP⟩:∃A,(4294967296:Nat)^(lo+i)=A:=⟨_,rfl⟩
    rw[hP]at Y hv ⊢
    have e1:=cD (fun z=>A*z) s3
    simp only[aF]at e1
    rw[aD]
    omega
 exact I (hi - lo) 0 (0,u) q10 ⟨rfl,eR 1,fun _ _=>rfl,by simp[val]⟩
theorem C7 (u y:L8) (lo hi:Nat) (I:lo<=hi) (J:hi<=u.length) (hu:u.length<=4611686018427387904) (hy:y.length<=hi - lo) (A:val u<4294967296^hi) (R:4294967296^lo*val y<=val u) :
  ∃c j,F.Vz u lo hi y=some (c,j)/\j.length=u.length/\val j+4294967296^lo*val y=val u:=by
 obtain⟨⟨c,j⟩,N,B,r3,G,z⟩:=Mv u y lo hi I J hu q10
 dsimp only at B r3 G z
 rw[aC hy,show lo+(hi - lo)=hi by omega]at z
 refine⟨c,j,N,B,?_⟩
 have hz:val j<4294967296^hi:=tA fun k O=>by rw[G k q10]; exact Fq A k O
 rcases cI c.toNat 1 with h | h
 ·have:c.toNat=0:=by omega
  rw[this]at z; omega
 ·have:c.toNat=1:=by omega
  rw[this]at z; omega
theorem N3 (n:Nat) (l:L8) (h:l.length=n):cpL (List.replicate n 0) l 0 (List.replicate n (0:UInt32)).length=l:=by
 unfold cpL
 simp only[aZ,fW,bn,h,Nat.min_self,List.take_zero,cZ]
 rw[aC q10,bp (by simp),dS]
theorem uV (a b:L8) (ha:a.length<=40000000000000) (hb:b.length<=40000000000000):F.VC a b=some (if val a<val b then ([],false) else (am (val a - val b),true)):=by
 obtain⟨m,z,U,A⟩:=jf a q10
 obtain⟨V,B,X,G⟩:=jf b q10
 have Y:(am (val a)).length<=a.length:=bc (bN a)
 unfold F.VC
 rw[lQ a b q10 q10,aa]
 by_cases hl:val a<val b
 ·rw[af hl]; unfold cW; rw[af hl,af q11]
 ·rw[ae hl]; unfold cW
  rw[ae hl,ae (by split <;> decide),z,aa,B,aa,A,G,fU q10,aa,ao,aS,N3 _ _ rfl]
  have R:(am (val b)).length<=(am (val a)).length:=db q10
  obtain⟨c,j,I,Z,J⟩:=C7 (am (val a)) (am (val b)) 0 (am (val a)).length (eR _) (aq _) q10 q10 (bN _) (by rw[al,al]; omega)
  rw[I,aa]
  obtain⟨k,N,p2,O⟩:=kI j q10
  dsimp only
  rw[N,aa,O]
  rw[al,al,dg,ci]at J
  rw[show val j=val a - val b by omega]
def MuI (x:UInt32) (y o:L8) (i j:Nat) (s:UInt64×L8):Prop:=
 s.2.length=o.length/\s.1.toNat<=4294967295/\(∀k,i+j<=k->s.2.getD k 0=o.getD k 0)/\val s.2+4294967296^(i+j)*s.1.toNat=val o+4294967296^i*(x.toNat*val (y.take j))
theorem GV (a b:L8) (m:Nat) (i:Nat) (x:UInt32) (y o:L8) (hy:b.take m=y) (ho:i+y.length<o.length) (ap:o.length<=4611686018427387904) :
  ∃c o',MuI x y o i y.length (c,o')/\loop (F.WB b m (i:Int) x) (0,0,o)=some (.inl (((i+1:Nat):Int),o'.set (i+y.length) c.toUInt32)):=by
 have G:∀(k j:Nat) (s:UInt64×L8),j+k=y.length->MuI x y o i j s->∃c o',MuI x y o i y.length (c,o')/\loop (F.WB b m (i:Int) x) (s.1,(j:Int),s.2)=some (.inl (((i+1:Nat):Int),o'.set (i+y.length) c.toUInt32)):=by
  intro k
  induction k with
  | zero=>
   intro j s X hs
   have:j=y.length:=by omega
   subst this
   refine⟨s.1,s.2,hs,bm ?_⟩
   have A:wI ((i:Int)+(y.length:Int))=((i+y.length:Nat):Int):=by rw[ay q10 q10]; omega
   have B:wI ((i:Int)+1)=((i+1:Nat):Int):=by rw[ay q10 q10]; rfl
   unfold F.WB
   dsimp only
   have:=hs.1
   rw[hy,ae (by rw[aj]; omega),A,B,aG (show i+y.length<s.2.length by omega) 0,aa,aS,ao]; rfl
  | succ k ih=>
   intro j s X hs
   obtain⟨Y,g2,Z,g4⟩:=hs
   have A:wI ((i:Int)+(j:Int))=((i+j:Nat):Int):=by rw[ay q10 q10]; omega
   have B:wI ((j:Int)+1)=((j+1:Nat):Int):=by rw[ay q10 q10]; rfl
   obtain⟨t,I⟩:∃t,s.1+((x.toUInt64*(y.getD j 0).toUInt64)+(s.2.getD (i+j) 0).toUInt64)=t:=⟨_,rfl⟩
   have J:F.WB b m (i:Int) x (s.1,(j:Int),s.2)=some (.inl (bH t 32,((j+1:Nat):Int),s.2.set (i+j) t.toUInt32)):=by
    unfold F.WB
    dsimp only
    rw[hy,af (ah q10),aG (show j<y.length by omega) 0,aa,A,aG (show i+j<s.2.length by omega) 0,aa,aS,I,aa,aS,B,ao]; rfl
   rw[bv J]
   have x1:=eF x; have x2:=eF (y.getD j 0); have x3:=eF (s.2.getD (i+j) 0)
   have hp:=en (show x.toNat<=4294967295 by omega) (show (y.getD j 0).toNat<=4294967295 by omega)
   have N:(x.toUInt64*(y.getD j 0).toUInt64).toNat=x.toNat*(y.getD j 0).toNat:=by rw[uy _ _ (by rw[dD,dD]; omega),dD,dD]
   have O:(x.toUInt64*(y.getD j 0).toUInt64+(s.2.getD (i+j) 0).toUInt64).toNat=x.toNat*(y.getD j 0).toNat+(s.2.getD (i+j) 0).toNat:=by rw[mQ _ _ (by rw[N,dD]; omega),N,dD]
   have m3:t.toNat=s.1.toNat+(x.toNat*(y.getD j 0).toNat+(s.2.getD (i+j) 0).toNat):=by rw[<-I,mQ _ _ (by rw[O]; omega),O]
   have R:(bH t 32).toNat=t.toNat / 4294967296:=by rw[jm]; rfl
   refine ih (j+1) (bH t 32,s.2.set (i+j) t.toUInt32) q10 ⟨by simpa using Y,by show (bH t 32).toNat<=_; rw[R]; omega,fun U hk=>?_,?_⟩
   ·show (s.2.set (i+j) t.toUInt32).getD U 0=_
    rw[ik q10]; exact Z U q10
   ·show val (s.2.set (i+j) t.toUInt32)+_*(bH t 32).toNat=_
    have V:=gI s.2 (i+j) t.toUInt32 q10
    rw[kh]at V
    rw[cH y j,aF,aF,R,show i+(j+1)=(i+j)+1 by omega,aU]
    have e0:4294967296^i*(x.toNat*(4294967296^j*(y.getD j 0).toNat))=4294967296^(i+j)*(x.toNat*(y.getD j 0).toNat):=by
     rw[bu,dO x.toNat,aD]
    rw[e0]
    obtain⟨z,hP⟩:∃z,(4294967296:Nat)^(i+j)=z:=⟨_,rfl⟩
    rw[hP]at g4 V ⊢
    have hd:=cQ t.toNat 4294967296
    have e3:z*(t.toNat%4294967296)+z*4294967296*(t.toNat / 4294967296)=z*t.toNat:=by
     rw[aD,<-aF,bW,hd]
    have e4:z*t.toNat=z*s.1.toNat+(z*(x.toNat*(y.getD j 0).toNat)+z*(s.2.getD (i+j) 0).toNat):=by rw[m3,aF,aF]
    omega
 exact G y.length 0 (0,o) q10 ⟨rfl,eR _,fun _ _=>rfl,by simp[val]⟩
theorem FT (a b:L8) (ha:a.length<=40000000000000) (hb:b.length<=40000000000000) (hs:(am (val a)).length+(am (val b)).length<=50000000000000):F.VF a b=some (am (val a*val b)):=by
 obtain⟨m,Z,h2,z⟩:=jf a q10
 obtain⟨A,h4,h5,B⟩:=jf b q10
 have la:(am (val a)).length<=a.length:=bc (bN a)
 have lb:(am (val b)).length<=b.length:=bc (bN b)
 obtain⟨x,hx⟩:∃x,am (val a)=x:=⟨_,rfl⟩
 obtain⟨y,hy⟩:∃y,am (val b)=y:=⟨_,rfl⟩
 have vx:val x=val a:=by rw[<-hx,al]
 have vy:val y=val b:=by rw[<-hy,al]
 rw[hx]at z la hs; rw[hy]at B lb hs
 unfold F.VF
 have w0:wI ((x.length:Int)+(y.length:Int))=((x.length+y.length:Nat):Int):=by rw[ay q10 q10]; omega
 rw[Z,aa,h4,aa,z,B,w0,fU q10,aa,ao]
 have J:∀(k i:Nat) (o:L8),i+k=x.length->o.length=x.length+y.length->(∀k,i+y.length<=k->o.getD k 0=0)->val o=val (x.take i)*val y->loop (F.YZ a m b A) ((i:Int),o)=some (am (val a*val b)):=by
  intro k
  induction k with
  | zero=>
   intro i o hi N _ G
   have:i=x.length:=by omega
   subst this
   refine bm ?_
   unfold F.YZ
   dsimp only
   obtain⟨q,p1,p2,p3⟩:=kI o q10
   rw[z,ae (by rw[aj]; omega),p1,aa,p3,G,aC (aq _),vx,vy]
  | succ k ih=>
   intro i o hi N hz G
   obtain⟨c,o',⟨O,g2,I,R⟩,hl⟩:=GV a b A i (x.getD i 0) y o B q10 q10
   dsimp only at O g2 I R
   have U:F.YZ a m b A ((i:Int),o)=some (.inl (((i+1:Nat):Int),o'.set (i+y.length) c.toUInt32)):=by
    unfold F.YZ
    dsimp only
    rw[z,af (ah q10),aG (show i<x.length by omega) 0,aa,hl]
   rw[bv U]
   have V:o'.getD (i+y.length) 0=0:=by rw[I _ (aq _)]; exact hz _ (aq _)
   have j:=gI o' (i+y.length) c.toUInt32 q10
   have z0:(0:UInt32).toNat=0:=rfl
   rw[V,z0,cb,bb,kh,av q10]at j
   refine ih (i+1) _ q10 (by simpa using (O.trans N)) (fun X Y=>?_) ?_
   ·rw[ik q10,I X q10]; exact hz X q10
   ·rw[j,R,aC (aq _),G,cH x i,bd,aD]
 exact J x.length 0 (List.replicate (x.length+y.length) 0) q10 (by simp) (fun k _=>by rw[ak]; by_cases Y:k<x.length+y.length <;> simp[Y]) (by rw[eh]; simp[val])
theorem Mx (a b d:UInt32) (h:a.toNat<d.toNat):∃q r:UInt32,F.abg a b d=some (q,r)/\q.toNat=(4294967296*a.toNat+b.toNat) / d.toNat/\r.toNat=(4294967296*a.toNat+b.toNat)%d.toNat:=by
 have hb:=eF b; have hd:=eF d
 have j:¬d.toUInt64=0:=fun k=>by
  have:=cD UInt64.toNat k
  rw[dD]at this; simp at this; omega
 have z:(d != 0)=true:=by
  rw[bV]; intro k; rw[k]at h; simp at h
 have A:¬d<=a:=fun B=>by have:=fC.1 B; omega
 refine⟨(((di a.toUInt64 32) ||| b.toUInt64) / d.toUInt64).toUInt32,(((di a.toUInt64 32) ||| b.toUInt64)%d.toUInt64).toUInt32,?_,?_,?_⟩
 rotate_left
 ·show ((((di a.toUInt64 32) ||| b.toUInt64) / d.toUInt64).toUInt32).toNat=_
  rw[kh,gr,Bb,dD,av]
  exact Nat.div_lt_of_lt_mul (by rw[aP]; omega)
 ·show ((((di a.toUInt64 32) ||| b.toUInt64)%d.toUInt64).toUInt32).toNat=_
  rw[kh,dM,Bb,dD,av]
  exact fT (ba _ q10) hd
 ·unfold F.abg F.acb
  dsimp only
  rw[af z,ae (by rw[aj]; exact A),aS,grd_true _ j,grd_true _ j,aS,aS]
theorem IX (x:L8) (d:UInt32) (hd:d.toNat≠0) (hx:x.length<=50000000000000):∃q r,F.aap x d=some (q,r)/\q.length=x.length/\val q=val x / d.toNat/\r.toNat=val x%d.toNat:=by
 unfold F.aap
 rw[fU q10,aa,aS,ao,ay q10 q10]
 have I:∀(k:Nat) (o:L8) (r:UInt32),k<=x.length->o.length=x.length->r.toNat<d.toNat->val (o.drop k)*d.toNat+r.toNat=val (x.drop k)->∃q z,loop (F.Yh x d) (r,(k:Int) - 1,o)=some (q,z)/\q.length=x.length/\z.toNat<d.toNat/\val q*d.toNat+z.toNat=val x:=by
  intro k
  induction k with
  | zero=>
   intro o r X A B G
   refine⟨o,r,bm ?_,A,B,by simpa using G⟩
   unfold F.Yh
   dsimp only
   rw[ae q11]
  | succ k ih=>
   intro o r X A B G
   have Y:(((k+1:Nat):Int)) - 1=(k:Int):=by omega
   obtain⟨j,J,Z,s2,N⟩:=Mx r (x.getD k 0) d B
   have w:wI ((k:Int) - 1)=(k:Int) - 1:=ay q10 q10
   have O:F.Yh x d (r,(k:Int),o)=some (.inl (J,(k:Int) - 1,o.set k j)):=by
    unfold F.Yh
    dsimp only
    rw[af (ah q10),aG (show k<x.length by omega) 0,aa,Z,aa,aG (show k<o.length by omega) 0,aa,aS,w,ao]; rfl
   rw[Y,bv O]
   refine ih (o.set k j) J q10 (by simpa using A) (by rw[N]; exact ba _ q10) ?_
   have R:val ((o.set k j).drop k)=j.toNat+4294967296*val (o.drop (k+1)):=by
    rw[d9,List.drop_set_of_lt q10]
    congr 2
    rw[ak,dp q10]; rfl
   rw[R,d9 x k,<-G,s2,N]
   have ap:=cQ (4294967296*r.toNat+(x.getD k 0).toNat) d.toNat
   rw[bd,aP (_ / _),aD,aF]
   omega
 obtain⟨q,r,h1,h2,U,V⟩:=I x.length (List.replicate x.length 0) 0 (aq _) (by simp) (by show 0<_; omega) (by rw[bp (by simp),bp q10]; simp[val])
 refine⟨q,r,h1,h2,?_,?_⟩
 ·rw[<-V,bW,gx _ _ q10,bE U,bn]
 ·rw[<-V,bW,fp,av U]
theorem Ib (x c:UInt32) {s:Nat} (hs:s<32) (hc:c.toNat<2^s):(dB x s ||| c).toNat=x.toNat*2^s%4294967296+c.toNat:=by
 rw[ji,n8,aT q10]
 have hp:=pI hs
 have e:x.toNat*2^s%4294967296=2^s*(x.toNat%2^(32 - s)):=by
  rw[aP,<-hp,Nat.mul_mod_mul_left]
 rw[e,Nat.two_pow_add_eq_or_of_lt hc]
theorem Qo (x:UInt32) {s:Nat} (hs:s<32):((bH (di x.toUInt64 s) 32).toUInt32).toNat=x.toNat*2^s / 4294967296/\x.toNat*2^s / 4294967296<2^s:=by
 have hx:=eF x
 have j:x.toNat*2^s<4294967296*2^s:=iA hx (dz s)
 have z:2^s<2^32:=iV q11 hs
 have k:x.toNat*2^s / 4294967296<2^s:=Nat.div_lt_of_lt_mul j
 refine⟨?_,k⟩
 rw[kh,jm,mA,dD,aT q10,show (2:Nat)^min 32 64=4294967296 from rfl]
 rw[av (b:=18446744073709551616) q10,av q10]
def UpI (u x:L8) (lo s i:Nat) (t:UInt32×L8):Prop:=
 t.2.length=u.length/\t.2.take lo=u.take lo/\(∀k,lo+i<=k->t.2.getD k 0=u.getD k 0)/\t.1.toNat<2^s/\val ((t.2.drop lo).take i)+4294967296^i*t.1.toNat=2^s*val (x.take i)
theorem Rb (u x:L8) (lo hi s:Nat) (hs:s<32) (N:lo<=hi) (O:hi<=u.length) (hu:u.length<=4611686018427387904) (hx:x.length<=4611686018427387904) :
  ∃c B,F.XZ u lo hi x (s:Int)=some B/\UpI u x lo s (hi - lo) (c,B):=by
 have R:∀(k i:Nat) (t:UInt32×L8),i+k=hi - lo->UpI u x lo s i t->∃c B,loop (F.X4 lo hi u x (s:Int)) (t.1,(i:Int),t.2)=some B/\UpI u x lo s (hi - lo) (c,B):=by
  intro k
  induction k with
  | zero=>
   intro i t U I
   have:i=hi - lo:=by omega
   subst this
   refine⟨t.1,t.2,bm ?_,I⟩
   unfold F.X4
   dsimp only
   rw[uK N O,ae (by rw[aj]; omega)]
  | succ k ih=>
   intro i t U I
   obtain⟨Z,g2,g3,g4,g5⟩:=I
   have V:i<hi - lo:=by omega
   have w4:wI ((i:Int)+1)=((i+1:Nat):Int):=by rw[ay q10 q10]; rfl
   obtain⟨z,hz⟩:∃z,dB (x.getD i 0) s ||| t.1=z:=⟨_,rfl⟩
   obtain⟨c,hc⟩:∃c,(bH (di (x.getD i 0).toUInt64 s) 32).toUInt32=c:=⟨_,rfl⟩
   have G:=Ib (x.getD i 0) t.1 hs g4
   have A:=Qo (x.getD i 0) hs
   rw[hz]at G; rw[hc]at A
   have J:F.abM lo hi (s:Int) t.1 (i:Int) t.2 (x.getD i 0)=some (.inl (c,((i+1:Nat):Int),t.2.set (lo+i) z)):=by
    unfold F.abM
    dsimp only
    rw[grd_true _ q10,FQ q10 V,aa,aS,ao,hz,grd_true _ q10,aS,hc,w4,ao]; rfl
   have X:F.X4 lo hi u x (s:Int) (t.1,(i:Int),t.2)=some (.inl (c,((i+1:Nat):Int),t.2.set (lo+i) z)):=by
    unfold F.X4
    dsimp only
    rw[uK N O,af (ah q10)]
    by_cases hb:i<x.length
    ·rw[af (ah q10),aG hb 0,aa,J]
    ·rw[ae (by rw[aj]; omega)]
     rw[iW q10]at J; exact J
   rw[bv X]
   refine ih (i+1) (c,t.2.set (lo+i) z) q10 ⟨by simpa using Z,?_,fun Y hk=>?_,by show c.toNat<_; rw[A.1]; exact A.2,?_⟩
   ·show (t.2.set (lo+i) z).take lo=_
    rw[gh q10]; exact g2
   ·show (t.2.set (lo+i) z).getD Y 0=_
    rw[ik q10]; exact g3 Y q10
   ·show val (((t.2.set (lo+i) z).drop lo).take (i+1))+_*c.toNat=_
    have e1:(t.2.set (lo+i) z).drop lo=(t.2.drop lo).set i z:=by rw[List.drop_set,ae q10,show lo+i - lo=i by omega]
    have e2:((t.2.drop lo).set i z).getD i 0=z:=by
     rw[ak,dp (by rw[bj]; omega)]; rfl
    rw[e1,cH,e2,gh q10,cH x i,aF,<-g5,G,A.1,aU]
    obtain⟨j,hP⟩:∃j,(4294967296:Nat)^i=j:=⟨_,rfl⟩
    obtain⟨m,hm⟩:∃m,(x.getD i 0).toNat*2^s=m:=⟨_,rfl⟩
    rw[hP,hm]
    have hd:=cQ m 4294967296
    have e3:j*(m%4294967296)+j*4294967296*(m / 4294967296)=j*m:=by
     rw[aD,<-aF,bW,hd]
    have e4:2^s*(j*(x.getD i 0).toNat)=j*m:=by rw[<-hm,dO,aP (2^s)]
    rw[e4,aF]
    omega
 exact R (hi - lo) 0 (0,u) q10 ⟨rfl,rfl,fun _ _=>rfl,dz s,by simp[val]⟩
theorem H9 (u x:L8) (s:Nat) (hs:s<32) (hu:u.length<=4611686018427387904) (hx:x.length<=u.length) (hf:2^s*val x<4294967296^u.length) :
  ∃j,F.XZ u 0 u.length x (s:Int)=some j/\j.length=u.length/\val j=2^s*val x:=by
 obtain⟨c,j,A,z,r3,G,B,k⟩:=Rb u x 0 u.length s hs (eR _) (aq _) hu q10
 dsimp only at z B k
 rw[fW,cR,aC q10,aC hx]at k
 refine⟨j,A,z,?_⟩
 rcases bR c.toNat with h | h
 ·rw[h]at k; omega
 ·have:=dX (4294967296^u.length) h
  omega
theorem vz (u:L8) (s:Nat) (hs:s<32) (hu:u.length<=4611686018427387904):∃A,F.ZA u (s:Int)=some A/\A.length=u.length/\val A=val u / 2^s:=by
 have I:=pI hs
 have V:∀i,(val u / 2^s) / 4294967296^i%4294967296=((u.getD i 0).toNat+4294967296*(u.getD (i+1) 0).toNat) / 2^s%4294967296:=by
  intro i
  rw[dq,aP,<-dq,lW,d9,d9]
  have:(u.getD i 0).toNat+4294967296*((u.getD (i+1) 0).toNat+4294967296*val (u.drop (i+1+1)))=((u.getD i 0).toNat+4294967296*(u.getD (i+1) 0).toNat)+2^s*(4294967296*(2^(32 - s)*val (u.drop (i+1+1)))):=by
   have:2^s*(4294967296*(2^(32 - s)*val (u.drop (i+1+1))))=4294967296*(4294967296*val (u.drop (i+1+1))):=by
    rw[dO,<-aD (2^s),I]
   rw[this,aF]; omega
  rw[this,gK _ _ (dz s),eJ]
 have J:∀(k i:Nat) (o:L8),i+k=u.length->o.length=u.length->(∀j,i<=j->o.getD j 0=u.getD j 0)->val (o.take i)=(val u / 2^s)%4294967296^i ->
   ∃A,loop (F.Zn u (s:Int)) ((i:Int),o)=some A/\A.length=u.length/\val A=val u / 2^s:=by
  intro k
  induction k with
  | zero=>
   intro i o hi G _ B
   have:i=u.length:=by omega
   subst this
   refine⟨o,bm ?_,G,?_⟩
   ·unfold F.Zn
    dsimp only
    rw[ae (by rw[aj]; omega)]
   ·rw[aC q10]at B
    rw[B,av]
    exact dR (dy _ _) (bN u)
  | succ k ih=>
   intro i o hi G hg B
   have N:wI ((i:Int)+1)=((i+1:Nat):Int):=by rw[ay q10 q10]; rfl
   obtain⟨z,hz⟩:∃z,(bH ((u.getD i 0).toUInt64 ||| (di (u.getD (i+1) 0).toUInt64 32)) s).toUInt32=z:=⟨_,rfl⟩
   have O:z.toNat=((u.getD i 0).toNat+4294967296*(u.getD (i+1) 0).toNat) / 2^s%4294967296:=by
    rw[<-hz,kh,jm,wY,aT q10]
   have R:∀v:UInt64,v=((u.getD i 0).toUInt64 ||| (di (u.getD (i+1) 0).toUInt64 32))->F.ZP (s:Int) (i:Int) o v=some (.inl (((i+1:Nat):Int),o.set i z)):=by
    rintro v rfl
    unfold F.ZP
    dsimp only
    rw[grd_true _ q10,aG (show i<o.length by omega) 0,aa,aS,ao,ao,hz,N]; rfl
   have U:F.Zn u (s:Int) ((i:Int),o)=some (.inl (((i+1:Nat):Int),o.set i z)):=by
    unfold F.Zn
    dsimp only
    rw[af (ah q10),aG (show i<o.length by omega) 0,aa,N,hg i (aq _)]
    by_cases hb:i+1<o.length
    ·rw[af (ah q10),aG hb 0,aa,aS,hg (i+1) q10,R _ rfl]
    ·rw[ae (by rw[aj]; omega),R _ (by
      apply dA.1
      rw[wY,iW (a:=u) (i:=i+1) q10,dD]; rfl)]
   rw[bv U]
   refine ih (i+1) (o.set i z) q10 (by simpa using G) (fun j Y=>by rw[ik q10]; exact hg j q10) ?_
   have X:(o.set i z).getD i 0=z:=by
    rw[ak,dp q10]; rfl
   rw[cH,X,gh q10,B,Nat.mod_pow_succ,V i,O]
 exact J u.length 0 u q10 rfl (fun _ _=>rfl) (by simp[val,Nat.mod_one])
theorem zP (u v:L8) (hl:u.length=v.length) (hu:u.length<=4611686018427387904):F.Wu u v=some (decide (val u<val v)):=by
 have j:∀k:Nat,k<=u.length->val (u.drop k)=val (v.drop k)->loop (F.VI u v) ((k:Int) - 1)=some (decide (val u<val v)):=by
  intro k
  induction k with
  | zero=>
   intro _ h
   rw[cR,cR]at h
   refine bm ?_
   unfold F.VI
   dsimp only
   rw[ae q11,an q10]
  | succ k ih=>
   intro B h
   have z:(((k+1:Nat):Int)) - 1=(k:Int):=by omega
   have w:wI ((k:Int) - 1)=(k:Int) - 1:=ay q10 q10
   rw[z]
   by_cases hne:u.getD k 0=v.getD k 0
   ·have hL:F.VI u v (k:Int)=some (.inl ((k:Int) - 1)):=by
     unfold F.VI
     dsimp only
     rw[af (ah q10),aG (show k<u.length by omega) 0,aa,aG (show k<v.length by omega) 0,aa,ae (by rw[hne]; simp),w]; rfl
    rw[bv hL]
    refine ih q10 ?_
    rw[d9 u k,d9 v k,h,hne]
   ·have hL:F.VI u v (k:Int)=bz (some (decide (u.getD k 0<v.getD k 0))):=by
     unfold F.VI
     dsimp only
     rw[af (ah q10),aG (show k<u.length by omega) 0,aa,aG (show k<v.length by omega) 0,aa,af (by rw[bV]; exact hne),aa,aa]
    rw[bm hL]
    congr 1
    by_cases hlt:u.getD k 0<v.getD k 0
    ·rw[ah hlt,ah (oI u v k h (dn.1 hlt))]
    ·have A:(v.getD k 0).toNat<(u.getD k 0).toNat:=by
      have G:¬(u.getD k 0).toNat<(v.getD k 0).toNat:=fun q=>hlt (dn.2 q)
      have I:(u.getD k 0).toNat≠(v.getD k 0).toNat:=fun q=>hne (cz.1 q)
      omega
     have:=oI v u k h.symm A
     rw[an hlt,an q10]
 unfold F.Wu
 rw[aS,ay q10 q10]
 exact j u.length (aq _) (by rw[bp q10,bp q10])
theorem J2 (v a:L8) (j A z:UInt32) (h K G V':Nat) (hn:2<=v.length) (ha:v.length<=a.length) (hs:v.length<=70368744177664)
  (U:v.getD (v.length - 1) 0=j) (V:v.getD (v.length - 2) 0=A) (ab:a.getD (v.length - 2) 0=z) (hV:val v=(j.toNat*4294967296+A.toNat)*K+V') (ad:G<K) (cf:V'<K) (cm:1<=j.toNat)
  (ap:(h*4294967296+z.toNat)*K+G<4294967296*val v) (hh:h<=j.toNat*4294967296+4294967295) :
  ∀(m:Nat) (g r:UInt64),g.toNat=m->h=g.toNat*j.toNat+r.toNat->r.toNat<=4294967295->(h*4294967296+z.toNat)*K+G<(g.toNat+1)*val v ->
   ∃B:UInt64,loop (F.VQ a v) (g,r)=some B/\B.toNat<=4294967295/\(h*4294967296+z.toNat)*K+G<(B.toNat+1)*val v:=by
 have x1:=eF j; have x2:=eF A; have x3:=eF z
 have w1:wI ((v.length:Int) - 1)=((v.length - 1:Nat):Int):=by rw[ay q10 q10]; omega
 have w2:wI ((v.length:Int) - 2)=((v.length - 2:Nat):Int):=by rw[ay q10 q10]; omega
 intro m
 induction m using Nat.strongRecOn with
 | ind m ih=>
  intro g r hm O hr ax
  have I:F.VQ a v (g,r)=F.Zb v g r true->(4294967296<=g.toNat\/r.toNat*4294967296+z.toNat<g.toNat*A.toNat) ->
    ∃B:UInt64,loop (F.VQ a v) (g,r)=some B/\B.toNat<=4294967295/\(h*4294967296+z.toNat)*K+G<(B.toNat+1)*val v:=by
   intro hL N
   have bx:1<=g.toNat:=by
    rcases bR g.toNat with X | X
    ·rw[X]at N; omega
    ·exact X
   have R:(g - 1).toNat=g.toNat - 1:=by
    rw[gn _ _ (by rw[dG]; exact bx)]; rfl
   have b2:(r+j.toUInt64).toNat=r.toNat+j.toNat:=by rw[mQ _ _ (by rw[dD]; omega),dD]
   have hd:=BJ (K:=K) (V':=V') O ad N (by rw[<-hV]; exact ap)
   rw[<-hV]at hd
   obtain⟨k,Y⟩:∃k,g.toNat=k+1:=⟨g.toNat - 1,by omega⟩
   have Z:h=(g - 1).toNat*j.toNat+(r+j.toUInt64).toNat:=by
    rw[R,b2,O,Y,fa,bd]; omega
   have J:(h*4294967296+z.toNat)*K+G<((g - 1).toNat+1)*val v:=by
    rw[R,Y,fa,<-Y]; exact hd
   unfold F.Zb at hL
   rw[af rfl,w1,aG (show v.length - 1<v.length by omega) 0,aa,U]at hL
   by_cases hb:4294967296<=(r+j.toUInt64).toNat
   ·rw[af (ah (by rw[dG]; exact hb))]at hL
    have ct:(g - 1).toNat<4294967296:=by
     have:(g - 1).toNat*j.toNat<4294967296*j.toNat:=by omega
     exact Nat.lt_of_mul_lt_mul_right this
    exact⟨g - 1,bm hL,by omega,J⟩
   ·rw[ae (by simp only[aj,dG]; exact hb)]at hL
    obtain⟨B,q1,q2⟩:=ih (g - 1).toNat q10 (g - 1) (r+j.toUInt64) rfl Z q10 J
    exact⟨B,(bv hL).trans q1,q2⟩
  by_cases hg:4294967296<=g.toNat
  ·refine I ?_ (.inl hg)
   unfold F.VQ
   dsimp only
   rw[af (ah (by rw[dG]; exact hg))]
  ·have e1:((di r 32) ||| z.toUInt64).toNat=4294967296*r.toNat+z.toNat:=Df _ _ hr
   have hp:=en (show g.toNat<=4294967295 by omega) (show A.toNat<=4294967295 by omega)
   have e2:(g*A.toUInt64).toNat=g.toNat*A.toNat:=by rw[uy _ _ (by rw[dD]; omega),dD]
   have hL:F.VQ a v (g,r)=F.Zb v g r (decide (((di r 32) ||| z.toUInt64)<(g*A.toUInt64))):=by
    unfold F.VQ
    dsimp only
    rw[ae (by simp only[aj,dG]; exact hg),w2,aG (show v.length - 2<v.length by omega) 0,aa,aG (show v.length - 2<a.length by omega) 0,aa,V,ab]
   by_cases N:r.toNat*4294967296+z.toNat<g.toNat*A.toNat
   ·rw[show decide (((di r 32) ||| z.toUInt64)<(g*A.toUInt64))=true from ah (by rw[cM,e1,e2]; omega)]at hL
    exact I hL (.inr N)
   ·rw[show decide (((di r 32) ||| z.toUInt64)<(g*A.toUInt64))=false from an (by rw[cM,e1,e2]; omega)]at hL
    unfold F.Zb at hL
    rw[ae q11]at hL
    exact⟨g,bm hL,by omega,ax⟩
theorem Ey (v a:L8) (hn:2<=v.length) (ha:a.length=v.length+1) (hs:v.length<=70368744177664) (ad:2147483648<=(v.getD (v.length - 1) 0).toNat) (b3:val a<4294967296*val v) :
  ∃g:UInt64,F.abR a v=some g/\g.toNat<=4294967295/\val a<(g.toNat+1)*val v:=by
 obtain⟨j,G⟩:∃j,v.getD (v.length - 1) 0=j:=⟨_,rfl⟩
 obtain⟨A,O⟩:∃A,v.getD (v.length - 2) 0=A:=⟨_,rfl⟩
 obtain⟨k,R⟩:∃k,a.getD (v.length) 0=k:=⟨_,rfl⟩
 obtain⟨B,U⟩:∃B,a.getD (v.length - 1) 0=B:=⟨_,rfl⟩
 obtain⟨z,V⟩:∃z,a.getD (v.length - 2) 0=z:=⟨_,rfl⟩
 rw[G]at ad
 have x1:=eF j; have x2:=eF A; have y0:=eF k; have y1:=eF B; have y2:=eF z
 have eV:val v=(j.toNat*4294967296+A.toNat)*4294967296^(v.length - 2)+val (v.take (v.length - 2)):=by
  have:=fS v (v.length - 2) q10
  rw[d9,show v.length - 2+1=v.length - 1 by omega,d9,show v.length - 1+1=v.length by omega,jb,jX,G,O]at this
  rw[this,cb,bb,aP (4294967296^_),bW A.toNat,aP 4294967296 j.toNat]
  omega
 have J:val (v.take (v.length - 2))<4294967296^(v.length - 2):=by
  have:=bN (v.take (v.length - 2))
  rwa [az,aT q10]at this
 obtain⟨K,hK⟩:∃K,4294967296^(v.length - 2)=K:=⟨_,rfl⟩
 obtain⟨I,X⟩:∃I,val (a.take (v.length - 2))=I:=⟨_,rfl⟩
 have ax:I<K:=by
  have:=bN (a.take (v.length - 2))
  rw[az,aT q10]at this
  rw[<-X,<-hK]; exact this
 obtain⟨h,hh⟩:∃h,k.toNat*4294967296+B.toNat=h:=⟨_,rfl⟩
 have eU:val a=(h*4294967296+z.toNat)*K+I:=by
  have N:=fS a (v.length - 2) q10
  rw[d9 a (v.length - 2),show v.length - 2+1=v.length - 1 by omega,d9 a (v.length - 1),show v.length - 1+1=v.length by omega,d9 a v.length,bp (l:=a) (i:=v.length+1) q10,jX,X,hK,R,U,V]at N
  rw[N,<-hh,cb,bb,aP K]
  have:z.toNat+4294967296*(B.toNat+4294967296*k.toNat)=(k.toNat*4294967296+B.toNat)*4294967296+z.toNat:=by omega
  rw[this]; omega
 rw[hK]at eV J
 have bx:(h*4294967296+z.toNat)*K+I<4294967296*val v:=by rw[<-eU]; exact b3
 have b9:k.toNat<=j.toNat:=by
  rcases cI j.toNat k.toNat with N | N
  ·exfalso
   have a1:(j.toNat*4294967296+A.toNat+1)*K<=(k.toNat*4294967296)*K:=bg _ q10
   have a2:val v<(j.toNat*4294967296+A.toNat+1)*K:=by rw[eV,bd (j.toNat*4294967296+A.toNat) 1 K,ci]; exact Nat.add_lt_add_left J _
   have a4:=bg K (show 4294967296*(k.toNat*4294967296)<=h*4294967296+z.toNat by omega)
   rw[aD 4294967296]at a4
   omega
  ·exact N
 have Y:¬j.toUInt64=0:=by
  intro h0
  have:=cD UInt64.toNat h0
  rw[dD]at this
  simp at this
  omega
 obtain⟨H,hH⟩:∃H,(di k.toUInt64 32) ||| B.toUInt64=H:=⟨_,rfl⟩
 have Z:H.toNat=h:=by rw[<-hH,Bb,<-hh]; omega
 have ab:(H / j.toUInt64).toNat=h / j.toNat:=by rw[gr,dD,Z]
 have ac:(H%j.toUInt64).toNat=h%j.toNat:=by rw[dM,dD,Z]
 have cx:=cQ h j.toNat
 have cy:=ba h (show 0<j.toNat by omega)
 obtain⟨g,hg,g1,g2⟩:=J2 v a j A z h K I (val (v.take (v.length - 2))) hn q10 hs G O V eV ax J q10 bx q10 _ (H / j.toUInt64) (H%j.toUInt64) rfl
  (by rw[ab,ac,aP]; omega) (by rw[ac]; omega) (by
   rw[ab]
   have a1:h+1<=(h / j.toNat+1)*j.toNat:=by rw[bd,aP (h / j.toNat)]; omega
   have a2:(h+1)*(4294967296*K)<=(h / j.toNat+1)*j.toNat*(4294967296*K):=bg _ a1
   have a3:(h / j.toNat+1)*(j.toNat*(4294967296*K))<=(h / j.toNat+1)*val v:=by
    refine bf _ ?_
    rw[eV,bd,aD]; omega
   have a4:(h*4294967296+z.toNat+1)*K<=(h+1)*(4294967296*K):=by
    rw[<-aD]; exact bg _ q10
   rw[bd (h*4294967296+z.toNat) 1 K,ci]at a4
   rw[aD]at a2
   omega)
 refine⟨g,?_,g1,by rw[eU]; exact g2⟩
 have w1:wI ((v.length:Int) - 1)=((v.length - 1:Nat):Int):=by rw[ay q10 q10]; omega
 unfold F.abR
 rw[aG (show v.length<a.length by omega) 0,aa,w1,aG (show v.length - 1<a.length by omega) 0,aa,aS,R,U,hH,aG (show v.length - 1<v.length by omega) 0,aa,G,grd_true _ Y,aa,grd_true _ Y,hg]
def PtI (g:UInt64) (v p:L8) (i:Nat) (s:UInt64×L8):Prop:=
 s.2.length=p.length/\s.1.toNat<=4294967295/\val (s.2.take i)+4294967296^i*s.1.toNat=g.toNat*val (v.take i)
theorem Fp (v u q p:L8) (j:Int) (g:UInt64) (hg:g.toNat<=4294967295) (hp:p.length=v.length+1) (hv:v.length<=4611686018427387900) :
  ∃p':L8,p'.length=v.length+1/\val p'=g.toNat*val v/\loop (F.VZ v j u q g) (0,0,p) =
   ag (slO u j (wI ((wI (j+(v.length:Int)))+1):Int)) fun A=>ag (F.Wu A p') fun B=>
    if (!B)=true then (bz (ag (slO u j (wI ((wI (j+(v.length:Int)))+1):Int)) fun J=>ag (F.Vz u j.toNat ((wI ((wI (j+(v.length:Int)))+1):Int).toNat) p') fun G=>
     ag (au q j) fun N=>bD (q.set j.toNat g.toUInt32) fun I=>bJ (wI (j - 1),G.2,I,p'))) else bJ (g - 1,p'):=by
 have U:∀(k i:Nat) (s:UInt64×L8),i+k=v.length->PtI g v p i s->∃p':L8,p'.length=v.length+1/\val p'=g.toNat*val v/\loop (F.VZ v j u q g) (s.1,(i:Int),s.2) =
   ag (slO u j (wI ((wI (j+(v.length:Int)))+1):Int)) fun A=>ag (F.Wu A p') fun B=>
    if (!B)=true then (bz (ag (slO u j (wI ((wI (j+(v.length:Int)))+1):Int)) fun J=>ag (F.Vz u j.toNat ((wI ((wI (j+(v.length:Int)))+1):Int).toNat) p') fun G=>
     ag (au q j) fun N=>bD (q.set j.toNat g.toUInt32) fun I=>bJ (wI (j - 1),G.2,I,p'))) else bJ (g - 1,p'):=by
  intro k
  induction k with
  | zero=>
   intro i s hi hs
   obtain⟨V,g2,O⟩:=hs
   have:i=v.length:=by omega
   subst this
   refine⟨s.2.set v.length s.1.toUInt32,by simp; omega,?_,bm ?_⟩
   ·have e0:(s.2.set v.length s.1.toUInt32)=(s.2.set v.length s.1.toUInt32).take (v.length+1):=by rw[aC (by simp; omega)]
    have R:(s.2.set v.length s.1.toUInt32).getD v.length 0=s.1.toUInt32:=by
     rw[ak,dp q10]; rfl
    rw[e0,cH,R,gh q10,kh,av q10,O,aC (aq _)]
   ·unfold F.VZ
    dsimp only
    rw[ae (by rw[aj]; omega),aG (show v.length<s.2.length by omega) 0,aa,aS,ao]
  | succ k ih=>
   intro i s hi hs
   obtain⟨V,g2,O⟩:=hs
   have w2:wI ((i:Int)+1)=((i+1:Nat):Int):=by rw[ay q10 q10]; rfl
   obtain⟨t,X⟩:∃t,s.1+(g*(v.getD i 0).toUInt64)=t:=⟨_,rfl⟩
   have Y:F.VZ v j u q g (s.1,(i:Int),s.2)=some (.inl (bH t 32,((i+1:Nat):Int),s.2.set i t.toUInt32)):=by
    unfold F.VZ
    dsimp only
    rw[af (ah q10),aG (show i<v.length by omega) 0,aa,aS,X,aG (show i<s.2.length by omega) 0,aa,aS,w2,ao]; rfl
   rw[bv Y]
   have x2:=eF (v.getD i 0)
   have b2:=en hg (show (v.getD i 0).toNat<=4294967295 by omega)
   have Z:(g*(v.getD i 0).toUInt64).toNat=g.toNat*(v.getD i 0).toNat:=by rw[uy _ _ (by rw[dD]; omega),dD]
   have m3:t.toNat=s.1.toNat+g.toNat*(v.getD i 0).toNat:=by rw[<-X,mQ _ _ (by rw[Z]; omega),Z]
   have c1:(bH t 32).toNat=t.toNat / 4294967296:=by rw[jm]; rfl
   refine ih (i+1) (bH t 32,s.2.set i t.toUInt32) q10 ⟨by simpa using V,by show (bH t 32).toNat<=_; rw[c1]; omega,?_⟩
   show val ((s.2.set i t.toUInt32).take (i+1))+_*(bH t 32).toNat=_
   have R:(s.2.set i t.toUInt32).getD i 0=t.toUInt32:=by
    rw[ak,dp q10]; rfl
   rw[cH,R,gh q10,kh,cH v i,aF,<-O,c1,aU]
   obtain⟨z,hP⟩:∃z,(4294967296:Nat)^i=z:=⟨_,rfl⟩
   rw[hP]
   have hd:=cQ t.toNat 4294967296
   have e3:z*(t.toNat%4294967296)+z*4294967296*(t.toNat / 4294967296)=z*t.toNat:=by
    rw[aD,<-aF,bW,hd]
   have e4:z*t.toNat=z*s.1.toNat+z*(g.toNat*(v.getD i 0).toNat):=by rw[m3,aF]
   have e5:g.toNat*(z*(v.getD i 0).toNat)=z*(g.toNat*(v.getD i 0).toNat):=by rw[dO]
   rw[e5]
   omega
 exact U v.length 0 (0,p) q10 ⟨rfl,eR _,by simp[val]⟩
theorem Gn (v u q:L8) (j:Nat) (hj:j+v.length<u.length) (hq:j<q.length) (b9:u.length<=4611686018427387900) (ca:q.length<=4611686018427387900) (J:0<val v) (hu:val u<4294967296^(j+1)*val v) :
  ∀(m:Nat) (g:UInt64) (p:L8),g.toNat=val u / 4294967296^j / val v+m->g.toNat<=4294967295->p.length=v.length+1 ->
   ∃(d:UInt64) (B k:L8),loop (F.X8 v (j:Int) u q) (g,p)=some (.inl ((j:Int) - 1,B,q.set j d.toUInt32,k))/\k.length=v.length+1/\B.length=u.length/\d.toNat<=4294967295 /\
    val B+4294967296^j*(d.toNat*val v)=val u/\val B<4294967296^j*val v:=by
 have Z:=bN v
 have N:val u<4294967296^(j+v.length+1):=by
  have:=ft Z (dF (n:=j+1) (show 0<4294967296 by decide))
  rw[<-bu,show j+1+v.length=j+v.length+1 by omega]at this
  omega
 have wj:wI ((wI ((j:Int)+(v.length:Int)))+1)=((j+v.length+1:Nat):Int):=by
  rw[ay (x:=(j:Int)+(v.length:Int)) q10 q10,ay q10 q10]; omega
 have wk:wI ((j:Int) - 1)=(j:Int) - 1:=ay q10 q10
 have O:slO u (j:Int) ((j+v.length+1:Nat):Int)=some ((u.drop j).take (j+v.length+1 - j)):=tN q10 q10
 have cf:((u.drop j).take (j+v.length+1 - j)).length=v.length+1:=by rw[az,bj]; omega
 have R:val ((u.drop j).take (j+v.length+1 - j))=val u / 4294967296^j:=by
  rw[lW]
  have:=fS (u.drop j) (v.length+1) (by rw[bj]; omega)
  rw[ia,show j+(v.length+1)=j+v.length+1 by omega,nH N,cb,bb]at this
  rw[show j+v.length+1 - j=v.length+1 by omega,this]
 obtain⟨M,A⟩:∃M,val u / 4294967296^j=M:=⟨_,rfl⟩
 have V:=dF (n:=j) (show 0<4294967296 by decide)
 intro m
 induction m with
 | zero=>
  intro g p z hg hp
  rw[bb,A]at z
  obtain⟨k,X,G,Y⟩:=Fp v u q p (j:Int) g hg hp q10
  have ac:g.toNat*val v<=M:=by rw[z]; exact gi _ _
  have I:=gi (val u) (4294967296^j)
  rw[A,aP]at I
  have ad:=Nat.lt_div_mul_add V (a:=val u)
  rw[A,aP]at ad
  obtain⟨c,B,t1,t2,t3⟩:=C7 u k j (j+v.length+1) q10 q10 q10 q10 N (by rw[G]; exact aA (bf _ ac) I)
  refine⟨g,B,k,?_,X,t2,hg,by rw[<-G]; exact t3,?_⟩
  ·refine bm ?_
   unfold F.X8
   dsimp only
   rw[Y,wj,O,aa,zP _ _ q10 q10,aa,R,A,G,an q10,af (by rfl),aa,ao,ao,t1,aa,aG hq 0,aa,aS,wk]
   rfl
  ·have h1:M<(g.toNat+1)*val v:=by
    rw[z]
    have:=Nat.lt_div_mul_add J (a:=M)
    rw[bd,ci]; exact this
   rw[bd,ci]at h1
   have h2:=bf (4294967296^j) (show M+1<=g.toNat*val v+val v by omega)
   rw[aF,de,aF]at h2
   rw[G]at t3
   omega
 | succ m ih=>
  intro g p z hg hp
  rw[A]at z
  obtain⟨k,X,G,Y⟩:=Fp v u q p (j:Int) g hg hp q10
  have U:M<g.toNat*val v:=by
   rcases cI M (g.toNat*val v) with h | h
   ·exact h
   ·have:=(Nat.le_div_iff_mul_le J).2 h
    omega
  have ax:1<=g.toNat:=by
   rcases bR g.toNat with h | h
   ·rw[h,eW]at U; omega
   ·exact h
  have bx:(g - 1).toNat=g.toNat - 1:=by
   rw[gn _ _ (by rw[dG]; exact ax)]; rfl
  have b2:F.X8 v (j:Int) u q (g,p)=some (.inl (g - 1,k)):=by
   unfold F.X8
   dsimp only
   rw[Y,wj,O,aa,zP _ _ q10 q10,aa,R,A,G,ah U,ae q11]
   rfl
  rw[bv b2]
  exact ih (g - 1) k (by rw[bx,A]; omega) q10 X
theorem G8 (s:Int) (v u q p:L8) (j:Nat) (hn:2<=v.length) (G:2147483648<=(v.getD (v.length - 1) 0).toNat) (X:j+v.length<u.length) (Y:j<q.length) (ax:u.length<=70368744177664) (bx:q.length<=70368744177664) (hp:p.length=v.length+1) (A:0<val v) (hu:val u<4294967296^(j+1)*val v) :
  ∃(d:UInt64) (k z:L8),F.Xx s v ((j:Int),u,q,p)=some (.inl ((j:Int) - 1,k,q.set j d.toUInt32,z))/\z.length=v.length+1/\k.length=u.length/\d.toNat<=4294967295 /\
    val k+4294967296^j*(d.toNat*val v)=val u/\val k<4294967296^j*val v:=by
 have N:=bN v
 have O:val u<4294967296^(j+v.length+1):=by
  have:=ft N (dF (n:=j+1) (show 0<4294967296 by decide))
  rw[<-bu,show j+1+v.length=j+v.length+1 by omega]at this
  omega
 have Z:wI ((wI ((j:Int)+(v.length:Int)))+1)=((j+v.length+1:Nat):Int):=by
  rw[ay (x:=(j:Int)+(v.length:Int)) q10 q10,ay q10 q10]; omega
 have R:slO u (j:Int) ((j+v.length+1:Nat):Int)=some ((u.drop j).take (j+v.length+1 - j)):=tN q10 q10
 have U:((u.drop j).take (j+v.length+1 - j)).length=v.length+1:=by rw[az,bj]; omega
 have B:val ((u.drop j).take (j+v.length+1 - j))=val u / 4294967296^j:=by
  rw[lW]
  have:=fS (u.drop j) (v.length+1) (by rw[bj]; omega)
  rw[ia,show j+(v.length+1)=j+v.length+1 by omega,nH O,cb,bb]at this
  rw[show j+v.length+1 - j=v.length+1 by omega,this]
 have I:=dF (n:=j) (show 0<4294967296 by decide)
 have J:val u / 4294967296^j<4294967296*val v:=by
  rw[fK I,aP]
  rw[aU,aD]at hu
  exact hu
 obtain⟨g,g1,g2,V⟩:=Ey v _ hn U q10 G (by rw[B]; exact J)
 rw[B]at V
 have b2:val u / 4294967296^j / val v<=g.toNat:=by
  have:=(fK A).2 V
  omega
 obtain⟨d,k,z,r1,r2⟩:=Gn v u q j X Y q10 q10 A hu (g.toNat - val u / 4294967296^j / val v) g p q10 g2 hp
 refine⟨d,k,z,?_,r2⟩
 unfold F.Xx
 dsimp only
 rw[af (ah q10),Z,R,aa,g1,aa,r1]
theorem Jn (s:Nat) (v:L8) (A:Nat) (hn:2<=v.length) (J:2147483648<=(v.getD (v.length - 1) 0).toNat) (hs:s<32) (I:0<val v) :
  ∀(k:Nat) (u q p:L8),k+v.length<=u.length->k<=q.length->u.length<=70368744177664->q.length<=70368744177664->p.length=v.length+1->(∀i,i<k->q.getD i 0=0)->val q*val v+val u=A->val u<4294967296^k*val v ->
   ∃z j:L8,loop (F.Xx (s:Int) v) ((k:Int) - 1,u,q,p)=some (z,(j,v.length))/\z.length=q.length/\j.length=u.length/\val z=A / val v/\val j=A%val v / 2^s:=by
 intro k
 induction k with
 | zero=>
  intro u q p X Y U N hp O G B
  rw[dg,ci]at B
  have eq:A / val v=val q:=by rw[<-G,bW,gx _ _ I,bE B,bn]
  have Z:A%val v=val u:=by rw[<-G,bW,fp,av B]
  obtain⟨j,d1,d2,d3⟩:=vz u s hs q10
  refine⟨q,j,bm ?_,rfl,d2,eq.symm,by rw[Z]; exact d3⟩
  unfold F.Xx
  dsimp only
  rw[ae q11,d1,aa,ao,grd_true _ ⟨by omega,by omega⟩]
 | succ k ih=>
  intro u q p X Y U N hp O G B
  have e1:(((k+1:Nat):Int)) - 1=(k:Int):=by omega
  obtain⟨d,j,p',r1,rp,r2,r5,r3,r4⟩:=G8 (s:Int) v u q p k hn J q10 q10 U N hp I B
  rw[e1,bv r1]
  obtain⟨z,V,z1,z2,z3,z4⟩:=ih j (q.set k d.toUInt32) p' q10 (by simp; omega) q10 (by simpa using N) rp (fun i hi=>by rw[ik q10]; exact O i q10) (by
   have R:=gI q k d.toUInt32 q10
   rw[O k q10]at R
   have z0:(0:UInt32).toNat=0:=rfl
   rw[z0,cb,bb]at R
   rw[R,kh,av q10,bd,aD,<-G]
   omega) r4
  exact⟨z,V,z1,by simpa using z2,by omega,z4⟩
theorem Dc (n k:Nat):(List.replicate n (0:UInt32)).getD k 0=0:=by
 rw[ak]
 by_cases hk:k<n <;> simp[hk]
theorem KU (x y:L8) (hy:2<=y.length) (G:y.getD (y.length - 1) 0≠0) (c5:y.length<=x.length) (hx:x.length<=50000000000000) :
  ∃q u:L8,F.abs x y=some (q,(u,y.length))/\q.length<=x.length+1/\u.length=x.length+1/\val q=val x / val y/\val u=val x%val y:=by
 obtain⟨j,I⟩:∃j,y.getD (y.length - 1) 0=j:=⟨_,rfl⟩
 rw[I]at G
 have V:j.toNat≠0:=fun h=>G (cz.1 h)
 obtain⟨b1,R⟩:=fi j.toNat
 obtain⟨R,b3⟩:=R V
 have b4:nb j.toNat<=32:=mE (eF j)
 obtain⟨s,hs⟩:∃s,s=32 - nb j.toNat:=⟨_,rfl⟩
 have z:s<32:=by omega
 have X:F.aaq j=some (s:Int):=by
  unfold F.aaq
  rw[Bz,aa,ay q10 q10]; congr 1; omega
 have N:val y=val (y.take (y.length - 1))+4294967296^(y.length - 1)*j.toNat:=by
  have:=cH y (y.length - 1)
  rw[show y.length - 1+1=y.length by omega,aC (aq _),I]at this
  exact this
 have Y:val (y.take (y.length - 1))<4294967296^(y.length - 1):=by
  have:=bN (y.take (y.length - 1))
  rwa [az,aT q10]at this
 obtain⟨Q,A⟩:∃Q,(4294967296:Nat)^(y.length - 1)=Q:=⟨_,rfl⟩
 have Z:(4294967296:Nat)^y.length=4294967296*Q:=by
  have e:(4294967296:Nat)^(y.length - 1+1)=4294967296^(y.length - 1)*4294967296:=aU _ _
  rw[show y.length - 1+1=y.length by omega,A,aP]at e
  exact e
 rw[A]at N Y
 have ab:2^s*(j.toNat+1)<=4294967296:=by
  have k:2^s*(j.toNat+1)<=2^s*2^nb j.toNat:=bf _ b1
  rw[<-bu,show s+nb j.toNat=32 by omega]at k
  exact k
 have ac:2147483648<=2^s*j.toNat:=by
  have k:2^s*2^(nb j.toNat - 1)<=2^s*j.toNat:=bf _ R
  rw[<-bu,show s+(nb j.toNat - 1)=31 by omega]at k
  exact k
 have ad:2^s*val y<4294967296^y.length:=by
  have k:val y<(j.toNat+1)*Q:=by rw[N,bd,ci,aP Q]; omega
  have B:2^s*val y<2^s*((j.toNat+1)*Q):=ft k (dz s)
  rw[<-aD]at B
  have U:=bg Q ab
  rw[Z]; omega
 have c6:2147483648*Q<=2^s*val y:=by
  have k:=bg Q ac
  have B:2^s*j.toNat*Q<=2^s*val y:=by
   rw[aD]; refine bf _ ?_; rw[N,aP]; omega
  omega
 have c7:0<Q:=by rw[<-A]; exact dF q11
 obtain⟨v,v1,v2,J⟩:=H9 (List.replicate y.length 0) y s z (by simp; omega) (by simp) (by rw[aZ]; exact ad)
 have ax:2^s*val x<4294967296^(x.length+1):=by
  have k:=bN x
  have B:2^s<=4294967296:=bG (iV (a:=2) (m:=s) (n:=32) q11 z)
  have U:=bg (val x) B
  rw[aU]; omega
 obtain⟨u,u1,u2,u3⟩:=H9 (List.replicate (x.length+1) 0) x s z (by simp; omega) (by simp) (by rw[aZ]; exact ax)
 rw[aZ]at v2 u2
 have O:2147483648<=(v.getD (v.length - 1) 0).toNat:=by
  have e:=cH v (v.length - 1)
  rw[show v.length - 1+1=v.length by omega,aC (aq _),J]at e
  have hl:=bN (v.take (v.length - 1))
  rw[az,aT q10,show v.length - 1=y.length - 1 by omega,A]at hl
  rw[show v.length - 1=y.length - 1 by omega,A]at e
  rw[show v.length - 1=y.length - 1 by omega]
  rcases cI (v.getD (y.length - 1) 0).toNat 2147483648 with h | h
  ·have:=bf Q (show (v.getD (y.length - 1) 0).toNat<=2147483647 by omega)
   omega
  ·exact h
 have b5:0<val v:=by rw[J]; omega
 have hk:val u<4294967296^(x.length - y.length+1)*val v:=by
  rw[u3,J,dO]
  refine ft ?_ (dz s)
  have k:=bN x
  have B:Q<=val y:=by rw[N]; have:=dX Q (show 0<j.toNat by omega); omega
  have U:=bf (4294967296^(x.length - y.length+1)) B
  rw[<-A,<-bu,show x.length - y.length+1+(y.length - 1)=x.length by omega]at U
  omega
 obtain⟨q',u',l1,l2,l3,l4,l5⟩:=Jn s v (2^s*val x) q10 O z b5 (x.length - y.length+1) u (List.replicate (x.length - y.length+1) 0) (List.replicate (y.length+1) 0) q10 (by simp) q10 (by simp; omega) (by simp; omega)
  (fun i _=>Dc _ _) (by rw[eh,u3]; omega) hk
 rw[aZ]at l2
 refine⟨q',u',?_,by omega,by omega,?_,?_⟩
 rotate_left
 ·rw[l4,J,Nat.mul_div_mul_left _ _ (dz s)]
 ·rw[l5,J,Nat.mul_mod_mul_left,ge _ (dz s)]
 ·have w1:wI ((y.length:Int) - 1)=((y.length - 1:Nat):Int):=by rw[ay q10 q10]; omega
  have w2:wI ((x.length:Int)+1)=((x.length+1:Nat):Int):=by rw[ay q10 q10]; omega
  have w3:wI ((wI ((x.length:Int) - (v.length:Int)))+1)=((x.length - y.length+1:Nat):Int):=by
   rw[ay (x:=(x.length:Int) - (v.length:Int)) q10 q10,ay q10 q10]; omega
  have w4:wI ((v.length:Int)+1)=((y.length+1:Nat):Int):=by rw[ay q10 q10]; omega
  have w5:wI ((((x.length - y.length+1:Nat)):Int) - 1)=((x.length - y.length+1:Nat):Int) - 1:=ay q10 q10
  unfold F.abs
  rw[w1,aG (show y.length - 1<y.length by omega) 0,aa,I,X,aa,fU q10,aa,ao,v1,aa,w2,fU q10,aa,ao,u1,aa,w3,fU q10,aa,
   w4,fU q10,aa,ao,ao,aZ,aS,w5,l1,v2]
theorem Ed (u:UInt64):F.abe u=some (am u.toNat):=by
 unfold F.abe
 obtain⟨m,j,z,k⟩:=kI [u.toUInt32,(bH u 32).toUInt32] (by simp)
 have hu:u.toNat<18446744073709551616:=u.toNat_lt
 have e:val [u.toUInt32,(bH u 32).toUInt32]=u.toNat:=by
  simp only[il,jX,kh,jm]
  rw[show (2:Nat)^min 32 64=4294967296 from rfl]
  omega
 rw[j,aa,k,e]
theorem Jo {n:Nat} (h:(am n).length≠0):(am n).getD ((am n).length - 1) 0≠0:=by
 intro k
 obtain⟨l,hl⟩:∃l,am n=l:=⟨_,rfl⟩
 have z:val l=n:=by rw[<-hl,al]
 rw[hl]at h k
 have e:=cH l (l.length - 1)
 have z0:(0:UInt32).toNat=0:=rfl
 rw[show l.length - 1+1=l.length by omega,aC (aq _),k,z0,cb,bb,z]at e
 have j:=bN (l.take (l.length - 1))
 rw[az,aT q10,<-e]at j
 have:=bc j
 rw[hl]at this
 omega
theorem ko (n:Nat):(am n).length=0↔n=0:=by
 constructor
 ·intro h
  have:=al n
  rw[bA h]at this
  exact this.symm
 ·intro h; rw[h,cu]; rfl
theorem sN (a b:L8) (ha:a.length<=40000000000000) (hb:b.length<=40000000000000):F.WG a b=some (if val b=0 then ([],[],60) else (am (val a / val b),am (val a%val b),0)):=by
 obtain⟨m,Z,h2,h3⟩:=jf a q10
 obtain⟨m',h4,h5,h6⟩:=jf b q10
 have la:(am (val a)).length<=a.length:=bc (bN a)
 have lb:(am (val b)).length<=b.length:=bc (bN b)
 unfold F.WG
 rw[Z,aa,h4,aa,h3,h6]
 by_cases hb0:val b=0
 ·rw[af (by rw[hb0,cu]; rfl),af hb0]
 ·have O:(am (val b)).length≠0:=fun h=>hb0 ((ko _).1 h)
  rw[ae (by rw[dh]; omega),ae hb0,lQ a b q10 q10,aa]
  unfold cW
  by_cases hl:val a<val b
  ·have R:apO 4 [] (am (val a))=some (am (val a)):=by unfold apO; rw[af (by simp; omega)]; simp
   rw[af hl,af q11,R,aa,bE hl,av hl,cu]
  ·rw[ae hl,ae (by split <;> decide)]
   have U:(am (val b)).length<=(am (val a)).length:=db q10
   have A:=Jo O
   by_cases h11:(am (val b)).length=1
   ·have z:val b=((am (val b)).getD 0 0).toNat:=by
     have e:=cH (am (val b)) 0
     rw[bn,aC q10,al]at e
     simpa [val] using e
    obtain⟨q,r,B,s2,G,j⟩:=IX (am (val a)) ((am (val b)).getD 0 0) (by rw[<-z]; exact hb0) q10
    rw[al,<-z]at G j
    obtain⟨k,I,p2,J⟩:=kI q q10
    rw[af (by rw[dh]; omega),show (0:Int)=((0:Nat):Int) from rfl,aG (show 0<(am (val b)).length by omega) 0,aa,B,aa]
    dsimp only
    rw[I,aa,J,Ed,aa,dD,G,j]
   ·obtain⟨q,u,B,s2,G,j,N⟩:=KU (am (val a)) (am (val b)) q10 A U q10
    rw[al,al]at j N
    obtain⟨k,I,p2,J⟩:=kI q q10
    obtain⟨k',p4,p5,p6⟩:=kI (u.take (am (val b)).length) (by rw[az]; omega)
    have V:val (u.take (am (val b)).length)=val u:=by
     have e:=fS u (am (val b)).length q10
     have X:val u<4294967296^(am (val b)).length:=by
      have Y:=bN (am (val b))
      rw[al]at Y
      rw[N]
      exact fT (ba _ q10) Y
     rw[nH X,cb,bb]at e
     exact e.symm
    rw[ae (by rw[dh]; omega),B,aa]
    dsimp only
    rw[I,aa,p4,aa,J,p6,V,j,N]
end Go.Gk.Bn
end
section
namespace Go.Gk.Bn
open Go Go.Gk Go.Gk.Sh Go.Gk.Ec Go.Gk.Pr
theorem FE (a:L8) (ha:a.length<=40000000000000):F.aaa a=some (((nb (val a)+31) / 32:Nat):Int):=by
 have j:nb (val a)<=32*a.length:=aA (mf _) (bf 32 (bc (bN a)))
 unfold F.aaa
 rw[kO a q10,aa,ay (x:=((nb (val a):Nat):Int)+31) q10 q10,bQ q10,ay q10 q10]
 congr 1
def pK (l:List L8) (m:L8):Int:=if l.any (fun a=>decide (4096<nb (val a))) then 10 else if val m<2 then 60 else 0
theorem vR (l:List L8) (k:Nat) (J:l.length=k+1) (I:k<=100) (hl:∀a∈l,a.length<=40000000000000):F.UZ l=some (pK l (l.getD k [])):=by
 have B:∀(n i:Nat),i+n=l.length->loop (F.Wn l) (i:Int)=some (pK (l.drop i) (l.getD k [])):=by
  intro n
  induction n with
  | zero=>
   intro i hi
   have:i=l.length:=by omega
   subst this
   have A:wI ((l.length:Int) - 1)=(k:Int):=by rw[ay q10 q10]; omega
   have hm:(l.getD k []).length<=40000000000000:=by
    refine hl _ ?_
    rw[ak,aw q10]
    exact i0 _
   refine bm ?_
   unfold F.Wn pK
   dsimp only
   rw[ae (by rw[aj]; omega),A,aG (show k<l.length by omega) [],aa,kO _ q10,aa,jb]
   rw[ae (show ¬(List.any [] fun a=>decide (4096<nb (val a)))=true by simp)]
   congr 1
   by_cases h:val (l.getD k [])<2
   ·have:nb (val (l.getD k []))<=1:=mE (k:=1) h
    rw[af h,af (ah q10)]
   ·rw[ae h,ae]
    rw[aj]
    intro N
    have hb:=(fi (val (l.getD k []))).1
    have O:=aE (show 0<2 by decide) (show nb (val (l.getD k []))<=1 by omega)
    omega
  | succ n ih=>
   intro i hi
   have A:wI ((i:Int)+1)=((i+1:Nat):Int):=by rw[ay q10 q10]; rfl
   obtain⟨a,ha⟩:∃a,l.getD i []=a:=⟨_,rfl⟩
   have j:a.length<=40000000000000:=by
    refine hl _ ?_
    rw[<-ha,ak,aw q10]
    exact i0 _
   have z:l.drop i=a :: l.drop (i+1):=by
    rw[bZ q10]
    congr 1
    rw[<-ha,ak,aw q10]; rfl
   by_cases hb:4096<nb (val a)
   ·refine (bm (X:=some 10) ?_).trans ?_
    ·unfold F.Wn
     dsimp only
     rw[af (ah q10),aG (show i<l.length by omega) [],aa,ha,FE a j,aa,af (ah q10)]
    ·unfold pK
     rw[z,af (by simp[hb])]
   ·have G:F.Wn l (i:Int)=some (.inl ((i+1:Nat):Int)):=by
     unfold F.Wn
     dsimp only
     rw[af (ah q10),aG (show i<l.length by omega) [],aa,ha,FE a j,aa,ae (by rw[aj]; omega),A]; rfl
    rw[bv G,ih (i+1) q10]
    unfold pK
    rw[z,List.any_cons,an hb,Bool.false_or]
 have:=B l.length 0 q10
 rw[cR]at this
 exact this
theorem su {a b m:L8} (ha:nb (val a)<=4096) (hb:nb (val b)<=4096) (hm:nb (val m)<=4096) (j:2<=val m) (k:a.length<=40000000000000) (z:b.length<=40000000000000) (A:m.length<=40000000000000):F.UZ [a,b,m]=some 0:=by
 rw[vR [a,b,m] 2 rfl q11 (by intro x hx; simp at hx; rcases hx with rfl | rfl | rfl <;> assumption)]
 unfold pK
 rw[ae (by simp; omega),ae (by show ¬val m<2; omega)]
theorem mB (a m:L8) (ha:a.length<=40000000000000) (hm:m.length<=40000000000000) (h:val m≠0):F.Uq a m=some (am (val a%val m)):=by
 unfold F.Uq
 rw[sN a m ha hm,ae h,aa]
theorem vL {x y m:Nat} (hx:x<m) (hy:y<m) (j:(am m).length<=1000) (l:L8) (hl:val l=m) (k:l.length<=40000000000000):F.WX (am x) (am y) l=some (am ((m - y+x)%m)):=by
 have lx:(am x).length<=1000:=aA (db q10) j
 have A:(am y).length<=1000:=aA (db q10) j
 unfold F.WX F.acJ
 rw[uV _ _ q10 q10,aa,al,al]
 by_cases h:x<y
 ·have z:(am (x+m)).length<=1001:=by
   have B:=kH x m
   have G:=db (show x<=m by omega)
   omega
  rw[af h,af (by rfl),uJ _ _ q10 k,aa,al,hl,uV _ _ q10 q10,aa,al,al,ae q10,av q10,show x+m - y=m - y+x by omega]
 ·rw[ae h,ae (show ¬(!true)=true by decide),show m - y+x=(x - y)+m by omega,Nat.add_mod_right,av q10]
section
variable (c:Int)
end
section
variable {c:Int}
end
end Go.Gk.Bn
end
section
namespace Go.Gk.Bn
open Go Go.Gk Go.Gk.Sh
theorem D5 {m x y:Nat} (hm:m%2=1) (h:2*x%m=2*y%m):x%m=y%m:=by
 have j:∀x:Nat,x%m=((m+1) / 2*(2*x%m))%m:=fun x=>by
  rw[Nat.mul_mod_mod,<-aD,show (m+1) / 2*2=m+1 by omega,bd,ci,Nat.mul_add_mod]
 rw[j x,j y,h]
theorem D8 {m x y v:Nat} (h:(x+v)%m=(y+v)%m):x%m=y%m:=by
 rcases bR m with z | z
 ·subst z; rw[Nat.mod_zero,Nat.mod_zero]at h ⊢; omega
 ·have j:∀x:Nat,x%m=((x+v)%m+v*(m - 1))%m:=fun x=>by
   rw[Nat.mod_add_mod]
   have:x+v+v*(m - 1)=x+v*m:=by
    obtain⟨k,A⟩:∃k,m=k+1:=⟨m - 1,by omega⟩
    rw[A,fa,aF,de]; omega
   rw[this,fp]
  rw[j x,j y,h]
def qd (x m:Nat):Nat:=if x%2=1 then (x+m) / 2 else x / 2
theorem BV {x m:Nat} (hx:x<m):qd x m<m:=by unfold qd; split <;> omega
theorem H7 {x m:Nat} (hm:m%2=1):2*qd x m%m=x%m:=by
 unfold qd
 split
 ·rw[show 2*((x+m) / 2)=x+m by omega,Nat.add_mod_right]
 ·rw[show 2*(x / 2)=x by omega]
theorem s7 {m a u p:Nat} (hm:m%2=1) (hu:u%2=0) (h:p*a%m=u%m):qd p m*a%m=u / 2%m:=by
 refine D5 hm ?_
 rw[<-aD,cF,H7 hm,<-cF,h,show 2*(u / 2)=u by omega]
theorem tP {m a u v p q:Nat} (z:q<=m) (A:v<=u) (j:p*a%m=u%m) (k:q*a%m=v%m):(m - q+p)%m*a%m=(u - v)%m:=by
 refine D8 (v:=v) ?_
 rw[show u - v+v=u by omega,<-j,Nat.add_mod,Nat.mod_mul_mod,<-k,<-Nat.add_mod,<-bd,show m - q+p+q=m+p by omega,bd,aP m,Nat.mul_add_mod_self_right]
theorem wa {u v:Nat} (hu:u%2=0) (k:v%2=1):Nat.gcd (u / 2) v=Nat.gcd u v:=by
 apply Nat.dvd_antisymm
 ·refine Nat.dvd_gcd ?_ (gO _ _)
  exact Nat.dvd_trans (jO _ _) ⟨2,by omega⟩
 ·refine Nat.dvd_gcd ?_ (gO _ _)
  have z:Nat.gcd u v ∣ 2*(u / 2):=by rw[show 2*(u / 2)=u by omega]; exact jO _ _
  refine Nat.Coprime.dvd_of_dvd_mul_left ?_ z
  have A:Nat.gcd (Nat.gcd u v) 2 ∣ 2:=gO _ _
  have B:Nat.gcd (Nat.gcd u v) 2 ∣ v:=Nat.dvd_trans (jO _ _) (gO _ _)
  have j:Nat.gcd (Nat.gcd u v) 2 ∣ v%2:=(Nat.dvd_mod_iff A).2 B
  rw[k]at j
  exact Nat.eq_one_of_dvd_one j
theorem zk {u v:Nat} (h:v<=u):Nat.gcd (u - v) v=Nat.gcd u v:=Nat.gcd_sub_self_left h
theorem Qx (x:UInt32):((x &&& 1) == 1)=decide (x.toNat%2=1):=by
 have h:(x &&& 1).toNat=x.toNat%2:=by
  rw[UInt32.toNat_and]
  exact Nat.and_one_is_mod _
 by_cases h1:x.toNat%2=1
 ·rw[ah h1,dh]
  apply cz.1
  rw[h,h1]; rfl
 ·rw[an h1]
  apply Bool.eq_false_iff.2
  intro j
  rw[dh]at j
  rw[j]at h
  exact h1 h.symm
theorem oG (l:L8) (hl:l.length<=4611686018427387904):F.Us l 0=some (decide (val l%2=1)):=by
 have w0:wI (Int.tdiv 0 32)=((0:Nat):Int):=by decide
 have j:Int.tmod 0 32=0:=by decide
 unfold F.Us
 rw[af q11,w0,j]
 by_cases h:l.length=0
 ·rw[ae (by rw[aj]; omega),bA h]; rfl
 ·rw[af (ah q10),aG (show 0<l.length by omega) 0,aa,grd_true _ q11]
  have e:cq (l.getD 0 0) (0:Int).toNat=l.getD 0 0:=by
   apply cz.1
   unfold cq
   rw[cV]
   have:=eF (l.getD 0 0)
   rw[show min (0:Int).toNat 32=0 from rfl,dg,iK]
   omega
  rw[e,Qx]
  congr 2
  match l,h with
  | x :: r,_=>
   rw[il]
   show (x.toNat%2=1)=((x.toNat+4294967296*val r)%2=1)
   rw[show (x.toNat+4294967296*val r)%2=x.toNat%2 by omega]
theorem uO (l:L8) (hl:l.length<=40000000000000):F.UK l 1=some (am (val l / 2)):=by
 obtain⟨m,A,R,B⟩:=jf l q10
 have U:(am (val l)).length<=l.length:=bc (bN l)
 have w0:wI (Int.tdiv (max 1 0) 32)=((0:Nat):Int):=by decide
 have G:Int.tmod (max 1 0) 32=((1:Nat):Int):=by decide
 unfold F.UK
 rw[A,aa,B,w0,G]
 by_cases h:(am (val l)).length=0
 ·have:val l=0:=(ko _).1 h
  rw[af (ah q10),this,kw,cu]
 ·have j:apO 4 [] (am (val l))=some (am (val l)):=by unfold apO; rw[af (by simp; omega)]; simp
  obtain⟨I,J,V,z⟩:=vz (am (val l)) 1 q11 q10
  rw[al,Nat.pow_one]at z
  obtain⟨k,N,X,O⟩:=kI I q10
  rw[ae (by rw[aj]; omega),na q10,aa,cR,j,aa,J,aa,N,aa,O,z]
theorem Fg (x m:L8) (hx:x.length<=1000) (hm:m.length<=1000):F.Ym x m=some (am (qd (val x) (val m))):=by
 have l1:(am (val x+val m)).length<=1001:=by
  have j:=kH (val x) (val m)
  have k:(am (val x)).length<=x.length:=bc (bN x)
  have z:(am (val m)).length<=m.length:=bc (bN m)
  omega
 unfold F.Ym qd
 rw[oG x q10,aa]
 by_cases h:val x%2=1
 ·rw[af (ah h),af h,uJ x m q10 q10,aa,uO _ q10,aa,al]
 ·rw[ae (by rw[aj]; exact h),ae h,uO x q10,aa]
def sub3 (m u v p q:Nat):L8×L8×L8×L8:=
 if v<=u then (am (u - v),am v,am ((m - q+p)%m),am q) else (am u,am (v - u),am p,am ((m - p+q)%m))
theorem gk {n m k:Nat} (h:n<=m) (hm:(am m).length<=k):(am n).length<=k:=aA (db h) hm
theorem Q8 {m a u p:Nat} (hm:m%2=1) (A:(am m).length<=900) (B:u<=m) (hp:p<m) :
  ∀v q,0<v->v<=m->q<m->q*a%m=v%m->∃j k,0<j/\j<=v/\k<m/\k*a%m=j%m/\(u%2=1->Nat.gcd u j=Nat.gcd u v) /\
   loop (F.ZU (am m) (am u) (am p)) (am v,am q)=some (.inl (sub3 m u j p k)):=by
 intro v
 induction v using Nat.strongRecOn with
 | _ v ih=>
  intro q J G z h
  have X:=gk G A
  have Y:=gk (bG z) A
  have Z:=gk B A
  have lp:=gk (bG hp) A
  by_cases ho:v%2=1
  ·refine⟨v,q,J,aq _,z,h,fun _=>rfl,?_⟩
   refine eL ?_
   unfold F.ZU sub3
   dsimp only
   rw[oG _ q10,aa,al,ae (by rw[ah ho]; decide),lQ _ _ q10 q10,aa,al,al]
   by_cases hc:v<=u
   ·have hz:0<=cW u v:=by
     unfold cW
     rw[ae q10]
     split <;> decide
    rw[af (ah hz),af hc,uV _ _ q10 q10,aa,al,al,ae q10,vL hp z q10 (am m) (al m) q10,aa]
    rfl
   ·have hz:¬0<=cW u v:=by
     unfold cW
     rw[af q10]
     decide
    rw[ae (by rw[aj]; exact hz),ae hc,uV _ _ q10 q10,aa,al,al,ae q10,vL z hp q10 (am m) (al m) q10,aa]
    rfl
  ·have I:v%2=0:=by omega
   obtain⟨j,k,N,a2,O,R,U,V⟩:=ih (v / 2) q10 (qd q m) q10 q10 (BV z) (s7 hm I h)
   refine⟨j,k,N,by omega,O,R,fun hu=>?_,?_⟩
   ·rw[U hu,eg,wa I hu,eg]
   ·refine Eq.trans (bv ?_) V
    unfold F.ZU
    dsimp only
    rw[oG _ q10,aa,al,af (by rw[an ho]; decide),uO _ q10,aa,al,Fg _ _ q10 q10,aa,al,al]
    rfl
theorem RM {m a v q:Nat} (hm:m%2=1) (A:(am m).length<=900) (V:0<v) (I:v<=m) (O:q<m) (R:q*a%m=v%m) :
  ∀u p,0<u->u<=m->p<m->p*a%m=u%m->Nat.gcd u v%2=1->∃k j B z,0<k/\k<=u/\B<m/\B*a%m=k%m/\0<j/\j<=v/\z<m/\z*a%m=j%m /\
   Nat.gcd k j=Nat.gcd u v/\loop (F.abG (am m) (am v) (am q)) (am u,am p)=some (.inl (sub3 m k j B z)):=by
 intro u
 induction u using Nat.strongRecOn with
 | _ u ih=>
  intro p hu J hp h hg
  have lv:=gk I A
  have lq:=gk (bG O) A
  have lu:=gk J A
  have lp:=gk (bG hp) A
  by_cases ho:u%2=1
  ·obtain⟨j,z,X,Y,Z,a4,a5,a6⟩:=Q8 (a:=a) hm A J hp v q V I O R
   refine⟨u,j,p,z,hu,aq _,hp,h,X,Y,Z,a4,a5 ho,?_⟩
   refine bm ?_ |>.trans a6
   unfold F.abG
   dsimp only
   rw[oG _ q10,aa,al,ae (by rw[ah ho]; decide)]
  ·have G:u%2=0:=by omega
   have N:v%2=1:=by
    apply iR
    intro hc
    have d1:2 ∣ Nat.gcd u v:=Nat.dvd_gcd (ee G) (ee q10)
    omega
   obtain⟨k,j,B,z,b1,b2,b3,b4,b5,b6,b7,b8,b9,U⟩:=ih (u / 2) q10 (qd p m) q10 q10 (BV hp) (s7 hm G h) (by rw[wa G N]; exact hg)
   refine⟨k,j,B,z,b1,by omega,b3,b4,b5,b6,b7,b8,by rw[b9,wa G N],?_⟩
   refine Eq.trans (bv ?_) U
   unfold F.abG
   dsimp only
   rw[oG _ q10,aa,al,af (by rw[an ho]; decide),uO _ q10,aa,al,Fg _ _ q10 q10,aa,al,al]
   rfl
theorem Jr {m a:Nat} (hm:m%2=1) (V:(am m).length<=900):∀n u v p q,u+v<=n->u<=m->0<v->v<=m->p<m->q<m->p*a%m=u%m->q*a%m=v%m->Nat.gcd u v%2=1 ->
  ∃x,x<m/\x*a%m=Nat.gcd u v%m/\loop (F.Yt (am m)) (am u,am v,am p,am q)=some (am (Nat.gcd u v),am x):=by
 intro n
 induction n with
 | zero=>intro u v p q h1 h2 h3; omega
 | succ n ih=>
  intro u v p q hn I hv X hp Y Z J hg
  have lu:=gk I V
  by_cases hu:u=0
  ·subst hu
   rw[Nat.gcd_zero_left]
   refine⟨q,Y,J,?_⟩
   refine eL ?_
   unfold F.Yt
   dsimp only
   rw[kO _ q10,aa,al,lU]
   rfl
  ·obtain⟨j,k,B,G,b1,b2,b3,O,b5,b6,b7,b8,R,ab⟩:=RM (a:=a) hm V hv X Y J u p q10 I hp Z hg
   have hs:F.Yt (am m) (am u,am v,am p,am q)=some (.inl (sub3 m j k B G)):=by
    unfold F.Yt
    dsimp only
    have:=(fi u).2 hu
    rw[kO _ q10,aa,al,af (ah q10),ab]
   have N:0<m:=by omega
   rw[bv hs]
   unfold sub3
   by_cases hc:k<=j
   ·rw[af hc]
    obtain⟨x,U,z,A⟩:=ih (j - k) k ((m - G+B)%m) G q10 q10 b5 q10 (ba _ N) b7 (tP q10 hc O b8) b8 (by rw[zk hc,R]; exact hg)
    rw[zk hc,R]at z A
    exact⟨x,U,z,A⟩
   ·rw[ae hc]
    have e:Nat.gcd j (k - j)=Nat.gcd u v:=by rw[eg,zk q10,eg,R]
    obtain⟨x,U,z,A⟩:=ih j (k - j) B ((m - B+G)%m) q10 q10 q10 q10 b3 (ba _ N) O (tP q10 q10 b8 O) (by rw[e]; exact hg)
    rw[e]at z A
    exact⟨x,U,z,A⟩
theorem Ie (a:L8) (m:Nat) (z:1<m) (hm:m%2=1) (O:nb m<=4096) (A:(am m).length<=900) (R:nb (val a)<=4096) (B:a.length<=40000000000000) (hg:Nat.gcd (val a) m=1) :
  ∃w,w<m/\val a*w%m=1/\F.Vp a (am m)=some (am w,0):=by
 have J:F.UZ [a,am m]=some 0:=by
  have hl:∀x∈[a,am m],x.length<=40000000000000:=by
   intro x hx
   simp only[aJ,aM,bC]at hx
   rcases hx with h | h
   ·rw[h]; exact B
   ·rw[h]; omega
  rw[vR [a,am m] 1 rfl q11 hl]
  unfold pK
  rw[ae]
  ·rw[show [a,am m].getD 1 []=am m from rfl,al,ae q10]
  ·simp only[List.any_cons,List.any_nil,Bool.or_false,fu,aj,al]
   omega
 have j:Nat.gcd (val a%m) m=1:=by rw[<-hg,<-jF,eg]
 obtain⟨x,k,G,I⟩:=Jr (a:=val a%m) hm A (val a%m+m) (val a%m) m 1 0 (aq _) (bG (ba _ q10)) q10 (aq _) z q10 (by rw[ci]) (by rw[eW,Nat.mod_self,Nat.zero_mod]) (by rw[j])
 rw[j,av z]at G
 rw[j]at I
 have l1:am 1=[1]:=by rw[lG q11,show 1 / 4294967296=0 by decide,cu]; rfl
 refine⟨x,k,?_,?_⟩
 ·rw[<-G,aP,Nat.mul_mod_mod]
 ·have lx:=gk (bG k) A
  unfold F.Vp
  rw[J,aa,ae q11,mB a _ B q10 (by rw[al]; omega),al,aa,oG _ q10,al,aa,af (ah hm)]
  have N:F.V2 (am (val a%m)) (am m)=some ([1],am x):=by
   unfold F.V2
   rw[<-l1,<-cu]at *
   exact I
  rw[N,aa]
  dsimp only
  rw[lQ _ _ q11 q11,Ai,aa,ae q11,mB _ _ q10 q10 (by rw[al]; omega),al,al,av k,aa]
end Go.Gk.Bn
end
section
namespace Go.Gk.Sh
open Go Go.Gk
theorem Jk {v:V8 UInt64}:au (toL v) (0:Int)=some v.1/\au (toL v) (1:Int)=some v.2.1/\au (toL v) (2:Int)=some v.2.2.1/\au (toL v) (3:Int)=some v.2.2.2.1 /\
  au (toL v) (4:Int)=some v.2.2.2.2.1/\au (toL v) (5:Int)=some v.2.2.2.2.2.1/\au (toL v) (6:Int)=some v.2.2.2.2.2.2.1/\au (toL v) (7:Int)=some v.2.2.2.2.2.2.2:=⟨rfl,rfl,rfl,rfl,rfl,rfl,rfl,rfl⟩
theorem JZ {h:List UInt64} (hh:h.length=8):toL (ofL 0 h)=h:=by
 match h,hh with
 | [a,b,c,d,e,f,g,i],_=>rfl
theorem AK (all:L00) (z:Nat) (h:List UInt64) (hh:h.length=8) (hl:z+128<=all.length) (hb:all.length<=1000000000000000) :
  loop (F.WS h all (z:Int)) (0,List.replicate 80 0)=some (.inl (((z+128:Nat):Int),mc h (all.drop z))):=by
 have U:=dC (f:=F.WS h all (z:Int)) (fun w i=>((i:Int),w)) oZ (jZ (all.drop z)) 0 80
  (X:=fun w=>loop (F.YP h w (z:Int)) (0,h))
  (fun i w _ hi B=>by
   have A:decide ((i:Int)<80)=true:=ah q10
   have b6:=B.1
   refine⟨?_,ra _ i w B⟩
   by_cases h16:i<16
   ·have J:decide ((i:Int)<16)=true:=ah q10
    have V:wI ((z:Int)+wI (8*(i:Int)))=((z+8*i:Nat):Int):=by rw[ay (show -9223372036854775808<=8*(i:Int) by omega) q10,ay q10 q10]; omega
    have N:=gu (f:=F.Xe all (z:Int) (i:Int)) (fun x j=>((j:Int),w.set i x)) (fun _=>True) (xK (all.drop z) i) 0 8
     (X:=fun x=>(some (.inl (((i+1:Nat):Int),w.set i x)):Option ((Int×List UInt64)⊕((Int×List UInt64)⊕L00))))
     (fun j x _ hj _=>by
      have A:decide ((j:Int)<8)=true:=ah q10
      have g:au all (wI (((z+8*i:Nat):Int)+(j:Int)))=some ((all.drop z).getD (8*i+j) 0):=by
       rw[ay q10 q10,show (((z+8*i:Nat):Int)+(j:Int))=((z+8*i+j:Nat):Int) by omega,aG q10 0,ak,ak,dt,dW]
      refine⟨?_,trivial⟩
      simp only[F.Xe,A,bo,V]
      rw[vr q10,aa,g,aa,aa,aS,wI1 j q10,ao,List.set_set]
      rfl)
     (fun x _=>by
      simp only[F.Xe,show decide (((8:Nat):Int)<8)=false from rfl,bK,cC,F.XK,wI1 i q10]
      rfl)
     8 0 0 (aq _) rfl trivial
    have hz:w.set i 0=w:=by
     have:=Nq (w:=w) (i:=i) q10
     rwa [B.2 i (aq _)]at this
    rw[hz]at N
    simp only[F.WS,A,J,bo]
    refine N.trans ?_
    simp only[jZ,h16,bo,uj]
   ·have J:decide ((i:Int)<16)=false:=an q10
    have m:∀k:Nat,k<=16->au w (wI ((i:Int) - (k:Int)))=some (w.getD (i - k) 0):=fun k hk=>by
     rw[wIs i k q10 q10,aG q10 0]
    have O:=m 15 q10; have Y:=m 2 q10; have R:=m 16 q10; have Z:=m 7 q10
    simp only[F.WS,A,J,bo,bK,cC]
    rw[show au w (wI ((i:Int) - 15))=_ from O,aa,show au w (wI ((i:Int) - 2))=_ from Y,aa,show au w (wI ((i:Int) - 16))=_ from R,aa,
     show F.Uc (w.getD (i - 15) 0) 1=_ from oh _ 1 q10,aa,show F.Uc (w.getD (i - 15) 0) 8=_ from oh _ 8 q10,aa,
     show au w (wI ((i:Int) - 7))=_ from Z,aa,
     show F.Uc (w.getD (i - 2) 0) 19=_ from oh _ 19 q10,aa,show F.Uc (w.getD (i - 2) 0) 61=_ from oh _ 61 q10,aa,
     jv (show i<w.length by omega),aa,aS,ao]
    simp only[F.XK,wI1 i q10,jZ,h16,cC,HL]
    have e:∀a b c d:UInt64,((a+b)+c)+d=((a+c)+b)+d:=fun a b c d=>by rw[UInt64.add_assoc a b c,UInt64.add_comm b c,<-UInt64.add_assoc]
    rw[e]
    rfl)
  (fun w B=>rfl) 80 0 (List.replicate 80 0) (aq _) rfl uI
 have e3:=fun (G:List UInt64) (B:G.length=80)=>gu (f:=F.YP h G (z:Int)) (fun (v:V8 UInt64) i=>((i:Int),toL v)) (fun _=>True) (Hx G) 0 80
  (X:=fun v=>loop (F.W5 (z:Int) (toL v)) (0,h))
  (fun i v _ hi _=>by
   have A:decide ((i:Int)<80)=true:=ah q10
   obtain⟨t0,t1,t2,t3,t4,t5,t6,t7⟩:=Jk (v:=v)
   refine⟨?_,trivial⟩
   simp only[F.YP,A,bo]
   rw[t0,aa,t4,aa,t7,aa,show F.Uc v.2.2.2.2.1 14=_ from oh _ 14 q10,aa,show F.Uc v.2.2.2.2.1 18=_ from oh _ 18 q10,aa,show F.Uc v.2.2.2.2.1 41=_ from oh _ 41 q10,aa,
    t5,aa,t6,aa,aG (show i<F.US.length from hi) 0,aa,aG (show i<G.length by omega) 0,aa,aS,
    show F.Uc v.1 28=_ from oh _ 28 q10,aa,show F.Uc v.1 34=_ from oh _ 34 q10,aa,show F.Uc v.1 39=_ from oh _ 39 q10,aa,
    t1,aa,t2,aa,aa,aa,aS,aa,aa,t3,aa,aa,aa,wI1 i q10]
   rfl)
  (fun v _=>rfl) 80 0 (ofL 0 h) (aq _) rfl trivial
 have e4:=fun (v:V8 UInt64)=>gu (f:=F.W5 (z:Int) (toL v)) (fun h i=>((i:Int),h)) (fun h=>h.length=8) (tE (toL v)) 0 8
  (X:=fun h=>some (.inl (((z+128:Nat):Int),h)))
  (fun i h _ hi hh=>by
   have A:decide ((i:Int)<8)=true:=ah q10
   refine⟨?_,sR _ i h hh⟩
   simp only[F.W5,A,bo]
   rw[aG (show i<h.length by omega) 0,aa,aG (l:=toL v) (show i<8 from hi) 0,aa,aa,aS,wI1 i q10,ao]
   rfl)
  (fun h hh=>by
   simp only[F.W5,show decide (((8:Nat):Int)<8)=false from rfl,bK,cC]
   rw[ay q10 q10]
   rfl) 8 0 h (aq _) rfl hh
 refine U.trans ?_
 have I:=e3 (oD (all.drop z)) (zW _).1
 rw[JZ hh]at I
 refine I.trans ?_
 exact e4 _
theorem sO (m:Nat) (h:m<18446744073709551616):(UInt64.ofInt (m:Int)).toNat=m:=by
 simp[UInt64.ofInt,bO]
 omega
theorem pL {b:L00} {k n:Nat} (h:k<n):(b.take n).getD k 0=b.getD k 0:=by
 rw[ak,bY,af h,ak]
theorem DV (h:L8) (b:L00):n9 h (b.take 64)=n9 h b:=by
 have:oL (b.take 64)=oL b:=by
  unfold oL
  refine oV 64 0 _ fun k y _ z=>?_
  unfold kr
  split
  ·rename_i j
   simp only[yd]
   rw[pL q10,pL q10,pL q10,pL q10]
  ·rfl
 unfold n9
 rw[this]
theorem Ef (h:List UInt64) (b:L00):mc h (b.take 128)=mc h b:=by
 have:oD (b.take 128)=oD b:=by
  unfold oD
  refine oV 80 0 _ fun k y _ A=>?_
  unfold jZ
  split
  ·rename_i z
   have:uj (b.take 128) k=uj b k:=oV 8 0 _ fun j x _ B=>by
    simp only[xK]
    rw[pL q10]
   rw[this]
  ·rfl
 unfold mc
 rw[this]
abbrev HS:=L8×List UInt64
def Bk (a:Int):Nat:=if a=1 then 64 else 128
def mix (a:Int) (H:HS) (b:L00):HS:=if a=1 then (n9 H.1 b,H.2) else (H.1,mc H.2 b)
theorem vF (a:Int) (H:HS) (b:L00):mix a H (b.take (Bk a))=mix a H b:=by
 unfold mix Bk
 split
 ·rw[DV]
 ·rw[Ef]
theorem OI (a:Int) (H:HS) (b:L00) (h:H.1.length=8/\H.2.length=8):(mix a H b).1.length=8/\(mix a H b).2.length=8:=by
 unfold mix
 split
 ·exact⟨Co _ _ h.1,h.2⟩
 ·exact⟨h.1,sB _ _ h.2⟩
def nC (a:Int) (H:HS) (D:L00) (k:Nat):HS:=(List.range' 0 k).foldl (fun H i=>mix a H (D.drop (Bk a*i))) H
theorem wd (a:Int) (H:HS) (D:L00) (k:Nat) (h:H.1.length=8/\H.2.length=8):(nC a H D k).1.length=8/\(nC a H D k).2.length=8:=
 oB (fun H:HS=>H.1.length=8/\H.2.length=8) _ (fun i x hx=>OI a x _ hx) k 0 _ h
theorem JG (a:Int) (H:HS) (D:L00) (k:Nat):nC a H D (k+1)=mix a (nC a H D k) (D.drop (Bk a*k)):=by
 unfold nC
 rw[List.range'_concat,List.foldl_append]
 simp
theorem BK (a:Int) (H:HS) (D E:L00) (k:Nat) (h:Bk a*k<=D.length):nC a H (D++E) k=nC a H D k:=by
 unfold nC
 refine oV k 0 _ fun i x _ hi=>?_
 have j:Bk a*(i+1)<=Bk a*k:=bf _ q10
 rw[aF,de]at j
 rw[<-vF,<-vF a x (D.drop _),gW q10,List.take_append_of_le_length (by simp; omega)]
def Inv (a:Int) (H0:HS) (D:L00) (s:L8) (l:List UInt64) (rest:L00) (n:UInt64):Prop:=
 (s,l)=nC a H0 D (D.length / Bk a)/\rest.length=128/\rest.take (D.length%Bk a)=D.drop (Bk a*(D.length / Bk a))/\n=UInt64.ofNat D.length
theorem Mu (a:Int) (s:L8) (l:List UInt64) (rest:L00) (n:UInt64) (hs:s.length=8) (hl:l.length=8) (j:rest.length=128) :
  F.Xp a s l rest n=some (a,(mix a (s,l) rest).1,(mix a (s,l) rest).2,rest,n):=by
 unfold F.Xp mix
 by_cases h:a=1
 ·have e:(a == 1)=true:=by simpa using h
  rw[e,af rfl,af h,GU a s l rest n hs j]; rfl
 ·have e:(a == 1)=false:=by simpa using h
  rw[e,ae (by simp),ae h,F8 a l s rest n hl j]; rfl
theorem Hr (a:Int) (H0:HS) (h0:H0.1.length=8/\H0.2.length=8):∀(m:Nat) (b D:L00) (s:L8) (l:List UInt64) (rest:L00) (n:UInt64),b.length=m->D.length+b.length<=1000000000000000->Inv a H0 D s l rest n ->
  ∃s' N U n',loop (F.V5 ((Bk a:Nat):Int)) (b,a,s,l,rest,n)=some (a,s',N,U,n')/\Inv a H0 (D++b) s' N U n':=by
 intro m
 induction m using Nat.strongRecOn with
 | ind m ih=>
  intro b D s l rest n hm hD hI
  obtain⟨Y,hr,Z,hn⟩:=hI
  have O:=wd a H0 D (D.length / Bk a) h0
  rw[<-Y]at O
  have hB:Bk a=64\/Bk a=128:=by unfold Bk; split <;> simp
  by_cases hb:b=[]
  ·subst hb
   refine⟨s,l,rest,n,eL rfl,?_⟩
   rw[dS]; exact⟨Y,hr,Z,hn⟩
  ·have dc:0<b.length:=fE.2 hb
   -- numbers
   obtain⟨B,j⟩:∃B,Bk a=B:=⟨_,rfl⟩
   rw[j]at hB Z Y
   have cm:D.length%B<B:=ba _ q10
   have b3:=cQ D.length B
   obtain⟨q,hq⟩:∃q,D.length / B=q:=⟨_,rfl⟩
   obtain⟨t,ab⟩:∃t,D.length%B=t:=⟨_,rfl⟩
   rw[hq,ab]at b3
   rw[ab]at cm Z
   rw[hq]at Z Y
   have cx:(UInt64.ofInt ((B:Nat):Int)).toNat=B:=by rcases hB with rfl | rfl <;> rfl
   have cy:¬(UInt64.ofInt ((B:Nat):Int))=0:=by rcases hB with rfl | rfl <;> decide
   have hN:n.toNat=D.length:=by rw[hn,bO]; omega
   have b9:(n%UInt64.ofInt ((B:Nat):Int)).toNat=t:=by rw[dM,hN,cx,ab]
   obtain⟨k,hk⟩:∃k,min b.length (B - t)=k:=⟨_,rfl⟩
   have b4:0<k/\k<=b.length/\k<=B - t:=by omega
   have c3:cpL rest b t B=rest.take t++b.take k++rest.drop (t+k):=by
    unfold cpL
    rw[hk]
    congr 2
    by_cases h:b.length<=B - t
    ·rw[aC h,aC q10]
    ·congr 1; omega
   have ac:(cpL rest b t B).length=128:=by rw[kA _ _ _ _ q10 q10,hr]
   have dd:D.length=B*q+t:=b3.symm
   have V:(D++b.take k).drop (B*q)=rest.take t++b.take k:=by
    rw[gW q10,Z]
   have ad:(cpL rest b t B).take (t+k)=rest.take t++b.take k:=by
    rw[c3,List.take_left' (by simp; omega)]
   have b5:n+UInt64.ofInt ((k:Nat):Int)=UInt64.ofNat (D++b.take k).length:=by
    apply dA.1
    rw[iX,hN,bO,sO k q10]
    simp; omega
   have R:∀s' N:_,Inv a H0 (D++b.take k) s' N (cpL rest b t B) (n+UInt64.ofInt ((k:Nat):Int))->∃G I X J,loop (F.V5 ((Bk a:Nat):Int)) (b.drop k,a,s',N,cpL rest b t B,n+UInt64.ofInt ((k:Nat):Int))=some (a,G,I,X,J)/\Inv a H0 (D++b) G I X J:=by
    intro s' N c4
    obtain⟨G,I,r2,J,h1,h2⟩:=ih (b.drop k).length (by simp; omega) (b.drop k) (D++b.take k) s' N _ _ rfl (by simp; omega) c4
    refine⟨G,I,r2,J,h1,?_⟩
    rwa [bh,ch]at h2
   rw[j]at R ⊢
   have c1:decide ((0:Int)<(b.length:Int))=true:=ah q10
   have w1:wI ((t:Nat):Int)=((t:Nat):Int):=ay q10 q10
   have z:F.V5 ((B:Nat):Int) (b,a,s,l,rest,n) =
     if (wI ((t:Int)+(k:Int)) == (B:Int))=true then (ag (F.Xp a s l (cpL rest b t B) (n+UInt64.ofInt ((k:Nat):Int))) fun x=>bJ (b.drop k,x.1,x.2.1,x.2.2.1,x.2.2.2.1,x.2.2.2.2))
     else bJ (b.drop k,a,s,l,cpL rest b t B,n+UInt64.ofInt ((k:Nat):Int)):=by
    simp only[F.V5,c1,bo,grd_true _ cy,aS,b9,w1]
    rw[tN q10 q10,aa]
    simp only[ao,hk]
    rw[na q10,aa]
   have w2:wI ((t:Int)+(k:Int))=((t+k:Nat):Int):=by rw[ay q10 q10]; simp
   rw[w2]at z
   by_cases hfull:t+k=B
   ·have e:(((t+k:Nat):Int) == (B:Int))=true:=by simp[hfull]
    rw[e,af rfl,Mu a s l _ _ O.1 O.2 ac,aa]at z
    obtain⟨G,I,r2,J,h1,h2⟩:=R (mix a (s,l) (cpL rest b t B)).1 (mix a (s,l) (cpL rest b t B)).2 (by
     have A:(D++b.take k).length=B*(q+1):=by rw[aR,az,aT b4.2.1,aF]; omega
     have hd:(D++b.take k).length / B=q+1:=by rw[A,ge _ q10]
     have b2:(D++b.take k).length%B=0:=by rw[A,Nat.mul_mod_right]
     refine⟨?_,ac,?_,b5⟩
     ·rw[j,hd,JG,BK a H0 D _ q (by rw[j]; omega),<-Y,j,V,<-ad,hfull,<-j,vF]
     ·rw[j,b2,hd,List.take_zero,bp (by rw[A]; exact aq _)])
    exact⟨G,I,r2,J,(bv z).trans h1,h2⟩
   ·have e:(((t+k:Nat):Int) == (B:Int))=false:=by simp; omega
    rw[e,ae (by simp)]at z
    obtain⟨G,I,r2,J,h1,h2⟩:=R s l (by
     have b6:t+k<B:=by omega
     have A:(D++b.take k).length=t+k+B*q:=by rw[aR,az,aT b4.2.1]; omega
     have hd:(D++b.take k).length / B=q:=by rw[A,gK _ _ q10,bE b6]; simp
     have b2:(D++b.take k).length%B=t+k:=by rw[A,eJ,av b6]
     refine⟨?_,ac,?_,b5⟩
     ·rw[j,hd,BK a H0 D _ q (by rw[j]; omega),<-Y]
     ·rw[j,b2,hd,ad,V])
    exact⟨G,I,r2,J,(bv z).trans h1,h2⟩
theorem vN (a:Int) (h:a=1\/a=2\/a=3):F.Va a=some ((Bk a:Nat):Int):=by
 rcases h with rfl | rfl | rfl <;> rfl
theorem BS (a:Int) (ha:a=1\/a=2\/a=3) (H0:HS) (A:H0.1.length=8/\H0.2.length=8) (b D:L00) (s:L8) (l:List UInt64) (rest:L00) (n:UInt64) (B:D.length+b.length<=1000000000000000) (G:Inv a H0 D s l rest n) :
  ∃s' k j z,F.VU a s l rest n b=some (a,s',k,j,z)/\Inv a H0 (D++b) s' k j z:=by
 unfold F.VU
 rw[vN a ha,aa]
 exact Hr a H0 A _ b D s l rest n rfl B G
def zc (B r:Nat):Nat:=(2*B - B / 8 - (r+1))%B
def eE (n:UInt64) (i:Nat):UInt8:=if i<8 then (bH (di n 3) (8*i)).toUInt8 else if i=8 then (bH n 61).toUInt8 else 0
def fy (B:Nat) (D:L00):L00:=([128]++List.replicate (zc B (D.length%B)) 0)++(List.range' 0 (B / 8)).map (fun i=>eE (UInt64.ofNat D.length) (B / 8 - 1 - i))
def q32 (v:UInt32):L00:=[(cq v 24).toUInt8,(cq v 16).toUInt8,(cq v 8).toUInt8,v.toUInt8]
def q64 (v:UInt64):L00:=(List.range' 0 8).map (fun j=>(bH v (56 - 8*j)).toUInt8)
def A4 (s:L8):L00:=(List.range' 0 8).foldl (fun x i=>x++q32 (s.getD i 0)) []
def wU (s:List UInt64):L00:=(List.range' 0 8).foldl (fun x i=>x++q64 (s.getD i 0)) []
def Sz (a:Int):Nat:=if a=1 then 32 else if a=2 then 48 else 64
def qv (a:Int) (H:HS):L00:=if a=1 then A4 H.1 else (wU H.2).take (Sz a)
def H0 (a:Int):HS:=if a=1 then (F.Ut,List.replicate 8 0) else if a=2 then (List.replicate 8 0,F.VX) else (List.replicate 8 0,F.VM)
theorem wz (a:Int):(H0 a).1.length=8/\(H0 a).2.length=8:=by
 unfold H0
 split
 ·exact⟨rfl,rfl⟩
 ·split <;> exact⟨rfl,rfl⟩
def dT (a:Int) (D:L00):L00:=qv a (nC a (H0 a) (D++fy (Bk a) D) ((D++fy (Bk a) D).length / Bk a))
theorem ox {β:Type} (f:Nat->List β):∀(r i:Nat) (x:List β),(List.range' i r).foldl (fun x i=>x++f i) x=x++(List.range' i r).flatMap f
 | 0,i,x=>by simp
 | r+1,i,x=>by
  rw[gq,eo,ox f r (i+1),dU,bh]
theorem yv (v:UInt64):(q64 v).length=8:=by simp[q64]
theorem qU (s:List UInt64):(wU s).length=64:=by
 unfold wU
 have:=eO (fun i (x:L00)=>x.length=8*i) (fun x i=>x++q64 (s.getD i 0)) (fun i x hx=>by simp only[aR,yv,hx]; omega) 8 0 [] rfl
 simpa using this
theorem LD (B:Nat) (D:L00):(fy B D).length=1+zc B (D.length%B)+B / 8:=by simp[fy]; omega
theorem tB (a:Int) (D:L00):(D++fy (Bk a) D).length%Bk a=0/\(fy (Bk a) D).length<=300:=by
 rw[aR,LD]
 have j:Bk a=64\/Bk a=128:=by unfold Bk; split <;> simp
 have k:=ba D.length (show 0<Bk a by omega)
 have hd:=cQ D.length (Bk a)
 rcases j with h | h <;> rw[h]at k hd ⊢ <;> unfold zc <;> omega
theorem Qb (a:Int) (ha:a=1\/a=2\/a=3) (s:L8) (l:List UInt64) (rest:L00) (n:UInt64) (x:L00) (hx:x.length<=1000) :
  loop (F.Wl a s l rest n) (x,(((Bk a / 8 - 1:Nat)):Int))=(ag (F.VU a s l rest n (x++(List.range' 0 (Bk a / 8)).map (fun i=>eE n (Bk a / 8 - 1 - i)))) fun k=>
   if (k.1 == 1)=true then loop (F.Y7 a s l rest n k) ([],0) else loop (F.Wt a s l rest n k) ([],0)):=by
 have J:Bk a / 8=8\/Bk a / 8=16:=by unfold Bk; split <;> simp
 obtain⟨j,I⟩:∃q,Bk a / 8=q:=⟨_,rfl⟩
 rw[I]at J ⊢
 have:=dC (f:=F.Wl a s l rest n) (fun (y:L00) i=>(y,(j:Int) - 1 - (i:Int))) (fun i y=>y.length=x.length+i) (fun y i=>y++[eE n (j - 1 - i)]) 0 j
  (X:=fun y=>(ag (F.VU a s l rest n y) fun k=>if (k.1 == 1)=true then loop (F.Y7 a s l rest n k) ([],0) else loop (F.Wt a s l rest n k) ([],0)))
  (fun i y _ hi hy=>by
   have z:decide ((0:Int)<=((j - 1 - i:Nat):Int))=true:=ah q10
   have N:(j:Int) - 1 - (i:Int)=((j - 1 - i:Nat):Int):=by omega
   have A:∀c:UInt8,F.XY y ((j - 1 - i:Nat):Int) c=some (.inl (y++[c],(j:Int) - 1 - ((i+1:Nat):Int))):=fun c=>by
    simp only[F.XY]
    rw[iy (by simp; omega),aa,ay q10 q10,show ((j - 1 - i:Nat):Int) - 1=(j:Int) - 1 - ((i+1:Nat):Int) by omega]
    rfl
   refine⟨?_,by simp[hy]; omega⟩
   simp only[F.Wl,N,z,bo]
   by_cases h8:j - 1 - i<8
   ·have B:decide (((j - 1 - i:Nat):Int)<8)=true:=ah q10
    have O:wI (8*((j - 1 - i:Nat):Int))=((8*(j - 1 - i):Nat):Int):=by rw[ay q10 q10]; omega
    simp only[B,bo,O]
    rw[grd_true _ q10,aS,ao,A]
    simp only[eE,h8,bo]
   ·have B:decide (((j - 1 - i:Nat):Int)<8)=false:=an q10
    simp only[B,bK,cC]
    by_cases h9:j - 1 - i=8
    ·have G:(((j - 1 - i:Nat):Int) == 8)=true:=by rw[h9]; rfl
     have hb:eE n (j - 1 - i)=(bH n 61).toUInt8:=by unfold eE; rw[ae h8,af h9]
     simp only[G,bo,A,hb]
    ·have G:(((j - 1 - i:Nat):Int) == 8)=false:=by simp; omega
     have hb:eE n (j - 1 - i)=0:=by unfold eE; rw[ae h8,ae h9]
     simp only[G,bK,cC,A,hb])
  (fun y hy=>by
   have z:decide ((0:Int)<=(j:Int) - 1 - ((j:Nat):Int))=false:=an q10
   simp only[F.Wl,z,bK,cC])
  j 0 x (aq _) q10 rfl
 have e:(j:Int) - 1 - ((0:Nat):Int)=((j - 1:Nat):Int):=by omega
 rw[e]at this
 refine this.trans ?_
 have hf:=ox (fun i=>[eE n (j - 1 - i)]) j 0 x
 simp only[hf]
 have hm:∀r:L01,r.flatMap (fun i=>[eE n (j - 1 - i)])=r.map (fun i=>eE n (j - 1 - i)):=fun r=>by
  induction r with
  | nil=>rfl
  | cons p r ih=>rw[dU,ih]; rfl
 rw[hm]
theorem QL (a:Int) (ha:a=1\/a=2\/a=3) (D:L00) (s:L8) (l:List UInt64) (rest:L00) (n:UInt64) (hD:D.length<=900000000000000) (hI:Inv a (H0 a) D s l rest n) :
  F.aba a s l rest n=some (dT a D,a,s,l,rest,n):=by
 unfold F.aba
 rw[vN a ha,aa]
 obtain⟨B,k⟩:∃B,Bk a=B:=⟨_,rfl⟩
 have O:B=64\/B=128:=by rw[<-k]; unfold Bk; split <;> simp
 have hn:=hI.2.2.2
 obtain⟨t,Y⟩:∃t,D.length%B=t:=⟨_,rfl⟩
 have c3:t<B:=by rw[<-Y]; exact ba _ q10
 have ap:(UInt64.ofInt ((B:Nat):Int)).toNat=B:=by rcases O with rfl | rfl <;> rfl
 have R:¬(UInt64.ofInt ((B:Nat):Int))=0:=by rcases O with rfl | rfl <;> decide
 have I:¬((B:Nat):Int)=0:=by omega
 have hN:n.toNat=D.length:=by rw[hn,bO]; omega
 have Z:(n%UInt64.ofInt ((B:Nat):Int)).toNat=t:=by rw[dM,hN,ap,Y]
 have hq:Int.tdiv ((B:Nat):Int) 8=((B / 8:Nat):Int):=by rcases O with rfl | rfl <;> rfl
 have w8:wI ((B / 8:Nat):Int)=((B / 8:Nat):Int):=ay q10 q10
 have w9:wI (((B:Nat):Int) - ((B / 8:Nat):Int))=((B - B / 8:Nat):Int):=by rw[ay q10 q10]; omega
 have wt:wI ((t:Nat):Int)=((t:Nat):Int):=ay q10 q10
 have J:∀j:Nat,j<=zc B t->(Int.tmod (wI (wI ((n%UInt64.ofInt ((B:Nat):Int)).toNat:Int)+((([128]++List.replicate j 0:L00)).length:Int))) ((B:Nat):Int) != wI (((B:Nat):Int) - wI (Int.tdiv ((B:Nat):Int) 8)))=decide (j≠zc B t):=by
  intro j hj
  have hz:zc B t<B:=ba _ q10
  rw[Z,wt,hq,w8,w9]
  have hl:((([128]++List.replicate j 0:L00)).length:Int)=((1+j:Nat):Int):=by simp; omega
  rw[hl,ay q10 q10,show ((t:Nat):Int)+((1+j:Nat):Int)=((t+(1+j):Nat):Int) by omega]
  have hm:Int.tmod ((t+(1+j):Nat):Int) ((B:Nat):Int)=(((t+(1+j))%B:Nat):Int):=rfl
  rw[hm]
  have U:(t+(1+j))%B=B - B / 8↔j=zc B t:=by
   unfold zc at hj hz ⊢
   rcases O with rfl | rfl <;> omega
  by_cases h:j=zc B t
  ·have:=U.2 h
   rw[this]; simp[h]
  ·have:¬(t+(1+j))%B=B - B / 8:=fun h'=>h (U.1 h')
   simp only[h,ne_eq,not_false_eq_true,decide_true,bV]
   omega
 have c4:zc B t<B:=ba _ q10
 have e1:=gu (f:=F.abh n ((B:Nat):Int) a s l rest) (fun (_:Unit) i=>([128]++List.replicate i 0:L00)) (fun _=>True) (fun _ _=>()) 0 (zc B t)
  (X:=fun _=>loop (F.Wl a s l rest n) ([128]++List.replicate (zc B t) 0,((B / 8 - 1:Nat):Int)))
  (fun i _ _ hi _=>by
   refine⟨?_,trivial⟩
   unfold F.abh
   simp only
   rw[grd_true _ R,grd_true _ I,J i q10,af (ah q10),iy (by simp; omega),aa]
   simp only[bh,ez]
   rfl)
  (fun _ _=>by
   unfold F.abh
   simp only
   rw[grd_true _ R,grd_true _ I,J _ (aq _),ae (by simp),aS,hq,w8,ay q10 q10,show ((B / 8:Nat):Int) - 1=((B / 8 - 1:Nat):Int) by omega])
  (zc B t) 0 () (aq _) q10 trivial
 rw[k]
 refine e1.trans ?_
 have V:=Qb a ha s l rest n ([128]++List.replicate (zc B t) 0) (by simp; omega)
 rw[k]at V
 refine V.trans ?_
 have ab:([128]++List.replicate (zc B t) 0)++(List.range' 0 (B / 8)).map (fun i=>eE n (B / 8 - 1 - i))=fy B D:=by
  unfold fy
  rw[Y,hn]
 have hpl:=(tB a D).2
 rw[ab]
 rw[k]at hpl
 obtain⟨s',z,r',n',hw,b5⟩:=BS a ha (H0 a) (wz a) (fy B D) D s l rest n q10 hI
 rw[hw,aa]
 have G:=b5.1
 rw[k]at G
 have A:=wd a (H0 a) (D++fy B D) ((D++fy B D).length / B) (wz a)
 rw[<-G]at A
 by_cases h1:a=1
 ·have c1:(a == 1)=true:=by simpa using h1
  simp only[c1,bo]
  have e3:=dC (f:=F.Y7 a s l rest n (a,s',z,r',n')) (fun (x:L00) i=>(x,(i:Int))) (fun i x=>x.length=4*i) (fun x i=>x++q32 (s'.getD i 0)) 0 8
   (X:=fun x=>some (x,a,s,l,rest,n))
   (fun i x _ hi hx=>by
    have N:decide ((i:Int)<8)=true:=ah q10
    refine⟨?_,by simp[hx,q32]; omega⟩
    simp only[F.Y7,N,bo]
    rw[aG (show i<s'.length by have:=A.1; simp only at this; omega) 0,aa,iy (by simp; omega),aa,wI1 i q10]
    rfl)
   (fun x _=>rfl) 8 0 [] (aq _) rfl rfl
  refine e3.trans ?_
  unfold dT qv
  rw[af h1,k,<-G]
  rfl
 ·have c1:(a == 1)=false:=by simpa using h1
  simp only[c1,bK,cC]
  have e5:=fun (i:Nat) (x:L00) (v:UInt64) (hi:i<8) (hx:x.length=8*i)=>dC (f:=F.aaQ (i:Int) v) (fun (x:L00) j=>(x,(56:Int) - 8*(j:Int))) (fun j y=>y.length=8*i+j) (fun y j=>y++[(bH v (56 - 8*j)).toUInt8]) 0 8
   (X:=fun y=>(some (.inl (y,((i+1:Nat):Int))):Option ((L00×Int)⊕(L00×Int×L8×List UInt64×L00×UInt64))))
   (fun j y _ hj hy=>by
    have N:decide ((0:Int)<=56 - 8*(j:Int))=true:=ah q10
    refine⟨?_,by simp[hy]; omega⟩
    simp only[F.aaQ,N,bo]
    rw[grd_true _ q10,iy (by simp; omega),aa,show ((56:Int) - 8*(j:Int)).toNat=56 - 8*j by omega,ay q10 q10,show (56:Int) - 8*(j:Int) - 8=56 - 8*((j+1:Nat):Int) by omega]
    rfl)
   (fun y _=>by
    simp only[F.aaQ,show decide ((0:Int)<=56 - 8*((8:Nat):Int))=false from rfl,bK,cC,wI1 i q10]
    rfl) 8 0 x (aq _) rfl q10
  have b6:F.Uk a=some ((Sz a:Nat):Int)/\Sz a<=64:=by
   rcases ha with rfl | rfl | rfl
   ·exact absurd rfl h1
   ·exact⟨rfl,by decide⟩
   ·exact⟨rfl,by decide⟩
  have e4:=dC (f:=F.Wt a s l rest n (a,s',z,r',n')) (fun (x:L00) i=>(x,(i:Int))) (fun i x=>x.length=8*i) (fun x i=>x++q64 (z.getD i 0)) 0 8
   (X:=fun x=>some (x.take (Sz a),a,s,l,rest,n))
   (fun i x _ hi hx=>by
    have N:decide ((i:Int)<8)=true:=ah q10
    refine⟨?_,by simp only[aR,yv,hx]; omega⟩
    simp only[F.Wt,N,bo]
    rw[aG (show i<z.length by have:=A.2; simp only at this; omega) 0,aa]
    refine (e5 i x _ hi hx).trans ?_
    have hf:=ox (fun j=>[(bH (z.getD i 0) (56 - 8*j)).toUInt8]) 8 0 x
    simp only[hf]
    have:(List.range' 0 8).flatMap (fun j=>[(bH (z.getD i 0) (56 - 8*j)).toUInt8])=q64 (z.getD i 0):=rfl
    rw[this])
   (fun x hx=>by
    simp only[F.Wt,show decide (((8:Nat):Int)<8)=false from rfl,bK,cC]
    rw[b6.1,aa,aa,grd_true _ ⟨by omega,by rw[ao]; omega,rfl⟩,ao])
   8 0 [] (aq _) rfl rfl
  refine e4.trans ?_
  unfold dT qv
  rw[ae h1,k,<-G]
  rfl
theorem QA (a:Int) (ha:a=1\/a=2\/a=3):F.acy a=some (some (a,(H0 a).1,(H0 a).2,List.replicate 128 0,0)):=by
 rcases ha with rfl | rfl | rfl <;> rfl
theorem Tk (a:Int):Inv a (H0 a) [] (H0 a).1 (H0 a).2 (List.replicate 128 0) 0:=by
 refine⟨?_,by simp,by simp,rfl⟩
 simp[nC]
theorem mT (a:Int) (ha:a=1\/a=2\/a=3) (j:List L00) (hl:j.length<=1000) (U:j.flatten.length<=900000000000000):F.Uj a j=some (dT a j.flatten):=by
 unfold F.Uj
 rw[QA a ha,aa]
 show loop (F.VW j) (0,a,(H0 a).1,(H0 a).2,List.replicate 128 0,0)=_
 have G:∀(r i:Nat) (s:L8) (l:List UInt64) (rest:L00) (n:UInt64),i+r=j.length->Inv a (H0 a) (j.take i).flatten s l rest n->loop (F.VW j) ((i:Int),a,s,l,rest,n)=some (dT a j.flatten):=by
  intro r
  induction r with
  | zero=>
   intro i s l rest n hi B
   have hd:decide ((i:Int)<(j.length:Int))=false:=an q10
   have I:Inv a (H0 a) j.flatten s l rest n:=by rwa [aC q10]at B
   refine eL (r:=dT a j.flatten) ?_
   simp only[F.VW,hd,bK,cC]
   rw[QL a ha _ s l rest n U I,aa]
   rfl
  | succ r ih=>
   intro i s l rest n hi B
   have hd:decide ((i:Int)<(j.length:Int))=true:=ah q10
   have k:i<j.length:=by omega
   have z:(j.take (i+1)).flatten=(j.take i).flatten++j[i]:=by rw[List.take_succ_eq_append_getElem k,List.flatten_append]; simp
   have J:(j.take (i+1)).flatten.length<=j.flatten.length:=by
    have:j.flatten=(j.take (i+1)).flatten++(j.drop (i+1)).flatten:=by rw[<-List.flatten_append,ch]
    rw[this,aR]; omega
   rw[z,aR]at J
   obtain⟨s',N,O,R,V,A⟩:=BS a ha (H0 a) (wz a) j[i] _ s l rest n q10 B
   rw[<-z]at A
   have hs:F.VW j ((i:Int),a,s,l,rest,n)=some (.inl (((i+1:Nat):Int),a,s',N,O,R)):=by
    simp only[F.VW,hd,bo]
    rw[jv k,aa,V,aa,wI1 i q10]
    rfl
   rw[bv hs]
   exact ih (i+1) s' N O R q10 A
 exact G j.length 0 _ _ _ _ q10 (by simpa using Tk a)
theorem Ij (x:UInt64):(x &&& 255).toUInt8=x.toUInt8:=by
 apply cO.1
 rw[UInt64.toNat_toUInt8,UInt64.toNat_toUInt8,UInt64.toNat_and]
 have:(255:UInt64).toNat=2^8 - 1:=rfl
 rw[this,dJ]
 omega
theorem uP (x:UInt32):(x &&& 255).toUInt8=x.toUInt8:=by
 apply cO.1
 rw[fb,fb,UInt32.toNat_and]
 have:(255:UInt32).toNat=2^8 - 1:=rfl
 rw[this,dJ]
 omega
theorem RI (n:UInt64):n*8=di n 3:=by
 apply dA.1
 rw[UInt64.toNat_mul,mA]
 rfl
def zr (B r:Nat):Nat:=(2*B - 8 - (r+1))%B
def p7 (n:UInt64):L00:=(List.range' 0 8).map (fun i=>eE n (7 - i))
theorem sw {β:Type} (f:Nat->β):∀r:L01,r.flatMap (fun i=>[f i])=r.map f
 | []=>rfl
 | p :: r=>by rw[dU,sw f r]; rfl
theorem zV (B:Nat) (R:B=64\/B=128) (D:L00) (hD:D.length<=200000000000000) :
  F.XM D ((B:Nat):Int)=some (D++([128]++List.replicate (zr B (D.length%B)) 0)++p7 (UInt64.ofNat D.length)):=by
 unfold F.XM
 rw[iy (by simp; omega),aa,cZ,iy (by simp; omega),aa]
 obtain⟨t,J⟩:∃t,D.length%B=t:=⟨_,rfl⟩
 have ad:t<B:=by rw[<-J]; exact ba _ q10
 have k:¬((B:Nat):Int)=0:=by omega
 have N:zr B t<B:=ba _ q10
 have U:wI (((B:Nat):Int) - 8)=((B - 8:Nat):Int):=by rw[ay q10 q10]; omega
 have z:∀j:Nat,j<=zr B t->(Int.tmod (((D++[128]++List.replicate j 0:L00)).length:Int) ((B:Nat):Int) != wI (((B:Nat):Int) - 8))=decide (j≠zr B t):=by
  intro j V
  rw[U]
  have hl:(((D++[128]++List.replicate j 0:L00)).length:Int)=((D.length+(1+j):Nat):Int):=by simp; omega
  rw[hl]
  have hm:Int.tmod ((D.length+(1+j):Nat):Int) ((B:Nat):Int)=(((D.length+(1+j))%B:Nat):Int):=rfl
  rw[hm]
  have A:(D.length+(1+j))%B=B - 8↔j=zr B t:=by
   unfold zr at V N ⊢
   rcases R with rfl | rfl <;> omega
  by_cases h:j=zr B t
  ·have:=A.2 h
   rw[this]; simp[h]
  ·have:¬(D.length+(1+j))%B=B - 8:=fun Y=>h (A.1 Y)
   simp only[h,ne_eq,not_false_eq_true,decide_true,bV]
   omega
 have G:UInt64.ofInt (D.length:Int)=UInt64.ofNat D.length:=by
  apply dA.1
  rw[sO _ q10,bO]; omega
 have I:=gu (f:=F.YN D ((B:Nat):Int)) (fun (_:Unit) i=>(D++[128]++List.replicate i 0:L00)) (fun _=>True) (fun _ _=>()) 0 (zr B t)
  (X:=fun _=>loop (F.YB (UInt64.ofNat D.length*8)) (D++[128]++List.replicate (zr B t) 0,7))
  (fun i _ _ hi _=>by
   refine⟨?_,trivial⟩
   unfold F.YN
   simp only
   rw[grd_true _ k,z i q10,af (ah q10),iy (by simp; omega),aa]
   simp only[bh,ez]
   rfl)
  (fun _ _=>by
   unfold F.YN
   simp only
   rw[grd_true _ k,z _ (aq _),ae (by simp),aS,G])
  (zr B t) 0 () (aq _) q10 trivial
 have O:loop (F.YN D ((B:Nat):Int)) (D++[128])=loop (F.YB (UInt64.ofNat D.length*8)) (D++[128]++List.replicate (zr B t) 0,7):=by simpa using I
 rw[O]
 have Z:=dC (f:=F.YB (UInt64.ofNat D.length*8)) (fun (y:L00) i=>(y,(7:Int) - (i:Int))) (fun i y=>y.length<=200000000000500+i) (fun y i=>y++[eE (UInt64.ofNat D.length) (7 - i)]) 0 8
  (X:=fun y=>some y)
  (fun i y _ hi hy=>by
   have I:(7:Int) - (i:Int)=((7 - i:Nat):Int):=by omega
   have c1:decide ((0:Int)<=((7 - i:Nat):Int))=true:=ah q10
   have m8:wI (8*((7 - i:Nat):Int))=((8*(7 - i):Nat):Int):=by rw[ay q10 q10]; omega
   refine⟨?_,by simp; omega⟩
   simp only[F.YB,I,c1,bo,m8]
   rw[iy (by simp; omega),aa,ay q10 q10,sO _ q10,Ij,RI,show ((7 - i:Nat):Int) - 1=(7:Int) - ((i+1:Nat):Int) by omega]
   have:eE (UInt64.ofNat D.length) (7 - i)=(bH (di (UInt64.ofNat D.length) 3) (8*(7 - i))).toUInt8:=by unfold eE; rw[af q10]
   rw[this]
   rfl)
  (fun y _=>rfl) 8 0 (D++[128]++List.replicate (zr B t) 0) (aq _) rfl (by simp; omega)
 refine Z.trans ?_
 rw[ox (fun i=>[eE (UInt64.ofNat D.length) (7 - i)]),sw]
 rw[J]
 simp only[bh]
 rfl
theorem Li (D:L00) (V:D.length<=200000000000000):F.Z0 D=some (dT 1 D):=by
 unfold F.Z0
 rw[show (64:Int)=((64:Nat):Int) from rfl,zV 64 (.inl rfl) D q10,aa]
 have J:D++([128]++List.replicate (zr 64 (D.length%64)) 0)++p7 (UInt64.ofNat D.length)=D++fy 64 D:=by
  rw[bh]; rfl
 rw[J]
 obtain⟨hT,hP⟩:=tB 1 D
 have B:Bk 1=64:=rfl
 rw[B]at hT hP
 obtain⟨k,N⟩:∃k,(D++fy 64 D).length=64*k:=⟨_,(Nat.mul_div_cancel' (ee hT)).symm⟩
 have G:(D++fy 64 D).length<=1000000000000000:=by rw[aR]; omega
 have O:=gu (f:=F.Xm (D++fy 64 D)) (fun (h:L8) i=>(((64*i:Nat):Int),h)) (fun h=>h.length=8) (fun h i=>n9 h ((D++fy 64 D).drop (64*i))) 0 k
  (X:=fun h=>loop (F.Xi h) ([],0))
  (fun i h _ hi hh=>by
   have z:decide (((64*i:Nat):Int)<((D++fy 64 D).length:Int))=true:=ah q10
   refine⟨?_,Co _ _ hh⟩
   unfold F.Xm
   simp only[z,bo]
   rw[Ax _ (64*i) h hh q10 G,show 64*i+64=64*(i+1) by omega])
  (fun h _=>by
   have z:decide (((64*k:Nat):Int)<((D++fy 64 D).length:Int))=false:=an q10
   unfold F.Xm
   simp only[z,bK,cC])
  k 0 F.Ut (aq _) q10 rfl
 refine O.trans ?_
 have j:(List.range' 0 k).foldl (fun h i=>n9 h ((D++fy 64 D).drop (64*i))) F.Ut=(nC 1 (H0 1) (D++fy 64 D) k).1:=by
  unfold nC
  have:∀(r i:Nat) (h:L8) (l:List UInt64),(List.range' i r).foldl (fun h i=>n9 h ((D++fy 64 D).drop (64*i))) h=((List.range' i r).foldl (fun H i=>mix 1 H ((D++fy 64 D).drop (Bk 1*i))) (h,l)).1:=by
   intro r
   induction r with
   | zero=>intro i h l; rfl
   | succ r ih=>intro i h l; rw[gq,eo,eo]; exact ih (i+1) _ _
  exact this k 0 _ _
 rw[j]
 have A:=wd 1 (H0 1) (D++fy 64 D) k (wz 1)
 obtain⟨H,I⟩:∃H,nC 1 (H0 1) (D++fy 64 D) k=H:=⟨_,rfl⟩
 rw[I]at A ⊢
 have R:=dC (f:=F.Xi H.1) (fun (x:L00) i=>(x,(i:Int))) (fun i x=>x.length=4*i) (fun x i=>x++q32 (H.1.getD i 0)) 0 8
  (X:=fun x=>some x)
  (fun i x _ hi hx=>by
   have U:decide ((i:Int)<8)=true:=ah q10
   refine⟨?_,by simp[hx,q32]; omega⟩
   simp only[F.Xi,U,bo]
   rw[aG (show i<H.1.length by omega) 0,aa,aa,aa,aa,iy (by simp; omega),aa,wI1 i q10,uP,uP,uP]
   rfl)
  (fun x _=>rfl) 8 0 [] (aq _) rfl rfl
 refine R.trans ?_
 unfold dT qv
 rw[af rfl,B,N,ge _ q10,I]
 rfl
theorem R0 (n:Nat) (h:n<=1000000000000000):(bH (UInt64.ofNat n) 61).toUInt8=0:=by
 have:bH (UInt64.ofNat n) 61=0:=by
  apply dA.1
  rw[jm,bO]
  have:n%2^64 / 2^(min 61 64)=0:=by
   rw[show min 61 64=61 from rfl]; omega
  rw[this]; rfl
 rw[this]; rfl
theorem Ry (D:L00) (j:D.length<=1000000000000000):fy 128 D=([128]++List.replicate (zc 128 (D.length%128)+8) 0)++p7 (UInt64.ofNat D.length):=by
 unfold fy p7
 have h:(List.range' 0 (128 / 8)).map (fun i=>eE (UInt64.ofNat D.length) (128 / 8 - 1 - i))=List.replicate 8 0++(List.range' 0 8).map (fun i=>eE (UInt64.ofNat D.length) (7 - i)):=by
  have k:eE (UInt64.ofNat D.length) 8=0:=by
   unfold eE
   rw[ae q10,af rfl,R0 _ j]
  show [eE _ 15,eE _ 14,eE _ 13,eE _ 12,eE _ 11,eE _ 10,eE _ 9,eE _ 8,eE _ 7,eE _ 6,eE _ 5,eE _ 4,eE _ 3,eE _ 2,eE _ 1,eE _ 0]=[0,0,0,0,0,0,0,0,eE _ 7,eE _ 6,eE _ 5,eE _ 4,eE _ 3,eE _ 2,eE _ 1,eE _ 0]
  rw[k]
  rfl
 rw[h,<-List.replicate_append_replicate]
 simp only[bh]
theorem ww (A j:L00) (k:List UInt64) (z:j.length=8) (hA:A.length<=200000000000500) (B:wI (((A++j).length:Int) - 8)=((A.length:Nat):Int)):∀(r i:Nat),i+r=128 ->
  loop (F.WU (A++j) k) (A++List.replicate (128 - r) 0,((128 - r:Nat):Int))=F.WH k (A++List.replicate 128 0++j)
 | 0,i,hi=>by
  refine bm ?_
  simp only[F.WU,show decide (((128 - 0:Nat):Int)<128)=false from rfl,bK,cC]
  rw[B,na (by simp),aa,List.drop_left,iy (by rw[z]; simp; omega),aa]
 | r+1,i,hi=>by
  have G:decide (((128 - (r+1):Nat):Int)<128)=true:=ah q10
  have hs:F.WU (A++j) k (A++List.replicate (128 - (r+1)) 0,((128 - (r+1):Nat):Int))=some (.inl (A++List.replicate (128 - r) 0,((128 - r:Nat):Int))):=by
   simp only[F.WU,G,bo]
   rw[iy (by simp; omega),aa,ay q10 q10,bh,<-ez,show 128 - (r+1)+1=128 - r by omega,show ((128 - (r+1):Nat):Int)+1=((128 - r:Nat):Int) by omega]
   rfl
  rw[bv hs]
  exact ww A j k z hA B r (i+1) q10
theorem Fw (D:L00) (z:List UInt64) (J:z.length=8) (hD:D.length<=200000000000000) :
  F.Y3 D z=some (wU ((List.range' 0 ((D++fy 128 D).length / 128)).foldl (fun h i=>mc h ((D++fy 128 D).drop (128*i))) z)):=by
 have hB:Bk 2=128:=rfl
 obtain⟨hT,hP⟩:=tB 2 D
 rw[hB]at hT hP
 obtain⟨k,hk⟩:∃k,(D++fy 128 D).length=128*k:=⟨_,(Nat.mul_div_cancel' (ee hT)).symm⟩
 have V:(D++fy 128 D).length<=1000000000000000:=by rw[aR]; omega
 have N:F.WH z (D++fy 128 D)=some (wU ((List.range' 0 ((D++fy 128 D).length / 128)).foldl (fun h i=>mc h ((D++fy 128 D).drop (128*i))) z)):=by
  unfold F.WH
  have R:=gu (f:=F.Zp (D++fy 128 D)) (fun (h:List UInt64) i=>(((128*i:Nat):Int),h)) (fun h=>h.length=8) (fun h i=>mc h ((D++fy 128 D).drop (128*i))) 0 k
   (X:=fun h=>loop (F.Zg h) ([],0))
   (fun i h _ hi hh=>by
    have B:decide (((128*i:Nat):Int)<((D++fy 128 D).length:Int))=true:=ah q10
    refine⟨?_,sB _ _ hh⟩
    unfold F.Zp
    simp only[B,bo]
    rw[AK _ (128*i) h hh q10 V,show 128*i+128=128*(i+1) by omega])
   (fun h _=>by
    have B:decide (((128*k:Nat):Int)<((D++fy 128 D).length:Int))=false:=an q10
    unfold F.Zp
    simp only[B,bK,cC])
   k 0 z (aq _) q10 J
  refine R.trans ?_
  rw[hk,ge _ q10]
  have U:=oB (fun h:List UInt64=>h.length=8) (fun h i=>mc h ((D++fy 128 D).drop (128*i))) (fun i x hx=>sB _ _ hx) k 0 z J
  obtain⟨H,hH⟩:∃H,(List.range' 0 k).foldl (fun h i=>mc h ((D++fy 128 D).drop (128*i))) z=H:=⟨_,rfl⟩
  rw[hH]at U ⊢
  have e7:=fun (i:Nat) (x:L00) (hi:i<8) (hx:x.length=8*i)=>dC (f:=F.XE H (i:Int)) (fun (x:L00) j=>(x,(7:Int) - (j:Int))) (fun j y=>y.length=8*i+j) (fun y j=>y++[(bH (H.getD i 0) (56 - 8*j)).toUInt8]) 0 8
   (X:=fun y=>(some (.inl (y,((i+1:Nat):Int))):Option ((L00×Int)⊕L00)))
   (fun j y _ hj hy=>by
    have R:(7:Int) - (j:Int)=((7 - j:Nat):Int):=by omega
    have G:decide ((0:Int)<=((7 - j:Nat):Int))=true:=ah q10
    have m8:wI (8*((7 - j:Nat):Int))=((56 - 8*j:Nat):Int):=by rw[ay q10 q10]; omega
    refine⟨?_,by simp[hy]; omega⟩
    simp only[F.XE,R,G,bo,m8]
    rw[aG (show i<H.length by omega) 0,aa,iy (by simp; omega),aa,ay q10 q10,sO _ q10,Ij,show ((7 - j:Nat):Int) - 1=(7:Int) - ((j+1:Nat):Int) by omega]
    rfl)
   (fun y _=>by
    simp only[F.XE,show decide ((0:Int)<=7 - ((8:Nat):Int))=false from rfl,bK,cC,wI1 i q10]
    rfl) 8 0 x (aq _) rfl q10
  have e6:=dC (f:=F.Zg H) (fun (x:L00) i=>(x,(i:Int))) (fun i x=>x.length=8*i) (fun x i=>x++q64 (H.getD i 0)) 0 8
   (X:=fun x=>some x)
   (fun i x _ hi hx=>by
    have G:decide ((i:Int)<8)=true:=ah q10
    refine⟨?_,by simp only[aR,yv,hx]; omega⟩
    simp only[F.Zg,G,bo]
    refine (e7 i x hi hx).trans ?_
    have hf:=ox (fun j=>[(bH (H.getD i 0) (56 - 8*j)).toUInt8]) 8 0 x
    simp only[hf]
    have:(List.range' 0 8).flatMap (fun j=>[(bH (H.getD i 0) (56 - 8*j)).toUInt8])=q64 (H.getD i 0):=rfl
    rw[this])
   (fun x _=>rfl) 8 0 [] (aq _) rfl rfl
  exact e6
 unfold F.Y3
 rw[show (128:Int)=((128:Nat):Int) from rfl,zV 128 (.inr rfl) D q10,aa]
 have hm:Int.tmod (D.length:Int) ((128:Nat):Int)=((D.length%128:Nat):Int):=rfl
 rw[hm]
 obtain⟨r,Y⟩:∃r,D.length%128=r:=⟨_,rfl⟩
 have ab:r<128:=by omega
 rw[Y]
 have I:=Ry D q10
 rw[Y]at I
 by_cases hc:112<=r/\r<120
 ·have B:decide ((112:Int)<=((r:Nat):Int))=true:=ah q10
  have G:decide (((r:Nat):Int)<120)=true:=ah q10
  have hz:zr 128 r+128=zc 128 r+8:=by unfold zr zc; omega
  rw[B,af rfl,G]
  unfold F.aae
  simp only[bo]
  have O:(p7 (UInt64.ofNat D.length)).length=8:=by simp[p7]
  have b4:zr 128 r<128:=ba _ q10
  obtain⟨A,hA⟩:∃A,D++([128]++List.replicate (zr 128 r) 0)=A:=⟨_,rfl⟩
  have b5:A.length=D.length+1+zr 128 r:=by rw[<-hA]; simp; omega
  rw[hA]
  have Z:wI (((A++p7 (UInt64.ofNat D.length)).length:Int) - 8)=((A.length:Nat):Int):=by rw[aR,O,ay q10 q10]; omega
  rw[Z,grd_true _ ⟨by omega,by rw[ao,aR]; omega⟩,ao,g9,iy (by simp; omega),aa,cZ]
  have e8:=ww A (p7 (UInt64.ofNat D.length)) z O q10 Z 128 0 rfl
  rw[kv,List.replicate_zero,dS]at e8
  refine e8.trans ?_
  rw[<-N]
  have hX:A++List.replicate 128 0++p7 (UInt64.ofNat D.length)=D++fy 128 D:=by
   rw[I,<-hA,<-hz,<-List.replicate_append_replicate]
   simp only[bh]
  rw[hX]
 ·have hz:zr 128 r=zc 128 r+8:=by unfold zr zc; omega
  have hM:D++([128]++List.replicate (zr 128 r) 0)++p7 (UInt64.ofNat D.length)=D++fy 128 D:=by
   rw[I,hz,bh]
  rw[hM,<-N]
  by_cases h1:112<=r
  ·have B:decide ((112:Int)<=((r:Nat):Int))=true:=ah q10
   have G:decide (((r:Nat):Int)<120)=false:=an q10
   rw[B,af rfl,G]; rfl
  ·have B:decide ((112:Int)<=((r:Nat):Int))=false:=an q10
   rw[B,ae (by simp)]; rfl
theorem lh (a:Int) (ha:a=1\/a=2\/a=3) (D:L00) (j:D.length<=200000000000000):F.UF a D=some (dT a D):=by
 have hf:∀a:Int,a≠1->(H0 a).2.length=8->(List.range' 0 ((D++fy 128 D).length / 128)).foldl (fun h i=>mc h ((D++fy 128 D).drop (128*i))) (H0 a).2=(nC a (H0 a) (D++fy (Bk a) D) ((D++fy (Bk a) D).length / Bk a)).2:=by
  intro a k _
  have z:Bk a=128:=by unfold Bk; rw[ae k]
  rw[z]
  unfold nC
  rw[z]
  have:∀(r i:Nat) (s:L8) (h:List UInt64),(List.range' i r).foldl (fun h i=>mc h ((D++fy 128 D).drop (128*i))) h=((List.range' i r).foldl (fun H i=>mix a H ((D++fy 128 D).drop (128*i))) (s,h)).2:=by
   intro r
   induction r with
   | zero=>intro i s h; rfl
   | succ r ih=>
    intro i s h
    rw[gq,eo,eo]
    have hm:mix a (s,h) ((D++fy 128 D).drop (128*i))=(s,mc h ((D++fy 128 D).drop (128*i))):=by unfold mix; rw[ae k]
    rw[hm]
    exact ih (i+1) _ _
  exact this _ 0 (H0 a).1 (H0 a).2
 unfold F.UF
 rcases ha with rfl | rfl | rfl
 ·simp only[jS,bo]
  rw[Li D j,aa]
 ·rw[ae q11,af q11,Fw D _ rfl j,aa,grd_true _ ⟨by omega,by rw[qU]; decide⟩]
  have:=hf 2 q11 rfl
  rw[show (H0 2).2=F.VX from rfl]at this
  rw[this]
  rfl
 ·rw[ae q11,ae q11,af q11,Fw D _ rfl j,aa]
  have:=hf 3 q11 rfl
  rw[show (H0 3).2=F.VM from rfl]at this
  rw[this]
  unfold dT qv
  rw[ae q11,aC (by rw[qU]; decide)]
end Go.Gk.Sh
end
section
namespace Go.Gk.Bn
open Go Go.Gk Go.Gk.Sh Go.Gk.Ec Go.Gk.Pr
theorem np {n:Nat} (h:nb n<=4096):(am n).length<=128:=by
 have j:=(fi n).1
 have k:=aE (show 0<2 by decide) (show nb n<=32*128 by omega)
 refine bc ?_
 rw[show (4294967296:Nat)=2^32 from rfl,<-bB]
 exact aO j k
theorem zv (a b:L8) (m:Nat) (z:1<m) (hm:nb m<=4096) (ha:nb (val a)<=4096) (hb:nb (val b)<=4096) (A:a.length<=40000000000000) (B:b.length<=40000000000000) (G:(am m).length<=900) :
  F.Xb a b (am m)=some (am (val a*val b%m),0):=by
 have l1:=np ha
 have I:=np hb
 have hs:(am (val a*val b)).length<=256:=bc (by
  have j:=bN (am (val a)); have k:=bN (am (val b))
  rw[al]at j k
  have:=Nat.mul_lt_mul'' j k
  rw[<-bu]at this
  exact aO this (aE q11 q10))
 unfold F.Xb
 rw[su ha hb (by rw[al]; omega) (by rw[al]; omega) q10 q10 q10,aa,ae q11,FT _ _ q10 q10 q10,aa,
  mB _ _ q10 q10 (by rw[al]; omega),aa,al,al]
theorem nA (c:Int):1<cN c/\nb (cN c)<=4096/\(am (cN c)).length<=12/\cN c<cP c/\cP c<4294967296^12:=by
 have h:=ii c
 have l:=jk c (bG h.2.2.1)
 exact⟨(Cx c).1,aA (Nc l) q11,l,h.2.2.1,h.1⟩
theorem Qf (c:Int):cN c%2=1:=by
 unfold cN
 split <;> decide +kernel
theorem Ix {c:Int} {s:Nat} (j:0<s) (h:s<cN c):Nat.gcd s (cN c)=1:=by
 rw[eg]
 exact (Cx c).coprime fun hd=>by have:=fG j hd; omega
theorem qA {c:Int} {s:Nat} (h:s<cN c):nb s<=384:=by
 have j:=Nc (gk (bG h) (nA c).2.2.1)
 omega
theorem xR {n s w v:Nat} (k:w<n) (z:v<n) (A:s*w%n=1) (B:s*v%n=1):w=v:=by
 have G:s*w*v%n=v%n:=by rw[cF,A,ci,eA]
 have j:s*w*v%n=w%n:=by rw[show s*w*v=(s*v)*w by rw[aD,aP w,<-aD],cF,B,ci,eA]
 rw[G,av z,av k]at j
 exact j.symm
open Classical in
noncomputable def pi (c:Int) (s:Nat):Nat:=if h:∃w,w<cN c/\s*w%cN c=1 then Classical.choose h else 0
theorem Fu {c:Int} {s w:Nat} (j:w<cN c) (h:s*w%cN c=1):pi c s=w:=by
 have hx:∃w,w<cN c/\s*w%cN c=1:=⟨w,j,h⟩
 unfold pi
 rw[dif_pos hx]
 have k:=iJ hx
 exact xR k.1 j k.2 h
theorem Fx {c:Int} {s:Nat} (l:L8) (hl:val l=s) (z:l.length<=40000000000000) (A:0<s) (h:s<cN c):pi c s<cN c/\s*pi c s%cN c=1/\F.Vp l (am (cN c))=some (am (pi c s),0):=by
 obtain⟨n1,B,I,_,_⟩:=nA c
 have hb:=qA h
 obtain⟨w,k,j,G⟩:=Ie l (cN c) n1 (Qf c) B q10 (by rw[hl]; omega) z (by rw[hl]; exact Ix A h)
 rw[hl]at j
 rw[Fu k j]
 exact⟨k,j,G⟩
theorem I6 {c:Int} {s:Nat} (j:0<s) (h:s<cN c):pi c s<cN c/\s*pi c s%cN c=1:=by
 have l:=gk (bG h) (nA c).2.2.1
 obtain⟨k,z,_⟩:=Fx (c:=c) (am s) (al s) q10 j h
 exact⟨k,z⟩
abbrev isH (a:Int):Prop:=a=1\/a=2\/a=3
theorem v9 (a:Int):F.Uk a=some (if isH a then ((Sz a:Nat):Int) else 0):=by
 unfold F.Uk isH
 by_cases h1:a=1
 ·subst h1; rfl
 ·by_cases h2:a=2
  ·subst h2; rfl
  ·by_cases h3:a=3
   ·subst h3; rfl
   ·rw[ae (by simpa using h1),ae (by simpa using h2),ae (by simpa using h3),ae q10]
theorem jn (a:Int):32<=Sz a/\Sz a<=64:=by unfold Sz; split; decide; split <;> decide
theorem jg (a:Int) (D:L00):(dT a D).length=Sz a:=by
 unfold dT qv
 split
 ·rename_i h
  unfold A4
  have:=eO (fun i (x:L00)=>x.length=4*i) (fun x i=>x++q32 (((nC a (H0 a) (D++fy (Bk a) D) ((D++fy (Bk a) D).length / Bk a)).1).getD i 0)) (fun i x hx=>by simp only[aR,q32,dN,fw,hx]; omega) 8 0 [] rfl
  refine Eq.trans this ?_
  unfold Sz
  rw[af h]
 ·rename_i h
  rw[az,qU]; unfold Sz; rw[ae h]; split <;> rfl
def zN (h c:Int) (m:L00):Nat:=beN ((dT h m).take (nS c))
theorem zB (h:Int) (hh:isH h) (m:L00) (hm:m.length<=900000000000000):F.Uj h [m]=some (dT h m):=by
 rw[mT h hh [m] (by simp) (by simpa using hm)]
 simp
theorem Hd (h c:Int) (hh:isH h) (hc:isC c) (m:L00) (hm:m.length<=900000000000000):F.aav h c m=some (am (zN h c m)):=by
 obtain⟨n1,z,A⟩:=nS4 c
 have hl:=jg h m
 have hz:=jn h
 have e:(min ((dT h m).length:Int) ((nS c:Nat):Int)).toNat=min (Sz h) (nS c):=by omega
 have k:(dT h m).take (min (Sz h) (nS c))=(dT h m).take (nS c):=by
  rcases Nat.le_total (nS c) (Sz h) with j | j
  ·rw[Nat.min_eq_right j]
  ·rw[aT j,aC q10,aC q10]
 unfold F.aav zN
 rw[zB h hh m hm,aa,EZ,aa,af hc,tF,e,grd_true _ ⟨by omega,by omega⟩,k,fV _ (by rw[az]; omega),aa]
theorem LW (l:L00):nb (beN l)<=8*l.length:=mE (by rw[<-DH]; exact gS l)
theorem Nr (h c:Int) (m:L00):nb (zN h c m)<=512/\(am (zN h c m)).length<=100:=by
 have hl:=jg h m
 have hz:=jn h
 have l1:((dT h m).take (nS c)).length<=64:=by rw[az]; omega
 have j:zN h c m<256^64:=aO (gS _) (aE q11 l1)
 have k:nb (zN h c m)<=8*_:=LW _
 refine⟨by omega,bc (aO j (by decide +kernel))⟩
theorem zQ (a n:L8) (j:a.length<=100000000000000) (ln:n.length<=100000000000000):F.XQ a n=some (decide (0<val a/\val a<val n)):=by
 unfold F.XQ
 rw[kO a j,aa]
 by_cases h:val a=0
 ·rw[h,lU,ae q11,an q10]
 ·have:=(fi (val a)).2 h
  rw[af (ah q10),lQ a n q10 q10,aa]
  unfold cW
  by_cases h2:val a<val n
  ·rw[af h2,ah (show 0<val a/\val a<val n by omega)]; rfl
  ·rw[ae h2,an (show ¬(0<val a/\val a<val n) by omega)]
   split <;> rfl
theorem C6 (a b:Nat):(cW a b == 0)=decide (a=b):=by
 unfold cW
 by_cases h:a<b
 ·rw[af h,an q10]; rfl
 ·rw[ae h]
  by_cases h2:a=b
  ·rw[af h2,ah h2]; rfl
  ·rw[ae h2,an h2]; rfl
theorem F2 (X Y:L8) (j:Bool) (r n:L8) (k:X.length<=40000000000000) (z:r.length<=40000000000000) (ln:n.length<=40000000000000) (hn:val n≠0) :
  F.WQ X Y j r n=some (!j&&decide (val X%val n=val r)):=by
 unfold F.WQ
 cases j with
 | true=>rfl
 | false=>
  have l1:(am (val X%val n)).length<=X.length:=gk (Nat.mod_le _ _) (bc (bN X))
  rw[ae q11,sN X n k ln,ae hn,aa]
  dsimp only
  rw[lQ _ _ q10 q10,aa,al,C6]
  rfl
def Gc {c:Int} (P:Pt (cP c)) (r:Nat):Bool:=match P with
 | none=>false
 | some (x,_)=>decide (x.val%cN c=r)
theorem Ci {c:Int} (P:Pt (cP c)) (r:L8) (j:r.length<=40000000000000):F.WQ (rep P).1 (rep P).2.1 (rep P).2.2 r (am (cN c))=some (Gc P (val r)):=by
 obtain⟨n1,k,z,_,_⟩:=nA c
 have hl:(rep P).1.length<=12:=by
  cases P with
  | none=>exact eR _
  | some q=>obtain⟨x,y⟩:=q; exact qC c x
 rw[F2 _ _ _ _ _ q10 j q10 (by rw[al]; omega)]
 cases P with
 | none=>rfl
 | some q=>
  obtain⟨x,y⟩:=q
  show some (!false&&decide (val (rl x)%val (am (cN c))=val r))=some (decide (x.val%cN c=val r))
  rw[nc,al]
  rfl
def inN (c:Int) (r:Nat):Prop:=0<r/\r<cN c
instance (c:Int) (r:Nat):Decidable (inN c r):=inferInstanceAs (Decidable (0<r/\r<cN c))
theorem FI {c:Int} {x y:L00} (h:(nu c x y).2.2.2=0):isC c/\nu c x y=(am (beN x),am (beN y),false,0)/\onS c (am (beN x)) (am (beN y)) false=true/\x.length=nS c/\y.length=nS c:=by
 unfold nu at h ⊢
 split at h
 ·rename_i hc
  rw[af hc]
  refine⟨hc.1,rfl,?_,hc.2.1,hc.2.2.1⟩
  unfold onS
  rw[af hc.1,al,al]
  exact hc.2.2.2
 ·exact absurd h q11
theorem IP (b:Bool):F.acC b=some (if b=true then 91 else 0):=by cases b <;> rfl
theorem pR {l:L00} {k:Nat} (h:l.length<=k) (z:k<=48):(am (beN l)).length<=100:=by
 have j:beN l<256^48:=aO (gS l) (aE q11 q10)
 exact bc (aO j (by decide +kernel))
theorem J6 (a:L8) (m:Nat) (ha:a.length<=35184372087808) (hm:m<=16384) (z:val a<256^m):F.Vh a (m:Int)=some (beB m (val a),true):=by
 have hb:nb (val a)<=32*a.length:=aA (mf _) (bf 32 (bc (bN a)))
 have G:(nb (val a)+7) / 8<=m:=IK z
 obtain⟨k,A,I,B⟩:=jf a q10
 have hl:(am (val a)).length<=a.length:=bc (bN a)
 have j:mkO 1 (m:Int) (m:Int) (0:UInt8)=some (List.replicate m 0):=by
  unfold mkO
  rw[af ⟨by omega,by omega,by omega,by omega⟩,ao]
 unfold F.Vh
 rw[ae (by rw[aj]; omega),ae (by rw[aj]; omega),kO a q10,aa,ay (x:=((nb (val a):Nat):Int)+7) q10 q10,bQ q10,ay q10 q10,
  an (show ¬(m:Int)<(((nb (val a):Nat):Int)+7) / 8 by omega)]
 unfold F.aah
 rw[ae q11,j,aa,A,aa,B,FZ _ _ (by rw[aZ]; omega) q10,aa,aZ,al]
theorem tG (l:L8) (k:Nat):val (l.drop k)=val l / 4294967296^k:=by
 rcases Nat.le_total k l.length with h | h
 ·have z:=fS l k h
  have j:=bN (l.take k)
  rw[az,aT h]at j
  rw[z,gK _ _ (dF q11),bE j,bn]
 ·rw[bp h,jX,bE]
  exact aO (bN l) (aE q11 h)
theorem Dq (l:L8) (k:Nat):F.Yu l (k:Int)=some (l.drop k):=by
 unfold F.Yu
 by_cases h:l.length<=k
 ·rw[af (ah q10),bp h]
 ·rw[ae (by rw[aj]; omega),na q10,aa]
def kN (c:Int):Nat:=(am (cP c)).length
def B2 (c:Int):Nat:=4294967296^(2*kN c)
def muN (c:Int):Nat:=B2 c / cP c
theorem pb (c:Int):1<=kN c/\kN c<=12/\(am (muN c)).length<=25/\0<cP c:=by
 have h:=ii c
 have l:=jk c (aq (cP c))
 have j:(am (cP c)).length≠0:=fun q=>by have:=(ko _).1 q; omega
 refine⟨by unfold kN; omega,l,?_,by omega⟩
 unfold muN B2
 refine bc (dR (dy _ _) ?_)
 exact iV q11 (by unfold kN; omega)
theorem GG (c:Int) (hc:isC c):F.aaH c=some (am (cP c),am (muN c),((kN c:Nat):Int)):=by
 obtain⟨A,B,N,O⟩:=pb c
 obtain⟨k,j⟩:∃k,kN c=k:=⟨_,rfl⟩
 have hl:(am (cP c)).length=k:=j
 unfold F.aaH
 rw[pH,af hc,aa,hl]
 rw[j]at A B
 have G:wI (2*(k:Int))=((2*k:Nat):Int):=by rw[ay q10 q10]; omega
 have I:wI (((2*k:Nat):Int)+1)=((2*k+1:Nat):Int):=by rw[ay q10 q10]; omega
 have z:mkO 4 ((2*k+1:Nat):Int) ((2*k+1:Nat):Int) (0:UInt32)=some (List.replicate (2*k+1) 0):=by
  unfold mkO
  rw[af ⟨by omega,by omega,by omega,by omega⟩,ao]
 have J:val ((List.replicate (2*k+1) (0:UInt32)).set (2*k) 1)=4294967296^(2*k):=by
  have h:=gI (List.replicate (2*k+1) (0:UInt32)) (2*k) 1 (by simp)
  rw[eh,Dc]at h
  simpa using h
 rw[G,I,z,aa,aG (show 2*k<(List.replicate (2*k+1) (0:UInt32)).length by simp) 0,aa,aS,ao,
  oJ _ _ (by simp; omega) q10 (by rw[al]; omega),aa,J,al]
 unfold muN B2
 rw[j]
theorem Od {x A B C p:Nat} (j:A*C=B) (k:0<C):x / A*(B / p) / C*p<=x:=by
 have z:x / A*(B / p) / C*C<=x / A*(B / p):=gi _ _
 have G:B / p*p<=B:=gi _ _
 have I:x / A*A<=x:=gi _ _
 refine Nat.le_of_mul_le_mul_right ?_ k
 calc x / A*(B / p) / C*p*C=x / A*(B / p) / C*C*p:=by rw[Nat.mul_right_comm]
  _<=x / A*(B / p)*p:=bg _ z
  _=x / A*(B / p*p):=aD _ _ _
  _<=x / A*B:=bf _ G
  _=x / A*A*C:=by rw[<-j,aD]
  _<=x*C:=bg _ I
theorem Lm {p:Nat} (hp:0<p) (pl:(am p).length<=1000):∀r:Nat,(am r).length<=1000->loop (F.ab2 (am p)) (am r)=some (am (r%p)):=by
 intro r
 induction r using Nat.strongRecOn with
 | _ r ih=>
  intro j
  by_cases h:r<p
  ·rw[av h]
   refine bm ?_
   unfold F.ab2
   dsimp only
   rw[jj _ _ q10 q10,aa,al,al]
   unfold cW
   rw[af h,ae q11]
  ·have hl:=gk (show r - p<=r by omega) j
   have hz:0<=cW r p:=by unfold cW; rw[ae h]; split <;> decide
   rw[bv (s':=am (r - p)) (by
    unfold F.ab2
    dsimp only
    rw[jj _ _ q10 q10,aa,al,al,af (ah hz),ku _ _ q10 (by rw[al,al]; omega),aa,al,al]
    rfl),ih (r - p) q10 hl,<-Nat.mod_eq_sub_mod q10]
theorem Qw (c:Int) (x:L8) (hx:x.length<=100):F.Z7 (am (cP c)) (am (muN c)) ((kN c:Nat):Int) x=some (am (val x%cP c)):=by
 obtain⟨V,X,Y,G⟩:=pb c
 have l:=jk c (aq (cP c))
 have I:wI (((kN c:Nat):Int) - 1)=((kN c - 1:Nat):Int):=by rw[ay q10 q10]; omega
 have J:wI (((kN c:Nat):Int)+1)=((kN c+1:Nat):Int):=by rw[ay q10 q10]; omega
 have hd:(x.drop (kN c - 1)).length<=100:=by rw[bj]; omega
 have N:val (x.drop (kN c - 1))=val x / 4294967296^(kN c - 1):=tG _ _
 have lt:(am (val (x.drop (kN c - 1))*muN c)).length<=125:=bc (by
  have O:=bN (x.drop (kN c - 1)); have k:=bN (am (muN c))
  rw[al]at k
  have:=Nat.mul_lt_mul'' O k
  rw[<-bu]at this
  exact aO this (aE q11 q10))
 have j:=Od (x:=val x) (p:=cP c) (A:=4294967296^(kN c - 1)) (B:=B2 c) (C:=4294967296^(kN c+1)) (by unfold B2; rw[<-bu]; congr 1; omega) (dF q11)
 rw[<-N]at j
 have R:val ((am (val (x.drop (kN c - 1))*muN c)).drop (kN c+1))=val (x.drop (kN c - 1))*(B2 c / cP c) / 4294967296^(kN c+1):=by
  rw[tG,al]; rfl
 have U:((am (val (x.drop (kN c - 1))*muN c)).drop (kN c+1)).length<=125:=by rw[bj]; omega
 unfold F.Z7
 rw[I,J,Dq,aa,mC _ _ q10,aa,al,Dq,aa,mC _ _ q10,aa,al,R,ku _ _ q10 (by rw[al]; exact j),aa,al]
 have lx:(am (val x)).length<=100:=aA (bc (bN x)) hx
 rw[Lm G q10 _ (aA (db (Nat.sub_le _ _)) q10)]
 congr 2
 generalize val (x.drop (kN c - 1))*(B2 c / cP c) / 4294967296^(kN c+1)=q at j
 have z:(val x - q*cP c+q*cP c)%cP c=val x%cP c:=by rw[Nat.sub_add_cancel j]
 rw[fp]at z
 exact z
theorem Dn (c:Int) {a b:Nat} (ha:a<cP c) (hb:b<cP c):F.T0 (am (cP c)) (am (muN c)) ((kN c:Nat):Int) (am a) (am b)=some (am (a*b%cP c)):=by
 have l1:=jk c (bG ha)
 have z:=jk c (bG hb)
 have lt:(am (a*b)).length<=24:=bc (by
  have j:=bN (am a); have k:=bN (am b)
  rw[al]at j k
  have:=Nat.mul_lt_mul'' j k
  rw[<-bu]at this
  exact aO this (aE q11 q10))
 unfold F.T0
 rw[mC _ _ q10,aa,al,al,Qw c _ q10,aa,al]
section
variable (c:Int)
theorem m12 (u v:Fin (cP c)):F.T0 (am (cP c)) (am (muN c)) ((kN c:Nat):Int) (rl u) (rl v)=some (rl (u*v)):=Dn c u.isLt v.isLt
theorem a12 (m:L8) (k:Int) (u v:Fin (cP c)):F.Uu (am (cP c)) m k (rl u) (rl v)=some (rl (u+v)):=by
 have hp:=(pb c).2.2.2
 have l:=jk c (aq (cP c))
 have l1:=qC c u; have j:=qC c v
 have hs:(am (u.val+v.val)).length<=13:=by
  have:=kH u.val v.val
  unfold rl at l1 j
  omega
 have hu:=u.isLt; have z:=v.isLt
 unfold F.Uu
 rw[nX _ _ q10 q10,aa,nc,nc,jj _ _ q10 q10,aa,al,al]
 have e:rl (u+v)=am ((u.val+v.val)%cP c):=rfl
 rw[e]
 by_cases h:u.val+v.val<cP c
 ·have hz:¬0<=cW (u.val+v.val) (cP c):=by unfold cW; rw[af h]; decide
  rw[ae (by rw[aj]; exact hz),av h]
 ·have hz:0<=cW (u.val+v.val) (cP c):=by unfold cW; rw[ae h]; split <;> decide
  rw[af (ah hz),ku _ _ q10 (by rw[al,al]; omega),aa,al,al,Nat.mod_eq_sub_mod q10,av q10]
theorem s12 (m:L8) (k:Int) (u v:Fin (cP c)):F.Uv (am (cP c)) m k (rl u) (rl v)=some (rl (u - v)):=by
 have hp:=(pb c).2.2.2
 have l:=jk c (aq (cP c))
 have l1:=qC c u; have j:=qC c v
 have hu:=u.isLt; have z:=v.isLt
 unfold F.Uv
 rw[jj _ _ q10 q10,aa,nc,nc]
 have e:rl (u - v)=am ((cP c - v.val+u.val)%cP c):=rfl
 rw[e]
 by_cases h:u.val<v.val
 ·have hz:¬0<=cW u.val v.val:=by unfold cW; rw[af h]; decide
  have hs:(am (u.val+cP c)).length<=13:=by
   have:=kH u.val (cP c)
   unfold rl at l1 j
   omega
  rw[ae (by rw[aj]; exact hz),nX _ _ q10 q10,aa,nc,al,ku _ _ q10 (by rw[al,nc]; omega),aa,al,nc,av q10]
  congr 2; omega
 ·have hz:0<=cW u.val v.val:=by unfold cW; rw[ae h]; split <;> decide
  rw[af (ah hz),ku _ _ q10 (by rw[nc,nc]; omega),aa,nc,nc,show cP c - v.val+u.val=(u.val - v.val)+cP c by omega,Nat.add_mod_right,av q10]
theorem qp (u:Fin (cP c)):(((rl u).length:Int) == 0)=decide (u=0):=by
 have h:=ko u.val
 by_cases hu:u=0
 ·subst hu
  rw[ah rfl,dh]
  have:(rl (0:Fin (cP c))).length=0:=h.2 (by simp)
  omega
 ·rw[an hu,cd]
  intro q
  refine hu (dI ?_)
  have:u.val=0:=h.1 (by unfold rl at q; omega)
  rw[this]; simp
abbrev T3F (c:Int):=Fin (cP c)×Fin (cP c)×Fin (cP c)
def r3 (t:T3F c):L8×L8×L8:=(rl t.1,rl t.2.1,rl t.2.2)
def sq (t:T3F c):T3F c:=
 if t.2.2=0\/t.2.1=0 then (0,0,0) else
  let zz:=t.2.2*t.2.2; let m0:=(t.1 - zz)*(t.1+zz); let m:=m0+(m0+m0); let yy:=t.2.1*t.2.1; let t0:=t.1*yy; let t2:=t0+t0; let t4:=t2+t2; let x:=m*m - (t4+t4)
  let w:=yy*yy; let w2:=w+w; let w4:=w2+w2; let w8:=w4+w4
  (x,m*(t4 - x) - w8,t.2.1*t.2.2+t.2.1*t.2.2)
theorem RG:rl (0:Fin (cP c))=[]:=bA ((ko _).2 (by simp))
theorem uF:r3 c (0,0,0)=([],[],[]):=by unfold r3; rw[RG]
theorem FU (t:T3F c):F.YC (am (cP c)) (am (muN c)) ((kN c:Nat):Int) (rl t.1) (rl t.2.1) (rl t.2.2)=some (r3 c (sq c t)):=by
 obtain⟨X,Y,Z⟩:=t
 unfold F.YC sq
 dsimp only
 rw[qp]
 by_cases hz:Z=0
 ·rw[af (ah hz),af (.inl hz),uF]; rfl
 ·rw[ae (by rw[aj]; exact hz),qp]
  by_cases hy:Y=0
  ·rw[ah hy,af (.inr hy),uF]; rfl
  ·rw[an hy,ae (fun q=>q.elim hz hy)]
   unfold F.acE
   rw[ae q11]
   rw[m12,aa,s12,aa,a12,aa,m12,aa,a12,aa,a12,aa,m12,aa,m12,aa,a12,aa,a12,aa,m12,aa,a12,aa,s12,aa,m12,aa,a12,aa,a12,aa,a12,aa,s12,aa,m12,aa,s12,aa,m12,aa,a12,aa]
   rfl
def q9 (t u:T3F c):T3F c:=
 if t.2.2=0 then u else if u.2.2=0 then t else
  let ss:=t.2.2*t.2.2; let qq:=u.2.2*u.2.2; let u1:=t.1*qq; let h:=u.1*ss - u1; let v:=t.2.1*(qq*u.2.2); let r:=u.2.1*(ss*t.2.2) - v
  if h=0 then (if r=0 then sq c t else (0,0,0)) else
   let hh:=h*h; let hhh:=hh*h; let w:=u1*hh; let x:=r*r - hhh - (w+w)
   (x,r*(w - x) - v*hhh,h*(t.2.2*u.2.2))
theorem xc (t u:T3F c):F.Ve (am (cP c)) (am (muN c)) ((kN c:Nat):Int) (rl t.1) (rl t.2.1) (rl t.2.2) (rl u.1) (rl u.2.1) (rl u.2.2)=some (r3 c (q9 c t u)):=by
 obtain⟨z,A,j⟩:=t
 obtain⟨B,G,k⟩:=u
 unfold F.Ve q9
 dsimp only
 rw[qp]
 by_cases h1:j=0
 ·rw[af (ah h1),af h1]; rfl
 rw[ae (by rw[aj]; exact h1),ae h1,qp]
 by_cases h2:k=0
 ·rw[af (ah h2),af h2]; rfl
 rw[ae (by rw[aj]; exact h2),ae h2]
 rw[m12,aa,m12,aa,m12,aa,m12,aa,s12,aa,m12,aa,m12,aa,m12,aa,m12,aa,s12,aa,qp,qp]
 by_cases h3:B*(j*j) - z*(k*k)=0
 ·rw[af (ah h3),af h3]
  by_cases h4:G*(j*j*j) - A*(k*k*k)=0
  ·rw[af (ah h4),af h4,FU c (z,A,j),aa]
  ·rw[ae (by rw[aj]; exact h4),ae h4,uF]
 ·rw[ae (by rw[aj]; exact h3),ae h3]
  rw[m12,aa,m12,aa,m12,aa,m12,aa,s12,aa,a12,aa,s12,aa,s12,aa,m12,aa,m12,aa,s12,aa,m12,aa,m12,aa]
  rfl
theorem BT (t:T3F c):jpt (sq c t)=Ec.add (-3) (jpt t) (jpt t):=by
 rw[<-uW (o7 c) t]
 obtain⟨X,Y,Z⟩:=t
 unfold sq r9
 dsimp only
 by_cases hz:Z=0
 ·subst hz
  rw[af (.inl rfl),af rfl]
  show jac 0 0 0=jac X Y 0
  rw[ju,ju]
 ·rw[ae hz]
  by_cases hy:Y=0
  ·subst hy
   rw[af (.inr rfl)]
   have e:(2:Fin (cP c))*(0*Z)=0:=by grobner
   show jac 0 0 0=jac _ _ ((2:Fin (cP c))*(0*Z))
   rw[e,ju,ju]
  ·rw[ae (fun q=>q.elim hz hy)]
   congr 1
   refine Prod.ext ?_ (Prod.ext ?_ ?_)
   ·dsimp only; grobner
   ·dsimp only; grobner
   ·dsimp only; grobner
theorem r8 (t u:T3F c) (A:On (-3) (bF c) (jpt t)) (hu:On (-3) (bF c) (jpt u)):jpt (q9 c t u)=Ec.add (-3) (jpt t) (jpt u):=by
 rw[<-za (o7 c) t u A hu]
 obtain⟨G,z,j⟩:=t
 obtain⟨J,B,k⟩:=u
 unfold q9 qG
 dsimp only
 by_cases h1:j=0
 ·rw[af h1,af h1]
 rw[ae h1,ae h1]
 by_cases h2:k=0
 ·rw[af h2,af h2]
 rw[ae h2,ae h2]
 have I:B*(j*j*j) - z*(k*k*k)=B*(j*(j*j)) - z*(k*(k*k)):=by clear A hu; grobner
 by_cases h3:J*(j*j) - G*(k*k)=0
 ·rw[af h3,af h3,I]
  by_cases h4:B*(j*(j*j)) - z*(k*(k*k))=0
  ·rw[af h4,af h4,BT]
   exact (uW (o7 c) (G,z,j)).symm
  ·rw[ae h4,ae h4]
 ·rw[ae h3,ae h3]
  congr 1
  clear A hu h3 h1 h2 I
  refine Prod.ext ?_ (Prod.ext ?_ ?_)
  ·dsimp only; grobner
  ·dsimp only; grobner
  ·dsimp only
end
theorem OL (e i:Nat):e / 2^i=2*(e / 2^(i+1))+(if decide (e / 2^i%2=1)=true then 1 else 0):=Fm e i
theorem yf (c:Int) (z:Nat) (hz:z<cP c) (e:L8):∀i:Nat,i<=100000->loop (F.abo (am (cP c)) (am (muN c)) ((kN c:Nat):Int) (am z) e) (am (z^(val e / 2^i)%cP c),(i:Int) - 1)=some (am (z^val e%cP c))
 | 0,_=>by
  rw[dg,iK]
  refine bm ?_
  unfold F.abo
  dsimp only
  rw[ae q11]
 | i+1,hi=>by
  have hp:=(pb c).2.2.2
  have hm:∀x,x%cP c<cP c:=fun x=>ba _ hp
  have k:(((i+1:Nat):Int)) - 1=(i:Int):=by omega
  have w:wI ((i:Int) - 1)=(i:Int) - 1:=ay q10 q10
  rw[k,<-yf c z hz e i q10]
  refine bv ?_
  unfold F.abo
  dsimp only
  rw[af (ah q10),Dn c (hm _) (hm _),aa,mM _ _ q10,aa]
  have hb:=OL (val e) i
  have j:z^(val e / 2^(i+1))%cP c*(z^(val e / 2^(i+1))%cP c)%cP c=z^(2*(val e / 2^(i+1)))%cP c:=by
   rw[<-cF,<-bu]; congr 2; omega
  by_cases h:val e / 2^i%2=1
  ·rw[af (ah h)]at hb ⊢
   rw[Dn c (hm _) hz,aa]
   unfold F.aaR
   dsimp only
   rw[w,j,Nat.mod_mul_mod,<-aU,Nat.succ_eq_add_one,<-hb]
   rfl
  ·have hf:¬decide (val e / 2^i%2=1)=true:=by rw[aj]; exact h
   rw[ae hf]at hb ⊢
   unfold F.aaR
   dsimp only
   rw[w,j,<-bb (2*(val e / 2^(i+1))),<-hb]
   rfl
theorem H3 (c:Int) (Z:Fin (cP c)) (h:Z≠0):F.ZC (am (cP c)) (am (muN c)) ((kN c:Nat):Int) (rl Z)=some (rl (rcp Z)):=by
 have hp:=(pb c).2.2.2
 have l:=jk c (aq (cP c))
 have hP:=pq c
 have N:=(ii c).2.2.2.2.2.1
 have j:val ([2]:L8)=2:=rfl
 have le:=jk c (show cP c - 2<=cP c by omega)
 have J:Z.val≠0:=fun q=>h (dI (by rw[q]; simp))
 have k:¬cP c ∣ Z.val:=fun hd=>by have:=fG q10 hd; have:=Z.isLt; omega
 have z:Z.val*(Z.val^(cP c - 2)%cP c)%cP c=1:=by
  rw[Nat.mul_mod_mod,aP,<-aU,show (cP c - 2).succ=cP c - 1 by omega,tK hP k]
 have A:=Ja (o7 c) hP (ba _ hp) z
 have B:wI (32*((am (cP c - 2)).length:Int))=((32*(am (cP c - 2)).length:Nat):Int):=by rw[ay q10 q10]; omega
 have G:wI (((32*(am (cP c - 2)).length:Nat):Int) - 1)=((32*(am (cP c - 2)).length:Nat):Int) - 1:=ay q10 q10
 have I:am (1%cP c)=[1]:=by rw[av q10,lG q11,show 1 / 4294967296=0 by decide,cu]; rfl
 have hb:cP c - 2<2^(32*(am (cP c - 2)).length):=by
  have:=bN (am (cP c - 2))
  rw[al]at this
  rw[bB]
  exact this
 unfold F.ZC
 rw[ku _ _ q10 (by rw[al,j]; omega),aa,al,j,B,G,aS]
 have hl:=yf c Z.val Z.isLt (am (cP c - 2)) (32*(am (cP c - 2)).length) q10
 rw[al,bE hb,dg,I]at hl
 refine Eq.trans hl ?_
 rw[<-A]
 rfl
theorem N9 (c:Int) (t:T3F c):F.aaC (am (cP c)) (am (muN c)) ((kN c:Nat):Int) (rl t.1) (rl t.2.1) (rl t.2.2)=some (rep (jpt t)):=by
 obtain⟨X,Y,Z⟩:=t
 unfold F.aaC jpt jac
 dsimp only
 rw[qp]
 by_cases h:Z=0
 ·rw[af (ah h),af h]; rfl
 ·rw[ae (by rw[aj]; exact h),ae h,H3 c Z h,aa,m12,aa,m12,aa,m12,aa,m12,aa]
  have e:rcp Z*rcp Z*rcp Z=rcp Z*(rcp Z*rcp Z):=by grobner
  rw[e]
  rfl
def mL {c:Int} (P:Pt (cP c)):T3F c:=match P with
 | none=>(0,0,0)
 | some (x,y)=>(x,y,1)
theorem oH {c:Int} (P:Pt (cP c)):jpt (mL P)=P:=by
 cases P with
 | none=>exact ju _ _
 | some q=>
  obtain⟨x,y⟩:=q
  show jac x y 1=_
  unfold jac
  rw[ae (xv c)]
  have j:rcp (1:Fin (cP c))=1:=by
   have:=(o7 c).mul_iv (xv c)
   generalize rcp (1:Fin (cP c))=i at this
   grobner
  rw[j]
  congr 2
  ·grobner
  ·grobner
theorem P3 (c:Int):rl (1:Fin (cP c))=[1]:=by
 have j:=(ii c).2.2.2.2.2.1
 have:(1:Fin (cP c)).val=1:=by
  show 1%cP c=1
  exact av q10
 unfold rl
 rw[this,lG q11,show 1 / 4294967296=0 by decide,cu]; rfl
theorem FM {c:Int} {X Y:L8} {q:Bool} (h:onS c X Y q=true) (j:X.length<=50000000000000) (k:Y.length<=50000000000000):F.YY X Y q=some (r3 c (mL (kQ c X Y q))):=by
 unfold F.YY
 cases q with
 | true=>rw[af rfl]; exact cD some (uF c).symm
 | false=>
  obtain⟨z,A,_⟩:=yq h
  rw[ae q11,fX X j,aa,fX Y k,aa]
  show _=some (rl (fz (val X:Int)),rl (fz (val Y:Int)),rl 1)
  rw[P3]
  unfold rl
  rw[wS _ z,wS _ A]
end Go.Gk.Bn
end
section
namespace Go.Gk.Ec
variable {p:Nat} [NeZero p] {a b:Fin p}
noncomputable def wq (a:Fin p) (P Q:Pt p) (x y:Bool):Pt p:=if x&&y then add a P Q else if y then Q else if x then P else none
noncomputable def jq (a:Fin p) (P Q:Pt p) (m n:Nat):Nat->Pt p->Pt p
 | 0,T=>T
 | i+1,T=>jq a P Q m n i (add a (add a T T) (wq a P Q (decide (m / 2^i%2=1)) (decide (n / 2^i%2=1))))
theorem Nt (C:Fld p) {P Q:Pt p} (hP:On a b P) (j:On a b Q) (x y:Bool):On a b (wq a P Q x y):=by
 unfold wq
 split
 ·exact C.on_add hP j
 ·split
  ·exact j
  ·split
   ·exact hP
   ·trivial
theorem Fa (a:Fin p) (P Q:Pt p) (m n k:Nat) (hm:m<2^k) (hn:n<2^k):∀d,jq a P Q m n (k+d) none=jq a P Q m n k none
 | 0=>rfl
 | d+1=>by
  have z:∀q,q<2^k->decide (q / 2^(k+d)%2=1)=false:=fun q j=>by
   rw[bE (aO j (aE q11 q10))]; rfl
  show jq a P Q m n (k+d) (add a (add a none none) (wq a P Q (decide (m / 2^(k+d)%2=1)) (decide (n / 2^(k+d)%2=1))))=_
  rw[z m hm,z n hn]
  exact Fa a P Q m n k hm hn d
end Go.Gk.Ec
end
section
namespace Go.Gk.Bn
open Go Go.Gk Go.Gk.Sh Go.Gk.Ec Go.Gk.Pr
theorem M9 {c:Int} (hc:isC c) {q:J3 c} (j:On (-3) (bF c) (jpt q)) (x y:Bool):jpt (whJ c q x y)=wq (-3) (gP c) (jpt q) x y:=by
 have hg:=Ht c hc
 unfold whJ wq
 cases x <;> cases y
 ·exact ju _ _
 ·rfl
 ·show jpt (gJ c)=_
  rw[Gw]; rfl
 ·show jpt (qG _ _ _ _ _ _)=_
  rw[za (b:=bF c) (o7 c) _ _ (by rw[Gw]; exact hg) j,Gw]
  rfl
theorem J4 {c:Int} (hc:isC c) (m n:Nat) {q:J3 c} (j:On (-3) (bF c) (jpt q)):∀(i:Nat) (t:J3 c),On (-3) (bF c) (jpt t)->jpt (yR c m n q i t)=jq (-3) (gP c) (jpt q) m n i (jpt t)
 | 0,t,h=>rfl
 | i+1,t,h=>by
  have k:=Nt (o7 c) (Ht c hc) j (decide (m / 2^i%2=1)) (decide (n / 2^i%2=1))
  have e:=MO (b:=bF c) (o7 c) h (q:=whJ c q (decide (m / 2^i%2=1)) (decide (n / 2^i%2=1))) (by rw[M9 hc j]; exact k) true
  rw[af rfl,M9 hc j]at e
  unfold yR
  rw[J4 hc m n j i _ (by rw[e]; exact (o7 c).on_add ((o7 c).on_add h h) k),e]
  rfl
noncomputable def JQ {c:Int} (P Q:Pt (cP c)) (m n:Nat):Pt (cP c):=jq (-3) P Q m n (max (nb m) (nb n)) none
theorem RY {c:Int} (P Q:Pt (cP c)) (m n k:Nat) (h:max (nb m) (nb n)<=k):jq (-3) P Q m n k none=JQ P Q m n:=by
 have hb:∀q,nb q<=max (nb m) (nb n)->q<2^max (nb m) (nb n):=fun q j=>aO (fi q).1 (aE q11 j)
 have e:=Fa (-3) P Q m n (max (nb m) (nb n)) (hb m (Nat.le_max_left _ _)) (hb n (Nat.le_max_right _ _)) (k - max (nb m) (nb n))
 rw[Nat.add_sub_cancel' h]at e
 exact e
theorem EW {c:Int}:On (-3) (bF c) (jpt ((0,0,0):J3 c)):=by
 have:jpt ((0,0,0):J3 c)=none:=ju _ _
 rw[this]; trivial
theorem Po {c:Int} {a k X Y:L8} {q:Bool} (z:onS c X Y q=true) (hb:nb (val a)<=1024) (A:nb (val k)<=1024) (ha:a.length<=35184372087808) (J:k.length<=35184372087808) (hX:X.length<=35184372087808) (N:Y.length<=35184372087808) :
  F.ab7 c a k X Y q=some (res (JQ (gP c) (kQ c X Y q) (val a) (val k))):=by
 have n1:¬(!true)=true:=by decide
 have hc:=GM z
 unfold F.ab7
 rw[Lh c X Y q hX N,aa,Ad a ha,Ad k J,af hc]
 dsimp only[nL]
 rw[z,ae n1,aa,aa]
 dsimp only
 rw[ah hb,ae n1,ah A,RE z]
 show F.aa1 (gQ c (jT c X Y q)) _ _ _=_
 unfold F.aa1
 dsimp only
 rw[ae n1,oK 1 q11 q11,aa]
 have j:=R9 c (gJ c) (jT c X Y q)
 have B:=FV c (jT c X Y q)
 rw[<-B]at j
 rw[show F.Vl (gQ c (jT c X Y q)).1 (gQ c (jT c X Y q)).2.1 (gQ c (jT c X Y q)).2.2.1 (gQ c (jT c X Y q)).2.2.2.1 (gQ c (jT c X Y q)).2.2.2.2.1 (gQ c (jT c X Y q)).2.2.2.2.2.1 (gQ c (jT c X Y q)).2.2.2.2.2.2.1 (gQ c (jT c X Y q)).2.2.2.2.2.2.2.1 (gQ c (jT c X Y q)).2.2.2.2.2.2.2.2.1 (gQ c (jT c X Y q)).2.2.2.2.2.2.2.2.2.1 (gQ c (jT c X Y q)).2.2.2.2.2.2.2.2.2.2.1
  (gQ c (jT c X Y q)).2.2.2.2.2.2.1 (gQ c (jT c X Y q)).2.2.2.2.2.2.2.1 (gQ c (jT c X Y q)).2.2.2.2.2.2.2.2.1 (gQ c (jT c X Y q)).2.2.2.2.2.2.2.2.2.1 (bi 1).1 (bi 1).2
  (gQ c (jT c X Y q)).2.2.2.2.2.2.2.2.2.2.2.1 (gQ c (jT c X Y q)).2.2.2.2.2.2.2.2.2.2.2.2.1 (gQ c (jT c X Y q)).2.2.2.2.2.2.2.2.2.2.2.2.2.1 (gQ c (jT c X Y q)).2.2.2.2.2.2.2.2.2.2.2.2.2.2.1 (gQ c (jT c X Y q)).2.2.2.2.2.2.2.2.2.2.2.2.2.2.2.1 (gQ c (jT c X Y q)).2.2.2.2.2.2.2.2.2.2.2.2.2.2.2.2=_ from j,aa]
 unfold F.U5
 have R:=FB hb; have lk:=FB A
 rw[aa,Am _ q10,aa,Am _ q10,aa]
 have G:wI (max ((nb (val a):Nat):Int) ((nb (val k):Nat):Int) - 1)=((max (nb (val a)) (nb (val k)):Nat):Int) - 1:=by
  rw[ay q10 q10]; omega
 rw[G]
 have hl:=wy c (val a) (val k) q10 q10 (jT c X Y q) true true (max (nb (val a)) (nb (val k))) (0,0,0) q10
 rw[E7]at hl
 refine hl.trans ?_
 have I:On (-3) (bF c) (jpt (jT c X Y q)):=by rw[Nd]; exact Dh z
 have O:jpt ((0,0,0):J3 c)=none:=ju _ _
 rw[J4 hc _ _ I _ _ EW,Nd,O]
 rfl
theorem Cy {c:Int} {P Q:Pt (cP c)} (hP:On (-3) (bF c) P) (z:On (-3) (bF c) Q) (a b:L8) (j:T3F c) (hb:jpt j=Ec.add (-3) P Q):∀(i:Nat) (t:T3F c),i<=100000->On (-3) (bF c) (jpt t) ->
  loop (F.Yl a b (am (cP c),am (muN c),((kN c:Nat):Int)) (r3 c (mL P)) (r3 c (mL Q)) (r3 c j)) ((i:Int) - 1,rl t.1,rl t.2.1,rl t.2.2)=some (rep (jq (-3) P Q (val a) (val b) i (jpt t)))
 | 0,t,_,h=>by
  refine bm ?_
  unfold F.Yl
  dsimp only
  rw[ae q11,N9,aa]
  rfl
 | i+1,t,hi,h=>by
  have C:=o7 c
  have G:(((i+1:Nat):Int)) - 1=(i:Int):=by omega
  have w:wI ((i:Int) - 1)=(i:Int) - 1:=ay q10 q10
  have hd:=BT c t
  have k:On (-3) (bF c) (jpt (sq c t)):=by
   rw[hd]
   exact C.on_add h h
  have A:∃t':T3F c,F.Yl a b (am (cP c),am (muN c),((kN c:Nat):Int)) (r3 c (mL P)) (r3 c (mL Q)) (r3 c j) ((i:Int),rl t.1,rl t.2.1,rl t.2.2)=some (.inl ((i:Int) - 1,rl t'.1,rl t'.2.1,rl t'.2.2)) /\
    jpt t'=Ec.add (-3) (Ec.add (-3) (jpt t) (jpt t)) (wq (-3) P Q (decide (val a / 2^i%2=1)) (decide (val b / 2^i%2=1))):=by
   unfold F.Yl
   dsimp only
   rw[af (ah q10),FU,aa,mM _ _ q10,aa,mM _ _ q10,aa,<-hd]
   generalize sq c t=d at k ⊢
   generalize decide (val a / 2^i%2=1)=x
   generalize decide (val b / 2^i%2=1)=y
   unfold F.acz F.XW
   dsimp only
   rw[w]
   cases x with
   | true=>
    rw[af rfl]
    cases y with
    | true=>
     rw[af rfl]
     refine⟨q9 c d j,?_,?_⟩
     ·have:=xc c d j
      unfold r3 at this ⊢
      dsimp only
      rw[this,aa]
      rfl
     ·rw[r8 c d j k (by rw[hb]; exact C.on_add hP z),hb]
      rfl
    | false=>
     rw[ae q11,af rfl]
     refine⟨q9 c d (mL P),?_,?_⟩
     ·have:=xc c d (mL P)
      unfold r3 at this ⊢
      dsimp only
      rw[this,aa]
      rfl
     ·rw[r8 c d _ k (by rw[oH]; exact hP),oH]
      rfl
   | false=>
    rw[ae q11,ae q11,ae q11]
    cases y with
    | true=>
     rw[af rfl]
     refine⟨q9 c d (mL Q),?_,?_⟩
     ·have:=xc c d (mL Q)
      unfold r3 at this ⊢
      dsimp only
      rw[this,aa]
      rfl
     ·rw[r8 c d _ k (by rw[oH]; exact z),oH]
      rfl
    | false=>
     rw[ae q11]
     refine⟨d,rfl,?_⟩
     show _=Ec.add (-3) (jpt d) none
     rw[Dd]
  obtain⟨t',I,B⟩:=A
  rw[G,bv I,Cy hP z a b j hb i t' q10 (by rw[B]; exact C.on_add (C.on_add h h) (Nt C hP z _ _)),B]
  rfl
theorem I3 {c:Int} (hc:isC c) (a b:L8) {X Y:L8} {q:Bool} {j k:L8} {z:Bool} (h:onS c X Y q=true) (A:onS c j k z=true) (la:a.length<=1000) (lb:b.length<=1000)
  (J:X.length<=50000000000000) (N:Y.length<=50000000000000) (B:j.length<=50000000000000) (G:k.length<=50000000000000) :
  F.aaB c a b X Y q j k z=some (rep (JQ (kQ c X Y q) (kQ c j k z) (val a) (val b))):=by
 have hP:=Dh h
 have I:=Dh A
 have O:wI (32*max (a.length:Int) (b.length:Int))=((32*max a.length b.length:Nat):Int):=by rw[ay q10 q10]; omega
 have R:wI (((32*max a.length b.length:Nat):Int) - 1)=((32*max a.length b.length:Nat):Int) - 1:=ay q10 q10
 unfold F.aaB
 rw[GG c hc,aa,FM h J N,aa,FM A B G,aa]
 have hpl:=xc c (mL (kQ c X Y q)) (mL (kQ c j k z))
 have e:F.Ve (am (cP c)) (am (muN c)) ((kN c:Nat):Int) (r3 c (mL (kQ c X Y q))).1 (r3 c (mL (kQ c X Y q))).2.1 (r3 c (mL (kQ c X Y q))).2.2 (r3 c (mL (kQ c j k z))).1 (r3 c (mL (kQ c j k z))).2.1 (r3 c (mL (kQ c j k z))).2.2=_:=hpl
 dsimp only
 rw[e,aa,O,R,aS]
 have hb:jpt (q9 c (mL (kQ c X Y q)) (mL (kQ c j k z)))=Ec.add (-3) (kQ c X Y q) (kQ c j k z):=by
  rw[r8 c _ _ (by rw[oH]; exact hP) (by rw[oH]; exact I),oH,oH]
 have V:nb (val a)<=32*a.length:=aA (mf _) (bf 32 (bc (bN a)))
 have Z:nb (val b)<=32*b.length:=aA (mf _) (bf 32 (bc (bN b)))
 have hl:=Cy hP I a b _ hb (32*max a.length b.length) (0,0,0) q10 EW
 have U:jpt ((0,0,0):J3 c)=none:=ju _ _
 have z0:=RG c
 dsimp only at hl
 rw[z0,U,RY _ _ _ _ _ q10]at hl
 exact hl
theorem B9 (a b m:L8) (k:a.length<=36000000000000) (z:b.length<=1000) (hm:m.length<=128) (ha:(am (val a)).length<=128) (hb:(am (val b)).length<=128) (j:1<val m):F.Vd a b m=some (am (val a*val b%val m),0):=by
 unfold F.Vd
 have h:=kc (val a) (val b)
 rw[pM m a b q10 q10 q10 ha hb (km hm) j,aa,ae q11,mC _ _ q10,aa,kL _ _ q10 q10 q10,aa,al]
theorem K1 (a m:L8) (U:a.length<=36000000000000) (ha:(am (val a)).length<=128) (hm:m.length<=128) (j:1<val m) (hg:Nat.gcd (val a) (val m)=1) :
  ∃v,v<val m/\val a*v%val m=1/\F.XS a m=some (am v,0):=by
 have k:=km hm
 have R:=ba (val a) (show 0<val m by omega)
 have B:Cof (val m) (val a) 0 (val m):=⟨-1,by push_cast; omega⟩
 have G:Cof (val m) (val a) 1 (val a%val m):=⟨((val a / val m:Nat):Int),by
  have:=cQ (val a) (val m)
  have I:((val a:Nat):Int)=((val m*(val a / val m)+val a%val m:Nat):Int):=by rw[this]
  push_cast at I ⊢
  omega⟩
 obtain⟨v,J,z,A⟩:=zS (val m) (val a) j k hg (val m) (val a%val m) (val m) 0 1 q10 q10 (aq _) q10 j B G (by rw[eg,<-jF,eg]; exact hg)
 refine⟨v,J,z,?_⟩
 unfold F.XS
 rw[I8 m a q10 q10 ha k j,aa,ae q11,fX m q10,aa,kL _ _ q10 q10 (by rw[al]; omega),aa,al]
 unfold F.U4
 rw[aa,<-A]
 have N:am 0=[]:=cu
 have O:am 1=[1]:=by decide +kernel
 rw[N,O]
theorem Qd {c:Int} {s:Nat} (l:L8) (hl:val l=s) (z:l.length<=36000000000000) (A:0<s) (h:s<cN c):F.XS l (am (cN c))=some (am (pi c s),0):=by
 obtain⟨n1,I,B,_,_⟩:=nA c
 have J:=gk (bG h) B
 obtain⟨w,k,j,G⟩:=K1 l (am (cN c)) z (by rw[hl]; omega) q10 (by rw[al]; exact n1) (by rw[al,hl]; exact Ix A h)
 rw[al]at k j
 rw[hl]at j
 rw[Fu k j]
 exact G
theorem NT (x y:UInt32) (t:Nat) (hy:y.toNat<256) (k:t<4) (hx:x.toNat<256^t):(x ||| dB y (8*t)).toNat=x.toNat+y.toNat*256^t:=by
 rw[UInt32.or_comm,Ib y x (s:=8*t) q10 (by rw[<-DH]; exact hx),<-DH]
 have:y.toNat*256^t<4294967296:=by
  have j:256^t<=256^3:=aE q11 q10
  have z:y.toNat*256^t<=255*256^3:=en q10 j
  omega
 rw[av this]; omega
theorem ET {n:Nat} (h:n<32):(UInt64.ofInt ((n:Nat):Int)).toNat=n:=by
 have j:∀k:Fin 32,(UInt64.ofInt ((k.val:Nat):Int)).toNat=k.val:=by decide
 exact j ⟨n,h⟩
theorem O7 {l:L8} {q t:Nat} (h:val l<256^(4*q+t)):(l.getD q 0).toNat<256^t:=by
 have j:=tG l q
 rw[d9]at j
 have k:val l / 4294967296^q<256^t:=by
  refine Nat.div_lt_of_lt_mul ?_
  rw[show (4294967296:Nat)=256^4 from rfl,<-bB,<-bu]
  exact h
 omega
theorem sX (b:L00) (hb:b.length<=1000) (n:Nat) (hn:(b.length+3) / 4=n):∀(r i:Nat) (y:L8),i+r=b.length->y.length=n->val y=beN (b.drop (b.length - i))->loop (F.X3 b) ((i:Int),y)=some (am (beN b))
 | 0,i,y,h,h1,h2=>by
  have:i=b.length:=by omega
  subst this
  rw[kv,cR]at h2
  refine bm ?_
  unfold F.X3
  dsimp only
  rw[ae (by simp),fX _ q10,aa,h2]
 | r+1,i,y,h,h1,h2=>by
  have hi:i<b.length:=by omega
  have I:wI ((i:Int)+1)=((i+1:Nat):Int):=by rw[ay q10 q10]; rfl
  have J:wI ((wI ((b.length:Int) - 1)) - (i:Int))=((b.length - 1 - i:Nat):Int):=by rw[ay (x:=(b.length:Int) - 1) q10 q10,ay q10 q10]; omega
  have N:wI (Int.tdiv (i:Int) 4)=((i / 4:Nat):Int):=by rw[bQ q10,ay q10 q10]; omega
  have O:wI (8*(Int.tmod (i:Int) 4))=((8*(i%4):Nat):Int):=by rw[dv q10,ay q10 q10]; omega
  have R:(UInt64.ofInt ((8*(i%4):Nat):Int)).toNat=8*(i%4):=ET q10
  have A:b.drop (b.length - (i+1))=b.getD (b.length - 1 - i) 0 :: b.drop (b.length - i):=by
   rw[show b.length - (i+1)=b.length - 1 - i by omega,bZ q10,show b.length - 1 - i+1=b.length - i by omega]
   congr 1
   rw[ak,aw q10]; rfl
  have j:(b.drop (b.length - i)).length=i:=by rw[bj]; omega
  have U:=(b.getD (b.length - 1 - i) 0).toNat_lt
  have z:(b.getD (b.length - 1 - i) 0).toUInt32.toNat=(b.getD (b.length - 1 - i) 0).toNat:=ea _
  have B:val y<256^(4*(i / 4)+i%4):=by
   rw[show 4*(i / 4)+i%4=i by omega,h2]
   have:=gS (b.drop (b.length - i))
   rwa [j]at this
  have G:=gI y (i / 4) (y.getD (i / 4) 0 ||| dB (b.getD (b.length - 1 - i) 0).toUInt32 (8*(i%4))) q10
  rw[NT _ _ _ (by rw[z]; omega) q10 (O7 B),z,aF]at G
  have hp:4294967296^(i / 4)*((b.getD (b.length - 1 - i) 0).toNat*256^(i%4))=(b.getD (b.length - 1 - i) 0).toNat*256^i:=by
   rw[show (4294967296:Nat)=256^4 from rfl,<-bB,dO,<-bu]; congr 2; omega
  rw[hp]at G
  have k:F.X3 b ((i:Int),y)=some (.inl (((i+1:Nat):Int),y.set (i / 4) (y.getD (i / 4) 0 ||| dB (b.getD (b.length - 1 - i) 0).toUInt32 (8*(i%4))))):=by
   unfold F.X3
   dsimp only
   rw[af (ah q10),N,aG (show i / 4<y.length by omega) 0,aa,J,aG (show b.length - 1 - i<b.length by omega) 0,aa,aa,aS,O,R,I,ao]
   rfl
  rw[bv k]
  refine sX b hb n hn r (i+1) _ q10 (by rw[bM]; exact h1) ?_
  rw[A]
  show _=(b.getD (b.length - 1 - i) 0).toNat*256^(b.drop (b.length - i)).length+beN (b.drop (b.length - i))
  rw[j]
  omega
theorem vE (b:L00) (hb:b.length<=1000):F.Wk b=some (am (beN b)):=by
 obtain⟨n,hn⟩:∃n,(b.length+3) / 4=n:=⟨_,rfl⟩
 have w0:wI (Int.tdiv (wI ((b.length:Int)+3)) 4)=(n:Int):=by
  rw[ay (x:=(b.length:Int)+3) q10 q10,bQ q10,ay q10 q10]; omega
 unfold F.Wk
 rw[w0,fU q10,aa,ao]
 exact sX b hb n hn b.length 0 _ q10 (by simp) (by rw[eh,fW,jb]; rfl)
theorem JK (h c:Int) (hh:isH h) (hc:isC c) (m:L00) (hm:m.length<=200000000000000):F.aak h c m=some (am (zN h c m)):=by
 obtain⟨n1,k,z⟩:=nS4 c
 have hl:=jg h m
 have hz:=jn h
 have j:∀b:L00,b.length<=100->F.aaw b=some (am (beN b)):=fun b hb=>by
  unfold F.aaw
  dsimp only
  rw[vE _ q10,aa]
 unfold F.aak zN
 rw[lh h hh m hm,aa,rS,af hc,tF,aa]
 by_cases h1:nS c<(dT h m).length
 ·rw[af (ah q10),aa,grd_true _ ⟨by omega,by omega⟩,ao,j _ (by rw[az]; omega)]
 ·rw[ae (by rw[aj]; omega),j _ q10,aC q10]
theorem C5 (a n:L8) (k:a.length<=50000000000000) (ln:n.length<=50000000000000):F.XH a n=some (decide (0<val a/\val a<val n)):=by
 have j:=ko (val a)
 unfold F.XH
 rw[fX a k,aa]
 by_cases h:val a=0
 ·rw[ae (by rw[aj,j.2 h]; decide),an q10]
 ·have:(am (val a)).length≠0:=fun q=>h (j.1 q)
  rw[af (ah q10),jj a n q10 q10,aa]
  unfold cW
  by_cases h2:val a<val n
  ·rw[af h2,ah (show 0<val a/\val a<val n by omega)]; rfl
  ·rw[ae h2,an (show ¬(0<val a/\val a<val n) by omega)]
   split <;> rfl
theorem QV (X Y:L8) (j:Bool) (r n:L8) (k:X.length<=36000000000000) (z:r.length<=40000000000000) (ln:n.length<=36000000000000) (hn:val n≠0) :
  F.YH X Y j r n=some (!j&&decide (val X%val n=val r)):=by
 unfold F.YH
 cases j with
 | true=>rfl
 | false=>
  have l1:(am (val X%val n)).length<=X.length:=gk (Nat.mod_le _ _) (bc (bN X))
  rw[ae q11,oJ X n k ln hn,aa]
  dsimp only
  rw[jj _ _ q10 q10,aa,al,C6]
  rfl
theorem GT {c:Int} (P:Pt (cP c)) (r:L8) (j:r.length<=36000000000000):F.YH (rep P).1 (rep P).2.1 (rep P).2.2 r (am (cN c))=some (Gc P (val r)):=by
 obtain⟨n1,k,z,_,_⟩:=nA c
 have hl:=Fy c P
 rw[QV _ _ _ _ _ q10 q10 q10 (by rw[al]; omega),<-F2 _ _ _ _ _ q10 q10 q10 (by rw[al]; omega),Ci P r q10]
theorem Jj (a:Int):F.UH a=some (if isH a then ((Sz a:Nat):Int) else 0):=by
 unfold F.UH isH
 by_cases h1:a=1
 ·subst h1; rfl
 ·by_cases h2:a=2
  ·subst h2; rfl
  ·by_cases h3:a=3
   ·subst h3; rfl
   ·rw[ae (by simpa using h1),ae (by simpa using h2),ae (by simpa using h3),ae q10]
noncomputable def okJ {c:Int} (z r s:Nat) (Q:Pt (cP c)):Bool:=Gc (JQ (gP c) Q (z*pi c s%cN c) (r*pi c s%cN c)) r
noncomputable def Bg (h c:Int) (x y m sig:L00):Int:=
 if ¬isH h then 111 else if ¬((nu c x y).2.2.2=0) then 90 else if ¬(sig.length=2*nS c) then 91 else
 if ¬(inN c (beN (sig.take (nS c)))/\inN c (beN (sig.drop (nS c)))) then 91 else
 if okJ (zN h c m) (beN (sig.take (nS c))) (beN (sig.drop (nS c))) (kQ c (nu c x y).1 (nu c x y).2.1 (nu c x y).2.2.1)=true then 0 else 91
theorem Ls (h c:Int) (x y m j:L00) (hm:m.length<=900000000000000) (hs:j.length<=140737488351232):F.ZS h c x y m j=some (Bg h c x y m j):=by
 obtain⟨n1,z,n3⟩:=nS4 c
 obtain⟨J,N,G,c4,c5⟩:=nA c
 unfold F.ZS Bg
 rw[v9,aa]
 by_cases hh:isH h
 ·have hz:=jn h
  rw[af hh,ae (show ¬(((Sz h:Nat):Int) == 0)=true by rw[dh]; omega),ae (fI hh),zG,aa]
  by_cases hd:(nu c x y).2.2.2=0
  ·obtain⟨hc,d1,d2,d3,d4⟩:=FI hd
   rw[ae (by rw[hd]; decide),ae (fI hd),EZ,aa,M7,aa,af hc,af hc,tF,show wI (2*((nS c:Nat):Int))=((2*nS c:Nat):Int) by rw[ay q10 q10]; omega]
   by_cases hl:j.length=2*nS c
   ·have O:(j.take (nS c)).length=nS c:=by rw[az]; omega
    have R:(j.drop (nS c)).length=nS c:=by rw[bj]; omega
    have b1:=pR (iT O) z
    have b2:=pR (iT R) z
    have U:slO j ((nS c:Nat):Int) ((2*nS c:Nat):Int)=some (j.drop (nS c)):=by
     unfold slO
     rw[af ⟨by omega,by omega,by omega⟩,ao,ao,aC q10]
    rw[ae (by rw[hl]; simp),grd_true _ ⟨by omega,by omega,rfl⟩,U,aa,ao,fV _ q10,aa,fV _ q10,aa,zQ _ _ q10 q10,aa,al,al,
     ae (fI hl)]
    have A:∀(x2:L8×L8×Bool×Int) (V X Y:L8),F.abb h c m x2 V X Y true=some 91:=fun _ _ _ _=>rfl
    by_cases hr:inN c (beN (j.take (nS c)))
    ·have B:0<beN (j.take (nS c))/\beN (j.take (nS c))<cN c:=hr
     rw[ah B,ae q11,zQ _ _ q10 q10,aa,al,al]
     by_cases hs2:inN c (beN (j.drop (nS c)))
     ·have k:0<beN (j.drop (nS c))/\beN (j.drop (nS c))<cN c:=hs2
      rw[ah k,ae (fI ⟨hr,hs2⟩)]
      obtain⟨I,w2,Z⟩:=Fx (c:=c) (am (beN (j.drop (nS c)))) (al _) q10 k.1 k.2
      generalize hw:pi c (beN (j.drop (nS c)))=w at I w2 Z
      have nw:=qA I
      have lw:=gk (bG I) G
      have nr:=qA B.2
      obtain⟨z1,z2⟩:=Nr h c m
      have m1:zN h c m*w%cN c<cN c:=ba _ q10
      have m2:beN (j.take (nS c))*w%cN c<cN c:=ba _ q10
      have b5:=qA m1; have b6:=qA m2
      have b7:=gk (bG m1) G; have b9:=gk (bG m2) G
      unfold F.abb
      rw[ae q11,Z,aa,Hd h c hh hc m hm,aa]
      dsimp only
      rw[zv _ _ _ J N (by rw[al]; omega) (by rw[al]; omega) q10 q10 q10,aa]
      rw[zv _ _ _ J N (by rw[al]; omega) (by rw[al]; omega) q10 q10 q10,aa,al,al,al,d1]
      dsimp only
      rw[Po d2 (by rw[al]; omega) (by rw[al]; omega) q10 q10 (by have:=pR (iT d3) z; omega) (by have:=pR (iT d4) z; omega),aa,al,al]
      show (if ((0:Int) != 0)=true then _ else ag (F.WQ (rep _).1 (rep _).2.1 (rep _).2.2 _ _) _)=_
      rw[ae q11,Ci _ _ q10,aa,IP,al]
      unfold okJ
      rw[hw]
      cases Gc (JQ (gP c) (kQ c (am (beN x)) (am (beN y)) false) (zN h c m*w%cN c) (beN (j.take (nS c))*w%cN c)) (beN (j.take (nS c))) <;> rfl
     ·rw[an (show ¬(0<beN (j.drop (nS c))/\beN (j.drop (nS c))<cN c) from hs2),af (fun q=>hs2 q.2)]; exact A _ _ _ _
    ·rw[an (show ¬(0<beN (j.take (nS c))/\beN (j.take (nS c))<cN c) from hr),af q11,af (fun q=>hr q.1)]; exact A _ _ _ _
   ·rw[af (by rw[bV]; omega),af hl]
  ·rw[af (by rw[bV]; exact hd),af hd]
 ·rw[ae hh,af q11,af hh]
theorem JP {c:Int} (hc:isC c) (z r s:Nat) {X Y:L8} {q:Bool} (h:onS c X Y q=true) (lz:(am z).length<=100) (V:(am r).length<=100) (Z:(am s).length<=100) (lX:X.length<=36000000000000) (lY:Y.length<=36000000000000) :
  F.abx c (am z) (am r) (am s) X Y q=some (decide (inN c r/\inN c s)&&okJ z r s (kQ c X Y q)):=by
 obtain⟨A,c2,k,c4,c5⟩:=nA c
 have B:∀x3,F.abz (am z) (am r) (am s) x3 c X Y q true=some false:=fun _=>rfl
 unfold F.abx
 rw[Ko,af hc,aa,C5 _ _ q10 q10,aa,al,al]
 by_cases hr:inN c r
 ·have G:0<r/\r<cN c:=hr
  rw[ah G,ae q11,C5 _ _ q10 q10,aa,al,al]
  by_cases hs:inN c s
  ·have I:0<s/\s<cN c:=hs
   rw[ah I,ah ⟨hr,hs⟩]
   obtain⟨J,w2⟩:=I6 hs.1 hs.2
   have lw:=gk (bG J) k
   have N:z*pi c s%cN c<cN c:=ba _ q10
   have O:r*pi c s%cN c<cN c:=ba _ q10
   have R:=gk (bG N) k; have U:=gk (bG O) k
   have hb:=Fy c (gP c)
   unfold F.abz
   rw[Bool.not_true,ae q11,Qd (am s) (al s) q10 hs.1 hs.2,aa]
   dsimp only
   rw[B9 _ _ _ q10 q10 q10 (by rw[al]; omega) (by rw[al]; omega) (by rw[al]; exact A),aa]
   rw[B9 _ _ _ q10 q10 q10 (by rw[al]; omega) (by rw[al]; omega) (by rw[al]; exact A),aa,al,al,al,al]
   show F.Xs c _ _ _ _ _ _ _ false=_
   unfold F.Xs
   have j:=Lp c hc
   rw[FK,<-Mi]at j
   rw[ae q11,j,aa]
   dsimp only
   rw[I3 hc _ _ (OZ hc (Ht c hc)) h q10 q10 q10 q10 q10 q10,aa,KO,al,al,GT _ _ q10,aa,al,fH]
   rfl
  ·rw[an (show ¬(0<s/\s<cN c) from hs),an (fun q=>hs q.2)]; exact B _
 ·rw[an (show ¬(0<r/\r<cN c) from hr),an (fun q=>hr q.1),af q11]; exact B _
theorem Gg (h c:Int) (x y m j:L00) (hm:m.length<=200000000000000) (hs:j.length<=140737488351232):F.abC h c x y m j=some (Bg h c x y m j):=by
 obtain⟨n1,k,V⟩:=nS4 c
 unfold F.abC Bg
 rw[Jj,aa]
 by_cases hh:isH h
 ·have hz:=jn h
  rw[af hh,ae (show ¬(((Sz h:Nat):Int) == 0)=true by rw[dh]; omega),ae (fI hh),rS,aa,xu,aa]
  by_cases hd:(nu c x y).2.2.2=0
  ·obtain⟨hc,G,I,J,N⟩:=FI hd
   rw[ae (fI hd),af hc,tF,ae (show ¬(((nS c:Nat):Int) == 0)=true by rw[dh]; omega),hd]
   unfold F.aai
   rw[ae q11,show wI (2*((nS c:Nat):Int))=((2*nS c:Nat):Int) by rw[ay q10 q10]; omega]
   by_cases hl:j.length=2*nS c
   ·have z:(j.take (nS c)).length=nS c:=by rw[az]; omega
    have A:(j.drop (nS c)).length=nS c:=by rw[bj]; omega
    have b1:=pR (iT z) k
    have O:=pR (iT A) k
    have X:=pR (iT J) k
    have Y:=pR (iT N) k
    have R:tkO j ((nS c:Nat):Int)=some (j.take (nS c)):=by unfold tkO; rw[af ⟨by omega,by omega⟩,ao]
    have U:drO j ((nS c:Nat):Int)=some (j.drop (nS c)):=by unfold drO; rw[af ⟨by omega,by omega⟩,ao]
    rw[ae (by rw[hl]; simp),ae (fI hl),JK h c hh hc m hm,aa,R,aa,vE _ q10,aa,U,aa,vE _ q10,aa,G]
    dsimp only
    rw[JP hc _ _ _ I (Nr h c m).2 b1 O q10 q10,aa]
    by_cases hi:inN c (beN (j.take (nS c)))/\inN c (beN (j.drop (nS c)))
    ·rw[ae (fI hi),ah hi,fH]
     cases okJ (zN h c m) (beN (j.take (nS c))) (beN (j.drop (nS c))) (kQ c (am (beN x)) (am (beN y)) false) <;> rfl
    ·rw[af hi,an hi,Bool.false_and]; rfl
   ·rw[af (by rw[bV]; omega),af hl]; rfl
  ·rw[af hd]
   have B:∀x2 x3,F.aai h c m j x2 x3 true=some 90:=fun _ _=>rfl
   by_cases hc:isC c
   ·rw[af hc,tF,ae (show ¬(((nS c:Nat):Int) == 0)=true by rw[dh]; omega),show ((nu c x y).2.2.2 != 0)=true by rw[bV]; exact hd]
    exact B _ _
   ·rw[ae hc,af q11]
    exact B _ _
 ·rw[ae hh,af q11,af hh]
end Go.Gk.Bn
end
