import Derived.Test.YtahgjafdhjbkeaaGreatDoorGkUG
set_option linter.unusedVariables false
set_option linter.unusedSimpArgs false
set_option linter.unusedSectionVars false

section
namespace Go.Gk.Bn
open Go Go.Gk Go.Gk.Sh
theorem zd {τ:Type} (x:τ):aA [x] 0=some x:=rfl
theorem xL (m a:L0) (g:m.length<=50000000000000) (h:a.length<=50000000000000) (k:(an (val a)).length<=128) (o:(an (val m)).length<=128) (q:1<val m) :
  F.D6 m [a]=some 0:=by
 unfold F.D6
 have i:F.DL m [a] 0=some (.inl 1):=by
  unfold F.DL
  rw[if_pos (by simp),zd,ae,dP a h,ae,if_neg (by simp only[decide_eq_true_eq]; omega)]; rfl
 have j:F.DL m [a] 1=bn (some 0):=by
  unfold F.DL
  rw[if_neg (by simp),dP m g,ae,if_neg (by simp only[decide_eq_true_eq]; omega)]
  unfold F.Ep
  have f:val [1]=1:=rfl
  have hc:cD (val m) 1=1:=by unfold cD; rw[if_neg (by omega),if_neg (by omega)]
  rw[ae,gh _ _ (by omega) (by simp),ae,f,hc,if_neg (by decide)]
 rw[bJ i,bL j]
def Cof (m a x r:Nat):Prop:=(m:Int) ∣ (x:Int)*a - r
theorem Cof.step {m a x y r s q t:Nat} (B:Cof m a x r) (F:Cof m a y s) (i:0<m) (j:r=q*s+t):Cof m a ((x+m - q*y%m)%m) t:=by
 unfold Cof at *
 obtain⟨G,J⟩:=B
 obtain⟨I,K⟩:=F
 have k:=Nat.mod_lt (q*y) i
 have o:((q*y%m:Nat):Int)=q*y - m*((q*y / m:Nat):Int):=by
  have:=Nat.div_add_mod (q*y) m
  have h:((q*y:Nat):Int)=((m*(q*y / m)+q*y%m:Nat):Int):=by rw[this]
  rw[Int.natCast_add,Int.natCast_mul,Int.natCast_mul m]at h
  omega
 obtain⟨N,z⟩:∃N,x+m - q*y%m=N:=⟨_,rfl⟩
 have f:(N:Int)=x+m - ((q*y%m:Nat):Int):=by omega
 have A:((N%m:Nat):Int)=N - m*((N / m:Nat):Int):=by
  have:=Nat.div_add_mod N m
  have h:(N:Int)=((m*(N / m)+N%m:Nat):Int):=by rw[this]
  rw[Int.natCast_add,Int.natCast_mul]at h
  omega
 rw[z]
 have g:(t:Int)=r - q*s:=by rw[j]; push_cast; omega
 refine⟨G - q*I+a+a*((q*y / m:Nat):Int) - a*((N / m:Nat):Int),?_⟩
 rw[A,f,o,g]
 generalize ((q*y / m:Nat):Int)=M
 generalize ((N / m:Nat):Int)=O
 clear o A g j k i z f
 grobner
theorem Cof.le {m a x r:Nat} (h:Cof m a x r) (j:0<m) (f:r=1):a*(x%m)%m=1%m:=by
 subst f
 obtain⟨c,e⟩:=h
 have g:((a*x:Nat):Int)=1+m*c:=by push_cast; rw[Int.mul_comm]; omega
 have i:(((a*x)%m:Nat):Int)=((1%m:Nat):Int):=by
  rw[Int.natCast_emod,g,Int.add_mul_emod_self_left]; rfl
 rw[Nat.mul_mod,Nat.mod_mod,<-Nat.mul_mod]
 exact Int.natCast_inj.1 i
theorem rj (m a:Nat) (g:1<m) (h:(an m).length<=128) (o:Nat.gcd a m=1):∀n s r x y:Nat,s<=n->s<=m->r<=m->x<m->y<m->Cof m a x r->Cof m a y s->Nat.gcd r s=1 ->
  ∃v,v<m/\a*v%m=1/\loop (F.Gu (an m)) (an r,an s,an x,an y)=some (an v,0)
 | n,s,r,x,y,hsn,hs,hr,hx,hy,c1,c2,hgr=>by
  have L:∀k,k<=m->(an k).length<=128:=fun k q=>Nat.le_trans (c6 q) h
  by_cases h0:s=0
  ·subst h0
   rw[Nat.gcd_zero_right]at hgr
   refine⟨x%m,Nat.mod_lt _ (by omega),?_,?_⟩
   ·have:=c1.le (by omega) hgr
    rwa [Nat.mod_eq_of_lt g]at this
   ·refine bL ?_
    unfold F.Gu
    dsimp only
    rw[if_neg (by rw[bR]; decide)]
    unfold F.Ep
    have f:val [1]=1:=rfl
    rw[ae,gh _ _ (by have:=L r hr; omega) (by simp),ae,ar,f,hgr,if_neg (by decide),gf _ _ (by have:=L x (by omega); omega) (by omega) (by rw[ar]; omega),ae,ar,ar]
  ·cases n with
   | zero=>omega
   | succ n=>
    have t:=Nat.div_add_mod r s
    have A:=Nat.mod_lt r (show 0<s by omega)
    have B:=Nat.mod_lt (r / s*y) (show 0<m by omega)
    have i:r / s<=m:=Nat.le_trans (Nat.div_le_self _ _) hr
    have G:=L r hr; have I:=L s hs; have J:=L x (by omega); have K:=L y (by omega); have M:=L (r / s) i
    have N:=ij (r / s) y
    have O:=fS x m
    obtain⟨v,z,f,j⟩:=rj m a g h o n (r%s) s y ((x+m - r / s*y%m)%m) (by omega) (by omega) hs hy (Nat.mod_lt _ (by omega)) c2
     (c1.step c2 (by omega) (by rw[Nat.mul_comm]; exact t.symm)) (by rw[Nat.gcd_comm,<-Nat.gcd_rec,Nat.gcd_comm]; exact hgr)
    refine⟨v,z,f,?_⟩
    rw[<-j]
    refine bJ ?_
    unfold F.Gu
    dsimp only
    have R:=c6 (show x+m - r / s*y%m<=x+m by omega)
    rw[if_pos (by have:=fu.2 h0; simp only[decide_eq_true_eq]; omega),kD _ _ (by omega) (by omega) (by rw[ar]; exact h0),ae,ar,ar,lA _ _ (by omega) (by omega),ae,ar,ar]
    dsimp only
    rw[i4 _ _ (by omega),ae,ar,ar,gf _ _ (by omega) (by omega) (by rw[ar]; omega),ae,ar,ar]
    have U:=c6 (show r / s*y%m<=m by omega)
    rw[gl _ _ (by omega) (by rw[ar,ar]; omega),ae,ar,ar,gf _ _ (by omega) (by omega) (by rw[ar]; omega),ae,ar,ar]
    rfl
end Go.Gk.Bn
end

section
namespace Go.Gk.Bn
open Go Go.Gk Go.Gk.Sh
theorem t9 (n0:Bool) (f:L0) (x:Int) (h:nl x<=50000000000000):F.Ek n0 f (bi x).1 (bi x).2=some (bi (x.natAbs:Int)):=by
 unfold F.Ek
 have g:(bi x).2=an (x.natAbs:Int).natAbs:=by rw[Int.natAbs_natCast]; rfl
 rw[vm (bi x).2 h,ae,g,fN _ _ _ (x.natAbs:Int) (fun _=>by simp),ae]
theorem C9 (s a b d t:Int) (h:s*t<=0) (j:0<=d):(s - d*t).natAbs=s.natAbs+d.natAbs*t.natAbs:=by
 rcases Int.lt_trichotomy t 0 with g | g | g
 ·have k:0<=s:=by
   rcases Int.lt_or_le s 0 with f | f
   ·have:=Int.mul_pos_of_neg_of_neg f g; omega
   ·exact f
  have m:0<=d*-t:=Int.mul_nonneg j (by omega)
  have i:(d*-t).natAbs=d.natAbs*t.natAbs:=by rw[Int.natAbs_mul,Int.natAbs_neg]
  rw[<-i]
  have o:s - d*t=s+d*-t:=by rw[Int.mul_neg]; omega
  rw[o]; omega
 ·subst g; simp
 ·have k:s<=0:=by
   rcases Int.lt_or_le 0 s with f | f
   ·have:=Int.mul_pos f g; omega
   ·exact f
  have m:0<=d*t:=Int.mul_nonneg j (by omega)
  have i:(d*t).natAbs=d.natAbs*t.natAbs:=Int.natAbs_mul ..
  rw[<-i]; omega
theorem B7 (s d t:Int) (h:s*t<=0) (g:0<=d):t*(s - d*t)<=0:=by
 have i:0<=d*(t*t):=Int.mul_nonneg g (by rcases Int.le_total 0 t with f | f; exact Int.mul_nonneg f f; exact Int.mul_nonneg_of_nonpos_of_nonpos f f)
 have f:t*(s - d*t)=s*t - d*(t*t):=by grobner
 omega
theorem su (m a:Nat) (A:1<m) (g:nl (m:Int)<=1000000) (B:0<a) (G:a<m) (R:Nat.gcd a m=1):∀n q p:Nat,∀s t:Int,q<=n->q<=m->p<=m->0<p->s*t<=0->s.natAbs<=m->t.natAbs<=m ->
  s.natAbs*q+t.natAbs*p=m->(m:Int) ∣ s*a - p->(m:Int) ∣ t*a - q->Nat.gcd p q=1 ->
  ∃z:Int,z.natAbs<=m/\(m:Int) ∣ z*a - 1/\loop (F.Gy false [] false [] (bi (a:Int)).1 (bi (a:Int)).2 (bi (m:Int)).1 (bi (m:Int)).2)
   ((bi (p:Int)).1,(bi (p:Int)).2,(bi (q:Int)).1,(bi (q:Int)).2,(bi s).1,(bi s).2,(bi t).1,(bi t).2)=some ((bi 1).1,(bi 1).2,(bi z).1,(bi z).2)
 | n,q,p,s,t,hqn,hqm,hpm,hp0,hst,hs,ht,hb,d1,d2,hgg=>by
  have L:∀k:Int,k.natAbs<=m->nl k<=1000000:=fun k hk=>Nat.le_trans (fb (by omega)) g
  by_cases h0:q=0
  ·subst h0
   rw[Nat.gcd_zero_right]at hgg
   subst hgg
   refine⟨s,hs,by simpa using d1,?_⟩
   refine bL ?_
   unfold F.Gy
   dsimp only
   have U:=L s hs; have V:=L (a:Int) (by omega); have X:=tu (a:Int) s; have Y:=xp ((1:Nat):Int) ((a:Int)*s); have Z:=L ((1:Nat):Int) (by omega)
   rw[if_neg (by rw[show (bi ((0:Nat):Int)).2=[] from bR]; decide),if_neg (by rw[bi1 (by omega)]; decide),tf _ _ _ _ (by omega),ae,
    vR _ _ (by omega) (by omega),ae]
   have f:∀x:Int,nl x<=70000000->∃r,F.IB (bi x).1 (bi x).2 (bi (m:Int)).1 (bi (m:Int)).2=some r:=fun x hx=>by
    have e:F.IB (bi x).1 (bi x).2 (bi (m:Int)).1 (bi (m:Int)).2=ah (F.Ga (bi x).1 (bi x).2 (bi x).1 (bi x).2 (bi (m:Int)).1 (bi (m:Int)).2 false []) fun h=>some (h.1,h.2.1):=rfl
    rw[e,mO _ _ _ _ _ _ (by omega) (by omega) (by omega),ae]
    exact⟨_,rfl⟩
   obtain⟨r,hr⟩:=f (((1:Nat):Int) - (a:Int)*s) (by omega)
   rw[hr,ae,tR _ _ _ (by omega),ae,tR _ _ _ (by omega),ae]
   rfl
  ·cases n with
   | zero=>omega
   | succ n=>
    have f:=Nat.div_add_mod p q
    have a4:=Nat.mod_lt p (show 0<q by omega)
    have ad:p / q<=m:=Nat.le_trans (Nat.div_le_self _ _) hpm
    have I:Int.tdiv (p:Int) (q:Int)=((p / q:Nat):Int):=by rw[Int.tdiv_eq_ediv_of_nonneg (Int.natCast_nonneg p)]; rfl
    have J:Int.tmod (p:Int) (q:Int)=((p%q:Nat):Int):=by rw[Int.tmod_eq_emod_of_nonneg (Int.natCast_nonneg p)]; rfl
    have o:Nat.gcd q (p%q)=1:=by rw[Nat.gcd_comm,<-Nat.gcd_rec,Nat.gcd_comm]; exact hgg
    generalize p / q=k at *
    generalize p%q=r at *
    have y:=C9 s 0 0 (k:Int) t hst (by omega)
    rw[Int.natAbs_natCast]at y
    have i:t.natAbs*r+(s - (k:Int)*t).natAbs*q=m:=by
     rw[y,<-hb]
     have h3:t.natAbs*p=t.natAbs*(q*(k)+r):=by rw[f]
     rw[h3,Nat.mul_add,Nat.add_mul]
     have h4:k*t.natAbs*q=t.natAbs*(q*(k)):=by
      rw[Nat.mul_comm (k) t.natAbs,Nat.mul_assoc,Nat.mul_comm (k) q]
     rw[h4]; omega
    have j:(s - (k:Int)*t).natAbs<=m:=by
     have:=Nat.le_mul_of_pos_right (s - (k:Int)*t).natAbs (show 0<q by omega)
     omega
    obtain⟨c1,a5⟩:=d1
    obtain⟨K,M⟩:=d2
    have d3:(m:Int) ∣ (s - (k:Int)*t)*a - (r:Int):=by
     refine⟨c1 - (k:Int)*K,?_⟩
     have h5:(p:Int)=q*(k:Int)+(r:Int):=by
      have:=congrArg (fun x:Nat=>(x:Int)) f
      simp only[Int.natCast_add,Int.natCast_mul]at this
      exact this.symm
     generalize (k:Int)=k at *
     generalize (r:Int)=k2 at *
     clear y i j hb hst hs ht I J
     grobner
    obtain⟨z,hz,N,O⟩:=su m a A g B G R n r q t (s - (k:Int)*t) (by omega) (by omega) hqm (by omega) (B7 _ _ _ hst (by omega)) ht j i ⟨K,M⟩ d3
     o
    refine⟨z,hz,N,?_⟩
    rw[<-O]
    refine bJ ?_
    unfold F.Gy
    dsimp only
    have U:=L (p:Int) (by omega); have V:=L (q:Int) (by omega); have X:=L s hs; have Y:=L t ht; have Z:=L (k:Int) (by omega)
    have l6:=tu (k:Int) t
    rw[if_pos (by have:=fu.2 h0; rw[show (bi (q:Int)).2=an q by rw[bi2,Int.natAbs_natCast]]; simp only[decide_eq_true_eq]; omega),mO _ _ _ _ _ _ (by omega) (by omega) (by omega),ae,I,J]
    dsimp only
    rw[tf _ _ _ _ (by omega),ae,yl _ _ _ _ (by omega) (by omega),ae]
    rfl
theorem rS (n0:Bool) (y:L0) (a m:Nat) (j:1<m) (f:nl (m:Int)<=1000000) (K:nl (a:Int)<=1000000) (A:Nat.gcd a m=1) :
  ∃v:Nat,v<m/\a*v%m=1/\F.Gw n0 y (bi (a:Int)).1 (bi (a:Int)).2 (bi (m:Int)).1 (bi (m:Int)).2=some (bi (v:Int)):=by
 have k:=Nat.mod_lt a (show 0<m by omega)
 have g:Nat.gcd (a%m) m=1:=by rw[<-Nat.gcd_rec,Nat.gcd_comm]; exact A
 have i:0<a%m:=by
  rcases Nat.eq_zero_or_pos (a%m) with h | h
  ·rw[h,Nat.gcd_zero_left]at g; omega
  ·exact h
 obtain⟨z,M,o,q⟩:=su m (a%m) j f i k g m m (a%m) 1 0 (Nat.le_refl _) (Nat.le_refl _) (by omega) i (by omega) (by omega) (by omega) (by simp) ⟨0,by simp⟩ ⟨-1,by omega⟩ g
 have lz:nl z<=1000000:=Nat.le_trans (fb (by omega)) f
 have t:=Int.emod_nonneg z (show (m:Int)≠0 by omega)
 have J:=Int.emod_lt_of_pos z (show (0:Int)<m by omega)
 refine⟨(z%m).toNat,by omega,?_,?_⟩
 ·obtain⟨c,hc⟩:=o
  have x:((a*(z%m).toNat%m:Nat):Int)=1:=by
   rw[Int.natCast_emod,Int.natCast_mul,Int.toNat_of_nonneg t,show (a:Int)*(z%m)%m=(a:Int)*z%m by rw[Int.mul_emod,Int.emod_emod,<-Int.mul_emod]]
   have B:(a:Int)*z%m=(((a%m:Nat):Int)*z)%m:=by rw[Int.natCast_emod,Int.mul_emod,Int.mul_emod ((a:Int)%m) z,Int.emod_emod]
   rw[B,show ((a%m:Nat):Int)*z=1+m*c by rw[Int.mul_comm]; omega,Int.add_mul_emod_self_left]
   exact Int.emod_eq_of_lt (by omega) (by omega)
  omega
 ·unfold F.Gw
  rw[t9 _ _ _ (by omega),ae,Int.natAbs_natCast,yx _ _ _ _ (by omega) (by omega) (by omega) (fun h=>by omega),ae]
  have e:((a:Int)%(m:Int))=((a%m:Nat):Int):=by rw[Int.natCast_emod]
  rw[e]
  unfold F.Jh F.IM
  have x:((bi ((a%m:Nat):Int)).2.length:Int)≠0:=by
   rw[bi2,Int.natAbs_natCast]; have:=fu.2 (show a%m≠0 by omega); omega
  have G:((bi (m:Int)).2.length:Int)≠0:=by
   rw[bi2,Int.natAbs_natCast]; have:=fu.2 (show m≠0 by omega); omega
  have N:nl ((a%m:Nat):Int)<=1000000:=Nat.le_trans (fb (by omega)) f
  rw[if_neg (by simpa using x),if_neg (by simpa using G),t9 _ _ _ (by omega),ae,t9 _ _ _ (by omega),ae,Int.natAbs_natCast,Int.natAbs_natCast,
   iq 1 (by decide) (by decide),ae,iq 0 (by decide) (by decide),ae,q,ae,ae]
  dsimp only
  rw[px 1 1 (by have:=tB; omega) (by have:=tB; omega),ae,if_neg (by decide),yx _ _ _ _ (by omega) (by omega) (by omega) (fun h=>by omega),ae]
  have I:z%(m:Int)=(((z%m).toNat:Nat):Int):=by omega
  rw[<-I]
end Go.Gk.Bn
end
