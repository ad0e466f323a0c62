import Derived.Test.YtmegjloifgfldaaGreatDoorGkUG
set_option linter.unusedVariables false
set_option linter.unusedSimpArgs false
set_option linter.unusedSectionVars false

section
namespace Go.Gk.Bn
open Go Go.Gk Go.Gk.Sh
def Cof (m a x r:Nat):Prop:=(m:Int) ∣ (x:Int)*a - r
theorem Cof.step {m a x y r s q t:Nat} (A:Cof m a x r) (B:Cof m a y s) (hm:0<m) (i:r=q*s+t):Cof m a ((x+m - q*y%m)%m) t:=by
 unfold Cof at *
 obtain⟨F,I⟩:=A
 obtain⟨G,J⟩:=B
 have j:=Nat.mod_lt (q*y) hm
 have k:((q*y%m:Nat):Int)=q*y - m*((q*y / m:Nat):Int):=by
  have:=Nat.div_add_mod (q*y) m
  have h:((q*y:Nat):Int)=((m*(q*y / m)+q*y%m:Nat):Int):=by rw[this]
  rw[Int.natCast_add,Int.natCast_mul,Int.natCast_mul m]at h
  omega
 obtain⟨N,o⟩:∃N,x+m - q*y%m=N:=⟨_,rfl⟩
 have f:(N:Int)=x+m - ((q*y%m:Nat):Int):=by omega
 have z:((N%m:Nat):Int)=N - m*((N / m:Nat):Int):=by
  have:=Nat.div_add_mod N m
  have h:(N:Int)=((m*(N / m)+N%m:Nat):Int):=by rw[this]
  rw[Int.natCast_add,Int.natCast_mul]at h
  omega
 rw[o]
 have g:(t:Int)=r - q*s:=by rw[i]; push_cast; omega
 refine⟨F - q*G+a+a*((q*y / m:Nat):Int) - a*((N / m:Nat):Int),?_⟩
 rw[z,f,k,g]
 generalize ((q*y / m:Nat):Int)=K
 generalize ((N / m:Nat):Int)=M
 clear k z g i j hm o f
 grobner
end Go.Gk.Bn
end

section
namespace Go.Gk.Bn
open Go Go.Gk Go.Gk.Sh
theorem vP (n0:Bool) (f:Q0) (x:Int) (h:nl x<=50000000000000):F.Hw n0 f (bi x).1 (bi x).2=some (bi (x.natAbs:Int)):=by
 unfold F.Hw
 have g:(bi x).2=ao (x.natAbs:Int).natAbs:=by rw[Int.natAbs_natCast]; rfl
 rw[xt (bi x).2 h,ae,g,fU _ _ _ (x.natAbs:Int) (fun _=>by simp),ae]
theorem F3 (s a b d t:Int) (h:s*t<=0) (j:0<=d):(s - d*t).natAbs=s.natAbs+d.natAbs*t.natAbs:=by
 rcases Int.lt_trichotomy t 0 with g | g | g
 ·have hs:0<=s:=by
   rcases Int.lt_or_le s 0 with f | f
   ·have:=Int.mul_pos_of_neg_of_neg f g; omega
   ·exact f
  have k:0<=d*-t:=Int.mul_nonneg j (by omega)
  have i:(d*-t).natAbs=d.natAbs*t.natAbs:=by rw[Int.natAbs_mul,Int.natAbs_neg]
  rw[<-i]
  have o:s - d*t=s+d*-t:=by rw[Int.mul_neg]; omega
  rw[o]; omega
 ·subst g; simp
 ·have hs:s<=0:=by
   rcases Int.lt_or_le 0 s with f | f
   ·have:=Int.mul_pos f g; omega
   ·exact f
  have k:0<=d*t:=Int.mul_nonneg j (by omega)
  have i:(d*t).natAbs=d.natAbs*t.natAbs:=Int.natAbs_mul ..
  rw[<-i]; omega
theorem EO (s d t:Int) (h:s*t<=0) (g:0<=d):t*(s - d*t)<=0:=by
 have i:0<=d*(t*t):=Int.mul_nonneg g (by rcases Int.le_total 0 t with f | f; exact Int.mul_nonneg f f; exact Int.mul_nonneg_of_nonpos_of_nonpos f f)
 have f:t*(s - d*t)=s*t - d*(t*t):=by grobner
 omega
theorem uf (m a:Nat) (B:1<m) (g:nl (m:Int)<=1000000) (G:0<a) (I:a<m) (hg:Nat.gcd a m=1):∀n q p:Nat,∀s t:Int,q<=n->q<=m->p<=m->0<p->s*t<=0->s.natAbs<=m->t.natAbs<=m ->
  s.natAbs*q+t.natAbs*p=m->(m:Int) ∣ s*a - p->(m:Int) ∣ t*a - q->Nat.gcd p q=1 ->
  ∃z:Int,z.natAbs<=m/\(m:Int) ∣ z*a - 1/\loop (F.Jm false [] false [] (bi (a:Int)).1 (bi (a:Int)).2 (bi (m:Int)).1 (bi (m:Int)).2)
   ((bi (p:Int)).1,(bi (p:Int)).2,(bi (q:Int)).1,(bi (q:Int)).2,(bi s).1,(bi s).2,(bi t).1,(bi t).2)=some ((bi 1).1,(bi 1).2,(bi z).1,(bi z).2)
 | n,q,p,s,t,hqn,hqm,hpm,hp0,hst,hs,ht,hb,d1,d2,hgg=>by
  have L:∀k:Int,k.natAbs<=m->nl k<=1000000:=fun k hk=>Nat.le_trans (fM (by omega)) g
  by_cases h0:q=0
  ·subst h0
   rw[Nat.gcd_zero_right]at hgg
   subst hgg
   refine⟨s,hs,by simpa using d1,?_⟩
   refine bu ?_
   unfold F.Jm
   dsimp only
   have l1:=L s hs; have U:=L (a:Int) (by omega); have V:=u5 (a:Int) s; have X:=zL ((1:Nat):Int) ((a:Int)*s); have Y:=L ((1:Nat):Int) (by omega)
   rw[if_neg (by rw[show (bi ((0:Nat):Int)).2=[] from bG]; decide),if_neg (by rw[bi1 (by omega)]; decide),uO _ _ _ _ (by omega),ae,
    x5 _ _ (by omega) (by omega),ae]
   have f:∀x:Int,nl x<=70000000->∃r,F.K8 (bi x).1 (bi x).2 (bi (m:Int)).1 (bi (m:Int)).2=some r:=fun x hx=>by
    have e:F.K8 (bi x).1 (bi x).2 (bi (m:Int)).1 (bi (m:Int)).2=ah (F.I7 (bi x).1 (bi x).2 (bi x).1 (bi x).2 (bi (m:Int)).1 (bi (m:Int)).2 false []) fun h=>some (h.1,h.2.1):=rfl
    rw[e,nA _ _ _ _ _ _ (by omega) (by omega) (by omega),ae]
    exact⟨_,rfl⟩
   obtain⟨r,Z⟩:=f (((1:Nat):Int) - (a:Int)*s) (by omega)
   rw[Z,ae,vG _ _ _ (by omega),ae,vG _ _ _ (by omega),ae]
   rfl
  ·cases n with
   | zero=>omega
   | succ n=>
    have f:=Nat.div_add_mod p q
    have a3:=Nat.mod_lt p (show 0<q by omega)
    have ac:p / q<=m:=Nat.le_trans (Nat.div_le_self _ _) hpm
    have J:Int.tdiv (p:Int) (q:Int)=((p / q:Nat):Int):=by rw[Int.tdiv_eq_ediv_of_nonneg (Int.natCast_nonneg p)]; rfl
    have K:Int.tmod (p:Int) (q:Int)=((p%q:Nat):Int):=by rw[Int.tmod_eq_emod_of_nonneg (Int.natCast_nonneg p)]; rfl
    have o:Nat.gcd q (p%q)=1:=by rw[Nat.gcd_comm,<-Nat.gcd_rec,Nat.gcd_comm]; exact hgg
    generalize p / q=k at *
    generalize p%q=r at *
    have A:=F3 s 0 0 (k:Int) t hst (by omega)
    rw[Int.natAbs_natCast]at A
    have i:t.natAbs*r+(s - (k:Int)*t).natAbs*q=m:=by
     rw[A,<-hb]
     have h3:t.natAbs*p=t.natAbs*(q*(k)+r):=by rw[f]
     rw[h3,Nat.mul_add,Nat.add_mul]
     have h4:k*t.natAbs*q=t.natAbs*(q*(k)):=by
      rw[Nat.mul_comm (k) t.natAbs,Nat.mul_assoc,Nat.mul_comm (k) q]
     rw[h4]; omega
    have j:(s - (k:Int)*t).natAbs<=m:=by
     have:=Nat.le_mul_of_pos_right (s - (k:Int)*t).natAbs (show 0<q by omega)
     omega
    obtain⟨c1,a4⟩:=d1
    obtain⟨M,N⟩:=d2
    have d3:(m:Int) ∣ (s - (k:Int)*t)*a - (r:Int):=by
     refine⟨c1 - (k:Int)*M,?_⟩
     have h5:(p:Int)=q*(k:Int)+(r:Int):=by
      have:=congrArg (fun x:Nat=>(x:Int)) f
      simp only[Int.natCast_add,Int.natCast_mul]at this
      exact this.symm
     generalize (k:Int)=k at *
     generalize (r:Int)=k2 at *
     clear A i j hb hst hs ht J K
     grobner
    obtain⟨z,hz,O,R⟩:=uf m a B g G I hg n r q t (s - (k:Int)*t) (by omega) (by omega) hqm (by omega) (EO _ _ _ hst (by omega)) ht j i ⟨M,N⟩ d3
     o
    refine⟨z,hz,O,?_⟩
    rw[<-R]
    refine bB ?_
    unfold F.Jm
    dsimp only
    have l1:=L (p:Int) (by omega); have U:=L (q:Int) (by omega); have V:=L s hs; have X:=L t ht; have Y:=L (k:Int) (by omega)
    have l6:=u5 (k:Int) t
    rw[if_pos (by have:=ig.2 h0; rw[show (bi (q:Int)).2=ao q by rw[bi2,Int.natAbs_natCast]]; simp only[decide_eq_true_eq]; omega),nA _ _ _ _ _ _ (by omega) (by omega) (by omega),ae,J,K]
    dsimp only
    rw[uO _ _ _ _ (by omega),ae,AI _ _ _ _ (by omega) (by omega),ae]
    rfl
theorem tq (n0:Bool) (G:Q0) (a m:Nat) (j:1<m) (f:nl (m:Int)<=1000000) (ha:nl (a:Int)<=1000000) (hg:Nat.gcd a m=1) :
  ∃v:Nat,v<m/\a*v%m=1/\F.Jj n0 G (bi (a:Int)).1 (bi (a:Int)).2 (bi (m:Int)).1 (bi (m:Int)).2=some (bi (v:Int)):=by
 have k:=Nat.mod_lt a (show 0<m by omega)
 have g:Nat.gcd (a%m) m=1:=by rw[<-Nat.gcd_rec,Nat.gcd_comm]; exact hg
 have i:0<a%m:=by
  rcases Nat.eq_zero_or_pos (a%m) with h | h
  ·rw[h,Nat.gcd_zero_left]at g; omega
  ·exact h
 obtain⟨z,N,o,t⟩:=uf m (a%m) j f i k g m m (a%m) 1 0 (Nat.le_refl _) (Nat.le_refl _) (by omega) i (by omega) (by omega) (by omega) (by simp) ⟨0,by simp⟩ ⟨-1,by omega⟩ g
 have lz:nl z<=1000000:=Nat.le_trans (fM (by omega)) f
 have A:=Int.emod_nonneg z (show (m:Int)≠0 by omega)
 have M:=Int.emod_lt_of_pos z (show (0:Int)<m by omega)
 refine⟨(z%m).toNat,by omega,?_,?_⟩
 ·obtain⟨c,hc⟩:=o
  have B:((a*(z%m).toNat%m:Nat):Int)=1:=by
   rw[Int.natCast_emod,Int.natCast_mul,Int.toNat_of_nonneg A,show (a:Int)*(z%m)%m=(a:Int)*z%m by rw[Int.mul_emod,Int.emod_emod,<-Int.mul_emod]]
   have I:(a:Int)*z%m=(((a%m:Nat):Int)*z)%m:=by rw[Int.natCast_emod,Int.mul_emod,Int.mul_emod ((a:Int)%m) z,Int.emod_emod]
   rw[I,show ((a%m:Nat):Int)*z=1+m*c by rw[Int.mul_comm]; omega,Int.add_mul_emod_self_left]
   exact Int.emod_eq_of_lt (by omega) (by omega)
  omega
 ·unfold F.Jj
  rw[vP _ _ _ (by omega),ae,Int.natAbs_natCast,AS _ _ _ _ (by omega) (by omega) (by omega) (fun h=>by omega),ae]
  have e:((a:Int)%(m:Int))=((a%m:Nat):Int):=by rw[Int.natCast_emod]
  rw[e]
  unfold F.LR F.Lo
  have B:((bi ((a%m:Nat):Int)).2.length:Int)≠0:=by
   rw[bi2,Int.natAbs_natCast]; have:=ig.2 (show a%m≠0 by omega); omega
  have J:((bi (m:Int)).2.length:Int)≠0:=by
   rw[bi2,Int.natAbs_natCast]; have:=ig.2 (show m≠0 by omega); omega
  have l1:nl ((a%m:Nat):Int)<=1000000:=Nat.le_trans (fM (by omega)) f
  rw[if_neg (by simpa using B),if_neg (by simpa using J),vP _ _ _ (by omega),ae,vP _ _ _ (by omega),ae,Int.natAbs_natCast,Int.natAbs_natCast,
   iM 1 (by decide) (by decide),ae,iM 0 (by decide) (by decide),ae,t,ae,ae]
  dsimp only
  rw[qx 1 1 (by have:=vf; omega) (by have:=vf; omega),ae,if_neg (by decide),AS _ _ _ _ (by omega) (by omega) (by omega) (fun h=>by omega),ae]
  have K:z%(m:Int)=(((z%m).toNat:Nat):Int):=by omega
  rw[<-K]
end Go.Gk.Bn
end
