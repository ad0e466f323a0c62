import Derived.Test.YtkickcbphbgldaaGreatDoorGkUG
set_option linter.unusedVariables false
set_option linter.unusedSimpArgs false
set_option linter.unusedSectionVars false

section
namespace Go.Gk.Bn
open Go Go.Gk Go.Gk.Sh
def Cof (m a x r:Nat):Prop:=(m:Int) ∣ (x:Int)*a - r
theorem Cof.step {m a x y r s q t:Nat} (h1:Cof m a x r) (h2:Cof m a y s) (hm:0<m) (hr:r=q*s+t):Cof m a ((x+m - q*y%m)%m) t:=by
 unfold Cof at *
 obtain ⟨c1,e1⟩:=h1
 obtain ⟨c2,e2⟩:=h2
 have hlt:=Nat.mod_lt (q*y) hm
 have d1:((q*y%m:Nat):Int)=q*y - m*((q*y / m:Nat):Int):=by
  have:=Nat.div_add_mod (q*y) m
  have h5:((q*y:Nat):Int)=((m*(q*y / m)+q*y%m:Nat):Int):=by rw [this]
  rw [Int.natCast_add,Int.natCast_mul,Int.natCast_mul m]at h5
  omega
 obtain ⟨N,hN⟩:∃N,x+m - q*y%m=N:=⟨_,rfl⟩
 have hN':(N:Int)=x+m - ((q*y%m:Nat):Int):=by omega
 have d2:((N%m:Nat):Int)=N - m*((N / m:Nat):Int):=by
  have:=Nat.div_add_mod N m
  have h5:(N:Int)=((m*(N / m)+N%m:Nat):Int):=by rw [this]
  rw [Int.natCast_add,Int.natCast_mul]at h5
  omega
 rw [hN]
 have hr':(t:Int)=r - q*s:=by rw [hr]; push_cast; omega
 refine ⟨c1 - q*c2+a+a*((q*y / m:Nat):Int) - a*((N / m:Nat):Int),?_⟩
 rw [d2,hN',d1,hr']
 generalize ((q*y / m:Nat):Int)=k1
 generalize ((N / m:Nat):Int)=k2
 clear d1 d2 hr' hr hlt hm hN hN'
 grobner
theorem Cof.le {m a x r:Nat} (h:Cof m a x r) (hm:0<m) (hr:r=1):a*(x%m)%m=1%m:=by
 subst hr
 obtain ⟨c,e⟩:=h
 have h1:((a*x:Nat):Int)=1+m*c:=by push_cast; rw [Int.mul_comm]; omega
 have h2:(((a*x)%m:Nat):Int)=((1%m:Nat):Int):=by
  rw [Int.natCast_emod,h1,Int.add_mul_emod_self_left]; rfl
 rw [Nat.mul_mod,Nat.mod_mod,←Nat.mul_mod]
 exact Int.natCast_inj.1 h2
end Go.Gk.Bn
end

section
namespace Go.Gk.Bn
open Go Go.Gk Go.Gk.Sh
theorem rW (n0:Bool) (l0:List UInt32) (x:Int) (h:nl x≤50000000000000):F.Cb n0 l0 (bi x).1 (bi x).2=some (bi (x.natAbs:Int)):=by
 unfold F.Cb
 have h2:(bi x).2=aA (x.natAbs:Int).natAbs:=by rw [Int.natAbs_natCast]; rfl
 rw [s9 (bi x).2 h,ak,h2,eB _ _ _ (x.natAbs:Int) (fun _=>by simp),ak]
theorem Bh (s a b d t:Int) (h:s*t≤0) (hd:0≤d):(s - d*t).natAbs=s.natAbs+d.natAbs*t.natAbs:=by
 rcases Int.lt_trichotomy t 0 with h1 | h1 | h1
 ·have hs:0≤s:=by
   rcases Int.lt_or_le s 0 with h2 | h2
   ·have:=Int.mul_pos_of_neg_of_neg h2 h1; omega
   ·exact h2
  have h3:0≤d*-t:=Int.mul_nonneg hd (by omega)
  have h4:(d*-t).natAbs=d.natAbs*t.natAbs:=by rw [Int.natAbs_mul,Int.natAbs_neg]
  rw [←h4]
  have h5:s - d*t=s+d*-t:=by rw [Int.mul_neg]; omega
  rw [h5]; omega
 ·subst h1; simp
 ·have hs:s≤0:=by
   rcases Int.lt_or_le 0 s with h2 | h2
   ·have:=Int.mul_pos h2 h1; omega
   ·exact h2
  have h3:0≤d*t:=Int.mul_nonneg hd (by omega)
  have h4:(d*t).natAbs=d.natAbs*t.natAbs:=Int.natAbs_mul ..
  rw [←h4]; omega
theorem Aa (s d t:Int) (h:s*t≤0) (hd:0≤d):t*(s - d*t)≤0:=by
 have h1:0≤d*(t*t):=Int.mul_nonneg hd (by rcases Int.le_total 0 t with h2 | h2; exact Int.mul_nonneg h2 h2; exact Int.mul_nonneg_of_nonpos_of_nonpos h2 h2)
 have h2:t*(s - d*t)=s*t - d*(t*t):=by grobner
 omega
theorem r7 (m a:Nat) (hm1:1<m) (hml:nl (m:Int)≤1000000) (ha0:0<a) (ham:a<m) (hg:Nat.gcd a m=1):∀n q p:Nat,∀s t:Int,q≤n→q≤m→p≤m→0<p→s*t≤0→s.natAbs≤m→t.natAbs≤m →
  s.natAbs*q+t.natAbs*p=m→(m:Int) ∣ s*a - p→(m:Int) ∣ t*a - q→Nat.gcd p q=1 →
  ∃z:Int,z.natAbs≤m∧(m:Int) ∣ z*a - 1∧loop (F.En false [] false [] (bi (a:Int)).1 (bi (a:Int)).2 (bi (m:Int)).1 (bi (m:Int)).2)
   ((bi (p:Int)).1,(bi (p:Int)).2,(bi (q:Int)).1,(bi (q:Int)).2,(bi s).1,(bi s).2,(bi t).1,(bi t).2)=some ((bi 1).1,(bi 1).2,(bi z).1,(bi z).2)
 | n,q,p,s,t,hqn,hqm,hpm,hp0,hst,hs,ht,hb,d1,d2,hgg=>by
  have L:∀k:Int,k.natAbs≤m→nl k≤1000000:=fun k hk=>Nat.le_trans (d6 (by omega)) hml
  by_cases h0:q=0
  ·subst h0
   rw [Nat.gcd_zero_right]at hgg
   subst hgg
   refine ⟨s,hs,by simpa using d1,?_⟩
   refine bE ?_
   unfold F.En
   dsimp only
   have l1:=L s hs; have l2:=L (a:Int) (by omega); have l3:=rs (a:Int) s; have l4:=wL ((1:Nat):Int) ((a:Int)*s); have l5:=L ((1:Nat):Int) (by omega)
   rw [if_neg (by rw [show (bi ((0:Nat):Int)).2=[] from bG]; decide),if_neg (by rw [bi1 (by omega)]; decide),rt _ _ _ _ (by omega),ak,
    t7 _ _ (by omega) (by omega),ak]
   have hq:∀x:Int,nl x≤70000000→∃r,F.Fc (bi x).1 (bi x).2 (bi (m:Int)).1 (bi (m:Int)).2=some r:=fun x hx=>by
    have e:F.Fc (bi x).1 (bi x).2 (bi (m:Int)).1 (bi (m:Int)).2=an (F.Dh (bi x).1 (bi x).2 (bi x).1 (bi x).2 (bi (m:Int)).1 (bi (m:Int)).2 false []) fun x_6=>some (x_6.1,x_6.2.1):=rfl
    rw [e,k0 _ _ _ _ _ _ (by omega) (by omega) (by omega),ak]
    exact ⟨_,rfl⟩
   obtain ⟨r,hr⟩:=hq (((1:Nat):Int) - (a:Int)*s) (by omega)
   rw [hr,ak,sh _ _ _ (by omega),ak,sh _ _ _ (by omega),ak]
   rfl
  ·cases n with
   | zero=>omega
   | succ n=>
    have hq:=Nat.div_add_mod p q
    have hlt:=Nat.mod_lt p (show 0<q by omega)
    have hqm2:p / q≤m:=Nat.le_trans (Nat.div_le_self _ _) hpm
    have e1:Int.tdiv (p:Int) (q:Int)=((p / q:Nat):Int):=by rw [Int.tdiv_eq_ediv_of_nonneg (Int.natCast_nonneg p)]; rfl
    have e2:Int.tmod (p:Int) (q:Int)=((p%q:Nat):Int):=by rw [Int.tmod_eq_emod_of_nonneg (Int.natCast_nonneg p)]; rfl
    have hgg2:Nat.gcd q (p%q)=1:=by rw [Nat.gcd_comm,←Nat.gcd_rec,Nat.gcd_comm]; exact hgg
    generalize p / q=k at *
    generalize p%q=r at *
    have ab:=Bh s 0 0 (k:Int) t hst (by omega)
    rw [Int.natAbs_natCast]at ab
    have hb':t.natAbs*r+(s - (k:Int)*t).natAbs*q=m:=by
     rw [ab,←hb]
     have h3:t.natAbs*p=t.natAbs*(q*(k)+r):=by rw [hq]
     rw [h3,Nat.mul_add,Nat.add_mul]
     have h4:k*t.natAbs*q=t.natAbs*(q*(k)):=by
      rw [Nat.mul_comm (k) t.natAbs,Nat.mul_assoc,Nat.mul_comm (k) q]
     rw [h4]; omega
    have ht':(s - (k:Int)*t).natAbs≤m:=by
     have:=Nat.le_mul_of_pos_right (s - (k:Int)*t).natAbs (show 0<q by omega)
     omega
    obtain ⟨c1,hc1⟩:=d1
    obtain ⟨c2,hc2⟩:=d2
    have d3:(m:Int) ∣ (s - (k:Int)*t)*a - (r:Int):=by
     refine ⟨c1 - (k:Int)*c2,?_⟩
     have h5:(p:Int)=q*(k:Int)+(r:Int):=by
      have:=congrArg (fun x:Nat=>(x:Int)) hq
      simp only [Int.natCast_add,Int.natCast_mul]at this
      exact this.symm
     generalize (k:Int)=k at *
     generalize (r:Int)=k2 at *
     clear ab hb' ht' hb hst hs ht e1 e2
     grobner
    obtain ⟨z,hz,hz1,hz2⟩:=r7 m a hm1 hml ha0 ham hg n r q t (s - (k:Int)*t) (by omega) (by omega) hqm (by omega) (Aa _ _ _ hst (by omega)) ht ht' hb' ⟨c2,hc2⟩ d3
     hgg2
    refine ⟨z,hz,hz1,?_⟩
    rw [←hz2]
    refine bI ?_
    unfold F.En
    dsimp only
    have l1:=L (p:Int) (by omega); have l2:=L (q:Int) (by omega); have l3:=L s hs; have l4:=L t ht; have l5:=L (k:Int) (by omega)
    have l6:=rs (k:Int) t
    rw [if_pos (by have:=fV.2 h0; rw [show (bi (q:Int)).2=aA q by rw [bi2,Int.natAbs_natCast]]; simp only [decide_eq_true_eq]; omega),k0 _ _ _ _ _ _ (by omega) (by omega) (by omega),ak,e1,e2]
    dsimp only
    rw [rt _ _ _ _ (by omega),ak,vP _ _ _ _ (by omega) (by omega),ak]
    rfl
theorem pU (n0:Bool) (l0:List UInt32) (a m:Nat) (hm1:1<m) (hml:nl (m:Int)≤1000000) (ha:nl (a:Int)≤1000000) (hg:Nat.gcd a m=1) :
  ∃v:Nat,v<m∧a*v%m=1∧F.D5 n0 l0 (bi (a:Int)).1 (bi (a:Int)).2 (bi (m:Int)).1 (bi (m:Int)).2=some (bi (v:Int)):=by
 have hlt:=Nat.mod_lt a (show 0<m by omega)
 have hg2:Nat.gcd (a%m) m=1:=by rw [←Nat.gcd_rec,Nat.gcd_comm]; exact hg
 have ha0:0<a%m:=by
  rcases Nat.eq_zero_or_pos (a%m) with h | h
  ·rw [h,Nat.gcd_zero_left]at hg2; omega
  ·exact h
 obtain ⟨z,hz,hz1,hz2⟩:=r7 m (a%m) hm1 hml ha0 hlt hg2 m m (a%m) 1 0 (Nat.le_refl _) (Nat.le_refl _) (by omega) ha0 (by omega) (by omega) (by omega) (by simp) ⟨0,by simp⟩ ⟨-1,by omega⟩ hg2
 have lz:nl z≤1000000:=Nat.le_trans (d6 (by omega)) hml
 have hzm:=Int.emod_nonneg z (show (m:Int)≠0 by omega)
 have hzl:=Int.emod_lt_of_pos z (show (0:Int)<m by omega)
 refine ⟨(z%m).toNat,by omega,?_,?_⟩
 ·obtain ⟨c,hc⟩:=hz1
  have h1:((a*(z%m).toNat%m:Nat):Int)=1:=by
   rw [Int.natCast_emod,Int.natCast_mul,Int.toNat_of_nonneg hzm,show (a:Int)*(z%m)%m=(a:Int)*z%m by rw [Int.mul_emod,Int.emod_emod,←Int.mul_emod]]
   have h3:(a:Int)*z%m=(((a%m:Nat):Int)*z)%m:=by rw [Int.natCast_emod,Int.mul_emod,Int.mul_emod ((a:Int)%m) z,Int.emod_emod]
   rw [h3,show ((a%m:Nat):Int)*z=1+m*c by rw [Int.mul_comm]; omega,Int.add_mul_emod_self_left]
   exact Int.emod_eq_of_lt (by omega) (by omega)
  omega
 ·unfold F.D5
  rw [rW _ _ _ (by omega),ak,Int.natAbs_natCast,vZ _ _ _ _ (by omega) (by omega) (by omega) (fun h=>by omega),ak]
  have e:((a:Int)%(m:Int))=((a%m:Nat):Int):=by rw [Int.natCast_emod]
  rw [e]
  unfold F.FP F.Fs
  have h1:((bi ((a%m:Nat):Int)).2.length:Int)≠0:=by
   rw [bi2,Int.natAbs_natCast]; have:=fV.2 (show a%m≠0 by omega); omega
  have h2:((bi (m:Int)).2.length:Int)≠0:=by
   rw [bi2,Int.natAbs_natCast]; have:=fV.2 (show m≠0 by omega); omega
  have l1:nl ((a%m:Nat):Int)≤1000000:=Nat.le_trans (d6 (by omega)) hml
  rw [if_neg (by simpa using h1),if_neg (by simpa using h2),rW _ _ _ (by omega),ak,rW _ _ _ (by omega),ak,Int.natAbs_natCast,Int.natAbs_natCast,
   gh 1 (by decide) (by decide),ak,gh 0 (by decide) (by decide),ak,hz2,ak,ak]
  dsimp only
  rw [nB 1 1 (by have:=qO; omega) (by have:=qO; omega),ak,if_neg (by decide),vZ _ _ _ _ (by omega) (by omega) (by omega) (fun h=>by omega),ak]
  have e3:z%(m:Int)=(((z%m).toNat:Nat):Int):=by omega
  rw [←e3]
end Go.Gk.Bn
end
