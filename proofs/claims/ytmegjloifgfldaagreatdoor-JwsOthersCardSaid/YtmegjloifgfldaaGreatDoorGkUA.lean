import Derived.Test.YtmegjloifgfldaaGreatDoorGkU6
import Derived.Test.YtmegjloifgfldaaGreatDoorGkFman
set_option linter.unusedVariables false
set_option linter.unusedSimpArgs false
set_option linter.unusedSectionVars false

section
namespace Go.Gk.Bn
open Go Go.Gk Go.Gk.Sh
def bi (z:Int):Bool×Q0:=(decide (z<0),ao z.natAbs)
def nl (z:Int):Nat:=(ao z.natAbs).length
theorem zM (n:Nat):bi (n:Int)=(false,ao n):=by
 unfold bi
 rw[decide_eq_false (by omega),Int.natAbs_natCast]
theorem bi1 {z:Int} (h:0<=z):(bi z).1=false:=decide_eq_false (by omega)
theorem bi2 (z:Int):(bi z).2=ao z.natAbs:=rfl
theorem bis (z:Int):(bi z).1=decide (z<0):=rfl
theorem ms (z:Int):Can (bi z).2:=sX _
theorem mx (z:Int):val (bi z).2=z.natAbs:=aw _
theorem ii {n:Nat}:ao n=[]↔n=0:=⟨fun h=>by have:=aw n; rw[h]at this; simpa [val] using this.symm,fun h=>by rw[h,bG]⟩
theorem ig {n:Nat}:0<(ao n).length↔n≠0:=by
 rw[List.length_pos_iff,Ne,ii]
theorem da {a b:Nat} (h:a<=b):(ao a).length<=(ao b).length:=
 ba (Nat.lt_of_le_of_lt h (by have:=bD (ao b); rwa [aw]at this))
theorem C5 {x y:Int} (h:x.natAbs<=y.natAbs):(bi x).2.length<=(bi y).2.length:=da h
theorem iH (a b:Nat):(ao (a+b)).length<=max (ao a).length (ao b).length+1:=by
 refine ba ?_
 have f:=bD (ao a); have g:=bD (ao b)
 rw[aw]at f g
 have h:=Nat.pow_le_pow_right (show 0<4294967296 by decide) (Nat.le_max_left (ao a).length (ao b).length)
 have i:=Nat.pow_le_pow_right (show 0<4294967296 by decide) (Nat.le_max_right (ao a).length (ao b).length)
 rw[Nat.pow_succ]
 omega
theorem kY (a b:Nat):(ao (a*b)).length<=(ao a).length+(ao b).length:=by
 by_cases hb:b=0
 ·subst hb; simp[bG]
 refine ba ?_
 have f:=bD (ao a); have g:=bD (ao b)
 rw[aw]at f g
 rw[Nat.pow_add]
 exact Nat.mul_lt_mul_of_lt_of_le f (Nat.le_of_lt g) (Nat.pos_of_ne_zero (by have:=Nat.pow_pos (n:=(ao b).length) (show 0<4294967296 by decide); omega))
theorem u5 (x y:Int):nl (x*y)<=nl x+nl y:=by
 unfold nl; rw[Int.natAbs_mul]; exact kY _ _
theorem uX (x y:Int):nl (x+y)<=max (nl x) (nl y)+1:=by
 unfold nl
 exact Nat.le_trans (da (Int.natAbs_add_le x y)) (iH _ _)
theorem zl (x:Int):nl (-x)=nl x:=by unfold nl; rw[Int.natAbs_neg]
theorem zL (x y:Int):nl (x - y)<=max (nl x) (nl y)+1:=by
 rw[Int.sub_eq_add_neg,<-zl y]; exact uX x (-y)
theorem fM {x y:Int} (h:x.natAbs<=y.natAbs):nl x<=nl y:=da h
theorem tJ {z:Int} {k:Nat} (h:z.natAbs<4294967296^k):nl z<=k:=ba h
theorem nv (x:Int) {m:Int} (h:0<m):nl (x%m)<=nl m:=fM (by
 have:=Int.emod_nonneg x (show m≠0 by omega); have:=Int.emod_lt_of_pos x h; omega)
theorem sa (n0:Bool) (f:Q0) (b:Bool) (a:Q0):F.GF n0 f b a=some (b&&decide (a≠[]),a):=by
 unfold F.GF F.KM
 cases b with
 | false=>rfl
 | true=>
  simp only[if_true,Bool.true_and]
  congr 2
  cases a <;> simp
theorem fU (n0:Bool) (g:Q0) (b:Bool) (z:Int) (h:z≠0->(b=true↔z<0)):F.GF n0 g b (ao z.natAbs)=some (bi z):=by
 rw[sa]
 congr 1
 unfold bi
 congr 1
 by_cases h0:z=0
 ·subst h0
  rw[show ao (Int.natAbs 0)=[] from bG]
  simp
 ·have f:ao z.natAbs≠[]:=by rw[Ne,ii]; omega
  simp only[ne_eq,f,not_false_eq_true,decide_true,Bool.and_true]
  have:=h h0
  cases b with
  | true=>exact (decide_eq_true (this.1 rfl)).symm
  | false=>exact (decide_eq_false (fun i=>by have:=this.2 i; cases this)).symm
theorem wd (x y:Int) (hx:nl x<=70000000000000) (hy:nl y<=70000000000000):∃b,F.Ha (bi x).1 (bi x).2 (bi y).1 (bi y).2=some (b,ao (x+y).natAbs)/\(x+y≠0->(b=true↔x+y<0)):=by
 unfold F.Ha
 have j:(bi x).2.length<=70000000000000:=hx
 have k:(bi y).2.length<=70000000000000:=hy
 have f:val (bi x).2=x.natAbs:=aw _
 have g:val (bi y).2=y.natAbs:=aw _
 have h:(bi x).1=decide (x<0):=rfl
 have i:(bi y).1=decide (y<0):=rfl
 by_cases hs:(decide (x<0))=(decide (y<0))
 ·rw[h,i,if_pos (by rw[hs]; exact beq_self_eq_true _),qM _ _ (by omega) (by omega),ae,f,g]
  have:(x<0)↔(y<0):=by simpa using hs
  refine⟨_,by rw[show (x+y).natAbs=x.natAbs+y.natAbs by omega],fun _=>?_⟩
  rw[decide_eq_true_eq]; omega
 ·have:¬((x<0)↔(y<0)):=by simpa using hs
  rw[h,i,if_neg (by simpa using hs),qt _ _ (ms _) (ms _) (by omega) (by omega),ae,f,g]
  unfold cD
  by_cases h1:x.natAbs<y.natAbs
  ·rw[if_pos h1,if_neg (by decide),wa _ _ (C5 (by omega)) (by rw[f,g]; omega) (by omega),ae,f,g]
   refine⟨_,by rw[show (x+y).natAbs=y.natAbs - x.natAbs by omega],fun _=>?_⟩
   rw[decide_eq_true_eq]; omega
  ·rw[if_neg h1,if_pos (by split <;> decide),wa _ _ (C5 (by omega)) (by rw[f,g]; omega) (by omega),ae,f,g]
   refine⟨_,by rw[show (x+y).natAbs=x.natAbs - y.natAbs by omega],fun _=>?_⟩
   rw[decide_eq_true_eq]; omega
theorem EH (n0:Bool) (f:Q0) (x y:Int) (hx:nl x<=70000000000000) (hy:nl y<=70000000000000):F.JI n0 f (bi x).1 (bi x).2 (bi y).1 (bi y).2=some (bi (x+y)):=by
 unfold F.JI
 obtain⟨b,g,h⟩:=wd x y hx hy
 rw[g,ae,fU _ _ _ _ h,ae]
theorem qE (x y:Int) (hx:nl x<=70000000000000) (hy:nl y<=70000000000000):F.HA (bi x).1 (bi x).2 (bi y).1 (bi y).2=some (bi (x+y)):=by
 unfold F.HA
 obtain⟨b,f,g⟩:=wd x y hx hy
 rw[f,ae,fU _ _ _ _ g,ae]
theorem sf (x y:Int) (hx:nl x<=70000000000000) (hy:nl y<=70000000000000):∃b,F.Ha (bi x).1 (bi x).2 (!(bi y).1) (bi y).2=some (b,ao (x - y).natAbs)/\(x - y≠0->(b=true↔x - y<0)):=by
 by_cases h0:y=0
 ·-- nought with a sign
  subst h0
  unfold F.Ha
  have t:(bi x).2.length<=70000000000000:=hx
  have i:(bi 0).2=[]:=bG
  have es:(bi 0).1=false:=rfl
  have g:val (bi x).2=x.natAbs:=aw _
  rw[i,es]
  have f:(bi x).1=decide (x<0):=rfl
  by_cases hs:x<0
  ·rw[f,if_pos (by rw[decide_eq_true hs]; rfl),qM _ _ (by omega) (by simp),ae,g,eh]
   refine⟨_,by rw[show (x - 0).natAbs=x.natAbs+0 by omega],fun _=>by rw[decide_eq_true_eq]; omega⟩
  ·rw[f,if_neg (by rw[decide_eq_false hs]; decide),qt _ _ (ms _) si (by omega) (by simp),ae,g,eh]
   have j:cD x.natAbs 0=if x.natAbs=0 then 0 else 1:=by unfold cD; rw[if_neg (by omega)]
   rw[j,if_pos (by split <;> decide),wa _ _ (by simp) (by rw[eh]; omega) (by omega),ae,g,eh]
   refine⟨_,by rw[show (x - 0).natAbs=x.natAbs - 0 by omega],fun _=>by rw[decide_eq_true_eq]; omega⟩
 ·have k:(!(bi y).1)=(bi (-y)).1:=by
   unfold bi
   by_cases h:y<0
   ·rw[decide_eq_true h,decide_eq_false (by omega)]; rfl
   ·rw[decide_eq_false h,decide_eq_true (by omega)]; rfl
  have o:(bi y).2=(bi (-y)).2:=by rw[bi2,bi2,Int.natAbs_neg]
  rw[k,o,Int.sub_eq_add_neg]
  exact wd x (-y) hx (by rw[zl]; exact hy)
theorem AI (n0:Bool) (f:Q0) (x y:Int) (hx:nl x<=70000000000000) (hy:nl y<=70000000000000):F.Je n0 f (bi x).1 (bi x).2 (bi y).1 (bi y).2=some (bi (x - y)):=by
 unfold F.Je
 obtain⟨b,g,h⟩:=sf x y hx hy
 rw[g,ae,fU _ _ _ _ h,ae]
theorem yd (x y:Int) (hx:nl x<=70000000000000) (hy:nl y<=70000000000000):F.HR (bi x).1 (bi x).2 (bi y).1 (bi y).2=some (bi (x - y)):=by
 unfold F.HR
 obtain⟨b,f,g⟩:=sf x y hx hy
 rw[f,ae,fU _ _ _ _ g,ae]
theorem x5 (x y:Int) (hx:nl x<=70000000000000) (hy:nl y<=70000000000000):F.KN (bi y).1 (bi y).2 (bi x).1 (bi x).2=some (bi (x - y)):=by
 unfold F.KN
 obtain⟨b,f,g⟩:=sf x y hx hy
 rw[f,ae,fU _ _ _ _ g,ae]
theorem Ei (x y:Int) (h:x*y≠0):((decide (x<0) != decide (y<0))=true↔x*y<0):=by
 have hx:x≠0:=fun f=>h (by rw[f,Int.zero_mul])
 have hy:y≠0:=fun f=>h (by rw[f,Int.mul_zero])
 by_cases h1:x<0 <;> by_cases h2:y<0
 ·have:=Int.mul_pos_of_neg_of_neg h1 h2
  simp[h1,h2]; omega
 ·have:=Int.mul_neg_of_neg_of_pos h1 (show 0<y by omega)
  simp[h1,h2,this]
 ·have:=Int.mul_neg_of_pos_of_neg (show 0<x by omega) h2
  simp[h1,h2,this]
 ·have:=Int.mul_pos (show 0<x by omega) (show 0<y by omega)
  simp[h1,h2]; omega
theorem uO (n0:Bool) (f:Q0) (x y:Int) (h:nl x+nl y<=70368744177664):F.Il n0 f (bi x).1 (bi x).2 (bi y).1 (bi y).2=some (bi (x*y)):=by
 unfold F.Il
 have g:(bi x).2.length+(bi y).2.length<=70368744177664:=h
 rw[A1 _ _ (by omega),ae,mx,mx,<-Int.natAbs_mul,bis,bis,fU _ _ _ _ (Ei x y),ae]
theorem wC (n0:Bool) (g:Q0) (x:Int) (k:-9223372036854775808<=x) (o:x<=9223372036854775807):F.IQ n0 g x=some (bi x):=by
 have f:∀u:UInt64,u.toNat=x.natAbs->F.Ki n0 g x u=some (bi x):=by
  intro u j
  unfold F.Ki
  dsimp only
  rw[jl,ae,j,fU _ _ _ _ (fun _=>by rw[decide_eq_true_eq]),ae]
 unfold F.IQ
 have i:(UInt64.ofInt x).toNat=(x%18446744073709551616).toNat:=by
  rw[UInt64.ofInt,UInt64.toNat_ofNat']
  have:=Int.emod_nonneg x (show (18446744073709551616:Int)≠0 by decide)
  have:=Int.emod_lt_of_pos x (show (0:Int)<18446744073709551616 by decide)
  omega
 by_cases h:x<0
 ·rw[if_pos (decide_eq_true h)]
  refine f _ ?_
  rw[UInt64.toNat_sub,i]
  have:(0:UInt64).toNat=0:=rfl
  omega
 ·rw[if_neg (by simpa using h)]
  refine f _ ?_
  rw[i]; omega
theorem iM (x:Int) (f:-9223372036854775808<=x) (g:x<=9223372036854775807):F.GQ x=some (bi x):=by
 unfold F.GQ
 rw[wC _ _ x f g,ae]
theorem xt (a:Q0) (h:a.length<=50000000000000):F.HZ a=some a:=by
 unfold F.HZ
 have f:apO 4 [] a=some a:=by unfold apO; rw[if_pos (by simp; omega)]; simp
 rw[f,ae]
theorem vG (n0:Bool) (f:Q0) (x:Int) (h:nl x<=50000000000000):F.HF n0 f (bi x).1 (bi x).2=some (bi x):=by
 unfold F.HF
 rw[xt (bi x).2 h,ae,bi2,bis,fU _ _ _ _ (fun _=>by rw[decide_eq_true_eq]),ae]
theorem ur (x y:Int):(Int.tdiv x y).natAbs=x.natAbs / y.natAbs:=Int.natAbs_tdiv x y
theorem mD (x y:Int):(Int.tmod x y).natAbs=x.natAbs%y.natAbs:=Int.natAbs_tmod x y
theorem nA (n0 g:Bool) (i j:Q0) (x y:Int) (hy:y≠0) (k:nl x<=70368744177660) (o:nl y<=70000000000) :
  F.I7 n0 i (bi x).1 (bi x).2 (bi y).1 (bi y).2 g j=some ((bi (Int.tdiv x y)).1,(bi (Int.tdiv x y)).2,(bi (Int.tmod x y)).1,(bi (Int.tmod x y)).2):=by
 unfold F.I7
 rw[Fw _ _ (ms _) (ms _) (by rw[bi2,Ne,ii]; omega) k o,ae,mx,mx]
 dsimp only
 rw[bis,bis,<-ur,<-mD,fU _ _ _ _ (fun h=>?_),ae,fU _ _ _ _ (fun h=>?_),ae]
 ·show decide (x<0)=true↔_
  rw[decide_eq_true_eq]
  rcases Int.lt_trichotomy x 0 with f | f | f
  ·have:=Int.tmod_nonneg y (show 0<=-x by omega)
   rw[Int.neg_tmod]at this
   omega
  ·subst f; simp at h
  ·have:=Int.tmod_nonneg y (show 0<=x by omega)
   omega
 ·have z:Int.tdiv x y≠0:=h
  show (decide (x<0) != decide (y<0))=true↔_
  by_cases hx:x<0 <;> by_cases hyn:y<0
  ·have:=Int.tdiv_nonneg_of_nonpos_of_nonpos (show x<=0 by omega) (show y<=0 by omega)
   simp[hx,hyn]; omega
  ·simp only[hx,hyn,decide_true,decide_false]
   have t:Int.tdiv x y<=0:=by
    have:=Int.tdiv_nonneg (a:=-x) (b:=y) (by omega) (by omega)
    rw[Int.neg_tdiv]at this; omega
   simp; omega
  ·have t:Int.tdiv x y<=0:=by
    have:=Int.tdiv_nonneg (a:=x) (b:=-y) (by omega) (by omega)
    rw[Int.tdiv_neg]at this; omega
   simp[hx,hyn]; omega
  ·have:=Int.tdiv_nonneg (a:=x) (b:=y) (by omega) (by omega)
   simp[hx,hyn]; omega
end Go.Gk.Bn
end

section
namespace Go.Gk.Bn
open Go Go.Gk Go.Gk.Sh
theorem Aw {x y:Int} (hy:0<y) (h:Int.tmod x y<0):Int.tdiv x y - 1=x / y/\Int.tmod x y+y=x%y:=by
 have f:=Int.mul_tdiv_add_tmod x y
 have g:(Int.tmod x y).natAbs<y.natAbs:=by rw[mD]; exact Nat.mod_lt _ (by omega)
 have i:y*Int.tdiv x y=y*(Int.tdiv x y - 1)+y:=by rw[Int.mul_sub,Int.mul_one]; omega
 have:=(Int.ediv_emod_unique (a:=x) (b:=y) (q:=Int.tdiv x y - 1) (r:=Int.tmod x y+y) hy).2 ⟨by omega,by omega,by omega⟩
 exact⟨this.1.symm,this.2.symm⟩
theorem zg {x y:Int} (hy:0<y) (h:¬Int.tmod x y<0):Int.tdiv x y=x / y/\Int.tmod x y=x%y:=by
 have f:=Int.mul_tdiv_add_tmod x y
 have g:(Int.tmod x y).natAbs<y.natAbs:=by rw[mD]; exact Nat.mod_lt _ (by omega)
 have:=(Int.ediv_emod_unique (a:=x) (b:=y) (q:=Int.tdiv x y) (r:=Int.tmod x y) hy).2 ⟨by omega,by omega,by omega⟩
 exact⟨this.1.symm,this.2.symm⟩
theorem Dw (x y:Int):nl (Int.tdiv x y)<=nl x:=fM (by rw[ur]; exact Nat.div_le_self _ _)
theorem Ek (x y:Int):nl (Int.tmod x y)<=nl x:=fM (by rw[mD]; exact Nat.mod_le _ _)
theorem vf:nl 1<=1:=tJ (by decide)
theorem th (n0 j:Bool) (k o:Q0) (x y:Int) (hy:0<y) (t:nl x<=70368744177660) (z:nl y<=70000000000) (i:x<0->nl x<=70000000000000) :
  F.Jc n0 k (bi x).1 (bi x).2 (bi y).1 (bi y).2 j o=some ((bi (x / y)).1,(bi (x / y)).2,(bi (x%y)).1,(bi (x%y)).2):=by
 have A:=Dw x y; have B:=Ek x y; have G:=vf
 unfold F.Jc
 rw[vG _ _ _ (by omega),ae,nA _ _ _ _ _ _ (by omega) t z,ae]
 dsimp only
 by_cases h:Int.tmod x y<0
 ·obtain⟨f,g⟩:=Aw hy h
  have i:=i (by rcases Int.lt_or_le x 0 with hx | hx; exact hx; have:=Int.tmod_nonneg y hx; omega)
  rw[if_pos (show (bi (Int.tmod x y)).1=true from decide_eq_true h),if_neg (by rw[bi1 (by omega)]; decide),iM 1 (by decide) (by decide),ae,yd _ _ (by omega) (by omega),ae,qE _ _ (by omega) (by omega),ae,f,g]
  rfl
 ·obtain⟨f,g⟩:=zg hy h
  rw[if_neg (by rw[show (bi (Int.tmod x y)).1=false from decide_eq_false h]; decide),f,g]
  rfl
theorem tw (n0 f h:Bool) (i g j:Q0):F.LT n0 i h j f g=F.Jc n0 i f g h j f g:=rfl
theorem AS (n0:Bool) (f:Q0) (x y:Int) (hy:0<y) (g:nl x<=70368744177660) (h:nl y<=70000000000) (i:x<0->nl x<=70000000000000):F.Kp n0 f (bi x).1 (bi x).2 (bi y).1 (bi y).2=some (bi (x%y)):=by
 unfold F.Kp
 rw[th _ _ _ _ x y hy g h i,ae]
theorem zd (x y:Int) (hy:0<y) (f:nl x<=70368744177660) (g:nl y<=70000000000) (h:x<0->nl x<=70000000000000):F.LH (bi x).1 (bi x).2 (bi y).1 (bi y).2=some (bi (x%y)):=by
 unfold F.LH
 rw[tw,th _ _ _ _ x y hy f g h,ae]
def ui (x y:Int):Int:=if x<y then -1 else if x=y then 0 else 1
theorem qx (x y:Int) (hx:nl x<=70368744177664) (hy:nl y<=70368744177664):F.HL (bi x).1 (bi x).2 (bi y).1 (bi y).2=some (ui x y):=by
 have k:(bi x).2.length<=70368744177664:=hx
 have o:(bi y).2.length<=70368744177664:=hy
 unfold F.HL ui
 rw[qt _ _ (ms x) (ms y) (by omega) (by omega),mx,mx]
 unfold cD
 have f:(bi x).1=decide (x<0):=rfl
 have g:(bi y).1=decide (y<0):=rfl
 obtain⟨t,i⟩:∃q,(bi x).1=q:=⟨_,rfl⟩
 obtain⟨z,j⟩:∃q,(bi y).1=q:=⟨_,rfl⟩
 rw[i]at f ⊢; rw[j]at g ⊢
 by_cases h1:x<0 <;> by_cases h2:y<0
 ·rw[decide_eq_true h1]at f; rw[decide_eq_true h2]at g; subst f; subst g
  rw[if_neg (by decide),ae,if_pos rfl]
  rcases Int.lt_trichotomy x y with h | h | h
  ·rw[if_pos h,if_neg (by omega),if_neg (by omega)]; rfl
  ·rw[if_neg (by omega),if_pos (by omega),if_neg (by omega),if_pos h]; rfl
  ·rw[if_pos (by omega),if_neg (by omega),if_neg (by omega)]; rfl
 ·rw[decide_eq_true h1]at f; rw[decide_eq_false h2]at g; subst f; subst g
  rw[if_pos (by decide),if_pos rfl,if_pos (by omega)]
 ·rw[decide_eq_false h1]at f; rw[decide_eq_true h2]at g; subst f; subst g
  rw[if_pos (by decide),if_neg (by decide),if_neg (by omega),if_neg (by omega)]
 ·rw[decide_eq_false h1]at f; rw[decide_eq_false h2]at g; subst f; subst g
  rw[if_neg (by decide),ae,if_neg (by decide)]
  rcases Int.lt_trichotomy x y with h | h | h
  ·rw[if_pos (by omega),if_pos h]
  ·rw[if_neg (by omega),if_pos (by omega),if_neg (by omega),if_pos h]
  ·rw[if_neg (by omega),if_neg (by omega),if_neg (by omega),if_neg (by omega)]
theorem rP (x:Int):F.GT (bi x).1 (bi x).2=some (if x=0 then 0 else if x<0 then -1 else 1):=by
 unfold F.GT
 by_cases h:x=0
 ·subst h; rw[if_pos rfl]; exact if_pos (by rw[bi2,show Int.natAbs 0=0 from rfl,bG]; rfl)
 ·have:(bi x).2.length≠0:=fun f=>h (by have:=List.eq_nil_of_length_eq_zero f; rw[bi2,ii]at this; omega)
  rw[if_neg (by simpa using fun f=>this (by rw[f]; rfl)),if_neg h,bis]
  by_cases h1:x<0
  ·rw[if_pos (by simp[h1]),if_pos h1]
  ·rw[if_neg (by simp[h1]),if_neg h1]
def beN:Q1->Nat
 | []=>0
 | x :: l=>x.toNat*256^l.length+beN l
def beB:Nat->Nat->Q1
 | 0,_=>[]
 | k+1,n=>UInt8.ofNat (n / 256^k) :: beB k n
theorem gL:∀k n,(beB k n).length=k
 | 0,_=>rfl
 | k+1,n=>by simp[beB,gL k n]
theorem gk:∀l:Q1,beN l<256^l.length
 | []=>by simp[beN]
 | x :: l=>by
  have f:=gk l; have g:=x.toNat_lt
  have:(x.toNat+1)*256^l.length<=256*256^l.length:=Nat.mul_le_mul_right _ (by omega)
  rw[Nat.add_mul]at this
  rw[beN,List.length_cons,Nat.pow_succ,Nat.mul_comm (256^_) 256]
  omega
theorem rF:∀k n,beN (beB k n)=n%256^k
 | 0,n=>by simp[beB,beN,Nat.mod_one]
 | k+1,n=>by
  rw[beB,beN,gL,rF k n,UInt8.toNat_ofNat',show (2:Nat)^8=256 from rfl,Nat.mod_pow_succ,Nat.mul_comm (256^k),Nat.add_comm]
theorem mO:∀a b:Q1,beN (a++b)=beN a*256^b.length+beN b
 | [],b=>by simp[beN]
 | x :: a,b=>by
  rw[List.cons_append,beN,beN,mO a b,List.length_append,Nat.add_mul,Nat.pow_add,Nat.mul_assoc]; omega
theorem ik (l:Q1) {i:Nat} (h:i<l.length):beN (l.take (i+1))=256*beN (l.take i)+(l.getD i 0).toNat:=by
 rw[List.take_add_one,List.getD_eq_getElem?_getD,List.getElem?_eq_getElem h,mO]
 simp[beN]; omega
theorem vC:∀(k n i:Nat),i<k->(beB k n).getD i 0=UInt8.ofNat (n / 256^(k - 1 - i))
 | 0,_,_,h=>by omega
 | k+1,n,0,_=>by simp[beB]
 | k+1,n,i+1,h=>by
  rw[beB,List.getD_cons_succ,vC k n i (by omega),show k+1 - 1 - (i+1)=k - 1 - i by omega]
theorem iV {n k:Nat} (h:n<256^k):(ao n).length<=(k+3) / 4:=by
 refine ba (Nat.lt_of_lt_of_le h ?_)
 rw[show (4294967296:Nat)=256^4 from rfl,<-Nat.pow_mul]
 exact Nat.pow_le_pow_right (by decide) (by omega)
theorem lH (n0:Bool) (h:Q0) (b:Q1) (hb:b.length<=140737488351232):F.Ic n0 h b=some (bi (beN b:Nat)):=by
 unfold F.Ic
 have e:=cA (f:=F.JE n0 h b) (fun (x:Nat) i=>(ao x,(i:Int))) (fun i x=>i<=b.length->x=beN (b.take i)) (fun x i=>256*x+(b.getD i 0).toNat) 0 b.length
  (X:=fun x=>some (bi (x:Nat)))
  (fun i x _ hi hx=>by
   have hx:=hx (by omega)
   refine⟨?_,fun _=>by rw[hx,ik b hi]⟩
   have k:wI ((i:Int)+1)=((i+1:Nat):Int):=by rw[aI (by omega) (by omega)]; rfl
   have hl:(ao x).length<=(i+3) / 4:=by
    rw[hx]
    have:=gk (b.take i)
    rw[List.length_take,Nat.min_eq_left (by omega)]at this
    exact iV this
   have j:(8:UInt64).toNat=8:=rfl
   unfold F.JE
   dsimp only
   rw[if_pos (decide_eq_true (by omega)),rI _ 8 (by rw[j]; omega) (by omega),ae,aT hi 0,ae,jl,ae,aw,j]
   have o:(ao (x*2^8)).length<=(i+3) / 4+1:=by
    have:=kY x (2^8)
    have z:(ao (2^8)).length<=1:=ba (by decide)
    omega
   have t:(ao (b.getD i 0).toUInt64.toNat).length<=2:=ba (by have:=(b.getD i 0).toUInt64.toNat_lt; omega)
   rw[qM _ _ (by omega) (by omega),ae,aw,aw,k]
   have:(b.getD i 0).toUInt64.toNat=(b.getD i 0).toNat:=UInt8.toNat_toUInt64 _
   rw[this,show x*2^8=256*x by omega]; rfl)
  (fun x hx=>by
   unfold F.JE
   dsimp only
   rw[if_neg (by simp),sa,ae,zM]; rfl)
  b.length 0 0 (Nat.le_refl _) (by omega) (fun _=>by simp[beN])
 have g:=cQ (fun i (x:Nat)=>i<=b.length->x=beN (b.take i)) (fun x i=>256*x+(b.getD i 0).toNat) (fun i x hx=>fun hi=>by rw[hx (by omega),ik b (by omega)]) b.length 0 0 (fun _=>by simp[beN])
 rw[Nat.zero_add]at g
 have g:=g (Nat.le_refl _)
 rw[g,List.take_length]at e
 rw[bG]at e
 exact e
end Go.Gk.Bn
end

section
namespace Go.Gk.Bn
open Go Go.Gk Go.Gk.Sh
theorem np {n k:Nat} (f:n<2^k) (g:2^(k - 1)<=n) (i:1<=k):nb n=k:=by
 have j:=gv f
 rcases Nat.lt_or_ge (nb n) k with h | h
 ·have o:=(c9 n).1
  have t:=Nat.pow_le_pow_right (show 0<2 by decide) (show nb n<=k - 1 by omega)
  omega
 ·omega
theorem lI (n:Nat):jx (ao n)=nb n:=by
 unfold jx
 by_cases h0:n=0
 ·subst h0; rw[bG,if_pos (show ([]:Q0).length=0 from rfl),fR]
 ·obtain⟨l,hl⟩:∃l,ao n=l:=⟨_,rfl⟩
  have f:l.length≠0:=by have:=ig.2 h0; rw[hl]at this; omega
  have o:val l=n:=by rw[<-hl,aw]
  have hc:Can l:=by rw[<-hl]; exact sX n
  rw[hl,if_neg f]
  have g:=bM l (l.length - 1)
  rw[show l.length - 1+1=l.length by omega,List.take_length,o]at g
  have z:=bD (l.take (l.length - 1))
  rw[List.length_take,Nat.min_eq_left (by omega)]at z
  obtain⟨t,i⟩:∃t,l.getD (l.length - 1) 0=t:=⟨_,rfl⟩
  rw[i]at g ⊢
  have j:t.toNat≠0:=by
   intro h
   have h:t=0:=UInt32.toNat_inj.1 h
   refine hc ?_
   rw[List.getLast?_eq_getElem?]
   rw[<-i,List.getD_eq_getElem?_getD,List.getElem?_eq_getElem (show l.length - 1<l.length by omega)]at h
   rw[List.getElem?_eq_getElem (show l.length - 1<l.length by omega),<-h]; rfl
  obtain⟨n1,A⟩:=c9 t.toNat
  obtain⟨B,F⟩:=A j
  have k:(4294967296:Nat)^(l.length - 1)=2^(32*(l.length - 1)):=by rw[Nat.pow_mul]
  symm
  refine np ?_ ?_ (by omega)
  ·rw[Nat.pow_add,<-k]
   have:4294967296^(l.length - 1)*(t.toNat+1)<=4294967296^(l.length - 1)*2^nb t.toNat:=Nat.mul_le_mul_left _ n1
   rw[Nat.mul_add]at this
   omega
  ·rw[show 32*(l.length - 1)+nb t.toNat - 1=32*(l.length - 1)+(nb t.toNat - 1) by omega,Nat.pow_add,<-k]
   have:4294967296^(l.length - 1)*2^(nb t.toNat - 1)<=4294967296^(l.length - 1)*t.toNat:=Nat.mul_le_mul_left _ B
   omega
def nby (n:Nat):Nat:=(nb n+7) / 8
theorem CK (k:Nat):(256:Nat)^k=2^(8*k):=by rw[Nat.pow_mul]
theorem q7 (n:Nat):n<256^nby n:=by
 rw[CK]
 exact Nat.lt_of_lt_of_le (c9 n).1 (Nat.pow_le_pow_right (by decide) (by unfold nby; omega))
theorem zR {n i:Nat} (h:i<nby n):256^i<=n:=by
 rw[CK]
 have hn:n≠0:=by rintro rfl; unfold nby at h; rw[fR]at h; omega
 obtain⟨f,g⟩:=(c9 n).2 hn
 exact Nat.le_trans (Nat.pow_le_pow_right (by decide) (by unfold nby at h; omega)) f
theorem zU {n k:Nat} (h:n<256^k):nby n<=k:=by
 rcases Nat.lt_or_ge k (nby n) with f | f
 ·have:=zR f; omega
 ·exact f
theorem ib (n:Nat):nb n<=32*(ao n).length:=by
 refine gv ?_
 have:=bD (ao n)
 rw[aw]at this
 rw[Nat.pow_mul]; exact this
theorem sH (l:Q0) (i:Nat):(bv (l.getD (i / 4) 0) (8*(i%4))).toUInt8=UInt8.ofNat (val l / 256^i):=by
 apply UInt8.toNat_inj.1
 rw[UInt32.toNat_toUInt8,gq,UInt8.toNat_ofNat']
 have e8:(2:Nat)^8=256:=rfl
 rw[e8]
 have f:(256:Nat)^i=4294967296^(i / 4)*256^(i%4):=by
  rw[show (4294967296:Nat)=256^4 from rfl,<-Nat.pow_mul,<-Nat.pow_add]; congr 1; omega
 rw[f,<-Nat.div_div_eq_div_mul,fw,cq]
 obtain⟨w,g⟩:∃w,(l.getD (i / 4) 0).toNat=w:=⟨_,rfl⟩
 obtain⟨R,j⟩:∃R,val (l.drop (i / 4+1))=R:=⟨_,rfl⟩
 rw[g,j]
 have:i%4=0\/i%4=1\/i%4=2\/i%4=3:=by omega
 rcases this with h | h | h | h <;> rw[h] <;> simp <;> omega
theorem Cj (x:Int) (hx:nl x<=1000000000):F.KW (bi x).1 (bi x).2=some (beB (nby x.natAbs) x.natAbs):=by
 obtain⟨n,hn⟩:∃n,x.natAbs=n:=⟨_,rfl⟩
 have hl:(ao n).length<=1000000000:=by rw[<-hn]; exact hx
 have hb:=ib n
 obtain⟨m,hm⟩:∃m,nby n=m:=⟨_,rfl⟩
 have K:m<=4*(ao n).length:=by rw[<-hm]; unfold nby; omega
 unfold F.KW
 rw[bi2,hn,length_eq _ (by omega),ae,lI]
 have o:wI (Int.tdiv (wI ((nb n:Int)+7)) 8)=(m:Int):=by
  rw[aI (x:=(nb n:Int)+7) (by omega) (by omega),Int.tdiv_eq_ediv_of_nonneg (by omega),aI (by omega) (by omega),<-hm]; unfold nby; omega
 rw[o,aV,dv (by omega),ae,Int.toNat_natCast,hm]
 have e:=cA (f:=F.KE (ao n) (m:Int)) (fun (y:Q1) i=>((i:Int),y)) (fun i y=>i<=m->y=List.replicate (m - i) 0++beB i n) (fun y i=>y.set (m - 1 - i) (UInt8.ofNat (n / 256^i))) 0 m
  (X:=fun y=>some y)
  (fun i y _ hi hy=>by
   have hy:=hy (by omega)
   have h:y.set (m - 1 - i) (UInt8.ofNat (n / 256^i))=List.replicate (m - (i+1)) 0++beB (i+1) n:=by
    rw[hy,show m - i=m - (i+1)+1 by omega,List.replicate_succ',List.append_assoc,show m - 1 - i=m - (i+1) by omega,List.set_append_right _ _ (by simp)]
    simp[beB]
   refine⟨?_,fun _=>h⟩
   have j:i / 4<(ao n).length:=by
    refine oa (k:=i / 4) ?_
    refine Nat.le_trans ?_ (zR (show i<nby n by omega))
    rw[show (4294967296:Nat)=256^4 from rfl,<-Nat.pow_mul]
    exact Nat.pow_le_pow_right (by decide) (by omega)
   have M:y.length=m:=by rw[hy]; simp[gL]; omega
   have t:wI ((i:Int)+1)=((i+1:Nat):Int):=by rw[aI (by omega) (by omega)]; rfl
   have z:wI (Int.tdiv (i:Int) 4)=((i / 4:Nat):Int):=by rw[Int.tdiv_eq_ediv_of_nonneg (by omega),aI (by omega) (by omega)]; omega
   have A:wI ((wI ((m:Int) - 1)) - (i:Int))=((m - 1 - i:Nat):Int):=by rw[aI (x:=(m:Int) - 1) (by omega) (by omega),aI (by omega) (by omega)]; omega
   have B:(8*((UInt64.ofInt (i:Int))%4)).toNat=8*(i%4):=by
    have G:(UInt64.ofInt (i:Int)).toNat=i:=by
     rw[UInt64.ofInt,UInt64.toNat_ofNat']
     omega
    have I:(4:UInt64).toNat=4:=rfl
    have J:(8:UInt64).toNat=8:=rfl
    rw[UInt64.toNat_mul,UInt64.toNat_mod,G,I,J]; omega
   unfold F.KE
   dsimp only
   rw[if_pos (decide_eq_true (by omega)),z,aT j 0,ae,A,aT (show m - 1 - i<y.length by omega) 0,ae,aV,Int.toNat_natCast,B,sH,aw,t]
   rfl)
  (fun y hy=>by
   unfold F.KE
   dsimp only
   rw[if_neg (by simp)])
  m 0 (List.replicate m 0) (Nat.le_refl _) (by omega) (fun _=>by simp[beB])
 have g:=cQ (fun i (y:Q1)=>i<=m->y=List.replicate (m - i) 0++beB i n) (fun y i=>y.set (m - 1 - i) (UInt8.ofNat (n / 256^i)))
  (fun i y hy=>fun hi=>by
   rw[hy (by omega),show m - i=m - (i+1)+1 by omega,List.replicate_succ',List.append_assoc,show m - 1 - i=m - (i+1) by omega,List.set_append_right _ _ (by simp)]
   simp[beB]) m 0 (List.replicate m 0) (fun _=>by simp[beB])
 rw[Nat.zero_add]at g
 have g:=g (Nat.le_refl _)
 rw[g,Nat.sub_self,List.replicate_zero,List.nil_append]at e
 exact e
def lE (c:UInt8):Nat:=if c.toNat<=57 then c.toNat - 48 else c.toNat - 87
def fh (c:UInt8):Bool:=(48<=c.toNat&&c.toNat<=57) || (97<=c.toNat&&c.toNat<=102)
def dV:Q1->Nat
 | []=>0
 | x :: l=>lE x*16^l.length+dV l
theorem xM {c:UInt8} (h:fh c=true):lE c<16:=by
 unfold fh at h; unfold lE
 simp only[Bool.or_eq_true,Bool.and_eq_true,decide_eq_true_eq]at h
 split <;> omega
theorem ph:∀a b:Q1,dV (a++b)=dV a*16^b.length+dV b
 | [],b=>by simp[dV]
 | x :: a,b=>by
  rw[List.cons_append,dV,dV,ph a b,List.length_append,Nat.add_mul,Nat.pow_add,Nat.mul_assoc]; omega
theorem xy:∀l:Q1,l.all fh=true->dV l<16^l.length
 | [],_=>by simp[dV]
 | x :: l,h=>by
  rw[List.all_cons,Bool.and_eq_true]at h
  have f:=xy l h.2; have g:=xM h.1
  have:(lE x+1)*16^l.length<=16*16^l.length:=Nat.mul_le_mul_right _ (by omega)
  rw[Nat.add_mul]at this
  rw[dV,List.length_cons,Nat.pow_succ,Nat.mul_comm (16^_) 16]
  omega
theorem mg (l:Q1) {i:Nat} (h:i<l.length):dV (l.take (i+1))=16*dV (l.take i)+lE (l.getD i 0):=by
 rw[List.take_add_one,List.getD_eq_getElem?_getD,List.getElem?_eq_getElem h,ph]
 simp[dV]; omega
theorem vm {l:Q1} {p:UInt8->Bool} (h:l.all p=true) {i:Nat} (hi:i<l.length):p (l.getD i 0)=true:=by
 rw[List.getD_eq_getElem?_getD,List.getElem?_eq_getElem hi]
 exact List.all_eq_true.1 h _ (List.getElem_mem hi)
theorem Cf {l:Q1} {p:UInt8->Bool} (h:l.all p=true) (i:Nat):(l.take i).all p=true:=
 List.all_eq_true.2 fun x hx=>List.all_eq_true.1 h x (List.mem_of_mem_take hx)
theorem Cr (n0:Bool) (z:Q0) (sg:Bool) (s:Q1) (n i:Nat) (hs:s.all fh=true) (hi:i<s.length) (G:s.length<=1000000000) (hn:(ao n).length<=1000000000) :
  F.Io n0 z sg s 16 (ao n,(i:Int))=some (.inl (ao (16*n+lE (s.getD i 0)),((i+1:Nat):Int))):=by
 have hc:=vm hs hi
 obtain⟨c,j⟩:∃c,s.getD i 0=c:=⟨_,rfl⟩
 rw[j]at hc ⊢
 have A:=xM hc
 have B:wI ((i:Int)+1)=((i+1:Nat):Int):=by rw[aI (by omega) (by omega)]; rfl
 have k:∀d:Nat,d<16->F.HI 16 (ao n) (i:Int) (d:Int)=some (.inl (ao (16*n+d),((i+1:Nat):Int))):=by
  intro d A
  unfold F.HI
  have o:(UInt64.ofInt 16).toNat=16:=rfl
  have t:(UInt64.ofInt (d:Int)).toNat=d:=by rw[UInt64.ofInt,UInt64.toNat_ofNat']; omega
  have f:(ao 16).length<=1:=ba (by decide)
  have g:(ao d).length<=1:=ba (by omega)
  have I:=kY n 16
  rw[if_neg (by simp only[decide_eq_true_eq]; omega),jl,ae,o,A1 _ _ (by omega),ae,jl,ae,t,aw,aw,qM _ _ (by omega) (by omega),ae,aw,aw,B,Nat.mul_comm n 16]
  rfl
 unfold F.Io
 dsimp only
 rw[if_pos (decide_eq_true (by omega)),aT hi 0,ae,j]
 unfold fh at hc
 simp only[Bool.or_eq_true,Bool.and_eq_true,decide_eq_true_eq]at hc
 rw[if_pos (decide_eq_true (by rw[UInt8.le_iff_toNat_le]; have:(48:UInt8).toNat=48:=rfl; omega))]
 unfold F.Lf
 by_cases h:c.toNat<=57
 ·have f:(c - 48).toNat=c.toNat - 48:=UInt8.toNat_sub_of_le _ _ (by rw[UInt8.le_iff_toNat_le]; have:(48:UInt8).toNat=48:=rfl; omega)
  have g:lE c=c.toNat - 48:=if_pos h
  rw[if_pos (decide_eq_true (by rw[UInt8.le_iff_toNat_le]; exact h)),aV,f,g]
  exact k _ (by omega)
 ·have f:(c - 97).toNat=c.toNat - 97:=UInt8.toNat_sub_of_le _ _ (by rw[UInt8.le_iff_toNat_le]; have:(97:UInt8).toNat=97:=rfl; omega)
  have g:lE c=c.toNat - 87:=if_neg h
  rw[if_neg (by rw[decide_eq_true_eq,UInt8.le_iff_toNat_le]; exact h),if_pos (decide_eq_true (by rw[UInt8.le_iff_toNat_le]; have:(97:UInt8).toNat=97:=rfl; omega))]
  unfold F.K2
  rw[if_pos (decide_eq_true (by rw[UInt8.le_iff_toNat_le]; have:(122:UInt8).toNat=122:=rfl; omega)),aV,f,aI (by omega) (by omega),g,show ((c.toNat - 97:Nat):Int)+10=((c.toNat - 87:Nat):Int) by omega]
  exact k _ (by omega)
theorem tY (n0:Bool) (o:Q0) (s:Q1) (hs:s.all fh=true) (t:s≠[]) (z:s.length<=1000000000):F.KR n0 o s 16=some (true,false,ao (dV s)):=by
 have hl:0<s.length:=List.length_pos_iff.2 t
 have hc:=vm hs hl
 unfold fh at hc
 simp only[Bool.or_eq_true,Bool.and_eq_true,decide_eq_true_eq]at hc
 have j:∀d:UInt8,d.toNat<48->(s.getD 0 0 == d)=false:=fun d G=>by
  rw[beq_eq_false_iff_ne]; intro h; rw[h]at hc; omega
 unfold F.KR
 rw[if_pos (decide_eq_true (by omega)),show (0:Int)=((0:Nat):Int) from rfl,aT hl 0,ae,if_neg (by rw[j 45 (by decide)]; decide),ae,j 43 (by decide)]
 unfold F.Kn F.Lt
 rw[if_neg (by decide)]
 dsimp only
 rw[if_neg (by decide)]
 unfold F.Ip
 dsimp only
 rw[if_neg (by simpa using t),if_neg (by decide)]
 unfold F.Jd
 rw[if_neg (by decide)]
 have B:∀i,i<=s.length->(ao (dV (s.take i))).length<=1000000000:=fun i hi=>by
  have A:=xy (s.take i) (Cf hs i)
  rw[List.length_take,Nat.min_eq_left hi]at A
  have I:=iV (k:=i) (Nat.lt_of_lt_of_le A (Nat.pow_le_pow_left (by decide) i))
  omega
 have e:=cA (f:=F.Io n0 o false s 16) (fun (x:Nat) i=>(ao x,(i:Int))) (fun i x=>i<=s.length->x=dV (s.take i)) (fun x i=>16*x+lE (s.getD i 0)) 0 s.length
  (X:=fun x=>some (true,false,ao x))
  (fun i x _ hi hx=>by
   have hx:=hx (by omega)
   exact⟨Cr n0 o false s x i hs hi z (by rw[hx]; exact B i (by omega)),fun _=>by rw[hx,mg s hi]⟩)
  (fun x hx=>by
   unfold F.Io
   dsimp only
   rw[if_neg (by simp),sa,ae]; rfl)
  s.length 0 0 (Nat.le_refl _) (by omega) (fun _=>by simp[dV])
 have g:=cQ (fun i (x:Nat)=>i<=s.length->x=dV (s.take i)) (fun x i=>16*x+lE (s.getD i 0)) (fun i x hx=>fun hi=>by rw[hx (by omega),mg s (by omega)]) s.length 0 0 (fun _=>by simp[dV])
 rw[Nat.zero_add]at g
 have g:=g (Nat.le_refl _)
 rw[g,List.take_length,bG]at e
 exact e
end Go.Gk.Bn
end

section
namespace Go.Gk.Bn
open Go Go.Gk Go.Gk.Sh
theorem pt (a:Q0) (ha:a.length<=4611686018427387904):∀k,k<=a.length->(∀j,k<=j->a.getD j 0=0)->∃m,loop (F.Kj a) k=some m/\m<=a.length/\a.take m=ao (val a)
 | 0,_,hz=>by
  refine⟨0,?_,by omega,k6 (by omega) hz (.inl rfl)⟩
  have h:F.Kj a 0=bz (grd (0<=(((a.take 0).length:Int):Int)/\(((a.take 0).length:Int):Int).toNat<=(a.take 0).length/\(((a.take 0).length:Int):Int)=((a.take 0).length:Int)) <| some ((((a.take 0).length:Int):Int).toNat)):=rfl
  rw[bu h,grd_true _ (by simp)]; rfl
 | k+1,hk,hz=>by
  have hl:(a.take (k+1)).length=k+1:=by rw[List.length_take]; omega
  have w:wI (((k+1:Nat):Int) - 1)=(k:Int):=by rw[aI (by omega) (by omega)]; omega
  have hg:aC (a.take (k+1)) (k:Int)=some (a.getD k 0):=by
   rw[aT (show k<(a.take (k+1)).length by omega) 0]
   congr 1
   rw[List.getD_eq_getElem?_getD,List.getElem?_take,if_pos (by omega),<-List.getD_eq_getElem?_getD]
  have f:F.Kj a (k+1)=if (decide ((0:Int)<((a.take (k+1)).length:Int)))=true then ah (aC (a.take (k+1)) (wI (((a.take (k+1)).length:Int) - 1):Int)) fun g=>F.HN a (k+1) (g == 0) else F.HN a (k+1) false:=rfl
  rw[hl,if_pos (decide_eq_true (by omega)),w,hg,ae]at f
  by_cases h0:a.getD k 0=0
  ·obtain⟨m,i,o⟩:=pt a ha k (by omega) (fun j t=>by
    rcases Nat.lt_or_ge k j with h | h
    ·exact hz j (by omega)
    ·rw[show j=k by omega]; exact h0)
   refine⟨m,?_,o⟩
   rw[<-i]
   refine bB ?_
   rw[f,h0]
   unfold F.HN
   rw[if_pos (by rfl),hl,w,grd_true _ (by omega)]; rfl
  ·refine⟨k+1,?_,hk,k6 hk hz (.inr (by simpa using h0))⟩
   have hn:(a.getD k 0 == 0)=false:=by rw[beq_eq_false_iff_ne]; exact h0
   rw[hn]at f
   unfold F.HN at f
   rw[if_neg (by decide),hl]at f
   rw[bu f,grd_true _ (by omega)]; rfl
theorem eo (a:Q0) (ha:a.length<=4611686018427387904):∃m,F.GS a=some m/\m<=a.length/\a.take m=ao (val a):=
 pt a ha a.length (Nat.le_refl _) fun j f=>dY f
theorem dD (a:Q0) (ha:a.length<=4611686018427387904):∃m,F.GI a=some m/\m<=a.length/\a.take m=ao (val a):=by
 obtain⟨m,f,g⟩:=eo a ha
 exact⟨m,by unfold F.GI; rw[f,ae],g⟩
theorem t9 {n k:Nat} (h:2^k<=n):nb n=nb (n / 2^k)+k:=by
 have f:=Nat.two_pow_pos k
 have g:n / 2^k≠0:=by
  have:=Nat.div_le_div_right (c:=2^k) h
  rw[Nat.div_self f]at this; omega
 obtain⟨i,j⟩:=c9 (n / 2^k)
 obtain⟨o,t⟩:=j g
 refine np ?_ ?_ (by omega)
 ·rw[Nat.pow_add]; exact (Nat.div_lt_iff_lt_mul f).1 i
 ·rw[show nb (n / 2^k)+k - 1=nb (n / 2^k) - 1+k by omega,Nat.pow_add]
  exact (Nat.le_div_iff_mul_le f).1 o
def rZ:Q1:=[0,1,2,2,3,3,3,3,4,4,4,4,4,4,4,4,5,5,5,5,5,5,5,5,5,5,5,5,5,5,5,5,6,6,6,6,6,6,6,6,6,6,6,6,6,6,6,6,6,6,6,6,6,6,6,6,6,6,6,6,6,6,6,6,7,7,7,7,7,7,7,7,7,7,7,7,7,7,7,7,7,7,7,7,7,7,7,7,7,7,7,7,7,7,7,7,7,7,7,7,7,7,7,7,7,7,7,7,7,7,7,7,7,7,7,7,7,7,7,7,7,7,7,7,7,7,7,7,8,8,8,8,8,8,8,8,8,8,8,8,8,8,8,8,8,8,8,8,8,8,8,8,8,8,8,8,8,8,8,8,8,8,8,8,8,8,8,8,8,8,8,8,8,8,8,8,8,8,8,8,8,8,8,8,8,8,8,8,8,8,8,8,8,8,8,8,8,8,8,8,8,8,8,8,8,8,8,8,8,8,8,8,8,8,8,8,8,8,8,8,8,8,8,8,8,8,8,8,8,8,8,8,8,8,8,8,8,8,8,8,8,8,8,8,8,8,8,8,8,8,8,8,8,8,8,8]
def ck (i:Nat) (t:Nat):Bool:=Nat.blt i (2^t)&&(Nat.beq i 0&&Nat.beq t 0 || Nat.ble (2^(t - 1)) i&&Nat.ble 1 t)
def ckA:Q1->Nat->Bool
 | [],_=>true
 | x :: l,i=>ck i x.toNat&&ckA l (i+1)
theorem Ao:∀(l:Q1) (i j:Nat),ckA l i=true->j<l.length->ck (i+j) (l.getD j 0).toNat=true
 | [],_,_,_,h=>by simp at h
 | x :: l,i,0,h,_=>by
  rw[ckA,Bool.and_eq_true]at h
  exact h.1
 | x :: l,i,j+1,h,hj=>by
  rw[ckA,Bool.and_eq_true]at h
  have:=Ao l (i+1) j h.2 (by simpa using hj)
  rw[List.getD_cons_succ,show i+(j+1)=i+1+j by omega]
  exact this
theorem Dz:ckA rZ 0=true:=by decide +kernel
theorem BU:Nat.beq rZ.length 256=true:=by decide +kernel
theorem Fs (b:Nat) (hb:b<256):∃t:UInt8,aC rZ (b:Int)=some t/\t.toNat=nb b:=by
 have hl:=Nat.eq_of_beq_eq_true BU
 have h:=Ao rZ 0 b Dz (by omega)
 rw[Nat.zero_add]at h
 unfold ck at h
 rw[Bool.and_eq_true,Bool.or_eq_true,Bool.and_eq_true,Bool.and_eq_true]at h
 obtain⟨i,f⟩:=h
 rw[Nat.blt_eq]at i
 refine⟨rZ.getD b 0,aT (by omega) 0,?_⟩
 rcases f with⟨f,g⟩ | ⟨f,g⟩
 ·rw[Nat.eq_of_beq_eq_true f,fR]
  rw[Nat.eq_of_beq_eq_true f]at g
  exact Nat.eq_of_beq_eq_true g
 ·exact (np i (Nat.le_of_ble_eq_true f) (Nat.le_of_ble_eq_true g)).symm
theorem wi (y:UInt32) (k:Int):F.JO (y,k)=ah (aC rZ (y.toUInt8.toNat:Int)) fun g=>bq (wI (k+(g.toNat:Int))) fun f=>some f:=rfl
theorem ub (x:UInt32):F.Ko x=some (nb x.toNat:Int):=by
 have hx:=cn x
 have g:∀(y:UInt32) (k:Nat),y.toNat<256->k<=24->F.JO (y,(k:Int))=some ((nb y.toNat+k:Nat):Int):=by
  intro y k hy j
  have f:y.toUInt8.toNat=y.toNat:=by rw[UInt32.toNat_toUInt8]; omega
  obtain⟨t,o,z⟩:=Fs y.toNat hy
  have A:=gv (n:=y.toNat) (k:=8) hy
  rw[wi,f,o,ae,aV,z,aI (by omega) (by omega)]
  congr 1; omega
 have i:∀(y:UInt32) (k:Nat),y.toNat<65536->k<=16->F.JP (y,(k:Int))=some ((nb y.toNat+k:Nat):Int):=by
  intro y k hy j
  unfold F.JP
  dsimp only
  by_cases h:256<=y.toNat
  ·have f:(bv y 8).toNat=y.toNat / 2^8:=by rw[gq]; rfl
   rw[if_pos (decide_eq_true (by rw[UInt32.le_iff_toNat_le]; exact h)),aI (by omega) (by omega),show (k:Int)+8=((k+8:Nat):Int) by omega,g _ _ (by rw[f]; omega) (by omega),f,t9 (n:=y.toNat) (k:=8) (by omega)]
   congr 1; omega
  ·rw[if_neg (by rw[decide_eq_true_eq,UInt32.le_iff_toNat_le]; exact h)]
   exact g y k (by omega) (by omega)
 unfold F.Ko
 by_cases h:65536<=x.toNat
 ·have f:(bv x 16).toNat=x.toNat / 2^16:=by rw[gq]; rfl
  rw[if_pos (decide_eq_true (by rw[UInt32.le_iff_toNat_le]; exact h)),show (16:Int)=((16:Nat):Int) from rfl,i _ _ (by rw[f]; omega) (by omega),f,t9 (n:=x.toNat) (k:=16) (by omega)]
 ·rw[if_neg (by rw[decide_eq_true_eq,UInt32.le_iff_toNat_le]; exact h),show (0:Int)=((0:Nat):Int) from rfl,i _ _ (by omega) (by omega),Nat.add_zero]
theorem ew (a:Q0) (ha:a.length<=100000000000000):F.GN a=some (nb (val a):Int):=by
 obtain⟨m,f,j,g⟩:=dD a (by omega)
 have hl:(ao (val a)).length<=a.length:=ba (bD a)
 unfold F.GN
 rw[f,ae,g,<-lI]
 unfold jx
 by_cases h0:(ao (val a)).length=0
 ·rw[if_pos (by rw[h0]; rfl),if_pos h0]; rfl
 ·have i:wI (((ao (val a)).length:Int) - 1)=(((ao (val a)).length - 1:Nat):Int):=by rw[aI (by omega) (by omega)]; omega
  have k:=BB ((ao (val a)).getD ((ao (val a)).length - 1) 0)
  rw[if_neg (by simpa using fun h=>h0 (by rw[h]; rfl)),if_neg h0,i,aT (by omega) 0,ae,ub,ae,aI (x:=32*_) (by omega) (by omega),aI (by omega) (by omega)]
  congr 1
theorem xQ (o:Q1) (a:Q0) (Y:o.length<=1000000000000000) (ha:a.length<=100000000000000):F.Ju o a=some (beB o.length (val a)):=by
 unfold F.Ju
 have e:=cA (f:=F.Ky o a) (fun (y:Q1) i=>((i:Int),y)) (fun i y=>i<=o.length->y.length=o.length/\∀k,k<i->y.getD k 0=UInt8.ofNat (val a / 256^(o.length - 1 - k))) (fun y i=>y.set i (UInt8.ofNat (val a / 256^(o.length - 1 - i)))) 0 o.length
  (X:=fun y=>some y)
  (fun i y _ hi hy=>by
   obtain⟨hl,hy⟩:=hy (by omega)
   refine⟨?_,fun _=>⟨by simpa using hl,fun k A=>?_⟩⟩
   ·have G:wI ((i:Int)+1)=((i+1:Nat):Int):=by rw[aI (by omega) (by omega)]; rfl
    obtain⟨g,z⟩:∃t,o.length - 1 - i=t:=⟨_,rfl⟩
    have M:wI ((wI ((y.length:Int) - 1)) - (i:Int))=(g:Int):=by rw[hl,aI (x:=(o.length:Int) - 1) (by omega) (by omega),aI (by omega) (by omega)]; omega
    have N:wI (Int.tdiv (g:Int) 4)=((g / 4:Nat):Int):=by rw[Int.tdiv_eq_ediv_of_nonneg (by omega),aI (by omega) (by omega)]; omega
    have O:wI (8*(Int.tmod (g:Int) 4))=((8*(g%4):Nat):Int):=by rw[Int.tmod_eq_emod_of_nonneg (by omega),aI (by omega) (by omega)]; omega
    unfold F.Ky
    dsimp only
    rw[if_pos (decide_eq_true (by omega)),M,aV,aT (show i<y.length by omega) 0,ae,aV,N,Int.toNat_natCast]
    by_cases h:g / 4<a.length
    ·rw[if_pos (decide_eq_true (by omega)),aT h 0,ae,O,grd_true _ (by omega),aT (show i<(y.set i 0).length by simp; omega) 0,ae,aV,Int.toNat_natCast,sH,z]
     unfold F.Ks
     rw[G,List.set_set]; rfl
    ·rw[if_neg (by simp only[decide_eq_true_eq]; omega)]
     unfold F.Ks
     have R:val a / 256^g=0:=by
      refine Nat.div_eq_of_lt (Nat.lt_of_lt_of_le (bD a) ?_)
      rw[show (4294967296:Nat)=256^4 from rfl,<-Nat.pow_mul]
      exact Nat.pow_le_pow_right (by decide) (by omega)
     rw[G,z,R]; rfl
   ·rw[List.getD_eq_getElem?_getD,List.getElem?_set]
    by_cases j:i=k
    ·subst j; rw[if_pos rfl,if_pos (by omega)]; rfl
    ·rw[if_neg j,<-List.getD_eq_getElem?_getD]; exact hy k (by omega))
  (fun y hy=>by
   unfold F.Ky
   dsimp only
   rw[if_neg (by simp)])
  o.length 0 o (Nat.le_refl _) (by omega) (fun _=>⟨rfl,fun k A=>by omega⟩)
 have B:=cQ (fun i (y:Q1)=>i<=o.length->y.length=o.length/\∀k,k<i->y.getD k 0=UInt8.ofNat (val a / 256^(o.length - 1 - k))) (fun y i=>y.set i (UInt8.ofNat (val a / 256^(o.length - 1 - i))))
  (fun i y hy=>fun hi=>by
   obtain⟨hl,hy⟩:=hy (by omega)
   refine⟨by simpa using hl,fun k A=>?_⟩
   rw[List.getD_eq_getElem?_getD,List.getElem?_set]
   by_cases j:i=k
   ·subst j; rw[if_pos rfl,if_pos (by omega)]; rfl
   ·rw[if_neg j,<-List.getD_eq_getElem?_getD]; exact hy k (by omega)) o.length 0 o (fun _=>⟨rfl,fun k A=>by omega⟩)
 rw[Nat.zero_add]at B
 obtain⟨y,hy⟩:∃y,(List.range' 0 o.length).foldl (fun y i=>y.set i (UInt8.ofNat (val a / 256^(o.length - 1 - i)))) o=y:=⟨_,rfl⟩
 rw[hy]at B e
 obtain⟨U,V⟩:=B (Nat.le_refl _)
 refine e.trans ?_
 congr 1
 refine List.ext_getElem (by rw[U,gL]) fun k I j=>?_
 have J:=V k (by omega)
 have K:=vC o.length (val a) k (by omega)
 rw[List.getD_eq_getElem?_getD,List.getElem?_eq_getElem I]at J
 rw[List.getD_eq_getElem?_getD,List.getElem?_eq_getElem j]at K
 exact J.trans K.symm
theorem AY (a:Q0) (ha:a.length<=35184372087808):F.K9 a=some (beB (nby (val a)) (val a)):=by
 obtain⟨m,f,i,g⟩:=dD a (by omega)
 have hl:(ao (val a)).length<=a.length:=ba (bD a)
 have hb:=ib (val a)
 have h:wI (Int.tdiv (wI ((nb (val a):Int)+7)) 8)=(nby (val a):Int):=by
  rw[aI (x:=(nb (val a):Int)+7) (by omega) (by omega),Int.tdiv_eq_ediv_of_nonneg (by omega),aI (by omega) (by omega)]; unfold nby; omega
 have hn:nby (val a)<=4*(ao (val a)).length:=by unfold nby; omega
 unfold F.K9
 rw[ew a (by omega),ae,h,aV,dv (by omega),ae,f,ae,g,xQ _ _ (by simp; omega) (by omega),ae,Int.toNat_natCast,List.length_replicate,aw]
theorem D5 (x y:UInt32) (t:Nat) (hy:y.toNat<256) (f:t<4) (hx:x.toNat%256^(t+1)=0):(x ||| cu y (8*t)).toNat=x.toNat+y.toNat*256^t:=by
 have hs:(cu y (8*t)).toNat=y.toNat*256^t:=by
  rw[pm,Nat.min_eq_left (by omega),Nat.pow_mul,show (2:Nat)^8=256 from rfl,Nat.mod_eq_of_lt]
  have:t=0\/t=1\/t=2\/t=3:=by omega
  rcases this with h | h | h | h <;> subst h <;> simp <;> omega
 rw[UInt32.toNat_or,hs]
 refine gA (8*(t+1)) (by rw[Nat.pow_mul]; exact hx) ?_
 rw[Nat.pow_mul,Nat.pow_succ,Nat.mul_comm]
 exact Nat.mul_lt_mul_of_pos_left hy (Nat.pow_pos (by decide))
theorem CP {l:Q0} {q t:Nat} (i:t<=4) (h:val l%256^(4*q+t)=0):(l.getD q 0).toNat%256^t=0:=by
 have g:val l / 256^(4*q)%256^t=0:=by
  rw[Nat.pow_add]at h
  have:=Nat.mod_mul_right_div_self (val l) (256^(4*q)) (256^t)
  rw[h,Nat.zero_div]at this
  exact this.symm
 rw[Nat.pow_mul,show (256:Nat)^4=4294967296 from rfl,fw,cq]at g
 have:t=0\/t=1\/t=2\/t=3\/t=4:=by omega
 rcases this with f | f | f | f | f <;> subst f <;> simp at g ⊢ <;> omega
theorem cz (b:Q1) (hb:b.length<=140737488351232):F.GJ b=some (ao (beN b)):=by
 obtain⟨n,hn⟩:∃n,(b.length+3) / 4=n:=⟨_,rfl⟩
 have w0:wI (Int.tdiv (wI ((b.length:Int)+3)) 4)=(n:Int):=by
  rw[aI (x:=(b.length:Int)+3) (by omega) (by omega),Int.tdiv_eq_ediv_of_nonneg (by omega),aI (by omega) (by omega)]; omega
 unfold F.GJ
 rw[w0,dv (by omega),ae,Int.toNat_natCast]
 have h:∀(i:Nat) (y:Q0),i<b.length->(y.length=n/\val y=beN (b.take i)*256^(b.length - i)) ->
   ((y.set ((b.length - 1 - i) / 4) (y.getD ((b.length - 1 - i) / 4) 0 ||| cu (b.getD i 0).toUInt32 (8*((b.length - 1 - i)%4)))).length=n /\
    val (y.set ((b.length - 1 - i) / 4) (y.getD ((b.length - 1 - i) / 4) 0 ||| cu (b.getD i 0).toUInt32 (8*((b.length - 1 - i)%4))))=beN (b.take (i+1))*256^(b.length - (i+1))):=by
  rintro i y hi ⟨k,A⟩
  obtain⟨t,o⟩:∃t,b.length - 1 - i=t:=⟨_,rfl⟩
  rw[o]
  have j:(b.getD i 0).toUInt32.toNat=(b.getD i 0).toNat:=UInt8.toNat_toUInt32 _
  have N:=(b.getD i 0).toNat_lt
  have B:=ef y (t / 4) (y.getD (t / 4) 0 ||| cu (b.getD i 0).toUInt32 (8*(t%4))) (by omega)
  have hm:(y.getD (t / 4) 0).toNat%256^(t%4+1)=0:=by
   refine CP (by omega) ?_
   rw[show 4*(t / 4)+(t%4+1)=b.length - i by omega,A,Nat.mul_mod_left]
  rw[D5 _ _ _ (by rw[j]; omega) (by omega) hm,j,Nat.mul_add]at B
  refine⟨by simpa using k,?_⟩
  have G:4294967296^(t / 4)*((b.getD i 0).toNat*256^(t%4))=(b.getD i 0).toNat*256^t:=by
   rw[show (4294967296:Nat)=256^4 from rfl,<-Nat.pow_mul,Nat.mul_left_comm,<-Nat.pow_add]; congr 2; omega
  rw[G]at B
  rw[ik b hi,show b.length - (i+1)=t by omega,Nat.add_mul]
  have z:256*beN (b.take i)*256^t=beN (b.take i)*256^(b.length - i):=by
   rw[show b.length - i=t+1 by omega,Nat.pow_succ,Nat.mul_comm 256,Nat.mul_assoc,Nat.mul_comm 256]
  rw[z]
  omega
 have e:=cA (f:=F.Jn b) (fun (y:Q0) i=>((i:Int),y)) (fun i y=>i<=b.length->y.length=n/\val y=beN (b.take i)*256^(b.length - i))
  (fun y i=>y.set ((b.length - 1 - i) / 4) (y.getD ((b.length - 1 - i) / 4) 0 ||| cu (b.getD i 0).toUInt32 (8*((b.length - 1 - i)%4)))) 0 b.length
  (X:=fun y=>some (ao (val y)))
  (fun i y _ hi hy=>by
   have hy:=hy (by omega)
   refine⟨?_,fun _=>h i y hi hy⟩
   obtain⟨t,o⟩:∃t,b.length - 1 - i=t:=⟨_,rfl⟩
   rw[o]
   have O:=hy.1
   have I:wI ((i:Int)+1)=((i+1:Nat):Int):=by rw[aI (by omega) (by omega)]; rfl
   have J:wI ((wI ((b.length:Int) - 1)) - (i:Int))=(t:Int):=by rw[aI (x:=(b.length:Int) - 1) (by omega) (by omega),aI (by omega) (by omega)]; omega
   have K:wI (Int.tdiv (t:Int) 4)=((t / 4:Nat):Int):=by rw[Int.tdiv_eq_ediv_of_nonneg (by omega),aI (by omega) (by omega)]; omega
   have M:wI (8*(Int.tmod (t:Int) 4))=((8*(t%4):Nat):Int):=by rw[Int.tmod_eq_emod_of_nonneg (by omega),aI (by omega) (by omega)]; omega
   unfold F.Jn
   dsimp only
   rw[if_pos (decide_eq_true (by omega)),aT hi 0,ae,J,aV,K,aT (show t / 4<y.length by omega) 0,ae,M,grd_true _ (by omega),ae,aV,Int.toNat_natCast,Int.toNat_natCast,I]
   rfl)
  (fun y hy=>by
   obtain⟨m,k,A,z⟩:=eo y (by have:=(hy (Nat.le_refl _)).1; omega)
   unfold F.Jn
   dsimp only
   rw[if_neg (by simp),k,ae,z])
  b.length 0 (List.replicate n 0) (Nat.le_refl _) (by omega) (fun _=>⟨by simp,by rw[dn]; simp[beN]⟩)
 have g:=cQ (fun i (y:Q0)=>i<=b.length->y.length=n/\val y=beN (b.take i)*256^(b.length - i)) (fun y i=>y.set ((b.length - 1 - i) / 4) (y.getD ((b.length - 1 - i) / 4) 0 ||| cu (b.getD i 0).toUInt32 (8*((b.length - 1 - i)%4))))
  (fun i y hy=>fun hi=>h i y (by omega) (hy (by omega))) b.length 0 (List.replicate n 0) (fun _=>⟨by simp,by rw[dn]; simp[beN]⟩)
 rw[Nat.zero_add]at g
 have g:=(g (Nat.le_refl _)).2
 rw[g,Nat.sub_self,Nat.pow_zero,Nat.mul_one,List.take_length]at e
 exact e
end Go.Gk.Bn
end
