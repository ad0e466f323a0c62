import Derived.Test.YtahgjafdhjbkeaaGreatDoorGkFman
import Derived.Test.YtahgjafdhjbkeaaGreatDoorGkUA
set_option linter.unusedVariables false
set_option linter.unusedSimpArgs false
set_option linter.unusedSectionVars false

section
namespace Go.Gk.Bn
open Go Go.Gk Go.Gk.Sh
theorem kL (a:L0) (i:Nat):F.DK a (i:Int)=some (a.getD i 0).toUInt64:=by
 unfold F.DK
 by_cases h:a.length<=i
 ·rw[if_pos (decide_eq_true (by omega)),dU h]; rfl
 ·rw[if_neg (by simp only[decide_eq_true_eq]; omega),aP (show i<a.length by omega) 0,ae]
theorem wT (a:L0) (i:Nat):F.Gc a (i:Int)=some (a.getD i 0).toUInt64:=by
 unfold F.Gc
 by_cases h:a.length<=i
 ·rw[if_pos (decide_eq_true (by omega)),dU h]; rfl
 ·rw[if_neg (by simp only[decide_eq_true_eq]; omega),aP (show i<a.length by omega) 0,ae]
theorem nM (x y:UInt32):x.toUInt64<y.toUInt64↔x.toNat<y.toNat:=by rw[UInt64.lt_iff_toNat_lt,bV,bV]
theorem dP (a:L0) (x:a.length<=50000000000000):F.DB a=some (an (val a)):=by
 unfold F.DB
 obtain⟨n,i,o,q⟩:=nf (f:=F.I8 a) a (fun j=>ah (tkO a (j:Int)) fun k=>ah (apO 4 [] k) fun g=>some g) (by omega) (fun n i=>by
  unfold F.I8 F.Jb
  by_cases h0:n=0
  ·subst h0
   rw[if_neg (by simp),if_neg (by simp)]
   rfl
  ·have t:wI ((n:Int) - 1)=((n - 1:Nat):Int):=by rw[aJ (by omega) (by omega)]; omega
   rw[if_pos (decide_eq_true (by omega)),t,aP (show n - 1<a.length by omega) 0,ae]
   by_cases hz:a.getD (n - 1) 0=0
   ·rw[if_pos (show n≠0/\a.getD (n - 1) 0=0 from⟨h0,hz⟩),if_pos (show (a.getD (n - 1) 0 == 0)=true from by rw[hz]; rfl)]; rfl
   ·rw[if_neg (show ¬(n≠0/\a.getD (n - 1) 0=0) from fun h=>hz h.2),if_neg (show ¬(a.getD (n - 1) 0 == 0)=true from fun h=>hz (eq_of_beq h))])
 have m:apO 4 [] (a.take n)=some (a.take n):=by unfold apO; rw[if_pos (by simp; omega)]; simp
 rw[q,Ct i,ae,m,ae,o]
theorem io (a b:L0) (k:Nat) (h:val (a.drop (k+1))=val (b.drop (k+1))) (i:(a.getD k 0).toNat<(b.getD k 0).toNat):val a<val b:=by
 have j:=ch a k; have m:=ch b k
 have g:val (a.drop k)<val (b.drop k):=by omega
 rw[<-fe,<-fe]at g
 exact Nat.lt_of_not_le fun f=>by have:=Nat.div_le_div_right (c:=4294967296^k) f; omega
theorem gh (a b:L0) (j:a.length<=4611686018427387904) (o:b.length<=4611686018427387904):F.DJ a b=some (cD (val a) (val b)):=by
 unfold F.DJ
 obtain⟨m,q⟩:∃m,max a.length b.length=m:=⟨_,rfl⟩
 have w0:wI ((max (a.length:Int) (b.length:Int)) - 1)=(m:Int) - 1:=by rw[aJ (by omega) (by omega)]; omega
 rw[w0,aS]
 have g:∀k,k<=m->val (a.drop k)=val (b.drop k)->loop (F.Fd a b) ((k:Int) - 1)=some (cD (val a) (val b)):=by
  intro k
  induction k with
  | zero=>
   intro _ h
   rw[List.drop_zero,List.drop_zero]at h
   refine cQ ?_
   unfold F.Fd cD
   rw[if_neg (by decide),h,if_neg (by omega),if_pos rfl]; rfl
  | succ k ih=>
   intro t h
   have i:(((k+1:Nat):Int)) - 1=(k:Int):=by omega
   rw[i]
   have f:F.Fd a b (k:Int)=if (a.getD k 0).toNat<(b.getD k 0).toNat then some (.inr (-1)) else if (b.getD k 0).toNat<(a.getD k 0).toNat then some (.inr 1) else some (.inl ((k:Int) - 1)):=by
    unfold F.Fd
    rw[if_pos (decide_eq_true (by omega)),kL,ae,kL,ae]
    by_cases h1:(a.getD k 0).toNat<(b.getD k 0).toNat
    ·rw[if_pos (decide_eq_true ((nM _ _).2 h1)),if_pos h1]; rfl
    ·rw[if_neg (by rw[decide_eq_true_eq,nM]; exact h1),if_neg h1,ae,ae]
     by_cases h2:(b.getD k 0).toNat<(a.getD k 0).toNat
     ·rw[if_pos (decide_eq_true ((nM _ _).2 h2)),if_pos h2]; rfl
     ·rw[if_neg (by rw[decide_eq_true_eq,nM]; exact h2),if_neg h2,aJ (by omega) (by omega)]; rfl
   by_cases h1:(a.getD k 0).toNat<(b.getD k 0).toNat
   ·rw[if_pos h1]at f
    have:=io a b k h h1
    rw[cQ f]; unfold cD; rw[if_pos this]
   ·rw[if_neg h1]at f
    by_cases h2:(b.getD k 0).toNat<(a.getD k 0).toNat
    ·rw[if_pos h2]at f
     have:=io b a k h.symm h2
     rw[cQ f]; unfold cD; rw[if_neg (by omega),if_neg (by omega)]
    ·rw[if_neg h2]at f
     rw[bJ f]
     refine ih (by omega) ?_
     rw[ch a k,ch b k,h]; omega
 exact g m (Nat.le_refl _) (by rw[List.drop_of_length_le (by omega),List.drop_of_length_le (by omega)])
theorem qO (a b:L0) (q:a.length<=4611686018427387904) (t:b.length<=4611686018427387904):F.Fv a b=some (cD (val a) (val b)):=by
 have j:∀k:Nat,k<=4611686018427387904->val (a.drop k)=val (b.drop k)->loop (F.E1 a b) ((k:Int) - 1)=some (cD (val a) (val b)):=by
  intro k
  induction k with
  | zero=>
   intro _ h
   rw[List.drop_zero,List.drop_zero]at h
   refine cQ ?_
   unfold F.E1 cD
   rw[if_neg (by decide),h,if_neg (by omega),if_pos rfl]; rfl
  | succ k ih=>
   intro z h
   have x:(((k+1:Nat):Int)) - 1=(k:Int):=by omega
   rw[x]
   have i:F.E1 a b (k:Int)=if (a.getD k 0).toNat<(b.getD k 0).toNat then some (.inr (-1)) else if (b.getD k 0).toNat<(a.getD k 0).toNat then some (.inr 1) else some (.inl ((k:Int) - 1)):=by
    unfold F.E1
    rw[if_pos (decide_eq_true (by omega)),wT,ae,wT,ae]
    by_cases f:(a.getD k 0).toNat<(b.getD k 0).toNat
    ·rw[if_pos (decide_eq_true ((nM _ _).2 f)),if_pos f]; rfl
    ·rw[if_neg (by rw[decide_eq_true_eq,nM]; exact f),if_neg f]
     by_cases g:(b.getD k 0).toNat<(a.getD k 0).toNat
     ·rw[if_pos (decide_eq_true ((nM _ _).2 g)),if_pos g]; rfl
     ·rw[if_neg (by rw[decide_eq_true_eq,nM]; exact g),if_neg g,aJ (by omega) (by omega)]; rfl
   by_cases f:(a.getD k 0).toNat<(b.getD k 0).toNat
   ·rw[if_pos f]at i
    have:=io a b k h f
    rw[cQ i]; unfold cD; rw[if_pos this]
   ·rw[if_neg f]at i
    by_cases g:(b.getD k 0).toNat<(a.getD k 0).toNat
    ·rw[if_pos g]at i
     have:=io b a k h.symm g
     rw[cQ i]; unfold cD; rw[if_neg (by omega),if_neg (by omega)]
    ·rw[if_neg g]at i
     rw[bJ i]
     refine ih (by omega) ?_
     rw[ch a k,ch b k,h]; omega
 have o:∀m:Nat,m<=4611686018427387904->a.length<=m->b.length<=m->F.Iv a b (m:Int)=some (cD (val a) (val b)):=by
  intro m y f g
  have w0:wI ((m:Int) - 1)=(m:Int) - 1:=aJ (by omega) (by omega)
  show loop (F.E1 a b) (wI ((m:Int) - 1))=_
  rw[w0]
  exact j m y (by rw[List.drop_of_length_le f,List.drop_of_length_le g])
 unfold F.Fv
 by_cases h:a.length<b.length
 ·rw[if_pos (decide_eq_true (by omega))]; exact o _ t (by omega) (Nat.le_refl _)
 ·rw[if_neg (by simp only[decide_eq_true_eq]; omega)]; exact o _ q (Nat.le_refl _) (by omega)
theorem kI (m a b:L0) (g:m.length<=50000000000000) (h:a.length<=50000000000000) (i:b.length<=50000000000000) (q:(an (val a)).length<=128) (t:(an (val b)).length<=128) (x:(an (val m)).length<=128) (y:1<val m) :
  F.D6 m [a,b]=some 0:=by
 unfold F.D6
 have j:F.DL m [a,b] 0=some (.inl 1):=by
  unfold F.DL
  rw[if_pos (by simp),yn,ae,dP a h,ae,if_neg (by simp only[decide_eq_true_eq]; omega)]; rfl
 have k:F.DL m [a,b] 1=some (.inl 2):=by
  unfold F.DL
  rw[if_pos (by simp),yD,ae,dP b i,ae,if_neg (by simp only[decide_eq_true_eq]; omega)]; rfl
 have o:F.DL m [a,b] 2=bn (some 0):=by
  unfold F.DL
  rw[if_neg (by simp),dP m g,ae,if_neg (by simp only[decide_eq_true_eq]; omega)]
  unfold F.Ep
  have f:val [1]=1:=rfl
  have hc:cD (val m) 1=1:=by unfold cD; rw[if_neg (by omega),if_neg (by omega)]
  rw[ae,gh _ _ (by omega) (by simp),ae,f,hc,if_neg (by decide)]
 rw[bJ j,bJ k,bL o]
theorem AA (s:UInt64):(s &&& 4294967295).toUInt32=s.toUInt32:=by
 apply UInt32.toNat_inj.1
 rw[ez,ez,UInt64.toNat_and]
 have:(4294967295:UInt64).toNat=2^32 - 1:=rfl
 rw[this,Nat.and_two_pow_sub_one_eq_mod]
 omega
theorem lA (a b:L0) (I:a.length<=40000000000000) (J:b.length<=40000000000000):F.Ei a b=some (an (val a+val b)):=by
 obtain⟨m,K⟩:∃m,max a.length b.length=m:=⟨_,rfl⟩
 have q:max (a.length:Int) (b.length:Int)=(m:Int):=by omega
 unfold F.Ei
 have k:∀(x:L0×UInt64) (i:Nat),x.2.toNat<=1->((a.getD i 0).toUInt64+(b.getD i 0).toUInt64)+x.2=x.2+(a.getD i 0).toUInt64+(b.getD i 0).toUInt64:=fun x i _=>by
  rw[UInt64.add_comm _ x.2,UInt64.add_assoc]
 have e:=ca (f:=F.Gd a b) (fun (x:L0×UInt64) i=>(x.1,x.2,(i:Int)))
  (fun i x=>x.1.length=i/\val x.1+4294967296^i*x.2.toNat=val (a.take i)+val (b.take i)/\x.2.toNat<=1) (iR a b) 0 (m+1)
  (X:=fun x=>some (an (val x.1)))
  (fun i x _ hi g=>by
   obtain⟨t,j,o⟩:=g
   refine⟨?_,lP t j o⟩
   have z:wI ((i:Int)+1)=((i+1:Nat):Int):=by rw[aJ (by omega) (by omega)]; rfl
   unfold F.Gd
   dsimp only
   rw[q,if_pos (decide_eq_true (by omega)),kL,ae,kL,ae,k x i o,AA,ef (by simp; omega),ae,aS,z]
   rfl)
  (fun x g=>by
   obtain⟨t,j,o⟩:=g
   unfold F.Gd
   dsimp only
   rw[q,if_neg (by simp only[decide_eq_true_eq]; omega),dP _ (by omega),ae])
  (m+1) 0 ([],0) (Nat.le_refl _) (by omega) ⟨rfl,by simp[val],by decide⟩
 have y:=cG (fun i (x:L0×UInt64)=>x.1.length=i/\val x.1+4294967296^i*x.2.toNat=val (a.take i)+val (b.take i)/\x.2.toNat<=1) (iR a b) (fun i x g=>lP g.1 g.2.1 g.2.2) (m+1) 0 ([],0) ⟨rfl,by simp[val],by decide⟩
 obtain⟨x,g⟩:∃x,(List.range' 0 (m+1)).foldl (iR a b) ([],0)=x:=⟨_,rfl⟩
 rw[g]at y e
 obtain⟨t,j,o⟩:=y
 rw[Nat.zero_add,List.take_of_length_le (by omega),List.take_of_length_le (by omega)]at j
 refine e.trans ?_
 -- no carry is left
 have B:val a<4294967296^m:=Nat.lt_of_lt_of_le (bv a) (Nat.pow_le_pow_right (by decide) (by omega))
 have G:val b<4294967296^m:=Nat.lt_of_lt_of_le (bv b) (Nat.pow_le_pow_right (by decide) (by omega))
 have M:=Nat.pow_pos (n:=m) (show 0<4294967296 by decide)
 have A:x.2.toNat=0:=by
  rcases Nat.eq_zero_or_pos x.2.toNat with h | h
  ·exact h
  ·have:4294967296^(m+1)*1<=4294967296^(m+1)*x.2.toNat:=Nat.mul_le_mul_left _ h
   rw[Nat.pow_succ]at this j
   omega
 rw[A,Nat.mul_zero,Nat.add_zero]at j
 rw[j]
end Go.Gk.Bn
end

section
namespace Go.Gk.Bn
open Go Go.Gk Go.Gk.Sh
theorem brw (u v:UInt32) (c:UInt64) (hc:c.toNat<=1) :
  (u.toUInt64<v.toUInt64+c↔u.toNat<v.toNat+c.toNat)/\(u.toNat<v.toNat+c.toNat->((u.toUInt64+4294967296) - (v.toUInt64+c)).toUInt32.toNat+v.toNat+c.toNat=u.toNat+4294967296) /\
   (¬u.toNat<v.toNat+c.toNat->(u.toUInt64 - (v.toUInt64+c)).toUInt32.toNat+v.toNat+c.toNat=u.toNat):=by
 have j:=cC u; have k:=cC v
 have f:(v.toUInt64+c).toNat=v.toNat+c.toNat:=by rw[fW _ _ (by rw[bV]; omega),bV]
 have g:(4294967296:UInt64).toNat=4294967296:=rfl
 have i:(u.toUInt64+4294967296).toNat=u.toNat+4294967296:=by rw[fW _ _ (by rw[bV,g]; omega),bV,g]
 refine⟨by rw[UInt64.lt_iff_toNat_lt,f,bV],fun h=>?_,fun h=>?_⟩
 ·rw[ez,UInt64.toNat_sub_of_le _ _ (by rw[UInt64.le_iff_toNat_le,f,i]; omega),f,i]; omega
 ·rw[ez,UInt64.toNat_sub_of_le _ _ (by rw[UInt64.le_iff_toNat_le,f,bV]; omega),f,bV]; omega
def mnW (u v:UInt32) (c:UInt64):UInt32:=if u.toUInt64<v.toUInt64+c then ((u.toUInt64+4294967296) - (v.toUInt64+c)).toUInt32 else (u.toUInt64 - (v.toUInt64+c)).toUInt32
def mnC (u v:UInt32) (c:UInt64):UInt64:=if u.toUInt64<v.toUInt64+c then 1 else 0
theorem yi (u v:UInt32) (c:UInt64) (hc:c.toNat<=1):(mnW u v c).toNat+v.toNat+c.toNat=u.toNat+4294967296*(mnC u v c).toNat/\(mnC u v c).toNat<=1:=by
 obtain⟨f,i,j⟩:=brw u v c hc
 unfold mnW mnC
 by_cases h:u.toNat<v.toNat+c.toNat
 ·rw[if_pos (f.2 h),if_pos (f.2 h)]
  have:(1:UInt64).toNat=1:=rfl
  rw[this]; exact⟨by have:=i h; omega,by omega⟩
 ·rw[if_neg (fun g=>h (f.1 g)),if_neg (fun g=>h (f.1 g))]
  have:(0:UInt64).toNat=0:=rfl
  rw[this]; exact⟨by have:=j h; omega,by omega⟩
def mnS (a b:L0) (x:L0×UInt64) (i:Nat):L0×UInt64:=(x.1++[mnW (a.getD i 0) (b.getD i 0) x.2],mnC (a.getD i 0) (b.getD i 0) x.2)
theorem vr {a b:L0} {x:L0×UInt64} {i:Nat} (f:x.1.length=i) (k:val x.1+val (b.take i)=val (a.take i)+4294967296^i*x.2.toNat) (g:x.2.toNat<=1) :
  (mnS a b x i).1.length=i+1/\val (mnS a b x i).1+val (b.take (i+1))=val (a.take (i+1))+4294967296^(i+1)*(mnS a b x i).2.toNat/\(mnS a b x i).2.toNat<=1:=by
 obtain⟨h,j⟩:=yi (a.getD i 0) (b.getD i 0) x.2 g
 unfold mnS
 refine⟨by simp[f],?_,j⟩
 simp only
 rw[fX,f,bO,bO]
 have:=congrArg (4294967296^i*·) h
 simp only[Nat.mul_add]at this
 rw[Nat.pow_succ,Nat.mul_assoc]
 omega
theorem gl (a b:L0) (G:a.length<=50000000000000) (z:val b<=val a):F.DR a b=some (an (val a - val b)):=by
 unfold F.DR
 have e:=ca (f:=F.Hj a b) (fun (x:L0×UInt64) i=>(x.1,x.2,(i:Int)))
  (fun i x=>x.1.length=i/\val x.1+val (b.take i)=val (a.take i)+4294967296^i*x.2.toNat/\x.2.toNat<=1) (mnS a b) 0 a.length
  (X:=fun x=>some (an (val x.1)))
  (fun i x _ hi j=>by
   obtain⟨k,g,m⟩:=j
   refine⟨?_,vr k g m⟩
   have o:wI ((i:Int)+1)=((i+1:Nat):Int):=by rw[aJ (by omega) (by omega)]; rfl
   unfold F.Hj
   dsimp only
   rw[if_pos (decide_eq_true (by omega)),kL,ae,kL,ae]
   unfold mnS mnW mnC
   by_cases h:(a.getD i 0).toUInt64<(b.getD i 0).toUInt64+x.2
   ·rw[if_pos (decide_eq_true h),if_pos h,if_pos h]
    unfold F.GY
    dsimp only
    rw[ef (by simp; omega),ae,o]; rfl
   ·rw[if_neg (by simpa using h),if_neg h,if_neg h]
    unfold F.GY
    dsimp only
    rw[ef (by simp; omega),ae,o]; rfl)
  (fun x j=>by
   unfold F.Hj
   dsimp only
   rw[if_neg (by simp),dP _ (by omega),ae])
  a.length 0 ([],0) (Nat.le_refl _) (by omega) ⟨rfl,by simp[val],by simp⟩
 refine e.trans ?_
 obtain⟨k,g,m⟩:=cG (fun i (x:L0×UInt64)=>x.1.length=i/\val x.1+val (b.take i)=val (a.take i)+4294967296^i*x.2.toNat/\x.2.toNat<=1) (mnS a b)
  (fun i x j=>vr j.1 j.2.1 j.2.2) a.length 0 ([],0) ⟨rfl,by simp[val],by simp⟩
 obtain⟨y,A⟩:∃y,(List.range' 0 a.length).foldl (mnS a b) ([],0)=y:=⟨_,rfl⟩
 rw[A]at k g m ⊢
 rw[Nat.zero_add]at k g
 have B:val (b.take a.length)=val b:=by
  by_cases hl:a.length<=b.length
  ·have q:=dg b a.length hl
   rw[gm (Nat.lt_of_le_of_lt z (bv a)),Nat.mul_zero,Nat.add_zero]at q
   exact q.symm
  ·rw[List.take_of_length_le (by omega)]
 rw[List.take_length,B]at g
 have t:=bv y.1
 rw[k]at t
 have hc:y.2.toNat=0:=by
  rcases Nat.eq_zero_or_pos y.2.toNat with h | h
  ·exact h
  ·have:y.2.toNat=1:=by omega
   rw[this,Nat.mul_one]at g
   omega
 rw[hc,Nat.mul_zero,Nat.add_zero]at g
 rw[show val y.1=val a - val b by omega]
theorem yf (c r p:UInt64):r+p+c=c+(p+r):=by rw[UInt64.add_comm _ c,UInt64.add_comm r p]
theorem un (a b:L0) (i:Nat) (r:L0) (hi:i<a.length) (K:r.length=a.length+b.length) (M:∀k,i+b.length<=k->r.getD k 0=0) (O:a.length+b.length<=50000000000000) :
  ∃h,loop (F.Fm a b (i:Int)) (0,0,r)=some (.inl (((i+1:Nat):Int),h))/\h.length=a.length+b.length/\(∀k,i+1+b.length<=k->h.getD k 0=0)/\val h=val r+4294967296^i*((a.getD i 0).toNat*val b):=by
 have I:mG (a.getD i 0) b i (a.length+b.length) r 0 (0,r):=⟨K,M,by simp[val],by simp⟩
 have e:=ca (f:=F.Fm a b (i:Int)) (fun (x:UInt64×L0) j=>(x.1,(j:Int),x.2)) (fun j x=>j<=b.length->mG (a.getD i 0) b i (a.length+b.length) r j x) (nE (a.getD i 0) b i) 0 b.length
  (X:=fun x=>some (.inl (((i+1:Nat):Int),x.2.set (i+b.length) x.1.toUInt32)))
  (fun j x _ q g=>by
   have g:=g (by omega)
   refine⟨?_,fun _=>lQ (by omega) q g⟩
   obtain⟨t,m,o,J⟩:=g
   have z:wI ((i:Int)+(j:Int))=((i+j:Nat):Int):=by rw[aJ (by omega) (by omega)]; rfl
   have A:wI ((j:Int)+1)=((j+1:Nat):Int):=by rw[aJ (by omega) (by omega)]; rfl
   unfold F.Fm
   dsimp only
   rw[if_pos (decide_eq_true (by omega)),z,aP (show i+j<x.2.length by omega) 0,ae,aP hi 0,ae,aP q 0,ae,aS,ae,aS,Int.toNat_natCast,A,AA,yf]
   rfl)
  (fun x g=>by
   obtain⟨t,m,o,J⟩:=g (Nat.le_refl _)
   have z:wI ((i:Int)+(b.length:Int))=((i+b.length:Nat):Int):=by rw[aJ (by omega) (by omega)]; rfl
   have A:wI ((i:Int)+1)=((i+1:Nat):Int):=by rw[aJ (by omega) (by omega)]; rfl
   unfold F.Fm
   dsimp only
   rw[if_neg (by simp),z,aP (show i+b.length<x.2.length by omega) 0,ae,aS,Int.toNat_natCast,A]
   rfl)
  b.length 0 (0,r) (Nat.le_refl _) (by omega) (fun _=>I)
 have B:=cG (fun j (x:UInt64×L0)=>j<=b.length->mG (a.getD i 0) b i (a.length+b.length) r j x) (nE (a.getD i 0) b i) (fun j x g=>fun q=>lQ (by omega) (by omega) (g (by omega))) b.length 0 (0,r) (fun _=>I)
 obtain⟨y,N⟩:∃y,(List.range' 0 b.length).foldl (nE (a.getD i 0) b i) (0,r)=y:=⟨_,rfl⟩
 rw[N]at B e
 rw[Nat.zero_add]at B
 obtain⟨t,m,o,J⟩:=B (Nat.le_refl _)
 refine⟨_,e,by simpa using t,fun k R=>?_,?_⟩
 ·rw[dw (by omega)]; exact m k (by omega)
 ·have G:=dB y.2 (i+b.length) y.1.toUInt32 (by omega)
  rw[m _ (Nat.le_refl _)]at G
  have:(0:UInt32).toNat=0:=rfl
  rw[this,Nat.mul_zero,Nat.add_zero]at G
  rw[List.take_length]at o
  rw[G,ez,Nat.mod_eq_of_lt (by omega),o]
theorem i4 (a b:L0) (t:a.length+b.length<=50000000000000):F.El a b=some (an (val a*val b)):=by
 unfold F.El
 rw[aJ (by omega) (by omega),dK (by omega),ae,show ((a.length:Int)+(b.length:Int)).toNat=a.length+b.length by omega]
 have g:∀(k i:Nat) (r:L0),i+k=a.length->r.length=a.length+b.length->(∀k,i+b.length<=k->r.getD k 0=0)->val r=val (a.take i)*val b->loop (F.F5 a b) ((i:Int),r)=some (an (val a*val b)):=by
  intro k
  induction k with
  | zero=>
   intro i r h j m f
   have:i=a.length:=by omega
   subst this
   refine cQ ?_
   unfold F.F5
   dsimp only
   rw[if_neg (by simp),dP _ (by omega),ae,f,List.take_length]; rfl
  | succ k ih=>
   intro i r h j m f
   obtain⟨o,x,y,z,A⟩:=un a b i r (by omega) j m t
   have q:F.F5 a b ((i:Int),r)=some (.inl (((i+1:Nat):Int),o)):=by
    unfold F.F5
    dsimp only
    rw[if_pos (decide_eq_true (by omega)),x]
   rw[bJ q]
   refine ih (i+1) o (by omega) y (fun k B=>z k (by omega)) ?_
   rw[A,f,bO,Nat.add_mul,Nat.mul_assoc]
 exact g a.length 0 _ (by omega) (by simp) (fun k _=>by
  rw[List.getD_eq_getElem?_getD,List.getElem?_replicate]; split <;> rfl) (by rw[cn]; simp[val])
theorem o8 (l:L0) (i:Nat):(l.getD (i / 32) 0).toNat / 2^(i%32)%2=val l / 2^i%2:=by
 have f:(2:Nat)^i=4294967296^(i / 32)*2^(i%32):=by
  rw[show (4294967296:Nat)=2^32 from rfl,<-Nat.pow_mul,<-Nat.pow_add]; congr 1; omega
 rw[f,<-Nat.div_div_eq_div_mul,fe,ch]
 obtain⟨R,g⟩:∃R,val (l.drop (i / 32+1))=R:=⟨_,rfl⟩
 obtain⟨w,h⟩:∃w,(l.getD (i / 32) 0).toNat=w:=⟨_,rfl⟩
 obtain⟨s,j⟩:∃s,i%32=s:=⟨_,rfl⟩
 rw[g,h,j]
 have k:=jj (s:=s) (by omega)
 rw[<-k,Nat.mul_assoc,Nat.add_mul_div_left _ _ (Nat.two_pow_pos s)]
 have m:(2:Nat)^(32 - s)=2*2^(32 - s - 1):=by rw[Nat.mul_comm,<-Nat.pow_succ]; congr 1; omega
 rw[m,Nat.mul_assoc]
 omega
theorem ob (a:L0) (i:Nat) (hi:i<=4611686018427387904):F.EO a (i:Int)=some (decide (val a / 2^i%2=1)):=by
 unfold F.EO
 have g:wI (Int.tdiv (i:Int) 32)=((i / 32:Nat):Int):=by rw[Int.tdiv_eq_ediv_of_nonneg (by omega),aJ (by omega) (by omega)]; omega
 have j:(UInt64.ofInt (Int.tmod (i:Int) 32)).toNat=i%32:=by
  rw[Int.tmod_eq_emod_of_nonneg (by omega),UInt64.ofInt,UInt64.toNat_ofNat']; omega
 rw[g,kL,ae,j]
 congr 1
 have f:((aO (a.getD (i / 32) 0).toUInt64 (i%32)) &&& 1).toNat=val a / 2^i%2:=by
  rw[UInt64.toNat_and,ea,bV,Nat.min_eq_left (by omega),<-o8]
  have:(1:UInt64).toNat=2^1 - 1:=rfl
  rw[this,Nat.and_two_pow_sub_one_eq_mod]
 by_cases h:val a / 2^i%2=1
 ·rw[decide_eq_true h,beq_iff_eq]
  apply UInt64.toNat_inj.1
  rw[f,h]; rfl
 ·rw[decide_eq_false h,beq_eq_false_iff_ne]
  intro k
  rw[k]at f
  exact h f.symm
def dbS (x:UInt32×L0) (k:Nat):UInt32×L0:=(bA (x.2.getD k 0) 31,x.2.set k ((bP (x.2.getD k 0) 1) ||| x.1))
def DBI (r:L0) (c k:Nat) (x:UInt32×L0):Prop:=
 x.2.length=r.length/\(∀j,k<=j->x.2.getD j 0=r.getD j 0)/\val x.2+4294967296^k*x.1.toNat=val r+val (r.take k)+c/\x.1.toNat<=1
theorem vN {r:L0} {c k:Nat} {x:UInt32×L0} (t:k<r.length) (h:DBI r c k x):DBI r c (k+1) (dbS x k):=by
 obtain⟨o,f,y,z⟩:=h
 have A:=cC (x.2.getD k 0)
 have g:(bA (x.2.getD k 0) 31).toNat=(x.2.getD k 0).toNat / 2147483648:=by rw[fH]; rfl
 have i:(bP (x.2.getD k 0) 1).toNat=(x.2.getD k 0).toNat*2%4294967296:=by rw[i9]; rfl
 have q:((bP (x.2.getD k 0) 1) ||| x.1).toNat=(x.2.getD k 0).toNat*2%4294967296+x.1.toNat:=by
  rw[UInt32.toNat_or,nD 1 (by rw[i]; omega) (by omega),i]
 unfold dbS
 refine⟨by simpa using o,fun j B=>?_,?_,by simp only[g]; omega⟩
 ·simp only
  rw[dw (by omega)]; exact f j (by omega)
 ·simp only
  have m:=dB x.2 k ((bP (x.2.getD k 0) 1) ||| x.1) (by omega)
  rw[bO,<-f k (Nat.le_refl _),g]
  rw[q]at m
  have:(x.2.getD k 0).toNat*2=(x.2.getD k 0).toNat*2%4294967296+4294967296*((x.2.getD k 0).toNat / 2147483648):=by omega
  have:=congrArg (4294967296^k*·) this
  simp only[Nat.mul_add]at this
  rw[Nat.mul_add]at m
  rw[Nat.pow_succ,Nat.mul_assoc]
  have F:4294967296^k*((x.2.getD k 0).toNat*2)=4294967296^k*(x.2.getD k 0).toNat+4294967296^k*(x.2.getD k 0).toNat:=by rw[<-Nat.mul_assoc]; omega
  omega
def tkS (d:L0) (x:UInt64×L0) (k:Nat):UInt64×L0:=(mnC (x.2.getD k 0) (d.getD k 0) x.1,x.2.set k (mnW (x.2.getD k 0) (d.getD k 0) x.1))
def TKI (d r:L0) (k:Nat) (x:UInt64×L0):Prop:=
 x.2.length=r.length/\(∀j,k<=j->x.2.getD j 0=r.getD j 0)/\val x.2+val (d.take k)=val r+4294967296^k*x.1.toNat/\x.1.toNat<=1
theorem vK {d r:L0} {k:Nat} {x:UInt64×L0} (q:k<r.length) (h:TKI d r k x):TKI d r (k+1) (tkS d x k):=by
 obtain⟨f,g,t,i⟩:=h
 obtain⟨m,o⟩:=yi (x.2.getD k 0) (d.getD k 0) x.1 i
 unfold tkS
 refine⟨by simpa using f,fun j y=>?_,?_,o⟩
 ·simp only
  rw[dw (by omega)]; exact g j (by omega)
 ·simp only
  have z:=dB x.2 k (mnW (x.2.getD k 0) (d.getD k 0) x.1) (by omega)
  rw[bO]
  have:=congrArg (4294967296^k*·) m
  simp only[Nat.mul_add]at this
  rw[Nat.pow_succ,Nat.mul_assoc]
  omega
theorem CK (x:UInt32) (s:Nat) (f:s<32) (g:x.toNat%2^(s+1)=0):(x ||| bP 1 s).toNat=x.toNat+2^s:=by
 have e:(bP 1 s).toNat=2^s:=by
  rw[i9,Nat.min_eq_left (by omega)]
  have:(1:UInt32).toNat=1:=rfl
  rw[this,Nat.one_mul,Nat.mod_eq_of_lt]
  exact Nat.pow_lt_pow_right (by decide) (n:=32) f
 rw[UInt32.toNat_or,nD (s+1) g (by rw[e]; exact Nat.pow_lt_pow_right (by decide) (by omega)),e]
theorem Aa {l:L0} {q t:Nat} (i:t<=32) (h:val l%2^(32*q+t)=0):(l.getD q 0).toNat%2^t=0:=by
 have f:val l / 2^(32*q)%2^t=0:=by
  rw[Nat.pow_add]at h
  have:=Nat.mod_mul_right_div_self (val l) (2^(32*q)) (2^t)
  rw[h,Nat.zero_div]at this
  exact this.symm
 rw[Nat.pow_mul,show (2:Nat)^32=4294967296 from rfl,fe,ch]at f
 have g:(4294967296:Nat)=2^t*2^(32 - t):=by rw[<-Nat.pow_add,show t+(32 - t)=32 by omega]
 rw[g,Nat.mul_assoc,Nat.add_mul_mod_self_left]at f
 exact f
theorem zU (a d:L0) (i:Nat) (q r:L0) (U:r.length=d.length+1) (b6:val r<val d) (V:i / 32<q.length) (N:val q%2^(i+1)=0) (hi:i<=4611686018427387) (hd:d.length<=36000000000000) (b7:q.length<=36000000000000) :
  ∃j m,F.E6 a d ((i:Int),q,r)=some (.inl ((i:Int) - 1,j,m))/\j.length=q.length/\m.length=r.length/\val m<val d/\val j%2^i=0 /\
   ∃e,val j=val q+2^i*e/\e<=1/\val m+e*val d=2*val r+val a / 2^i%2:=by
 obtain⟨c,hc⟩:∃c,val a / 2^i%2=c:=⟨_,rfl⟩
 have b8:c<=1:=by omega
 have b9:=bv d
 have Y:wI ((i:Int) - 1)=(i:Int) - 1:=aJ (by omega) (by omega)
 have w5:wI (Int.tdiv (i:Int) 32)=((i / 32:Nat):Int):=by rw[Int.tdiv_eq_ediv_of_nonneg (by omega),aJ (by omega) (by omega)]; omega
 have w2:(UInt64.ofInt (Int.tmod (i:Int) 32)).toNat=i%32:=by
  rw[Int.tmod_eq_emod_of_nonneg (by omega),UInt64.ofInt,UInt64.toNat_ofNat']; omega
 have B:val q%2^i=0:=by
  have o:(2:Nat)^(i+1)=2^i*2:=Nat.pow_succ ..
  rw[o,Nat.mod_mul]at N
  omega
 -- from the doubled rest on
 have Z:∀y:UInt32×L0,DBI r c r.length y->∃j m,(ah (F.DJ y.2 d) fun t=>if (decide ((0:Int)<=t))=true then loop (F.Es d (i:Int) q) (0,0,y.2) else F.Ez (i:Int) (q,y.2))=some (.inl ((i:Int) - 1,j,m))/\j.length=q.length/\m.length=r.length/\val m<val d/\val j%2^i=0 /\
   ∃e,val j=val q+2^i*e/\e<=1/\val m+e*val d=2*val r+c:=by
  rintro⟨y1,y⟩ ⟨o,h2,K,h4⟩
  simp only at o h2 K h4 ⊢
  rw[List.take_length]at K
  have ab:y1.toNat=0:=by
   rcases Nat.eq_zero_or_pos y1.toNat with h | h
   ·exact h
   ·have:4294967296^r.length*1<=4294967296^r.length*y1.toNat:=Nat.mul_le_mul_left _ h
    rw[U,Nat.pow_succ]at this
    rw[U,Nat.pow_succ]at K
    omega
  rw[ab,Nat.mul_zero,Nat.add_zero]at K
  rw[gh _ _ (by omega) (by omega),ae]
  unfold cD
  by_cases hlt:val y<val d
  ·rw[if_pos hlt,if_neg (by decide)]
   unfold F.Ez
   dsimp only
   rw[Y]
   exact⟨q,y,rfl,rfl,o,hlt,B,0,by omega,by omega,by omega⟩
  ·rw[if_neg hlt,if_pos (by split <;> decide)]
   have G:TKI d y 0 (0,y):=⟨rfl,fun _ _=>rfl,by simp[val],by simp⟩
   have e:=ca (f:=F.Es d (i:Int) q) (fun (x:UInt64×L0) k=>(x.1,(k:Int),x.2)) (fun k x=>k<=y.length->TKI d y k x) (tkS d) 0 y.length
    (X:=fun x=>some (.inl ((i:Int) - 1,q.set (i / 32) (q.getD (i / 32) 0 ||| bP 1 (i%32)),x.2)))
    (fun k x _ I g=>by
     have g:=g (by omega)
     refine⟨?_,fun _=>vK I g⟩
     have J:=g.1
     have M:wI ((k:Int)+1)=((k+1:Nat):Int):=by rw[aJ (by omega) (by omega)]; rfl
     unfold F.Es
     dsimp only
     rw[if_pos (decide_eq_true (by omega)),kL,ae,aP (show k<x.2.length by omega) 0,ae]
     unfold tkS mnC mnW
     by_cases h:(x.2.getD k 0).toUInt64<(d.getD k 0).toUInt64+x.1
     ·rw[if_pos (decide_eq_true h),if_pos h,if_pos h,aS]
      unfold F.Hd
      dsimp only
      rw[aP (show k<x.2.length by omega) 0,ae,aS,Int.toNat_natCast,M]; rfl
     ·rw[if_neg (by simpa using h),if_neg h,if_neg h]
      unfold F.Hd
      dsimp only
      rw[aP (show k<x.2.length by omega) 0,ae,aS,Int.toNat_natCast,M]; rfl)
    (fun x g=>by
     have J:=(g (Nat.le_refl _)).1
     unfold F.Es
     dsimp only
     rw[if_neg (by simp only[decide_eq_true_eq]; omega),w5,aP V 0,ae,ae,aS,Int.toNat_natCast,w2]
     unfold F.Ez
     dsimp only
     rw[Y]; rfl)
    y.length 0 (0,y) (Nat.le_refl _) (by omega) (fun _=>G)
   have A:=cG (fun k (x:UInt64×L0)=>k<=y.length->TKI d y k x) (tkS d) (fun k x g=>fun I=>vK (by omega) (g (by omega))) y.length 0 (0,y) (fun _=>G)
   obtain⟨z,hz⟩:∃z,(List.range' 0 y.length).foldl (tkS d) (0,y)=z:=⟨_,rfl⟩
   rw[hz]at A e
   rw[Nat.zero_add]at A
   obtain⟨k1,k2,k3,k4⟩:=A (Nat.le_refl _)
   rw[List.take_of_length_le (by omega)]at k3
   have ad:=bv z.2
   have ap:z.1.toNat=0:=by
    rcases Nat.eq_zero_or_pos z.1.toNat with h | h
    ·exact h
    ·have:4294967296^y.length*1<=4294967296^y.length*z.1.toNat:=Nat.mul_le_mul_left _ h
     rw[k1]at ad
     omega
   rw[ap,Nat.mul_zero,Nat.add_zero]at k3
   have a0:=CK (q.getD (i / 32) 0) (i%32) (by omega) (Aa (by omega) (by rw[show 32*(i / 32)+(i%32+1)=i+1 by omega]; exact N))
   have hv:=dB q (i / 32) (q.getD (i / 32) 0 ||| bP 1 (i%32)) V
   rw[a0,Nat.mul_add]at hv
   have hp:4294967296^(i / 32)*2^(i%32)=2^i:=by
    rw[show (4294967296:Nat)=2^32 from rfl,<-Nat.pow_mul,<-Nat.pow_add]; congr 1; omega
   rw[hp]at hv
   have O:val (q.set (i / 32) (q.getD (i / 32) 0 ||| bP 1 (i%32)))=val q+2^i*1:=by omega
   refine⟨_,_,e,by simp,by omega,by omega,?_,1,O,by omega,by omega⟩
   rw[O,Nat.add_mul_mod_self_left]; exact B
 have R:∀x0:UInt32,x0.toNat=c->∃j m,F.GD r d q (i:Int) x0=some (.inl ((i:Int) - 1,j,m))/\j.length=q.length/\m.length=r.length/\val m<val d/\val j%2^i=0 /\
   ∃e,val j=val q+2^i*e/\e<=1/\val m+e*val d=2*val r+c:=by
  intro x0 a2
  unfold F.GD
  have G:DBI r c 0 (x0,r):=⟨rfl,fun _ _=>rfl,by simp[val,a2],by simp only; omega⟩
  have e:=ca (f:=F.G2 d q (i:Int)) (fun (x:UInt32×L0) k=>(x.1,(k:Int),x.2)) (fun k x=>k<=r.length->DBI r c k x) dbS 0 r.length
   (X:=fun y=>ah (F.DJ y.2 d) fun t=>if (decide ((0:Int)<=t))=true then loop (F.Es d (i:Int) q) (0,0,y.2) else F.Ez (i:Int) (q,y.2))
   (fun k x _ I g=>by
    have g:=g (by omega)
    refine⟨?_,fun _=>vN I g⟩
    have J:=g.1
    have M:wI ((k:Int)+1)=((k+1:Nat):Int):=by rw[aJ (by omega) (by omega)]; rfl
    unfold F.G2
    dsimp only
    rw[if_pos (decide_eq_true (by omega)),aP (show k<x.2.length by omega) 0,ae,ae,ae,aS,Int.toNat_natCast,M]; rfl)
   (fun x g=>by
    have J:=(g (Nat.le_refl _)).1
    unfold F.G2
    dsimp only
    rw[if_neg (by simp only[decide_eq_true_eq]; omega)])
   r.length 0 (x0,r) (Nat.le_refl _) (by omega) (fun _=>G)
  have A:=cG (fun k (x:UInt32×L0)=>k<=r.length->DBI r c k x) dbS (fun k x g=>fun I=>vN (by omega) (g (by omega))) r.length 0 (x0,r) (fun _=>G)
  rw[Nat.zero_add]at A
  obtain⟨j,m,f1,f2⟩:=Z _ (A (Nat.le_refl _))
  exact⟨j,m,e.trans f1,f2⟩
 unfold F.E6
 dsimp only
 rw[if_pos (decide_eq_true (by omega)),ob _ _ (by omega),ae,hc]
 by_cases o:c=1
 ·rw[if_pos (decide_eq_true o)]; exact R 1 (by rw[o]; rfl)
 ·rw[if_neg (by simpa using o)]; exact R 0 (by rw[show c=0 by omega]; rfl)
theorem yE {A q d r i e c f g:Nat} (h:A / 2^(i+1)=q / 2^(i+1)*d+r) (B:q%2^(i+1)=0) (j:f=q+2^i*e) (F:e<=1) (hc:A / 2^i%2=c) (G:g+e*d=2*r+c):A / 2^i=f / 2^i*d+g:=by
 have t:=Nat.two_pow_pos i
 have m:(2:Nat)^(i+1)=2^i*2:=Nat.pow_succ ..
 have x:A / 2^i=2*(A / 2^(i+1))+c:=by
  rw[m,<-Nat.div_div_eq_div_mul]; omega
 obtain⟨k,o⟩:∃k,q=2^(i+1)*k:=⟨q / 2^(i+1),by have:=Nat.div_add_mod q (2^(i+1)); omega⟩
 have y:q / 2^(i+1)=k:=by rw[o,Nat.mul_div_cancel_left _ (Nat.two_pow_pos _)]
 have z:f / 2^i=2*k+e:=by
  rw[j,o,m,Nat.mul_assoc,<-Nat.mul_add,Nat.mul_div_cancel_left _ t]
 rw[x,h,y,z,Nat.add_mul,Nat.mul_assoc,Nat.mul_add]
 omega
theorem kD (a d:L0) (ha:a.length<=36000000000000) (hd:d.length<=36000000000000) (B:val d≠0):F.EG a d=some (an (val a / val d),an (val a%val d)):=by
 have i:(an (val a)).length<=a.length:=bl (bv a)
 have j:(an (val d)).length<=d.length:=bl (bv d)
 unfold F.EG
 rw[dP _ (by omega),ae,dP _ (by omega),ae]
 obtain⟨A,m⟩:∃A,an (val a)=A:=⟨_,rfl⟩
 obtain⟨D,o⟩:∃D,an (val d)=D:=⟨_,rfl⟩
 have G:val A=val a:=by rw[<-m,ar]
 have t:val D=val d:=by rw[<-o,ar]
 rw[m]at i ⊢; rw[o]at j ⊢
 rw[<-G,<-t]
 rw[<-t]at B
 have I:wI ((D.length:Int)+1)=((D.length+1:Nat):Int):=by rw[aJ (by omega) (by omega)]; rfl
 have J:wI ((wI (32*(A.length:Int))) - 1)=((32*A.length:Nat):Int) - 1:=by rw[aJ (x:=32*(A.length:Int)) (by omega) (by omega),aJ (by omega) (by omega)]; omega
 rw[dK (by omega),ae,I,dK (by omega),ae,J,aS,Int.toNat_natCast,Int.toNat_natCast]
 have y:∀(k:Nat) (q r:L0),k<=32*A.length->q.length=A.length->r.length=D.length+1->val r<val D->val q%2^k=0->val A / 2^k=val q / 2^k*val D+val r ->
   loop (F.E6 A D) ((k:Int) - 1,q,r)=some (an (val A / val D),an (val A%val D)):=by
  intro k
  induction k with
  | zero=>
   intro q r K M z g h f
   refine cQ ?_
   unfold F.E6
   dsimp only
   rw[Nat.pow_zero,Nat.div_one,Nat.div_one]at f
   have N:val A / val D=val q:=by rw[f,Nat.add_comm,Nat.add_mul_div_right _ _ (by omega),Nat.div_eq_of_lt g,Nat.zero_add]
   have O:val A%val D=val r:=by rw[f,Nat.add_comm,Nat.add_mul_mod_self_right,Nat.mod_eq_of_lt g]
   rw[if_neg (by decide),dP _ (by omega),ae,dP _ (by omega),ae,N,O]; rfl
  | succ k ih=>
   intro q r K M z g h f
   obtain⟨R,U,V,f2,f3,X,Y,e,Z,f7,f8⟩:=zU A D k q r z g (by omega) h (by omega) (by omega) (by omega)
   rw[show (((k+1:Nat):Int)) - 1=(k:Int) by omega,bJ V]
   exact ih R U (by omega) (by omega) (by omega) X Y (yE f h Z f7 rfl f8)
 have hz:val A / 2^(32*A.length)=0:=by
  rw[Nat.pow_mul,show (2:Nat)^32=4294967296 from rfl]; exact Nat.div_eq_of_lt (bv A)
 exact y (32*A.length) _ _ (Nat.le_refl _) (by simp) (by simp) (by rw[cn]; omega) (by rw[cn]; simp) (by rw[hz,cn,cn]; simp)
theorem gf (a m:L0) (f:a.length<=36000000000000) (g:m.length<=36000000000000) (h:val m≠0):F.DM a m=some (an (val a%val m)):=by
 unfold F.DM
 rw[kD a m f g h,ae]
theorem gn {a:L0} (h:a.length<=128):(an (val a)).length<=128:=Nat.le_trans (bl (bv a)) h
theorem Bt (a b m:L0) (f:a.length<=128) (g:b.length<=128) (i:m.length<=128) (j:1<val m):F.Ed a b m=some (an (val a*val b%val m),0):=by
 unfold F.Ed
 have h:=ij (val a) (val b)
 have k:=gn f; have o:=gn g
 rw[kI m a b (by omega) (by omega) (by omega) k o (gn i) j,ae,if_neg (by decide),i4 _ _ (by omega),ae,gf _ _ (by omega) (by omega) (by omega),ae,ar]
theorem Bb (a b m:L0) (f:a.length<=128) (g:b.length<=128) (i:m.length<=128) (j:1<val m):F.Iq a b m=some (an ((val a+val b)%val m),0):=by
 unfold F.Iq
 have h:=fS (val a) (val b)
 have k:=gn f; have o:=gn g
 rw[kI m a b (by omega) (by omega) (by omega) k o (gn i) j,ae,if_neg (by decide),lA _ _ (by omega) (by omega),ae,gf _ _ (by omega) (by omega) (by omega),ae,ar]
theorem vl (a b m:L0) (h:a.length<=128) (i:b.length<=128) (j:m.length<=128) (k:1<val m):F.GQ a b m=some (an ((val a%val m+val m - val b%val m)%val m),0):=by
 unfold F.GQ
 have f:=gn h; have g:=gn i; have o:=gn j
 have q:=Nat.mod_lt (val a) (show 0<val m by omega)
 have t:=Nat.mod_lt (val b) (show 0<val m by omega)
 have x:(an (val a%val m)).length<=128:=Nat.le_trans (c6 (Nat.mod_le _ _)) f
 have y:(an (val b%val m)).length<=128:=Nat.le_trans (c6 (Nat.mod_le _ _)) g
 have z:=fS (val a%val m) (val m)
 have A:(an (val a%val m+val m - val b%val m)).length<=(an (val a%val m+val m)).length:=c6 (Nat.sub_le _ _)
 rw[kI m a b (by omega) (by omega) (by omega) f g o k,ae,if_neg (by decide),gf _ _ (by omega) (by omega) (by omega),ae,lA _ _ (by omega) (by omega),ae,gf _ _ (by omega) (by omega) (by omega),ae,
  gl _ _ (by rw[ar]; omega) (by rw[ar,ar,ar]; omega),ae,ar,ar,ar,gf _ _ (by omega) (by omega) (by omega),ae,ar]
end Go.Gk.Bn
end
