import Derived.Test.YtkickcbphbgldaaGreatDoorGkUR
import Derived.Test.YtkickcbphbgldaaGreatDoorGkFman
set_option linter.unusedVariables false
set_option linter.unusedSimpArgs false
set_option linter.unusedSectionVars false

section
namespace Go.Gk.Bn
open Go Go.Gk Go.Gk.Sh
theorem mw (x:UInt32):x.toBitVec.msb=decide (2147483648≤x.toNat):=by
 rw [BitVec.msb_eq_decide]; rfl
theorem zB (x:UInt32):(bC x 31).toNat=if x.toBitVec.msb=true then 1 else 0:=by
 have hx:=ce x
 have:(bC x 31).toNat=x.toNat / 2147483648:=by
  unfold bC
  rw [UInt32.toNat_ofNat',show min 31 32=31 from rfl]
  omega
 rw [this,mw]
 by_cases h:2147483648≤x.toNat
 ·rw [if_pos (decide_eq_true h)]; omega
 ·rw [if_neg (by rw [decide_eq_true_eq]; exact h)]; omega
theorem x5 (a b c:UInt32) (hc:c.toNat≤1):∃d e:UInt32,F.FI a b c=some (d,e)∧e.toNat≤1∧d.toNat+b.toNat+c.toNat=a.toNat+4294967296*e.toNat:=by
 refine ⟨(a - b) - c,_,rfl,?_⟩
 obtain ⟨d,hd⟩:∃d,(a - b) - c=d:=⟨_,rfl⟩
 rw [hd]
 have hdv:d.toNat=(4294967296 - c.toNat+(4294967296 - b.toNat+a.toNat)%4294967296)%4294967296:=by rw [←hd,UInt32.toNat_sub,UInt32.toNat_sub]
 have ha:=ce a; have hb:=ce b; have hdl:=ce d
 rw [zB]
 have e1:(((~~~ a) &&& b) ||| ((~~~ (a ^^^ b)) &&& d)).toBitVec.msb=((!a.toBitVec.msb&&b.toBitVec.msb) || (!(a.toBitVec.msb != b.toBitVec.msb)&&d.toBitVec.msb)):=by
  simp [BitVec.msb_or,BitVec.msb_and,BitVec.msb_xor,BitVec.msb_not]
 rw [e1,mw,mw,mw]
 by_cases h1:2147483648≤a.toNat <;> by_cases h2:2147483648≤b.toNat <;> by_cases h3:2147483648≤d.toNat <;> simp only [h1,h2,h3,decide_true,decide_false] <;> simp <;> omega
theorem mx {l:List UInt32} {lo hi:Nat} (h1:lo≤hi) (h2:hi≤l.length):((l.drop lo).take (hi - lo)).length=hi - lo:=by
 rw [List.length_take,List.length_drop]; omega
theorem tq {l:List UInt32} {lo hi i:Nat} (h2:hi≤l.length) (hi':i<hi - lo):aB ((l.drop lo).take (hi - lo)) (i:Int)=some (l.getD (lo+i) 0):=by
 rw [a7 (show i<((l.drop lo).take (hi - lo)).length by rw [List.length_take,List.length_drop]; omega) 0]
 congr 1
 rw [List.getD_eq_getElem?_getD,List.getElem?_take_of_lt hi',List.getElem?_drop,←List.getD_eq_getElem?_getD]
def TkI (u y:List UInt32) (lo i:Nat) (x:UInt32×List UInt32):Prop:=
 x.2.length=u.length∧x.1.toNat≤1∧(∀k,lo+i≤k→x.2.getD k 0=u.getD k 0)∧val x.2+4294967296^lo*val (y.take i)=val u+4294967296^(lo+i)*x.1.toNat
theorem xA (u y:List UInt32) (lo hi:Nat) (h1:lo≤hi) (h2:hi≤u.length) (hu:u.length≤4611686018427387904) (hy:y.length≤4611686018427387904) :
  ∃r,F.Cs u lo hi y=some r∧TkI u y lo (hi - lo) r:=by
 have key:∀(k i:Nat) (x:UInt32×List UInt32),i+k=hi - lo→TkI u y lo i x→∃r,loop (F.Db lo hi u y) (x.1,(i:Int),x.2)=some r∧TkI u y lo (hi - lo) r:=by
  intro k
  induction k with
  | zero=>
   intro i x hi' hx
   have:i=hi - lo:=by omega
   subst this
   refine ⟨x,bE ?_,hx⟩
   unfold F.Db
   dsimp only
   rw [mx h1 h2,if_neg (by rw [decide_eq_true_eq]; omega)]
  | succ k ih=>
   intro i x hi' hx
   obtain ⟨g1,g2,g3,g4⟩:=hx
   have hin:i<hi - lo:=by omega
   have w4:wI ((i:Int)+1)=((i+1:Nat):Int):=by rw [aV (by omega) (by omega)]; rfl
   obtain ⟨d,e,s1,s2,s3⟩:=x5 (x.2.getD (lo+i) 0) (y.getD i 0) x.1 g2
   have hst:F.Db lo hi u y (x.1,(i:Int),x.2)=some (.inl (e,((i+1:Nat):Int),x.2.set (lo+i) d)):=by
    have hK:F.DR lo hi x.1 (i:Int) x.2 (y.getD i 0)=some (.inl (e,((i+1:Nat):Int),x.2.set (lo+i) d)):=by
     unfold F.DR
     rw [tq (by omega) hin,ak,s1,ak,ak,a8,w4,Int.toNat_natCast]; rfl
    unfold F.Db
    dsimp only
    rw [mx h1 h2,if_pos (decide_eq_true (by omega))]
    by_cases hb:i<y.length
    ·rw [if_pos (decide_eq_true (by omega)),a7 hb 0,ak,hK]
    ·rw [if_neg (by rw [decide_eq_true_eq]; omega)]
     have:y.getD i 0=0:=by rw [List.getD_eq_getElem?_getD,List.getElem?_eq_none (by omega)]; rfl
     rw [this]at hK; exact hK
   rw [bI hst]
   refine ih (i+1) (e,x.2.set (lo+i) d) (by omega) ⟨by simpa using g1,s2,fun k' hk=>?_,?_⟩
   ·show (x.2.set (lo+i) d).getD k' 0=_
    rw [de (by omega)]; exact g3 k' (by omega)
   ·show val (x.2.set (lo+i) d)+_=_+_*e.toNat
    have hv:=dB x.2 (lo+i) d (by omega)
    rw [bD y i,Nat.mul_add,←Nat.mul_assoc,←Nat.pow_add,show lo+(i+1)=(lo+i)+1 by omega,Nat.pow_succ]
    obtain ⟨Pw,hP⟩:∃Pw,(4294967296:Nat)^(lo+i)=Pw:=⟨_,rfl⟩
    rw [hP]at g4 hv ⊢
    have e1:=congrArg (fun z=>Pw*z) s3
    simp only [Nat.mul_add]at e1
    rw [Nat.mul_assoc]
    omega
 exact key (hi - lo) 0 (0,u) (by omega) ⟨rfl,Nat.zero_le 1,fun _ _=>rfl,by simp [val]⟩
theorem qN (u y:List UInt32) (lo hi:Nat) (h1:lo≤hi) (h2:hi≤u.length) (hu:u.length≤4611686018427387904) (hy:y.length≤hi - lo) (hlt:val u<4294967296^hi) (hle:4294967296^lo*val y≤val u) :
  ∃c u',F.Cs u lo hi y=some (c,u')∧u'.length=u.length∧val u'+4294967296^lo*val y=val u:=by
 obtain ⟨⟨c,u'⟩,r1,r2,r3,r4,r5⟩:=xA u y lo hi h1 h2 hu (by omega)
 dsimp only at r2 r3 r4 r5
 rw [List.take_of_length_le hy,show lo+(hi - lo)=hi by omega]at r5
 refine ⟨c,u',r1,r2,?_⟩
 have hz:val u'<4294967296^hi:=li fun k hk=>by rw [r4 k (by omega)]; exact tm hlt k hk
 rcases Nat.lt_or_ge c.toNat 1 with h | h
 ·have:c.toNat=0:=by omega
  rw [this]at r5; omega
 ·have:c.toNat=1:=by omega
  rw [this]at r5; omega
theorem yI (n:Nat) (l:List UInt32) (h:l.length=n):cpL (List.replicate n 0) l 0 (List.replicate n (0:UInt32)).length=l:=by
 unfold cpL
 simp only [List.length_replicate,Nat.sub_zero,Nat.zero_add,h,Nat.min_self,List.take_zero,List.nil_append]
 rw [List.take_of_length_le (by omega),List.drop_of_length_le (by simp),List.append_nil]
theorem mt (a b:List UInt32) (ha:a.length≤40000000000000) (hb:b.length≤40000000000000):F.CO a b=some (if val a<val b then ([],false) else (aA (val a - val b),true)):=by
 obtain ⟨m,h1,h2,h3⟩:=dt a (by omega)
 obtain ⟨m',h4,h5,h6⟩:=dt b (by omega)
 have la:(aA (val a)).length≤a.length:=bm (bB a)
 unfold F.CO
 rw [iU a b (by omega) (by omega),ak]
 by_cases hl:val a<val b
 ·rw [if_pos hl]; unfold dN; rw [if_pos hl,if_pos (by decide)]
 ·rw [if_neg hl]; unfold dN
  rw [if_neg hl,if_neg (by split <;> decide),h1,ak,h4,ak,h3,h6,dw (by omega),ak,Int.toNat_natCast,a8,yI _ _ rfl]
  have hba:(aA (val b)).length≤(aA (val a)).length:=dD (by omega)
  obtain ⟨c,u',t1,t2,t3⟩:=qN (aA (val a)) (aA (val b)) 0 (aA (val a)).length (Nat.zero_le _) (Nat.le_refl _) (by omega) (by omega) (bB _) (by rw [aE,aE]; omega)
  rw [t1,ak]
  obtain ⟨k,p1,p2,p3⟩:=dW u' (by omega)
  dsimp only
  rw [p1,ak,p3]
  rw [aE,aE,Nat.pow_zero,Nat.one_mul]at t3
  rw [show val u'=val a - val b by omega]
def MuI (x:UInt32) (y o:List UInt32) (i j:Nat) (s:UInt64×List UInt32):Prop:=
 s.2.length=o.length∧s.1.toNat≤4294967295∧(∀k,i+j≤k→s.2.getD k 0=o.getD k 0)∧val s.2+4294967296^(i+j)*s.1.toNat=val o+4294967296^i*(x.toNat*val (y.take j))
theorem uB (a b:List UInt32) (m:Nat) (i:Nat) (x:UInt32) (y o:List UInt32) (hy:b.take m=y) (ho:i+y.length<o.length) (hol:o.length≤4611686018427387904) :
  ∃c o',MuI x y o i y.length (c,o')∧loop (F.Cn b m (i:Int) x) (0,0,o)=some (.inl (((i+1:Nat):Int),o'.set (i+y.length) c.toUInt32)):=by
 have key:∀(k j:Nat) (s:UInt64×List UInt32),j+k=y.length→MuI x y o i j s→∃c o',MuI x y o i y.length (c,o')∧loop (F.Cn b m (i:Int) x) (s.1,(j:Int),s.2)=some (.inl (((i+1:Nat):Int),o'.set (i+y.length) c.toUInt32)):=by
  intro k
  induction k with
  | zero=>
   intro j s hj hs
   have:j=y.length:=by omega
   subst this
   refine ⟨s.1,s.2,hs,bE ?_⟩
   have w1:wI ((i:Int)+(y.length:Int))=((i+y.length:Nat):Int):=by rw [aV (by omega) (by omega)]; omega
   have w2:wI ((i:Int)+1)=((i+1:Nat):Int):=by rw [aV (by omega) (by omega)]; rfl
   unfold F.Cn
   dsimp only
   have:=hs.1
   rw [hy,if_neg (by rw [decide_eq_true_eq]; omega),w1,w2,a7 (show i+y.length<s.2.length by omega) 0,ak,a8,Int.toNat_natCast]; rfl
  | succ k ih=>
   intro j s hj hs
   obtain ⟨g1,g2,g3,g4⟩:=hs
   have w1:wI ((i:Int)+(j:Int))=((i+j:Nat):Int):=by rw [aV (by omega) (by omega)]; omega
   have w2:wI ((j:Int)+1)=((j+1:Nat):Int):=by rw [aV (by omega) (by omega)]; rfl
   obtain ⟨t,ht⟩:∃t,s.1+((x.toUInt64*(y.getD j 0).toUInt64)+(s.2.getD (i+j) 0).toUInt64)=t:=⟨_,rfl⟩
   have hst:F.Cn b m (i:Int) x (s.1,(j:Int),s.2)=some (.inl (aX t 32,((j+1:Nat):Int),s.2.set (i+j) t.toUInt32)):=by
    unfold F.Cn
    dsimp only
    rw [hy,if_pos (decide_eq_true (by omega)),a7 (show j<y.length by omega) 0,ak,w1,a7 (show i+j<s.2.length by omega) 0,ak,a8,ht,ak,a8,w2,Int.toNat_natCast]; rfl
   rw [bI hst]
   have x1:=ce x; have x2:=ce (y.getD j 0); have x3:=ce (s.2.getD (i+j) 0)
   have hp:=Nat.mul_le_mul (show x.toNat≤4294967295 by omega) (show (y.getD j 0).toNat≤4294967295 by omega)
   have m1:(x.toUInt64*(y.getD j 0).toUInt64).toNat=x.toNat*(y.getD j 0).toNat:=by rw [mb _ _ (by rw [bK,bK]; omega),bK,bK]
   have m2:(x.toUInt64*(y.getD j 0).toUInt64+(s.2.getD (i+j) 0).toUInt64).toNat=x.toNat*(y.getD j 0).toNat+(s.2.getD (i+j) 0).toNat:=by rw [fF _ _ (by rw [m1,bK]; omega),m1,bK]
   have m3:t.toNat=s.1.toNat+(x.toNat*(y.getD j 0).toNat+(s.2.getD (i+j) 0).toNat):=by rw [←ht,fF _ _ (by rw [m2]; omega),m2]
   have c1:(aX t 32).toNat=t.toNat / 4294967296:=by rw [dE]; rfl
   refine ih (j+1) (aX t 32,s.2.set (i+j) t.toUInt32) (by omega) ⟨by simpa using g1,by show (aX t 32).toNat≤_; rw [c1]; omega,fun k' hk=>?_,?_⟩
   ·show (s.2.set (i+j) t.toUInt32).getD k' 0=_
    rw [de (by omega)]; exact g3 k' (by omega)
   ·show val (s.2.set (i+j) t.toUInt32)+_*(aX t 32).toNat=_
    have hv:=dB s.2 (i+j) t.toUInt32 (by omega)
    rw [d7]at hv
    rw [bD y j,Nat.mul_add,Nat.mul_add,c1,show i+(j+1)=(i+j)+1 by omega,Nat.pow_succ]
    have e0:4294967296^i*(x.toNat*(4294967296^j*(y.getD j 0).toNat))=4294967296^(i+j)*(x.toNat*(y.getD j 0).toNat):=by
     rw [Nat.pow_add,Nat.mul_left_comm x.toNat,Nat.mul_assoc]
    rw [e0]
    obtain ⟨Pw,hP⟩:∃Pw,(4294967296:Nat)^(i+j)=Pw:=⟨_,rfl⟩
    rw [hP]at g4 hv ⊢
    have hd:=Nat.div_add_mod t.toNat 4294967296
    have e3:Pw*(t.toNat%4294967296)+Pw*4294967296*(t.toNat / 4294967296)=Pw*t.toNat:=by
     rw [Nat.mul_assoc,←Nat.mul_add,Nat.add_comm,hd]
    have e4:Pw*t.toNat=Pw*s.1.toNat+(Pw*(x.toNat*(y.getD j 0).toNat)+Pw*(s.2.getD (i+j) 0).toNat):=by rw [m3,Nat.mul_add,Nat.mul_add]
    omega
 exact key y.length 0 (0,o) (by omega) ⟨rfl,Nat.zero_le _,fun _ _=>rfl,by simp [val]⟩
theorem y8 (a b:List UInt32) (ha:a.length≤40000000000000) (hb:b.length≤40000000000000) (hs:(aA (val a)).length+(aA (val b)).length≤50000000000000):F.Fu a b=some (aA (val a*val b)):=by
 obtain ⟨m,h1,h2,h3⟩:=dt a (by omega)
 obtain ⟨m',h4,h5,h6⟩:=dt b (by omega)
 have la:(aA (val a)).length≤a.length:=bm (bB a)
 have lb:(aA (val b)).length≤b.length:=bm (bB b)
 obtain ⟨x,hx⟩:∃x,aA (val a)=x:=⟨_,rfl⟩
 obtain ⟨y,hy⟩:∃y,aA (val b)=y:=⟨_,rfl⟩
 have vx:val x=val a:=by rw [←hx,aE]
 have vy:val y=val b:=by rw [←hy,aE]
 rw [hx]at h3 la hs; rw [hy]at h6 lb hs
 unfold F.Fu
 have w0:wI ((x.length:Int)+(y.length:Int))=((x.length+y.length:Nat):Int):=by rw [aV (by omega) (by omega)]; omega
 rw [h1,ak,h4,ak,h3,h6,w0,dw (by omega),ak,Int.toNat_natCast]
 have key:∀(k i:Nat) (o:List UInt32),i+k=x.length→o.length=x.length+y.length→(∀k,i+y.length≤k→o.getD k 0=0)→val o=val (x.take i)*val y→loop (F.Dj a m b m') ((i:Int),o)=some (aA (val a*val b)):=by
  intro k
  induction k with
  | zero=>
   intro i o hi ho _ hv
   have:i=x.length:=by omega
   subst this
   refine bE ?_
   unfold F.Dj
   dsimp only
   obtain ⟨q,p1,p2,p3⟩:=dW o (by omega)
   rw [h3,if_neg (by rw [decide_eq_true_eq]; omega),p1,ak,p3,hv,List.take_of_length_le (Nat.le_refl _),vx,vy]
  | succ k ih=>
   intro i o hi ho hz hv
   obtain ⟨c,o',⟨g1,g2,g3,g4⟩,hl⟩:=uB a b m' i (x.getD i 0) y o h6 (by omega) (by omega)
   dsimp only at g1 g2 g3 g4
   have hst:F.Dj a m b m' ((i:Int),o)=some (.inl (((i+1:Nat):Int),o'.set (i+y.length) c.toUInt32)):=by
    unfold F.Dj
    dsimp only
    rw [h3,if_pos (decide_eq_true (by omega)),a7 (show i<x.length by omega) 0,ak,hl]
   rw [bI hst]
   have hov:o'.getD (i+y.length) 0=0:=by rw [g3 _ (Nat.le_refl _)]; exact hz _ (Nat.le_refl _)
   have hset:=dB o' (i+y.length) c.toUInt32 (by omega)
   have z0:(0:UInt32).toNat=0:=rfl
   rw [hov,z0,Nat.mul_zero,Nat.add_zero,d7,Nat.mod_eq_of_lt (by omega)]at hset
   refine ih (i+1) _ (by omega) (by simpa using (g1.trans ho)) (fun k' hk=>?_) ?_
   ·rw [de (by omega),g3 k' (by omega)]; exact hz k' (by omega)
   ·rw [hset,g4,List.take_of_length_le (Nat.le_refl _),hv,bD x i,Nat.add_mul,Nat.mul_assoc]
 exact key x.length 0 (List.replicate (x.length+y.length) 0) (by omega) (by simp) (fun k _=>by rw [List.getD_eq_getElem?_getD]; by_cases hk:k<x.length+y.length <;> simp [hk]) (by rw [cT]; simp [val])
end Go.Gk.Bn
end

section
namespace Go.Gk.Bn
open Go Go.Gk Go.Gk.Sh
theorem xF (a b d:UInt32) (h:a.toNat<d.toNat):∃q r:UInt32,F.E4 a b d=some (q,r)∧q.toNat=(4294967296*a.toNat+b.toNat) / d.toNat∧r.toNat=(4294967296*a.toNat+b.toNat)%d.toNat:=by
 have hb:=ce b; have hd:=ce d
 have hd0:¬d.toUInt64=0:=fun h0=>by
  have:=congrArg UInt64.toNat h0
  rw [bK]at this; simp at this; omega
 have hne:(d != 0)=true:=by
  rw [bne_iff_ne]; intro h0; rw [h0]at h; simp at h
 have hle:¬d≤a:=fun h1=>by have:=UInt32.le_iff_toNat_le.1 h1; omega
 refine ⟨(((br a.toUInt64 32) ||| b.toUInt64) / d.toUInt64).toUInt32,(((br a.toUInt64 32) ||| b.toUInt64)%d.toUInt64).toUInt32,?_,?_,?_⟩
 rotate_left
 ·show ((((br a.toUInt64 32) ||| b.toUInt64) / d.toUInt64).toUInt32).toNat=_
  rw [d7,UInt64.toNat_div,qi,bK,Nat.mod_eq_of_lt]
  exact Nat.div_lt_of_lt_mul (by rw [Nat.mul_comm]; omega)
 ·show ((((br a.toUInt64 32) ||| b.toUInt64)%d.toUInt64).toUInt32).toNat=_
  rw [d7,UInt64.toNat_mod,qi,bK,Nat.mod_eq_of_lt]
  exact Nat.lt_trans (Nat.mod_lt _ (by omega)) hd
 ·unfold F.E4 F.Fw
  dsimp only
  rw [if_pos hne,if_neg (by rw [decide_eq_true_eq]; exact hle),a8,grd_true _ hd0,grd_true _ hd0,a8,a8]
theorem vL (x:List UInt32) (d:UInt32) (hd:d.toNat≠0) (hx:x.length≤50000000000000):∃q r,F.FF x d=some (q,r)∧q.length=x.length∧val q=val x / d.toNat∧r.toNat=val x%d.toNat:=by
 unfold F.FF
 rw [dw (by omega),ak,a8,Int.toNat_natCast,aV (by omega) (by omega)]
 have key:∀(k:Nat) (o:List UInt32) (r:UInt32),k≤x.length→o.length=x.length→r.toNat<d.toNat→val (o.drop k)*d.toNat+r.toNat=val (x.drop k)→∃q r',loop (F.Df x d) (r,(k:Int) - 1,o)=some (q,r')∧q.length=x.length∧r'.toNat<d.toNat∧val q*d.toNat+r'.toNat=val x:=by
  intro k
  induction k with
  | zero=>
   intro o r hk ho hr hv
   refine ⟨o,r,bE ?_,ho,hr,by simpa using hv⟩
   unfold F.Df
   dsimp only
   rw [if_neg (by decide)]
  | succ k ih=>
   intro o r hk ho hr hv
   have e1:(((k+1:Nat):Int)) - 1=(k:Int):=by omega
   obtain ⟨q1,r1,s1,s2,s3⟩:=xF r (x.getD k 0) d hr
   have w:wI ((k:Int) - 1)=(k:Int) - 1:=aV (by omega) (by omega)
   have hst:F.Df x d (r,(k:Int),o)=some (.inl (r1,(k:Int) - 1,o.set k q1)):=by
    unfold F.Df
    dsimp only
    rw [if_pos (decide_eq_true (by omega)),a7 (show k<x.length by omega) 0,ak,s1,ak,a7 (show k<o.length by omega) 0,ak,a8,w,Int.toNat_natCast]; rfl
   rw [e1,bI hst]
   refine ih (o.set k q1) r1 (by omega) (by simpa using ho) (by rw [s3]; exact Nat.mod_lt _ (by omega)) ?_
   have hdr:val ((o.set k q1).drop k)=q1.toNat+4294967296*val (o.drop (k+1)):=by
    rw [cf,List.drop_set_of_lt (by omega)]
    congr 2
    rw [List.getD_eq_getElem?_getD,List.getElem?_set_self (by omega)]; rfl
   rw [hdr,cf x k,←hv,s2,s3]
   have hdm:=Nat.div_add_mod (4294967296*r.toNat+(x.getD k 0).toNat) d.toNat
   rw [Nat.add_mul,Nat.mul_comm (_ / _),Nat.mul_assoc,Nat.mul_add]
   omega
 obtain ⟨q,r,h1,h2,h3,h4⟩:=key x.length (List.replicate x.length 0) 0 (Nat.le_refl _) (by simp) (by show 0<_; omega) (by rw [List.drop_of_length_le (by simp),List.drop_of_length_le (by omega)]; simp [val])
 refine ⟨q,r,h1,h2,?_,?_⟩
 ·rw [←h4,Nat.add_comm,Nat.add_mul_div_right _ _ (by omega),Nat.div_eq_of_lt h3,Nat.zero_add]
 ·rw [←h4,Nat.add_comm,Nat.add_mul_mod_self_right,Nat.mod_eq_of_lt h3]
theorem AP (x c:UInt32) {s:Nat} (hs:s<32) (hc:c.toNat<2^s):(ch x s ||| c).toNat=x.toNat*2^s%4294967296+c.toNat:=by
 rw [UInt32.toNat_or,mO,Nat.min_eq_left (by omega)]
 have hp:=io hs
 have e:x.toNat*2^s%4294967296=2^s*(x.toNat%2^(32 - s)):=by
  rw [Nat.mul_comm,←hp,Nat.mul_mod_mul_left]
 rw [e,Nat.two_pow_add_eq_or_of_lt hc]
theorem AK (x:UInt32) {s:Nat} (hs:s<32):((aX (br x.toUInt64 s) 32).toUInt32).toNat=x.toNat*2^s / 4294967296∧x.toNat*2^s / 4294967296<2^s:=by
 have hx:=ce x
 have h1:x.toNat*2^s<4294967296*2^s:=Nat.mul_lt_mul_of_pos_right hx (Nat.two_pow_pos s)
 have h2:2^s<2^32:=Nat.pow_lt_pow_right (by decide) hs
 have h3:x.toNat*2^s / 4294967296<2^s:=Nat.div_lt_of_lt_mul h1
 refine ⟨?_,h3⟩
 rw [d7,dE,jP,bK,Nat.min_eq_left (by omega),show (2:Nat)^min 32 64=4294967296 from rfl]
 rw [Nat.mod_eq_of_lt (b:=18446744073709551616) (by omega),Nat.mod_eq_of_lt (by omega)]
def UpI (u x:List UInt32) (lo s i:Nat) (t:UInt32×List UInt32):Prop:=
 t.2.length=u.length∧t.2.take lo=u.take lo∧(∀k,lo+i≤k→t.2.getD k 0=u.getD k 0)∧t.1.toNat<2^s∧val ((t.2.drop lo).take i)+4294967296^i*t.1.toNat=2^s*val (x.take i)
theorem AG (u x:List UInt32) (lo hi s:Nat) (hs:s<32) (h1:lo≤hi) (h2:hi≤u.length) (hu:u.length≤4611686018427387904) (hx:x.length≤4611686018427387904) :
  ∃c u',F.El u lo hi x (s:Int)=some u'∧UpI u x lo s (hi - lo) (c,u'):=by
 have key:∀(k i:Nat) (t:UInt32×List UInt32),i+k=hi - lo→UpI u x lo s i t→∃c u',loop (F.C9 lo hi u x (s:Int)) (t.1,(i:Int),t.2)=some u'∧UpI u x lo s (hi - lo) (c,u'):=by
  intro k
  induction k with
  | zero=>
   intro i t hi' ht
   have:i=hi - lo:=by omega
   subst this
   refine ⟨t.1,t.2,bE ?_,ht⟩
   unfold F.C9
   dsimp only
   rw [mx h1 h2,if_neg (by rw [decide_eq_true_eq]; omega)]
  | succ k ih=>
   intro i t hi' ht
   obtain ⟨g1,g2,g3,g4,g5⟩:=ht
   have hin:i<hi - lo:=by omega
   have w4:wI ((i:Int)+1)=((i+1:Nat):Int):=by rw [aV (by omega) (by omega)]; rfl
   obtain ⟨z,hz⟩:∃z,ch (x.getD i 0) s ||| t.1=z:=⟨_,rfl⟩
   obtain ⟨c,hc⟩:∃c,(aX (br (x.getD i 0).toUInt64 s) 32).toUInt32=c:=⟨_,rfl⟩
   have hzv:=AP (x.getD i 0) t.1 hs g4
   have hcv:=AK (x.getD i 0) hs
   rw [hz]at hzv; rw [hc]at hcv
   have hK:F.Ed lo hi (s:Int) t.1 (i:Int) t.2 (x.getD i 0)=some (.inl (c,((i+1:Nat):Int),t.2.set (lo+i) z)):=by
    unfold F.Ed
    dsimp only
    rw [grd_true _ (by omega),tq (by omega) hin,ak,a8,Int.toNat_natCast,hz,grd_true _ (by omega),a8,hc,w4,Int.toNat_natCast]; rfl
   have hst:F.C9 lo hi u x (s:Int) (t.1,(i:Int),t.2)=some (.inl (c,((i+1:Nat):Int),t.2.set (lo+i) z)):=by
    unfold F.C9
    dsimp only
    rw [mx h1 h2,if_pos (decide_eq_true (by omega))]
    by_cases hb:i<x.length
    ·rw [if_pos (decide_eq_true (by omega)),a7 hb 0,ak,hK]
    ·rw [if_neg (by rw [decide_eq_true_eq]; omega)]
     rw [dn (by omega)]at hK; exact hK
   rw [bI hst]
   refine ih (i+1) (c,t.2.set (lo+i) z) (by omega) ⟨by simpa using g1,?_,fun k' hk=>?_,by show c.toNat<_; rw [hcv.1]; exact hcv.2,?_⟩
   ·show (t.2.set (lo+i) z).take lo=_
    rw [List.take_set_of_le (by omega)]; exact g2
   ·show (t.2.set (lo+i) z).getD k' 0=_
    rw [de (by omega)]; exact g3 k' (by omega)
   ·show val (((t.2.set (lo+i) z).drop lo).take (i+1))+_*c.toNat=_
    have e1:(t.2.set (lo+i) z).drop lo=(t.2.drop lo).set i z:=by rw [List.drop_set,if_neg (by omega),show lo+i - lo=i by omega]
    have e2:((t.2.drop lo).set i z).getD i 0=z:=by
     rw [List.getD_eq_getElem?_getD,List.getElem?_set_self (by rw [List.length_drop]; omega)]; rfl
    rw [e1,bD,e2,List.take_set_of_le (by omega),bD x i,Nat.mul_add,←g5,hzv,hcv.1,Nat.pow_succ]
    obtain ⟨Pw,hP⟩:∃Pw,(4294967296:Nat)^i=Pw:=⟨_,rfl⟩
    obtain ⟨m,hm⟩:∃m,(x.getD i 0).toNat*2^s=m:=⟨_,rfl⟩
    rw [hP,hm]
    have hd:=Nat.div_add_mod m 4294967296
    have e3:Pw*(m%4294967296)+Pw*4294967296*(m / 4294967296)=Pw*m:=by
     rw [Nat.mul_assoc,←Nat.mul_add,Nat.add_comm,hd]
    have e4:2^s*(Pw*(x.getD i 0).toNat)=Pw*m:=by rw [←hm,Nat.mul_left_comm,Nat.mul_comm (2^s)]
    rw [e4,Nat.mul_add]
    omega
 exact key (hi - lo) 0 (0,u) (by omega) ⟨rfl,rfl,fun _ _=>rfl,Nat.two_pow_pos s,by simp [val]⟩
theorem wa (u x:List UInt32) (s:Nat) (hs:s<32) (hu:u.length≤4611686018427387904) (hx:x.length≤u.length) (hf:2^s*val x<4294967296^u.length) :
  ∃u',F.El u 0 u.length x (s:Int)=some u'∧u'.length=u.length∧val u'=2^s*val x:=by
 obtain ⟨c,u',r1,r2,r3,r4,r5,r6⟩:=AG u x 0 u.length s hs (Nat.zero_le _) (Nat.le_refl _) hu (by omega)
 dsimp only at r2 r5 r6
 rw [Nat.sub_zero,List.drop_zero,List.take_of_length_le (by omega),List.take_of_length_le hx]at r6
 refine ⟨u',r1,r2,?_⟩
 rcases Nat.eq_zero_or_pos c.toNat with h | h
 ·rw [h]at r6; omega
 ·have:=Nat.le_mul_of_pos_right (4294967296^u.length) h
  omega
theorem qF (u:List UInt32) (s:Nat) (hs:s<32) (hu:u.length≤4611686018427387904):∃u',F.Fe u (s:Int)=some u'∧u'.length=u.length∧val u'=val u / 2^s:=by
 have hps:=io hs
 have kd:∀i,(val u / 2^s) / 4294967296^i%4294967296=((u.getD i 0).toNat+4294967296*(u.getD (i+1) 0).toNat) / 2^s%4294967296:=by
  intro i
  rw [Nat.div_div_eq_div_mul,Nat.mul_comm,←Nat.div_div_eq_div_mul,ek,cf,cf]
  have:(u.getD i 0).toNat+4294967296*((u.getD (i+1) 0).toNat+4294967296*val (u.drop (i+1+1)))=((u.getD i 0).toNat+4294967296*(u.getD (i+1) 0).toNat)+2^s*(4294967296*(2^(32 - s)*val (u.drop (i+1+1)))):=by
   have:2^s*(4294967296*(2^(32 - s)*val (u.drop (i+1+1))))=4294967296*(4294967296*val (u.drop (i+1+1))):=by
    rw [Nat.mul_left_comm,←Nat.mul_assoc (2^s),hps]
   rw [this,Nat.mul_add]; omega
  rw [this,Nat.add_mul_div_left _ _ (Nat.two_pow_pos s),Nat.add_mul_mod_self_left]
 have key:∀(k i:Nat) (o:List UInt32),i+k=u.length→o.length=u.length→(∀j,i≤j→o.getD j 0=u.getD j 0)→val (o.take i)=(val u / 2^s)%4294967296^i →
   ∃u',loop (F.DN u (s:Int)) ((i:Int),o)=some u'∧u'.length=u.length∧val u'=val u / 2^s:=by
  intro k
  induction k with
  | zero=>
   intro i o hi ho _ hv
   have:i=u.length:=by omega
   subst this
   refine ⟨o,bE ?_,ho,?_⟩
   ·unfold F.DN
    dsimp only
    rw [if_neg (by rw [decide_eq_true_eq]; omega)]
   ·rw [List.take_of_length_le (by omega)]at hv
    rw [hv,Nat.mod_eq_of_lt]
    exact Nat.lt_of_le_of_lt (Nat.div_le_self _ _) (bB u)
  | succ k ih=>
   intro i o hi ho hg hv
   have w4:wI ((i:Int)+1)=((i+1:Nat):Int):=by rw [aV (by omega) (by omega)]; rfl
   obtain ⟨z,hz⟩:∃z,(aX ((u.getD i 0).toUInt64 ||| (br (u.getD (i+1) 0).toUInt64 32)) s).toUInt32=z:=⟨_,rfl⟩
   have hzv:z.toNat=((u.getD i 0).toNat+4294967296*(u.getD (i+1) 0).toNat) / 2^s%4294967296:=by
    rw [←hz,d7,dE,nC,Nat.min_eq_left (by omega)]
   have hK:∀v:UInt64,v=((u.getD i 0).toUInt64 ||| (br (u.getD (i+1) 0).toUInt64 32))→F.Ez (s:Int) (i:Int) o v=some (.inl (((i+1:Nat):Int),o.set i z)):=by
    rintro v rfl
    unfold F.Ez
    dsimp only
    rw [grd_true _ (by omega),a7 (show i<o.length by omega) 0,ak,a8,Int.toNat_natCast,Int.toNat_natCast,hz,w4]; rfl
   have hst:F.DN u (s:Int) ((i:Int),o)=some (.inl (((i+1:Nat):Int),o.set i z)):=by
    unfold F.DN
    dsimp only
    rw [if_pos (decide_eq_true (by omega)),a7 (show i<o.length by omega) 0,ak,w4,hg i (Nat.le_refl _)]
    by_cases hb:i+1<o.length
    ·rw [if_pos (decide_eq_true (by omega)),a7 hb 0,ak,a8,hg (i+1) (by omega),hK _ rfl]
    ·rw [if_neg (by rw [decide_eq_true_eq]; omega),hK _ (by
      apply UInt64.toNat_inj.1
      rw [nC,dn (a:=u) (i:=i+1) (by omega),bK]; rfl)]
   rw [bI hst]
   refine ih (i+1) (o.set i z) (by omega) (by simpa using ho) (fun j hj=>by rw [de (by omega)]; exact hg j (by omega)) ?_
   have e2:(o.set i z).getD i 0=z:=by
    rw [List.getD_eq_getElem?_getD,List.getElem?_set_self (by omega)]; rfl
   rw [bD,e2,List.take_set_of_le (by omega),hv,Nat.mod_pow_succ,kd i,hzv]
 exact key u.length 0 u (by omega) rfl (fun _ _=>rfl) (by simp [val,Nat.mod_one])
theorem pa (u v:List UInt32) (hl:u.length=v.length) (hu:u.length≤4611686018427387904):F.C8 u v=some (decide (val u<val v)):=by
 have key:∀k:Nat,k≤u.length→val (u.drop k)=val (v.drop k)→loop (F.Cf u v) ((k:Int) - 1)=some (decide (val u<val v)):=by
  intro k
  induction k with
  | zero=>
   intro _ h
   rw [List.drop_zero,List.drop_zero]at h
   refine bE ?_
   unfold F.Cf
   dsimp only
   rw [if_neg (by decide),decide_eq_false (by omega)]
  | succ k ih=>
   intro hk h
   have e1:(((k+1:Nat):Int)) - 1=(k:Int):=by omega
   have w:wI ((k:Int) - 1)=(k:Int) - 1:=aV (by omega) (by omega)
   rw [e1]
   by_cases hne:u.getD k 0=v.getD k 0
   ·have hL:F.Cf u v (k:Int)=some (.inl ((k:Int) - 1)):=by
     unfold F.Cf
     dsimp only
     rw [if_pos (decide_eq_true (by omega)),a7 (show k<u.length by omega) 0,ak,a7 (show k<v.length by omega) 0,ak,if_neg (by rw [hne]; simp),w]; rfl
    rw [bI hL]
    refine ih (by omega) ?_
    rw [cf u k,cf v k,h,hne]
   ·have hL:F.Cf u v (k:Int)=bl (some (decide (u.getD k 0<v.getD k 0))):=by
     unfold F.Cf
     dsimp only
     rw [if_pos (decide_eq_true (by omega)),a7 (show k<u.length by omega) 0,ak,a7 (show k<v.length by omega) 0,ak,if_pos (by rw [bne_iff_ne]; exact hne),ak,ak]
    rw [bE hL]
    congr 1
    by_cases hlt:u.getD k 0<v.getD k 0
    ·rw [decide_eq_true hlt,decide_eq_true (mr u v k h (UInt32.lt_iff_toNat_lt.1 hlt))]
    ·have h3:(v.getD k 0).toNat<(u.getD k 0).toNat:=by
      have a1:¬(u.getD k 0).toNat<(v.getD k 0).toNat:=fun q=>hlt (UInt32.lt_iff_toNat_lt.2 q)
      have a2:(u.getD k 0).toNat≠(v.getD k 0).toNat:=fun q=>hne (UInt32.toNat_inj.1 q)
      omega
     have:=mr v u k h.symm h3
     rw [decide_eq_false hlt,decide_eq_false (by omega)]
 unfold F.C8
 rw [a8,aV (by omega) (by omega)]
 exact key u.length (Nat.le_refl _) (by rw [List.drop_of_length_le (by omega),List.drop_of_length_le (by omega)])
end Go.Gk.Bn
end

section
namespace Go.Gk.Bn
open Go Go.Gk Go.Gk.Sh
theorem vX (v a:List UInt32) (v1 v2 u2:UInt32) (h K U' V':Nat) (hn:2≤v.length) (ha:v.length≤a.length) (hs:v.length≤70368744177664)
  (hv1':v.getD (v.length - 1) 0=v1) (hv2':v.getD (v.length - 2) 0=v2) (hu2:a.getD (v.length - 2) 0=u2) (hV:val v=(v1.toNat*4294967296+v2.toNat)*K+V') (hU':U'<K) (hV':V'<K) (hv1:1≤v1.toNat)
  (hlt:(h*4294967296+u2.toNat)*K+U'<4294967296*val v) (hh:h≤v1.toNat*4294967296+4294967295) :
  ∀(m:Nat) (g r:UInt64),g.toNat=m→h=g.toNat*v1.toNat+r.toNat→r.toNat≤4294967295→(h*4294967296+u2.toNat)*K+U'<(g.toNat+1)*val v →
   ∃g':UInt64,loop (F.B9 a v) (g,r)=some g'∧g'.toNat≤4294967295∧(h*4294967296+u2.toNat)*K+U'<(g'.toNat+1)*val v:=by
 have x1:=ce v1; have x2:=ce v2; have x3:=ce u2
 have w1:wI ((v.length:Int) - 1)=((v.length - 1:Nat):Int):=by rw [aV (by omega) (by omega)]; omega
 have w2:wI ((v.length:Int) - 2)=((v.length - 2:Nat):Int):=by rw [aV (by omega) (by omega)]; omega
 intro m
 induction m using Nat.strongRecOn with
 | ind m ih=>
  intro g r hm hgr hr hub
  have down:F.B9 a v (g,r)=F.CR v g r true→(4294967296≤g.toNat∨r.toNat*4294967296+u2.toNat<g.toNat*v2.toNat) →
    ∃g':UInt64,loop (F.B9 a v) (g,r)=some g'∧g'.toNat≤4294967295∧(h*4294967296+u2.toNat)*K+U'<(g'.toNat+1)*val v:=by
   intro hL ht
   have hg1:1≤g.toNat:=by
    rcases Nat.eq_zero_or_pos g.toNat with h0 | h0
    ·rw [h0]at ht; omega
    ·exact h0
   have hgs:(g - 1).toNat=g.toNat - 1:=by
    rw [UInt64.toNat_sub_of_le _ _ (by rw [UInt64.le_iff_toNat_le]; exact hg1)]; rfl
   have hrs:(r+v1.toUInt64).toNat=r.toNat+v1.toNat:=by rw [fF _ _ (by rw [bK]; omega),bK]
   have hd:=q8 (K:=K) (V':=V') hgr hU' ht (by rw [←hV]; exact hlt)
   rw [←hV]at hd
   obtain ⟨k,hk⟩:∃k,g.toNat=k+1:=⟨g.toNat - 1,by omega⟩
   have hgr2:h=(g - 1).toNat*v1.toNat+(r+v1.toUInt64).toNat:=by
    rw [hgs,hrs,hgr,hk,Nat.add_sub_cancel,Nat.add_mul]; omega
   have hub2:(h*4294967296+u2.toNat)*K+U'<((g - 1).toNat+1)*val v:=by
    rw [hgs,hk,Nat.add_sub_cancel,←hk]; exact hd
   unfold F.CR at hL
   rw [if_pos rfl,w1,a7 (show v.length - 1<v.length by omega) 0,ak,hv1']at hL
   by_cases hb:4294967296≤(r+v1.toUInt64).toNat
   ·rw [if_pos (decide_eq_true (by rw [UInt64.le_iff_toNat_le]; exact hb))]at hL
    have hgl:(g - 1).toNat<4294967296:=by
     have:(g - 1).toNat*v1.toNat<4294967296*v1.toNat:=by omega
     exact Nat.lt_of_mul_lt_mul_right this
    exact ⟨g - 1,bE hL,by omega,hub2⟩
   ·rw [if_neg (by simp only [decide_eq_true_eq,UInt64.le_iff_toNat_le]; exact hb)]at hL
    obtain ⟨g',q1,q2⟩:=ih (g - 1).toNat (by omega) (g - 1) (r+v1.toUInt64) rfl hgr2 (by omega) hub2
    exact ⟨g',(bI hL).trans q1,q2⟩
  by_cases hg:4294967296≤g.toNat
  ·refine down ?_ (.inl hg)
   unfold F.B9
   dsimp only
   rw [if_pos (decide_eq_true (by rw [UInt64.le_iff_toNat_le]; exact hg))]
  ·have e1:((br r 32) ||| u2.toUInt64).toNat=4294967296*r.toNat+u2.toNat:=r8 _ _ hr
   have hp:=Nat.mul_le_mul (show g.toNat≤4294967295 by omega) (show v2.toNat≤4294967295 by omega)
   have e2:(g*v2.toUInt64).toNat=g.toNat*v2.toNat:=by rw [mb _ _ (by rw [bK]; omega),bK]
   have hL:F.B9 a v (g,r)=F.CR v g r (decide (((br r 32) ||| u2.toUInt64)<(g*v2.toUInt64))):=by
    unfold F.B9
    dsimp only
    rw [if_neg (by simp only [decide_eq_true_eq,UInt64.le_iff_toNat_le]; exact hg),w2,a7 (show v.length - 2<v.length by omega) 0,ak,a7 (show v.length - 2<a.length by omega) 0,ak,hv2',hu2]
   by_cases ht:r.toNat*4294967296+u2.toNat<g.toNat*v2.toNat
   ·rw [show decide (((br r 32) ||| u2.toUInt64)<(g*v2.toUInt64))=true from decide_eq_true (by rw [UInt64.lt_iff_toNat_lt,e1,e2]; omega)]at hL
    exact down hL (.inr ht)
   ·rw [show decide (((br r 32) ||| u2.toUInt64)<(g*v2.toUInt64))=false from decide_eq_false (by rw [UInt64.lt_iff_toNat_lt,e1,e2]; omega)]at hL
    unfold F.CR at hL
    rw [if_neg (by decide)]at hL
    exact ⟨g,bE hL,by omega,hub⟩
theorem sE (v a:List UInt32) (hn:2≤v.length) (ha:a.length=v.length+1) (hs:v.length≤70368744177664) (htop:2147483648≤(v.getD (v.length - 1) 0).toNat) (hlt:val a<4294967296*val v) :
  ∃g:UInt64,F.FA a v=some g∧g.toNat≤4294967295∧val a<(g.toNat+1)*val v:=by
 obtain ⟨v1,hv1⟩:∃v1,v.getD (v.length - 1) 0=v1:=⟨_,rfl⟩
 obtain ⟨v2,hv2⟩:∃v2,v.getD (v.length - 2) 0=v2:=⟨_,rfl⟩
 obtain ⟨u0,hu0⟩:∃u0,a.getD (v.length) 0=u0:=⟨_,rfl⟩
 obtain ⟨u1,hu1⟩:∃u1,a.getD (v.length - 1) 0=u1:=⟨_,rfl⟩
 obtain ⟨u2,hu2⟩:∃u2,a.getD (v.length - 2) 0=u2:=⟨_,rfl⟩
 rw [hv1]at htop
 have x1:=ce v1; have x2:=ce v2; have y0:=ce u0; have y1:=ce u1; have y2:=ce u2
 have eV:val v=(v1.toNat*4294967296+v2.toNat)*4294967296^(v.length - 2)+val (v.take (v.length - 2)):=by
  have:=c8 v (v.length - 2) (by omega)
  rw [cf,show v.length - 2+1=v.length - 1 by omega,cf,show v.length - 1+1=v.length by omega,List.drop_length,dl,hv1,hv2]at this
  rw [this,Nat.mul_zero,Nat.add_zero,Nat.mul_comm (4294967296^_),Nat.add_comm v2.toNat,Nat.mul_comm 4294967296 v1.toNat]
  omega
 have hV':val (v.take (v.length - 2))<4294967296^(v.length - 2):=by
  have:=bB (v.take (v.length - 2))
  rwa [List.length_take,Nat.min_eq_left (by omega)]at this
 obtain ⟨K,hK⟩:∃K,4294967296^(v.length - 2)=K:=⟨_,rfl⟩
 obtain ⟨U',hU'⟩:∃U',val (a.take (v.length - 2))=U':=⟨_,rfl⟩
 have hU'K:U'<K:=by
  have:=bB (a.take (v.length - 2))
  rw [List.length_take,Nat.min_eq_left (by omega)]at this
  rw [←hU',←hK]; exact this
 obtain ⟨h,hh⟩:∃h,u0.toNat*4294967296+u1.toNat=h:=⟨_,rfl⟩
 have eU:val a=(h*4294967296+u2.toNat)*K+U':=by
  have h1:=c8 a (v.length - 2) (by omega)
  rw [cf a (v.length - 2),show v.length - 2+1=v.length - 1 by omega,cf a (v.length - 1),show v.length - 1+1=v.length by omega,cf a v.length,List.drop_of_length_le (l:=a) (i:=v.length+1) (by omega),dl,hU',hK,hu0,hu1,hu2]at h1
  rw [h1,←hh,Nat.mul_zero,Nat.add_zero,Nat.mul_comm K]
  have:u2.toNat+4294967296*(u1.toNat+4294967296*u0.toNat)=(u0.toNat*4294967296+u1.toNat)*4294967296+u2.toNat:=by omega
  rw [this]; omega
 rw [hK]at eV hV'
 have hUlt:(h*4294967296+u2.toNat)*K+U'<4294967296*val v:=by rw [←eU]; exact hlt
 have hu0v:u0.toNat≤v1.toNat:=by
  rcases Nat.lt_or_ge v1.toNat u0.toNat with h1 | h1
  ·exfalso
   have a1:(v1.toNat*4294967296+v2.toNat+1)*K≤(u0.toNat*4294967296)*K:=Nat.mul_le_mul_right _ (by omega)
   have a2:val v<(v1.toNat*4294967296+v2.toNat+1)*K:=by rw [eV,Nat.add_mul (v1.toNat*4294967296+v2.toNat) 1 K,Nat.one_mul]; exact Nat.add_lt_add_left hV' _
   have a4:=Nat.mul_le_mul_right K (show 4294967296*(u0.toNat*4294967296)≤h*4294967296+u2.toNat by omega)
   rw [Nat.mul_assoc 4294967296]at a4
   omega
  ·exact h1
 have hne:¬v1.toUInt64=0:=by
  intro h0
  have:=congrArg UInt64.toNat h0
  rw [bK]at this
  simp at this
  omega
 obtain ⟨H,hH⟩:∃H,(br u0.toUInt64 32) ||| u1.toUInt64=H:=⟨_,rfl⟩
 have hHn:H.toNat=h:=by rw [←hH,qi,←hh]; omega
 have hdv:(H / v1.toUInt64).toNat=h / v1.toNat:=by rw [UInt64.toNat_div,bK,hHn]
 have hmd:(H%v1.toUInt64).toNat=h%v1.toNat:=by rw [UInt64.toNat_mod,bK,hHn]
 have hdm:=Nat.div_add_mod h v1.toNat
 have hml:=Nat.mod_lt h (show 0<v1.toNat by omega)
 obtain ⟨g,hg,g1,g2⟩:=vX v a v1 v2 u2 h K U' (val (v.take (v.length - 2))) hn (by omega) hs hv1 hv2 hu2 eV hU'K hV' (by omega) hUlt (by omega) _ (H / v1.toUInt64) (H%v1.toUInt64) rfl
  (by rw [hdv,hmd,Nat.mul_comm]; omega) (by rw [hmd]; omega) (by
   rw [hdv]
   have a1:h+1≤(h / v1.toNat+1)*v1.toNat:=by rw [Nat.add_mul,Nat.mul_comm (h / v1.toNat)]; omega
   have a2:(h+1)*(4294967296*K)≤(h / v1.toNat+1)*v1.toNat*(4294967296*K):=Nat.mul_le_mul_right _ a1
   have a3:(h / v1.toNat+1)*(v1.toNat*(4294967296*K))≤(h / v1.toNat+1)*val v:=by
    refine Nat.mul_le_mul_left _ ?_
    rw [eV,Nat.add_mul,Nat.mul_assoc]; omega
   have a4:(h*4294967296+u2.toNat+1)*K≤(h+1)*(4294967296*K):=by
    rw [←Nat.mul_assoc]; exact Nat.mul_le_mul_right _ (by omega)
   rw [Nat.add_mul (h*4294967296+u2.toNat) 1 K,Nat.one_mul]at a4
   rw [Nat.mul_assoc]at a2
   omega)
 refine ⟨g,?_,g1,by rw [eU]; exact g2⟩
 have w1:wI ((v.length:Int) - 1)=((v.length - 1:Nat):Int):=by rw [aV (by omega) (by omega)]; omega
 unfold F.FA
 rw [a7 (show v.length<a.length by omega) 0,ak,w1,a7 (show v.length - 1<a.length by omega) 0,ak,a8,hu0,hu1,hH,a7 (show v.length - 1<v.length by omega) 0,ak,hv1,grd_true _ hne,ak,grd_true _ hne,hg]
def PtI (g:UInt64) (v p:List UInt32) (i:Nat) (s:UInt64×List UInt32):Prop:=
 s.2.length=p.length∧s.1.toNat≤4294967295∧val (s.2.take i)+4294967296^i*s.1.toNat=g.toNat*val (v.take i)
theorem tE (v u q p:List UInt32) (j:Int) (g:UInt64) (hg:g.toNat≤4294967295) (hp:p.length=v.length+1) (hv:v.length≤4611686018427387900) :
  ∃p':List UInt32,p'.length=v.length+1∧val p'=g.toNat*val v∧loop (F.CU v j u q g) (0,0,p) =
   an (slO u j (wI ((wI (j+(v.length:Int)))+1):Int)) fun x_44=>an (F.C8 x_44 p') fun x_45=>
    if (!x_45)=true then (bl (an (slO u j (wI ((wI (j+(v.length:Int)))+1):Int)) fun x_46=>an (F.Cs u j.toNat ((wI ((wI (j+(v.length:Int)))+1):Int).toNat) p') fun x_47=>
     an (aB q j) fun x_48=>bq (q.set j.toNat g.toUInt32) fun x_49=>bv (wI (j - 1),x_47.2,x_49,p'))) else bv (g - 1,p'):=by
 have key:∀(k i:Nat) (s:UInt64×List UInt32),i+k=v.length→PtI g v p i s→∃p':List UInt32,p'.length=v.length+1∧val p'=g.toNat*val v∧loop (F.CU v j u q g) (s.1,(i:Int),s.2) =
   an (slO u j (wI ((wI (j+(v.length:Int)))+1):Int)) fun x_44=>an (F.C8 x_44 p') fun x_45=>
    if (!x_45)=true then (bl (an (slO u j (wI ((wI (j+(v.length:Int)))+1):Int)) fun x_46=>an (F.Cs u j.toNat ((wI ((wI (j+(v.length:Int)))+1):Int).toNat) p') fun x_47=>
     an (aB q j) fun x_48=>bq (q.set j.toNat g.toUInt32) fun x_49=>bv (wI (j - 1),x_47.2,x_49,p'))) else bv (g - 1,p'):=by
  intro k
  induction k with
  | zero=>
   intro i s hi hs
   obtain ⟨g1,g2,g3⟩:=hs
   have:i=v.length:=by omega
   subst this
   refine ⟨s.2.set v.length s.1.toUInt32,by simp; omega,?_,bE ?_⟩
   ·have e0:(s.2.set v.length s.1.toUInt32)=(s.2.set v.length s.1.toUInt32).take (v.length+1):=by rw [List.take_of_length_le (by simp; omega)]
    have e2:(s.2.set v.length s.1.toUInt32).getD v.length 0=s.1.toUInt32:=by
     rw [List.getD_eq_getElem?_getD,List.getElem?_set_self (by omega)]; rfl
    rw [e0,bD,e2,List.take_set_of_le (by omega),d7,Nat.mod_eq_of_lt (by omega),g3,List.take_of_length_le (Nat.le_refl _)]
   ·unfold F.CU
    dsimp only
    rw [if_neg (by rw [decide_eq_true_eq]; omega),a7 (show v.length<s.2.length by omega) 0,ak,a8,Int.toNat_natCast]
  | succ k ih=>
   intro i s hi hs
   obtain ⟨g1,g2,g3⟩:=hs
   have w2:wI ((i:Int)+1)=((i+1:Nat):Int):=by rw [aV (by omega) (by omega)]; rfl
   obtain ⟨t,ht⟩:∃t,s.1+(g*(v.getD i 0).toUInt64)=t:=⟨_,rfl⟩
   have hst:F.CU v j u q g (s.1,(i:Int),s.2)=some (.inl (aX t 32,((i+1:Nat):Int),s.2.set i t.toUInt32)):=by
    unfold F.CU
    dsimp only
    rw [if_pos (decide_eq_true (by omega)),a7 (show i<v.length by omega) 0,ak,a8,ht,a7 (show i<s.2.length by omega) 0,ak,a8,w2,Int.toNat_natCast]; rfl
   rw [bI hst]
   have x2:=ce (v.getD i 0)
   have hpp:=Nat.mul_le_mul hg (show (v.getD i 0).toNat≤4294967295 by omega)
   have m1:(g*(v.getD i 0).toUInt64).toNat=g.toNat*(v.getD i 0).toNat:=by rw [mb _ _ (by rw [bK]; omega),bK]
   have m3:t.toNat=s.1.toNat+g.toNat*(v.getD i 0).toNat:=by rw [←ht,fF _ _ (by rw [m1]; omega),m1]
   have c1:(aX t 32).toNat=t.toNat / 4294967296:=by rw [dE]; rfl
   refine ih (i+1) (aX t 32,s.2.set i t.toUInt32) (by omega) ⟨by simpa using g1,by show (aX t 32).toNat≤_; rw [c1]; omega,?_⟩
   show val ((s.2.set i t.toUInt32).take (i+1))+_*(aX t 32).toNat=_
   have e2:(s.2.set i t.toUInt32).getD i 0=t.toUInt32:=by
    rw [List.getD_eq_getElem?_getD,List.getElem?_set_self (by omega)]; rfl
   rw [bD,e2,List.take_set_of_le (by omega),d7,bD v i,Nat.mul_add,←g3,c1,Nat.pow_succ]
   obtain ⟨Pw,hP⟩:∃Pw,(4294967296:Nat)^i=Pw:=⟨_,rfl⟩
   rw [hP]
   have hd:=Nat.div_add_mod t.toNat 4294967296
   have e3:Pw*(t.toNat%4294967296)+Pw*4294967296*(t.toNat / 4294967296)=Pw*t.toNat:=by
    rw [Nat.mul_assoc,←Nat.mul_add,Nat.add_comm,hd]
   have e4:Pw*t.toNat=Pw*s.1.toNat+Pw*(g.toNat*(v.getD i 0).toNat):=by rw [m3,Nat.mul_add]
   have e5:g.toNat*(Pw*(v.getD i 0).toNat)=Pw*(g.toNat*(v.getD i 0).toNat):=by rw [Nat.mul_left_comm]
   rw [e5]
   omega
 exact key v.length 0 (0,p) (by omega) ⟨rfl,Nat.zero_le _,by simp [val]⟩
theorem uI (v u q:List UInt32) (j:Nat) (hj:j+v.length<u.length) (hq:j<q.length) (hul:u.length≤4611686018427387900) (hql:q.length≤4611686018427387900) (hvp:0<val v) (hu:val u<4294967296^(j+1)*val v) :
  ∀(m:Nat) (g:UInt64) (p:List UInt32),g.toNat=val u / 4294967296^j / val v+m→g.toNat≤4294967295→p.length=v.length+1 →
   ∃(d:UInt64) (u' p':List UInt32),loop (F.Dk v (j:Int) u q) (g,p)=some (.inl ((j:Int) - 1,u',q.set j d.toUInt32,p'))∧p'.length=v.length+1∧u'.length=u.length∧d.toNat≤4294967295 ∧
    val u'+4294967296^j*(d.toNat*val v)=val u∧val u'<4294967296^j*val v:=by
 have hvl:=bB v
 have hu3:val u<4294967296^(j+v.length+1):=by
  have:=Nat.mul_lt_mul_of_pos_left hvl (Nat.pow_pos (n:=j+1) (show 0<4294967296 by decide))
  rw [←Nat.pow_add,show j+1+v.length=j+v.length+1 by omega]at this
  omega
 have wj:wI ((wI ((j:Int)+(v.length:Int)))+1)=((j+v.length+1:Nat):Int):=by
  rw [aV (x:=(j:Int)+(v.length:Int)) (by omega) (by omega),aV (by omega) (by omega)]; omega
 have wk:wI ((j:Int) - 1)=(j:Int) - 1:=aV (by omega) (by omega)
 have hsl:slO u (j:Int) ((j+v.length+1:Nat):Int)=some ((u.drop j).take (j+v.length+1 - j)):=n8 (by omega) (by omega)
 have hml:((u.drop j).take (j+v.length+1 - j)).length=v.length+1:=by rw [List.length_take,List.length_drop]; omega
 have hmv:val ((u.drop j).take (j+v.length+1 - j))=val u / 4294967296^j:=by
  rw [ek]
  have:=c8 (u.drop j) (v.length+1) (by rw [List.length_drop]; omega)
  rw [List.drop_drop,show j+(v.length+1)=j+v.length+1 by omega,gz hu3,Nat.mul_zero,Nat.add_zero]at this
  rw [show j+v.length+1 - j=v.length+1 by omega,this]
 obtain ⟨M,hM⟩:∃M,val u / 4294967296^j=M:=⟨_,rfl⟩
 have hpos:=Nat.pow_pos (n:=j) (show 0<4294967296 by decide)
 intro m
 induction m with
 | zero=>
  intro g p hgm hg hp
  rw [Nat.add_zero,hM]at hgm
  obtain ⟨p',p1,p2,p3⟩:=tE v u q p (j:Int) g hg hp (by omega)
  have hle:g.toNat*val v≤M:=by rw [hgm]; exact Nat.div_mul_le_self _ _
  have hlow:=Nat.div_mul_le_self (val u) (4294967296^j)
  rw [hM,Nat.mul_comm]at hlow
  have hup:=Nat.lt_div_mul_add hpos (a:=val u)
  rw [hM,Nat.mul_comm]at hup
  obtain ⟨c,u',t1,t2,t3⟩:=qN u p' j (j+v.length+1) (by omega) (by omega) (by omega) (by omega) hu3 (by rw [p2]; exact Nat.le_trans (Nat.mul_le_mul_left _ hle) hlow)
  refine ⟨g,u',p',?_,p1,t2,hg,by rw [←p2]; exact t3,?_⟩
  ·refine bE ?_
   unfold F.Dk
   dsimp only
   rw [p3,wj,hsl,ak,pa _ _ (by omega) (by omega),ak,hmv,hM,p2,decide_eq_false (by omega),if_pos (by rfl),ak,Int.toNat_natCast,Int.toNat_natCast,t1,ak,a7 hq 0,ak,a8,wk]
   rfl
  ·have h1:M<(g.toNat+1)*val v:=by
    rw [hgm]
    have:=Nat.lt_div_mul_add hvp (a:=M)
    rw [Nat.add_mul,Nat.one_mul]; exact this
   rw [Nat.add_mul,Nat.one_mul]at h1
   have h2:=Nat.mul_le_mul_left (4294967296^j) (show M+1≤g.toNat*val v+val v by omega)
   rw [Nat.mul_add,Nat.mul_one,Nat.mul_add]at h2
   rw [p2]at t3
   omega
 | succ m ih=>
  intro g p hgm hg hp
  rw [hM]at hgm
  obtain ⟨p',p1,p2,p3⟩:=tE v u q p (j:Int) g hg hp (by omega)
  have hlt:M<g.toNat*val v:=by
   rcases Nat.lt_or_ge M (g.toNat*val v) with h | h
   ·exact h
   ·have:=(Nat.le_div_iff_mul_le hvp).2 h
    omega
  have hg1:1≤g.toNat:=by
   rcases Nat.eq_zero_or_pos g.toNat with h | h
   ·rw [h,Nat.zero_mul]at hlt; omega
   ·exact h
  have hgs:(g - 1).toNat=g.toNat - 1:=by
   rw [UInt64.toNat_sub_of_le _ _ (by rw [UInt64.le_iff_toNat_le]; exact hg1)]; rfl
  have hst:F.Dk v (j:Int) u q (g,p)=some (.inl (g - 1,p')):=by
   unfold F.Dk
   dsimp only
   rw [p3,wj,hsl,ak,pa _ _ (by omega) (by omega),ak,hmv,hM,p2,decide_eq_true hlt,if_neg (by decide)]
   rfl
  rw [bI hst]
  exact ih (g - 1) p' (by rw [hgs,hM]; omega) (by omega) p1
theorem uU (s:Int) (v u q p:List UInt32) (j:Nat) (hn:2≤v.length) (htop:2147483648≤(v.getD (v.length - 1) 0).toNat) (hj:j+v.length<u.length) (hq:j<q.length) (hul:u.length≤70368744177664) (hql:q.length≤70368744177664) (hp:p.length=v.length+1) (hvp:0<val v) (hu:val u<4294967296^(j+1)*val v) :
  ∃(d:UInt64) (u' p':List UInt32),F.C5 s v ((j:Int),u,q,p)=some (.inl ((j:Int) - 1,u',q.set j d.toUInt32,p'))∧p'.length=v.length+1∧u'.length=u.length∧d.toNat≤4294967295 ∧
    val u'+4294967296^j*(d.toNat*val v)=val u∧val u'<4294967296^j*val v:=by
 have hvl:=bB v
 have hu3:val u<4294967296^(j+v.length+1):=by
  have:=Nat.mul_lt_mul_of_pos_left hvl (Nat.pow_pos (n:=j+1) (show 0<4294967296 by decide))
  rw [←Nat.pow_add,show j+1+v.length=j+v.length+1 by omega]at this
  omega
 have wj:wI ((wI ((j:Int)+(v.length:Int)))+1)=((j+v.length+1:Nat):Int):=by
  rw [aV (x:=(j:Int)+(v.length:Int)) (by omega) (by omega),aV (by omega) (by omega)]; omega
 have hsl:slO u (j:Int) ((j+v.length+1:Nat):Int)=some ((u.drop j).take (j+v.length+1 - j)):=n8 (by omega) (by omega)
 have hml:((u.drop j).take (j+v.length+1 - j)).length=v.length+1:=by rw [List.length_take,List.length_drop]; omega
 have hmv:val ((u.drop j).take (j+v.length+1 - j))=val u / 4294967296^j:=by
  rw [ek]
  have:=c8 (u.drop j) (v.length+1) (by rw [List.length_drop]; omega)
  rw [List.drop_drop,show j+(v.length+1)=j+v.length+1 by omega,gz hu3,Nat.mul_zero,Nat.add_zero]at this
  rw [show j+v.length+1 - j=v.length+1 by omega,this]
 have hpos:=Nat.pow_pos (n:=j) (show 0<4294967296 by decide)
 have hMlt:val u / 4294967296^j<4294967296*val v:=by
  rw [Nat.div_lt_iff_lt_mul hpos,Nat.mul_comm]
  rw [Nat.pow_succ,Nat.mul_assoc]at hu
  exact hu
 obtain ⟨g,g1,g2,g3⟩:=sE v _ hn hml (by omega) htop (by rw [hmv]; exact hMlt)
 rw [hmv]at g3
 have hge:val u / 4294967296^j / val v≤g.toNat:=by
  have:=(Nat.div_lt_iff_lt_mul hvp).2 g3
  omega
 obtain ⟨d,u',p',r1,r2⟩:=uI v u q j hj hq (by omega) (by omega) hvp hu (g.toNat - val u / 4294967296^j / val v) g p (by omega) g2 hp
 refine ⟨d,u',p',?_,r2⟩
 unfold F.C5
 dsimp only
 rw [if_pos (decide_eq_true (by omega)),wj,hsl,ak,g1,ak,r1]
theorem wv (s:Nat) (v:List UInt32) (A:Nat) (hn:2≤v.length) (htop:2147483648≤(v.getD (v.length - 1) 0).toNat) (hs:s<32) (hvp:0<val v) :
  ∀(k:Nat) (u q p:List UInt32),k+v.length≤u.length→k≤q.length→u.length≤70368744177664→q.length≤70368744177664→p.length=v.length+1→(∀i,i<k→q.getD i 0=0)→val q*val v+val u=A→val u<4294967296^k*val v →
   ∃q' u':List UInt32,loop (F.C5 (s:Int) v) ((k:Int) - 1,u,q,p)=some (q',(u',v.length))∧q'.length=q.length∧u'.length=u.length∧val q'=A / val v∧val u'=A%val v / 2^s:=by
 intro k
 induction k with
 | zero=>
  intro u q p h1 h2 h3 h4 hp h5 h6 h7
  rw [Nat.pow_zero,Nat.one_mul]at h7
  have eq:A / val v=val q:=by rw [←h6,Nat.add_comm,Nat.add_mul_div_right _ _ hvp,Nat.div_eq_of_lt h7,Nat.zero_add]
  have er:A%val v=val u:=by rw [←h6,Nat.add_comm,Nat.add_mul_mod_self_right,Nat.mod_eq_of_lt h7]
  obtain ⟨u',d1,d2,d3⟩:=qF u s hs (by omega)
  refine ⟨q,u',bE ?_,rfl,d2,eq.symm,by rw [er]; exact d3⟩
  unfold F.C5
  dsimp only
  rw [if_neg (by decide),d1,ak,Int.toNat_natCast,grd_true _ ⟨by omega,by omega⟩]
 | succ k ih=>
  intro u q p h1 h2 h3 h4 hp h5 h6 h7
  have e1:(((k+1:Nat):Int)) - 1=(k:Int):=by omega
  obtain ⟨d,u',p',r1,rp,r2,r5,r3,r4⟩:=uU (s:Int) v u q p k hn htop (by omega) (by omega) h3 h4 hp hvp h7
  rw [e1,bI r1]
  obtain ⟨q',u'',z1,z2,z3,z4⟩:=ih u' (q.set k d.toUInt32) p' (by omega) (by simp; omega) (by omega) (by simpa using h4) rp (fun i hi=>by rw [de (by omega)]; exact h5 i (by omega)) (by
   have hv:=dB q k d.toUInt32 (by omega)
   rw [h5 k (by omega)]at hv
   have z0:(0:UInt32).toNat=0:=rfl
   rw [z0,Nat.mul_zero,Nat.add_zero]at hv
   rw [hv,d7,Nat.mod_eq_of_lt (by omega),Nat.add_mul,Nat.mul_assoc,←h6]
   omega) r4
  exact ⟨q',u'',z1,by simpa using z2,by omega,z4⟩
theorem xe (n k:Nat):(List.replicate n (0:UInt32)).getD k 0=0:=by
 rw [List.getD_eq_getElem?_getD]
 by_cases hk:k<n <;> simp [hk]
theorem yh (x y:List UInt32) (hy:2≤y.length) (htop:y.getD (y.length - 1) 0≠0) (hxy:y.length≤x.length) (hx:x.length≤50000000000000) :
  ∃q u:List UInt32,F.EY x y=some (q,(u,y.length))∧q.length≤x.length+1∧u.length=x.length+1∧val q=val x / val y∧val u=val x%val y:=by
 obtain ⟨tp,htp⟩:∃tp,y.getD (y.length - 1) 0=tp:=⟨_,rfl⟩
 rw [htp]at htop
 have ht0:tp.toNat≠0:=fun h=>htop (UInt32.toNat_inj.1 h)
 obtain ⟨b1,b2⟩:=c6 tp.toNat
 obtain ⟨b2,b3⟩:=b2 ht0
 have b4:nb tp.toNat≤32:=kM (ce tp)
 obtain ⟨s,hs⟩:∃s,s=32 - nb tp.toNat:=⟨_,rfl⟩
 have hs32:s<32:=by omega
 have hlz:F.Fm tp=some (s:Int):=by
  unfold F.Fm
  rw [sf,ak,aV (by omega) (by omega)]; congr 1; omega
 have ey:val y=val (y.take (y.length - 1))+4294967296^(y.length - 1)*tp.toNat:=by
  have:=bD y (y.length - 1)
  rw [show y.length - 1+1=y.length by omega,List.take_of_length_le (Nat.le_refl _),htp]at this
  exact this
 have hyl:val (y.take (y.length - 1))<4294967296^(y.length - 1):=by
  have:=bB (y.take (y.length - 1))
  rwa [List.length_take,Nat.min_eq_left (by omega)]at this
 obtain ⟨Q,hQ⟩:∃Q,(4294967296:Nat)^(y.length - 1)=Q:=⟨_,rfl⟩
 have hQy:(4294967296:Nat)^y.length=4294967296*Q:=by
  have e:(4294967296:Nat)^(y.length - 1+1)=4294967296^(y.length - 1)*4294967296:=Nat.pow_succ _ _
  rw [show y.length - 1+1=y.length by omega,hQ,Nat.mul_comm]at e
  exact e
 rw [hQ]at ey hyl
 have hp2:2^s*(tp.toNat+1)≤4294967296:=by
  have h1:2^s*(tp.toNat+1)≤2^s*2^nb tp.toNat:=Nat.mul_le_mul_left _ b1
  rw [←Nat.pow_add,show s+nb tp.toNat=32 by omega]at h1
  exact h1
 have hp3:2147483648≤2^s*tp.toNat:=by
  have h1:2^s*2^(nb tp.toNat - 1)≤2^s*tp.toNat:=Nat.mul_le_mul_left _ b2
  rw [←Nat.pow_add,show s+(nb tp.toNat - 1)=31 by omega]at h1
  exact h1
 have hyu:2^s*val y<4294967296^y.length:=by
  have h1:val y<(tp.toNat+1)*Q:=by rw [ey,Nat.add_mul,Nat.one_mul,Nat.mul_comm Q]; omega
  have h2:2^s*val y<2^s*((tp.toNat+1)*Q):=Nat.mul_lt_mul_of_pos_left h1 (Nat.two_pow_pos s)
  rw [←Nat.mul_assoc]at h2
  have h3:=Nat.mul_le_mul_right Q hp2
  rw [hQy]; omega
 have hyv:2147483648*Q≤2^s*val y:=by
  have h1:=Nat.mul_le_mul_right Q hp3
  have h2:2^s*tp.toNat*Q≤2^s*val y:=by
   rw [Nat.mul_assoc]; refine Nat.mul_le_mul_left _ ?_; rw [ey,Nat.mul_comm]; omega
  omega
 have hQp:0<Q:=by rw [←hQ]; exact Nat.pow_pos (by decide)
 obtain ⟨v,v1,v2,v3⟩:=wa (List.replicate y.length 0) y s hs32 (by simp; omega) (by simp) (by rw [List.length_replicate]; exact hyu)
 have hx2:2^s*val x<4294967296^(x.length+1):=by
  have h1:=bB x
  have h2:2^s≤4294967296:=Nat.le_of_lt (Nat.pow_lt_pow_right (a:=2) (m:=s) (n:=32) (by decide) hs32)
  have h3:=Nat.mul_le_mul_right (val x) h2
  rw [Nat.pow_succ]; omega
 obtain ⟨u,u1,u2,u3⟩:=wa (List.replicate (x.length+1) 0) x s hs32 (by simp; omega) (by simp) (by rw [List.length_replicate]; exact hx2)
 rw [List.length_replicate]at v2 u2
 have hvtop:2147483648≤(v.getD (v.length - 1) 0).toNat:=by
  have e:=bD v (v.length - 1)
  rw [show v.length - 1+1=v.length by omega,List.take_of_length_le (Nat.le_refl _),v3]at e
  have hl:=bB (v.take (v.length - 1))
  rw [List.length_take,Nat.min_eq_left (by omega),show v.length - 1=y.length - 1 by omega,hQ]at hl
  rw [show v.length - 1=y.length - 1 by omega,hQ]at e
  rw [show v.length - 1=y.length - 1 by omega]
  rcases Nat.lt_or_ge (v.getD (y.length - 1) 0).toNat 2147483648 with h | h
  ·have:=Nat.mul_le_mul_left Q (show (v.getD (y.length - 1) 0).toNat≤2147483647 by omega)
   omega
  ·exact h
 have hvp:0<val v:=by rw [v3]; omega
 have hk:val u<4294967296^(x.length - y.length+1)*val v:=by
  rw [u3,v3,Nat.mul_left_comm]
  refine Nat.mul_lt_mul_of_pos_left ?_ (Nat.two_pow_pos s)
  have h1:=bB x
  have h2:Q≤val y:=by rw [ey]; have:=Nat.le_mul_of_pos_right Q (show 0<tp.toNat by omega); omega
  have h3:=Nat.mul_le_mul_left (4294967296^(x.length - y.length+1)) h2
  rw [←hQ,←Nat.pow_add,show x.length - y.length+1+(y.length - 1)=x.length by omega]at h3
  omega
 obtain ⟨q',u',l1,l2,l3,l4,l5⟩:=wv s v (2^s*val x) (by omega) hvtop hs32 hvp (x.length - y.length+1) u (List.replicate (x.length - y.length+1) 0) (List.replicate (y.length+1) 0) (by omega) (by simp) (by omega) (by simp; omega) (by simp; omega)
  (fun i _=>xe _ _) (by rw [cT,u3]; omega) hk
 rw [List.length_replicate]at l2
 refine ⟨q',u',?_,by omega,by omega,?_,?_⟩
 rotate_left
 ·rw [l4,v3,Nat.mul_div_mul_left _ _ (Nat.two_pow_pos s)]
 ·rw [l5,v3,Nat.mul_mod_mul_left,Nat.mul_div_cancel_left _ (Nat.two_pow_pos s)]
 ·have w1:wI ((y.length:Int) - 1)=((y.length - 1:Nat):Int):=by rw [aV (by omega) (by omega)]; omega
  have w2:wI ((x.length:Int)+1)=((x.length+1:Nat):Int):=by rw [aV (by omega) (by omega)]; omega
  have w3:wI ((wI ((x.length:Int) - (v.length:Int)))+1)=((x.length - y.length+1:Nat):Int):=by
   rw [aV (x:=(x.length:Int) - (v.length:Int)) (by omega) (by omega),aV (by omega) (by omega)]; omega
  have w4:wI ((v.length:Int)+1)=((y.length+1:Nat):Int):=by rw [aV (by omega) (by omega)]; omega
  have w5:wI ((((x.length - y.length+1:Nat)):Int) - 1)=((x.length - y.length+1:Nat):Int) - 1:=aV (by omega) (by omega)
  unfold F.EY
  rw [w1,a7 (show y.length - 1<y.length by omega) 0,ak,htp,hlz,ak,dw (by omega),ak,Int.toNat_natCast,v1,ak,w2,dw (by omega),ak,Int.toNat_natCast,u1,ak,w3,dw (by omega),ak,
   w4,dw (by omega),ak,Int.toNat_natCast,Int.toNat_natCast,List.length_replicate,a8,w5,l1,v2]
theorem sN (u:UInt64):F.E5 u=some (aA u.toNat):=by
 unfold F.E5
 obtain ⟨m,h1,h2,h3⟩:=dW [u.toUInt32,(aX u 32).toUInt32] (by simp)
 have hu:u.toNat<18446744073709551616:=u.toNat_lt
 have e:val [u.toUInt32,(aX u 32).toUInt32]=u.toNat:=by
  simp only [cM,dl,d7,dE]
  rw [show (2:Nat)^min 32 64=4294967296 from rfl]
  omega
 rw [h1,ak,h3,e]
theorem vW {n:Nat} (h:(aA n).length≠0):(aA n).getD ((aA n).length - 1) 0≠0:=by
 intro h0
 obtain ⟨l,hl⟩:∃l,aA n=l:=⟨_,rfl⟩
 have hv:val l=n:=by rw [←hl,aE]
 rw [hl]at h h0
 have e:=bD l (l.length - 1)
 have z0:(0:UInt32).toNat=0:=rfl
 rw [show l.length - 1+1=l.length by omega,List.take_of_length_le (Nat.le_refl _),h0,z0,Nat.mul_zero,Nat.add_zero,hv]at e
 have hlt:=bB (l.take (l.length - 1))
 rw [List.length_take,Nat.min_eq_left (by omega),←e]at hlt
 have:=bm hlt
 rw [hl]at this
 omega
theorem j9 (n:Nat):(aA n).length=0↔n=0:=by
 constructor
 ·intro h
  have:=aE n
  rw [List.eq_nil_of_length_eq_zero h]at this
  exact this.symm
 ·intro h; rw [h,bG]; rfl
theorem iM (a b:List UInt32) (ha:a.length≤40000000000000) (hb:b.length≤40000000000000):F.Cp a b=some (if val b=0 then ([],[],60) else (aA (val a / val b),aA (val a%val b),0)):=by
 obtain ⟨m,h1,h2,h3⟩:=dt a (by omega)
 obtain ⟨m',h4,h5,h6⟩:=dt b (by omega)
 have la:(aA (val a)).length≤a.length:=bm (bB a)
 have lb:(aA (val b)).length≤b.length:=bm (bB b)
 unfold F.Cp
 rw [h1,ak,h4,ak,h3,h6]
 by_cases hb0:val b=0
 ·rw [if_pos (by rw [hb0,bG]; rfl),if_pos hb0]
 ·have hbl:(aA (val b)).length≠0:=fun h=>hb0 ((j9 _).1 h)
  rw [if_neg (by rw [beq_iff_eq]; omega),if_neg hb0,iU a b (by omega) (by omega),ak]
  unfold dN
  by_cases hl:val a<val b
  ·have hap:apO 4 [] (aA (val a))=some (aA (val a)):=by unfold apO; rw [if_pos (by simp; omega)]; simp
   rw [if_pos hl,if_pos (by decide),hap,ak,Nat.div_eq_of_lt hl,Nat.mod_eq_of_lt hl,bG]
  ·rw [if_neg hl,if_neg (by split <;> decide)]
   have hba:(aA (val b)).length≤(aA (val a)).length:=dD (by omega)
   have htop:=vW hbl
   by_cases h11:(aA (val b)).length=1
   ·have hvb:val b=((aA (val b)).getD 0 0).toNat:=by
     have e:=bD (aA (val b)) 0
     rw [Nat.zero_add,List.take_of_length_le (by omega),aE]at e
     simpa [val] using e
    obtain ⟨q,r,s1,s2,s3,s4⟩:=vL (aA (val a)) ((aA (val b)).getD 0 0) (by rw [←hvb]; exact hb0) (by omega)
    rw [aE,←hvb]at s3 s4
    obtain ⟨k,p1,p2,p3⟩:=dW q (by omega)
    rw [if_pos (by rw [beq_iff_eq]; omega),show (0:Int)=((0:Nat):Int) from rfl,a7 (show 0<(aA (val b)).length by omega) 0,ak,s1,ak]
    dsimp only
    rw [p1,ak,p3,sN,ak,bK,s3,s4]
   ·obtain ⟨q,u,s1,s2,s3,s4,s5⟩:=yh (aA (val a)) (aA (val b)) (by omega) htop hba (by omega)
    rw [aE,aE]at s4 s5
    obtain ⟨k,p1,p2,p3⟩:=dW q (by omega)
    obtain ⟨k',p4,p5,p6⟩:=dW (u.take (aA (val b)).length) (by rw [List.length_take]; omega)
    have hvu:val (u.take (aA (val b)).length)=val u:=by
     have e:=c8 u (aA (val b)).length (by omega)
     have hlt:val u<4294967296^(aA (val b)).length:=by
      have e1:=bB (aA (val b))
      rw [aE]at e1
      rw [s5]
      exact Nat.lt_trans (Nat.mod_lt _ (by omega)) e1
     rw [gz hlt,Nat.mul_zero,Nat.add_zero]at e
     exact e.symm
    rw [if_neg (by rw [beq_iff_eq]; omega),s1,ak]
    dsimp only
    rw [p1,ak,p4,ak,p3,p6,hvu,s4,s5]
end Go.Gk.Bn
end

section
namespace Go.Gk.Bn
open Go Go.Gk Go.Gk.Sh Go.Gk.Ec Go.Gk.Pr
theorem tn (a:List UInt32) (ha:a.length≤40000000000000):F.Fj a=some (((nb (val a)+31) / 32:Nat):Int):=by
 have h1:nb (val a)≤32*a.length:=Nat.le_trans (jh _) (Nat.mul_le_mul_left 32 (bm (bB a)))
 unfold F.Fj
 rw [gg a (by omega),ak,aV (x:=((nb (val a):Nat):Int)+31) (by omega) (by omega),Int.tdiv_eq_ediv_of_nonneg (by omega),aV (by omega) (by omega)]
 congr 1
def jl (l:List (List UInt32)) (m:List UInt32):Int:=if l.any (fun a=>decide (4096<nb (val a))) then 10 else if val m<2 then 60 else 0
theorem rV (l:List (List UInt32)) (k:Nat) (hk:l.length=k+1) (hkk:k≤100) (hl:∀a∈l,a.length≤40000000000000):F.Cj l=some (jl l (l.getD k [])):=by
 have key:∀(n i:Nat),i+n=l.length→loop (F.Cx l) (i:Int)=some (jl (l.drop i) (l.getD k [])):=by
  intro n
  induction n with
  | zero=>
   intro i hi
   have:i=l.length:=by omega
   subst this
   have w1:wI ((l.length:Int) - 1)=(k:Int):=by rw [aV (by omega) (by omega)]; omega
   have hm:(l.getD k []).length≤40000000000000:=by
    refine hl _ ?_
    rw [List.getD_eq_getElem?_getD,List.getElem?_eq_getElem (by omega)]
    exact List.getElem_mem _
   refine bE ?_
   unfold F.Cx jl
   dsimp only
   rw [if_neg (by rw [decide_eq_true_eq]; omega),w1,a7 (show k<l.length by omega) [],ak,gg _ (by omega),ak,List.drop_length]
   rw [if_neg (show ¬(List.any [] fun a=>decide (4096<nb (val a)))=true by simp)]
   congr 1
   by_cases h:val (l.getD k [])<2
   ·have:nb (val (l.getD k []))≤1:=kM (k:=1) h
    rw [if_pos h,if_pos (decide_eq_true (by omega))]
   ·rw [if_neg h,if_neg]
    rw [decide_eq_true_eq]
    intro hq
    have hb:=(c6 (val (l.getD k []))).1
    have h2:=Nat.pow_le_pow_right (show 0<2 by decide) (show nb (val (l.getD k []))≤1 by omega)
    omega
  | succ n ih=>
   intro i hi
   have w1:wI ((i:Int)+1)=((i+1:Nat):Int):=by rw [aV (by omega) (by omega)]; rfl
   obtain ⟨a,ha⟩:∃a,l.getD i []=a:=⟨_,rfl⟩
   have hal:a.length≤40000000000000:=by
    refine hl _ ?_
    rw [←ha,List.getD_eq_getElem?_getD,List.getElem?_eq_getElem (by omega)]
    exact List.getElem_mem _
   have hdr:l.drop i=a :: l.drop (i+1):=by
    rw [List.drop_eq_getElem_cons (by omega)]
    congr 1
    rw [←ha,List.getD_eq_getElem?_getD,List.getElem?_eq_getElem (by omega)]; rfl
   by_cases hb:4096<nb (val a)
   ·refine (bE (X:=some 10) ?_).trans ?_
    ·unfold F.Cx
     dsimp only
     rw [if_pos (decide_eq_true (by omega)),a7 (show i<l.length by omega) [],ak,ha,tn a hal,ak,if_pos (decide_eq_true (by omega))]
    ·unfold jl
     rw [hdr,if_pos (by simp [hb])]
   ·have hst:F.Cx l (i:Int)=some (.inl ((i+1:Nat):Int)):=by
     unfold F.Cx
     dsimp only
     rw [if_pos (decide_eq_true (by omega)),a7 (show i<l.length by omega) [],ak,ha,tn a hal,ak,if_neg (by rw [decide_eq_true_eq]; omega),w1]; rfl
    rw [bI hst,ih (i+1) (by omega)]
    unfold jl
    rw [hdr,List.any_cons,decide_eq_false hb,Bool.false_or]
 have:=key l.length 0 (by omega)
 rw [List.drop_zero]at this
 exact this
theorem rU {a b m:List UInt32} (ha:nb (val a)≤4096) (hb:nb (val b)≤4096) (hm:nb (val m)≤4096) (h2:2≤val m) (la:a.length≤40000000000000) (lb:b.length≤40000000000000) (lm:m.length≤40000000000000):F.Cj [a,b,m]=some 0:=by
 rw [rV [a,b,m] 2 rfl (by decide) (by intro x hx; simp at hx; rcases hx with rfl | rfl | rfl <;> assumption)]
 unfold jl
 rw [if_neg (by simp; omega),if_neg (by show ¬val m<2; omega)]
theorem i6 (a m:List UInt32) (ha:a.length≤40000000000000) (hm:m.length≤40000000000000) (h:val m≠0):F.Cg a m=some (aA (val a%val m)):=by
 unfold F.Cg
 rw [iM a m ha hm,if_neg h,ak]
theorem mV {x y m:Nat} (hx:x<m) (hy:y<m) (ml:(aA m).length≤1000) (l:List UInt32) (hl:val l=m) (hll:l.length≤40000000000000):F.Dq (aA x) (aA y) l=some (aA ((m - y+x)%m)):=by
 have lx:(aA x).length≤1000:=Nat.le_trans (dD (by omega)) ml
 have ly:(aA y).length≤1000:=Nat.le_trans (dD (by omega)) ml
 unfold F.Dq F.FH
 rw [mt _ _ (by omega) (by omega),ak,aE,aE]
 by_cases h:x<y
 ·have lxm:(aA (x+m)).length≤1001:=by
   have h1:=lC x m
   have h2:=dD (show x≤m by omega)
   omega
  rw [if_pos h,if_pos (by rfl),sZ _ _ (by omega) hll,ak,aE,hl,mt _ _ (by omega) (by omega),ak,aE,aE,if_neg (by omega),Nat.mod_eq_of_lt (by omega),show x+m - y=m - y+x by omega]
 ·rw [if_neg h,if_neg (show ¬(!true)=true by decide),show m - y+x=(x - y)+m by omega,Nat.add_mod_right,Nat.mod_eq_of_lt (by omega)]
section
variable (c:Int)
end
end Go.Gk.Bn
end
