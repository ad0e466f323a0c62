import Derived.Test.YtmegjloifgfldaaGreatDoorGkX5
import Derived.Test.YtmegjloifgfldaaGreatDoorGkFb64
import Derived.Test.YtmegjloifgfldaaGreatDoorGkP1
set_option linter.unusedVariables false
set_option linter.unusedSimpArgs false
set_option linter.unusedSectionVars false

section
namespace Go.Gk.Bn
open Go Go.Gk Go.Gk.Sh
theorem Gy (x:UInt32) (r:Nat) (f:r<32):((bu x r &&& 1) == 1)=decide (x.toNat / 2^r%2=1):=by
 rw[E4,gu,Nat.min_eq_left (by omega)]
theorem xf (l:Q0) (i:Nat) (hi:i<=4611686018427387904) (hl:l.length<=4611686018427387904):F.GU l (i:Int)=some (decide (val l / 2^i%2=1)):=by
 have f:wI (Int.tdiv (i:Int) 32)=((i / 32:Nat):Int):=by rw[Int.tdiv_eq_ediv_of_nonneg (by omega),aJ (by omega) (by omega)]; omega
 have g:Int.tmod (i:Int) 32=((i%32:Nat):Int):=by rw[Int.tmod_eq_emod_of_nonneg (by omega)]; omega
 unfold F.GU
 rw[if_pos (decide_eq_true (by omega)),f,g,<-qb]
 by_cases h:i / 32<l.length
 ·rw[if_pos (decide_eq_true (by omega)),aU h 0,ae,grd_true _ (by omega),Int.toNat_natCast,Gy _ _ (by omega)]
 ·rw[if_neg (by rw[decide_eq_true_eq]; omega),List.getD_eq_getElem?_getD,List.getElem?_eq_none (by omega)]
  simp
theorem D7 (l:Q0) (s:Nat) (hs:s<32) (hl:l.length<=40000000000000):F.GZ l (s:Int)=some (aq (val l / 2^s)):=by
 obtain⟨m,i,G,j⟩:=dH l (by omega)
 have I:(aq (val l)).length<=l.length:=bb (bG l)
 have w0:wI (Int.tdiv (max (s:Int) 0) 32)=((0:Nat):Int):=by
  rw[show max (s:Int) 0=(s:Int) by omega,Int.tdiv_eq_ediv_of_nonneg (by omega),aJ (by omega) (by omega)]; omega
 have o:Int.tmod (max (s:Int) 0) 32=(s:Int):=by rw[show max (s:Int) 0=(s:Int) by omega,Int.tmod_eq_emod_of_nonneg (by omega)]; omega
 unfold F.GZ
 rw[i,ae,j,w0,o]
 by_cases h:(aq (val l)).length=0
 ·have:val l=0:=(jf _).1 h
  rw[if_pos (decide_eq_true (by omega)),this,Nat.zero_div,bI]
 ·have f:apO 4 [] (aq (val l))=some (aq (val l)):=by unfold apO; rw[if_pos (by simp; omega)]; simp
  obtain⟨t,z,J,g⟩:=pL (aq (val l)) s hs (by omega)
  rw[aw]at g
  obtain⟨k,A,K,B⟩:=et t (by omega)
  rw[if_neg (by rw[decide_eq_true_eq]; omega),ib (by omega),ae,List.drop_zero,f,ae,z,ae,A,ae,B,g]
theorem Gz (e i:Nat):e / 2^i=2*(e / 2^(i+1))+(if decide (e / 2^i%2=1)=true then 1 else 0):=DV e i
theorem uN (z m:Nat) (k:1<m) (o:(aq m).length<=900) (j:z<m) (e:Q0) (le:e.length<=4611686018427387904):∀i:Nat,i<=4000000000000000 ->
  loop (F.JL e (aq m) (aq z)) (aq (z^(val e / 2^i)%m),(i:Int) - 1)=some (aq (z^val e%m),0)
 | 0,_=>by
  rw[Nat.pow_zero,Nat.div_one]
  refine bv ?_
  unfold F.JL
  dsimp only
  rw[if_neg (by decide)]
 | i+1,hi=>by
  have hm:∀x,x%m<m:=fun x=>Nat.mod_lt _ (by omega)
  have t:(((i+1:Nat):Int)) - 1=(i:Int):=by omega
  have w:wI ((i:Int) - 1)=(i:Int) - 1:=aJ (by omega) (by omega)
  have f:∀x,x<m->(aq x).length<=900:=fun x hx=>dJ (Nat.le_of_lt hx) o
  have A:∀x y,x<m->y<m->(aq (x*y)).length<=1800:=fun x y hx hy=>by
   have k:=k7 x y; have I:=f x hx; have J:=f y hy
   omega
  have mul:∀x y,x<m->y<m->F.HU (aq x) (aq y)=some (aq (x*y)):=fun x y hx hy=>by
   have B:=f x hx; have K:=f y hy
   rw[xW _ _ (by omega) (by omega) (by rw[aw,aw]; omega),aw,aw]
  have rest:∀x y,x<m->y<m->F.GT (aq (x*y)) (aq m)=some (aq (x*y%m)):=fun x y hx hy=>by
   have B:=A x y hx hy
   rw[fK _ _ (by omega) (by omega) (by rw[aw]; omega),aw,aw]
  rw[t,<-uN z m k o j e le i (by omega)]
  refine bB ?_
  unfold F.JL
  dsimp only
  rw[if_pos (decide_eq_true (by omega)),mul _ _ (hm _) (hm _),ae,rest _ _ (hm _) (hm _),ae,xf _ _ (by omega) le,ae]
  have hb:=Gz (val e) i
  have g:z^(val e / 2^(i+1))%m*(z^(val e / 2^(i+1))%m)%m=z^(2*(val e / 2^(i+1)))%m:=by
   rw[<-Nat.mul_mod,<-Nat.pow_add]; congr 2; omega
  by_cases h:val e / 2^i%2=1
  ·rw[if_pos (decide_eq_true h)]at hb ⊢
   rw[mul _ _ (hm _) j,ae,rest _ _ (hm _) j,ae]
   unfold F.Jx
   dsimp only
   rw[w,g,Nat.mod_mul_mod,<-Nat.pow_succ,Nat.succ_eq_add_one,<-hb]
   rfl
  ·have G:¬decide (val e / 2^i%2=1)=true:=by rw[decide_eq_true_eq]; exact h
   rw[if_neg G]at hb ⊢
   unfold F.Jx
   dsimp only
   rw[w,g,<-Nat.add_zero (2*(val e / 2^(i+1))),<-hb]
   rfl
theorem sa (a e:Q0) (m:Nat) (g:1<m) (hm:nb m<=4096) (h:(aq m).length<=900) (ha:nb (val a)<=4096) (he:nb (val e)<=4096) (f:a.length<=40000000000000) (le:e.length<=40000000000000) :
  F.IQ a e (aq m)=some (aq (val a^val e%m),0):=by
 have i:wI (((nb (val e):Nat):Int) - 1)=((nb (val e):Nat):Int) - 1:=aJ (by omega) (by omega)
 have j:val e / 2^nb (val e)=0:=Nat.div_eq_of_lt (de (val e)).1
 have l1:val ([1]:Q0)=1:=rfl
 unfold F.IQ
 rw[mQ ha he (by rw[aw]; exact hm) (by rw[aw]; omega) f le (by omega),ae,if_neg (by decide),fK a _ f (by omega) (by rw[aw]; omega),ae,fK [1] _ (by decide) (by omega) (by rw[aw]; omega),ae,
  eA e (by omega),ae,i,aw,l1]
 have:=uN (val a%m) m g h (Nat.mod_lt _ (by omega)) e (by omega) (nb (val e)) (by omega)
 rw[j,Nat.pow_zero]at this
 rw[this,<-Nat.pow_mod]
noncomputable def nQ (m a:Nat):Nat:=if h:∃w,w<m/\a*w%m=1 then Classical.choose h else 0
theorem D5 {n s w v:Nat} (f:w<n) (g:v<n) (h:s*w%n=1) (i:s*v%n=1):w=v:=rc f g h i
theorem DC {m a w:Nat} (f:w<m) (h:a*w%m=1):nQ m a=w:=by
 unfold nQ
 have hx:∃w,w<m/\a*w%m=1:=⟨w,f,h⟩
 rw[dif_pos hx]
 exact D5 (Classical.choose_spec hx).1 f (Classical.choose_spec hx).2 h
theorem DQ {m a:Nat} (h:0<m):nQ m a<m:=by
 unfold nQ
 split
 ·rename_i hx; exact (Classical.choose_spec hx).1
 ·exact h
theorem Ar {m a:Nat} (g:1<m) (hg:Nat.gcd a m≠1):nQ m a=0:=by
 unfold nQ
 rw[dif_neg]
 rintro⟨w,_,h⟩
 apply hg
 have f:Nat.gcd a m ∣ a*w%m:=(Nat.dvd_mod_iff (Nat.gcd_dvd_right a m)).2 (Nat.dvd_mul_right_of_dvd (Nat.gcd_dvd_left a m) w)
 rw[h]at f
 exact Nat.dvd_one.1 f
theorem D3 (a:Q0) (m:Nat) (g:1<m) (hm:m%2=1) (o:nb m<=4096) (f:(aq m).length<=900) (t:nb (val a)<=4096) (i:a.length<=40000000000000) :
  F.HC a (aq m)=some (aq (nQ m (val a)),if Nat.gcd (val a) m=1 then 0 else 61):=by
 by_cases hg:Nat.gcd (val a) m=1
 ·obtain⟨w,G,I,J⟩:=zD a m g hm o f t i hg
  rw[J,if_pos hg,DC G I]
 ·have K:F.G8 [a,aq m]=some 0:=by
   have hl:∀x∈[a,aq m],x.length<=40000000000000:=by
    intro x hx
    simp only[List.mem_cons,List.not_mem_nil,or_false]at hx
    rcases hx with h | h
    ·rw[h]; exact i
    ·rw[h]; omega
   rw[pU [a,aq m] 1 rfl (by decide) hl]
   unfold jK
   rw[if_neg]
   ·rw[show [a,aq m].getD 1 []=aq m from rfl,aw,if_neg (by omega)]
   ·simp only[List.any_cons,List.any_nil,Bool.or_false,Bool.or_eq_true,decide_eq_true_eq,aw]
    omega
  have M:Nat.gcd (val a%m) m=Nat.gcd (val a) m:=by rw[<-Nat.gcd_rec,Nat.gcd_comm]
  have j:Nat.gcd (val a%m) m%2=1:=by
   have:=Nat.gcd_dvd_right (val a%m) m
   rcases Nat.mod_two_eq_zero_or_one (Nat.gcd (val a%m) m) with h | h
   ·obtain⟨k,N⟩:=this
    rw[N,Nat.mul_mod,h,Nat.zero_mul,Nat.zero_mod]at hm
    omega
   ·exact h
  obtain⟨x,O,U,z⟩:=AB (a:=val a%m) hm f (val a%m+m) (val a%m) m 1 0 (Nat.le_refl _) (Nat.le_of_lt (Nat.mod_lt _ (by omega))) (by omega) (Nat.le_refl _) g (by omega) (by rw[Nat.one_mul]) (by rw[Nat.zero_mul,Nat.mod_self,Nat.zero_mod]) j
  rw[M]at z
  have l1:aq 1=[1]:=by rw[gc (by decide),show 1 / 4294967296=0 by decide,bI]; rfl
  have A:Nat.gcd (val a) m<=m:=Nat.gcd_le_right _ (by omega)
  have V:=dJ A f
  have lx:=dJ (Nat.le_of_lt O) f
  have R:F.Id (aq (val a%m)) (aq m)=some (aq (Nat.gcd (val a) m),aq x):=by
   unfold F.Id
   rw[<-l1,<-bI]at *
   exact z
  have B:(cE (Nat.gcd (val a) m) 1 != 0)=true:=by
   rw[bne_iff_ne]; intro h
   have:=Cx (Nat.gcd (val a) m) 1
   rw[h,decide_eq_false hg]at this
   exact absurd this (by decide)
  unfold F.HC
  rw[K,ae,if_neg (by decide),fK a _ i (by omega) (by rw[aw]; omega),aw,ae,iM _ (by omega),aw,ae,if_pos (decide_eq_true hm),R,ae]
  dsimp only
  rw[eP _ _ (by omega) (by decide),ae,aw,show val ([1]:Q0)=1 from rfl,if_pos B,if_neg hg,Ar g hg,bI]
theorem rP (a:Q0) (m:Nat) (ha:a.length<=35184372087808) (hm:m<=16384):F.Hu a (m:Int)=some (if val a<256^m then (beB m (val a),true) else ([],false)):=by
 by_cases hv:val a<256^m
 ·rw[if_pos hv]; exact AV a m ha hm hv
 ·have hb:nb (val a)<=32*a.length:=Nat.le_trans (ii _) (Nat.mul_le_mul_left 32 (bb (bG a)))
  have f:m<(nb (val a)+7) / 8:=by
   rcases Nat.lt_or_ge m (nby (val a)) with h | h
   ·exact h
   ·exact absurd (Nat.lt_of_lt_of_le (rf (val a)) (Nat.pow_le_pow_right (by decide) h)) hv
  rw[if_neg hv]
  unfold F.Hu
  rw[if_neg (by rw[decide_eq_true_eq]; omega),if_neg (by rw[decide_eq_true_eq]; omega),eA a (by omega),ae,aJ (x:=((nb (val a):Nat):Int)+7) (by omega) (by omega),Int.tdiv_eq_ediv_of_nonneg (by omega),aJ (by omega) (by omega),
   decide_eq_true (show (m:Int)<(((nb (val a):Nat):Int)+7) / 8 by omega)]
  rfl
theorem Ed (a:Q0) (ha:a.length<=40000000000000):∃u,F.Lu a=some (u,decide (val a<18446744073709551616))/\(val a<18446744073709551616->u.toNat=val a):=by
 obtain⟨m,A,J,g⟩:=dH a (by omega)
 have hl:=aw (val a)
 unfold F.Lu
 rw[A,ae]
 have K:F.HF a m=fun s=>F.HF a m s:=rfl
 by_cases h:2<(aq (val a)).length
 ·have j:¬val a<18446744073709551616:=fun o=>by
   have:=bb (n:=val a) (k:=2) (by omega)
   omega
  rw[g,if_pos (decide_eq_true (by omega)),decide_eq_false j]
  exact⟨0,rfl,fun q=>absurd q j⟩
 ·have o:val a<18446744073709551616:=by
   have t:=bG (aq (val a))
   rw[hl]at t
   refine Nat.lt_of_lt_of_le t ?_
   refine Nat.le_trans (Nat.pow_le_pow_right (by decide) (show (aq (val a)).length<=2 by omega)) (by decide)
  rw[g,if_neg (by rw[decide_eq_true_eq]; omega),decide_eq_true o]
  have step:∀(s:UInt64) (i:Nat) (x:UInt32),i<2->(aq (val a))[i]? = some x->F.HF a m (s,(i:Int))=some (.inl (s ||| aH x.toUInt64 (32*i),((i+1:Nat):Int))):=by
   intro s i x hi hx
   have I:i<(aq (val a)).length:=(List.getElem?_eq_some_iff.1 hx).1
   unfold F.HF
   dsimp only
   rw[g,if_pos (decide_eq_true (by omega)),jn,hx,ae,aJ (x:=32*(i:Int)) (by omega) (by omega),grd_true _ (by omega),aV,aJ (by omega) (by omega),show (32*(i:Int)).toNat=32*i by omega]
   rfl
  have f:∀(s:UInt64) (i:Nat),(aq (val a)).length<=i->F.HF a m (s,(i:Int))=bA (some (s,true)):=by
   intro s i hi
   unfold F.HF
   dsimp only
   rw[g,if_neg (by rw[decide_eq_true_eq]; omega)]
  match hq:aq (val a),h with
  | [],_=>
   rw[hq]at hl f
   have:=bv (f 0 0 (Nat.le_refl _))
   exact⟨0,this,fun _=>hl⟩
  | [x],_=>
   rw[hq]at hl f step
   refine⟨_,(bB (step 0 0 x (by decide) rfl)).trans (bv (f _ 1 (Nat.le_refl _))),fun _=>?_⟩
   rw[<-hl,UInt64.toNat_or,dZ]
   simp[val]
  | [x,y],_=>
   rw[hq]at hl f step
   refine⟨_,(bB (step 0 0 x (by decide) rfl)).trans ((bB (step _ 1 y (by decide) rfl)).trans (bv (f _ 2 (Nat.le_refl _)))),fun _=>?_⟩
   have hx:=cq x; have hy:=cq y
   rw[<-hl,UInt64.toNat_or,UInt64.toNat_or,dZ,dZ]
   have B:x.toUInt64.toNat=x.toNat:=ca x
   have G:y.toUInt64.toNat=y.toNat:=ca y
   rw[B,G]
   simp only[val,Nat.mul_zero,Nat.add_zero,Nat.pow_zero,Nat.mul_one,show min 0 64=0 from rfl,show min 32 64=32 from rfl]
   rw[show (0:UInt64).toNat=0 from rfl,Nat.zero_or,Nat.mod_eq_of_lt (a:=x.toNat) (by omega),Nat.mod_eq_of_lt (a:=y.toNat*_) (by omega)]
   have:=gC (x:=y.toNat*2^32) (y:=x.toNat) 32 (by omega) (by omega)
   rw[Nat.or_comm,this]; omega
  | x :: y :: z :: r,h=>simp at h
end Go.Gk.Bn
end

section
namespace Go.Gk.Bn
open Go Go.Gk Go.Gk.Sh
theorem wo (x:UInt8):(x == 0)=decide (x.toNat=0):=by
 by_cases h:x.toNat=0
 ·rw[decide_eq_true h,beq_iff_eq]; exact UInt8.toNat_inj.1 h
 ·rw[decide_eq_false h,beq_eq_false_iff_ne]; intro e; rw[e]at h; exact h rfl
theorem Dz (x:UInt8):(x%2 == 0)=decide (x.toNat%2=0):=by rw[wo,UInt8.toNat_mod]; rfl
theorem xl {τ:Type} (l:List τ):((l.length:Int) == 0)=decide (l.length=0):=by
 by_cases h:l.length=0
 ·rw[decide_eq_true h,h]; rfl
 ·rw[decide_eq_false h,beq_eq_false_iff_ne]; omega
theorem Bz (l:Q1) (h:l.length≠0):beN l%2=(l.getD (l.length - 1) 0).toNat%2:=by
 have f:=io l (i:=l.length - 1) (by omega)
 rw[show l.length - 1+1=l.length by omega,List.take_length]at f
 rw[f]; omega
theorem BC {l:Q1} (h:l.length≠0) (f:(l.getD 0 0).toNat≠0):256^(l.length - 1)<=beN l:=by
 match l,h with
 | x :: r,_=>
  rw[show x :: r=[x]++r from rfl,mT]
  have e:beN [x]=x.toNat:=by simp[beN]
  simp only[List.getD_cons_zero]at f
  rw[e,List.singleton_append,List.length_cons,Nat.add_sub_cancel]
  have:=Nat.le_mul_of_pos_left (256^r.length) (Nat.pos_of_ne_zero f)
  omega
theorem vA {l:Q1} (h:l.length≠0) (f:(l.getD 0 0).toNat≠0):nby (beN l)=l.length:=by
 have i:=zZ (gn l)
 rcases Nat.lt_or_ge (nby (beN l)) l.length with g | g
 ·have j:=rf (beN l)
  have k:=BC h f
  have:=Nat.pow_le_pow_right (show 0<256 by decide) (show nby (beN l)<=l.length - 1 by omega)
  omega
 ·omega
def fI (n e:Q1):Prop:=n.length≠0/\(n.getD 0 0).toNat≠0/\beN n%2=1/\e.length≠0/\(e.getD 0 0).toNat≠0/\(2048<=nb (beN n)/\nb (beN n)<=4096)/\beN e%2=1/\3<=beN e/\beN e<=4294967295
instance (n e:Q1):Decidable (fI n e):=by unfold fI; infer_instance
theorem EZ (n e:Q1) (hn:n.length<=140737488351232) (he:e.length<=140737488351232) (h:n.length≠0/\(n.getD 0 0).toNat≠0/\beN n%2=1/\e.length≠0/\(e.getD 0 0).toNat≠0):F.Hg n e false=some (if fI n e then 0 else 90):=by
 obtain⟨k,o,t,z,A⟩:=h
 have l1:(aq (beN n)).length<=40000000000000:=by
  have:beN n<4294967296^((n.length+3) / 4):=by
   have:=gn n
   refine Nat.lt_of_lt_of_le this ?_
   rw[show (4294967296:Nat)=256^4 from rfl,<-Nat.pow_mul]
   exact Nat.pow_le_pow_right (by decide) (by omega)
  have:=bb this
  omega
 have B:(aq (beN e)).length<=40000000000000:=by
  have:beN e<4294967296^((e.length+3) / 4):=by
   have:=gn e
   refine Nat.lt_of_lt_of_le this ?_
   rw[show (4294967296:Nat)=256^4 from rfl,<-Nat.pow_mul]
   exact Nat.pow_le_pow_right (by decide) (by omega)
  have:=bb this
  omega
 have f:∀b,F.Hr b=some (if b=true then 90 else 0):=fun b=>by cases b <;> rfl
 obtain⟨u,j,g⟩:=Ed (aq (beN e)) B
 rw[aw]at j g
 unfold F.Hg
 rw[if_neg (by decide),cA n hn,ae,eA _ (by omega),ae,aw,cA e he,ae,j,ae]
 have i:¬fI n e->some (90:Int)=some (if fI n e then 0 else 90):=fun q=>by rw[if_neg q]
 by_cases c1:nb (beN n)<2048
 ·rw[if_pos (decide_eq_true (by omega)),f,if_pos rfl]; exact i fun q=>by have:=q.2.2.2.2.2.1.1; omega
 by_cases c2:4096<nb (beN n)
 ·rw[if_neg (by rw[decide_eq_true_eq]; omega),if_pos (decide_eq_true (by omega)),f,if_pos rfl]; exact i fun q=>by have:=q.2.2.2.2.2.1.2; omega
 rw[if_neg (by rw[decide_eq_true_eq]; omega),if_neg (by rw[decide_eq_true_eq]; omega)]
 by_cases c3:beN e<18446744073709551616
 ·have g:=g c3
  rw[decide_eq_true c3,if_neg (show ¬(!true)=true by decide)]
  have G:((u%2) == 0)=decide (beN e%2=0):=by
   rw[<-g]
   by_cases q:u.toNat%2=0
   ·rw[decide_eq_true q,beq_iff_eq]; apply UInt64.toNat_inj.1; rw[UInt64.toNat_mod]; exact q
   ·rw[decide_eq_false q,beq_eq_false_iff_ne]; intro h; apply q; rw[<-show (u%2).toNat=u.toNat%2 from UInt64.toNat_mod u 2,h]; rfl
  have I:(decide (u<3))=decide (beN e<3):=by rw[<-g,decide_eq_decide,UInt64.lt_iff_toNat_lt]; rfl
  have J:(decide ((4294967295:UInt64)<u))=decide (4294967295<beN e):=by rw[<-g,decide_eq_decide,UInt64.lt_iff_toNat_lt]; rfl
  rw[G,I,J]
  by_cases c4:beN e%2=0
  ·rw[if_pos (decide_eq_true c4),f,if_pos rfl]; exact i fun q=>by have:=q.2.2.2.2.2.2.1; omega
  by_cases c5:beN e<3
  ·rw[if_neg (by rw[decide_eq_true_eq]; omega),if_pos (decide_eq_true c5),f,if_pos rfl]; exact i fun q=>by have:=q.2.2.2.2.2.2.2.1; omega
  rw[if_neg (by rw[decide_eq_true_eq]; omega),if_neg (by rw[decide_eq_true_eq]; omega),f]
  by_cases c6:4294967295<beN e
  ·rw[if_pos (decide_eq_true c6)]; exact i fun q=>by have:=q.2.2.2.2.2.2.2.2; omega
  ·rw[if_neg (by rw[decide_eq_true_eq]; omega),if_pos ⟨k,o,t,z,A,⟨by omega,by omega⟩,by omega,by omega,by omega⟩]
 ·rw[decide_eq_false c3,if_pos (show (!false)=true by decide),f,if_pos rfl]; exact i fun q=>by have:=q.2.2.2.2.2.2.2.2; omega
theorem vM (n e:Q1) (hn:n.length<=140737488351232) (he:e.length<=140737488351232):F.IM n e=some (if fI n e then 0 else 90):=by
 have f:F.Hg n e true=some 90:=rfl
 have g:¬fI n e->some (90:Int)=some (if fI n e then 0 else 90):=fun q=>by rw[if_neg q]
 unfold F.IM
 rw[xl,xl]
 by_cases c1:n.length=0
 ·rw[if_pos (decide_eq_true c1),f]; exact g fun q=>q.1 c1
 rw[if_neg (by rw[decide_eq_true_eq]; exact c1),show (0:Int)=((0:Nat):Int) from rfl,aU (show 0<n.length by omega) 0,ae,wo]
 by_cases c2:(n.getD 0 0).toNat=0
 ·rw[if_pos (decide_eq_true c2),f]; exact g fun q=>q.2.1 c2
 rw[if_neg (by rw[decide_eq_true_eq]; exact c2),aJ (by omega) (by omega),show (n.length:Int) - 1=((n.length - 1:Nat):Int) by omega,aU (show n.length - 1<n.length by omega) 0,ae,Dz,<-Bz n c1]
 by_cases c3:beN n%2=0
 ·rw[if_pos (decide_eq_true c3),f]; exact g fun q=>by have:=q.2.2.1; omega
 rw[if_neg (by rw[decide_eq_true_eq]; exact c3)]
 by_cases c4:e.length=0
 ·rw[if_pos (decide_eq_true c4),f]; exact g fun q=>q.2.2.2.1 c4
 rw[if_neg (by rw[decide_eq_true_eq]; exact c4),aU (show 0<e.length by omega) 0,ae,wo]
 by_cases c5:(e.getD 0 0).toNat=0
 ·rw[decide_eq_true c5,f]; exact g fun q=>q.2.2.2.2.1 c5
 ·rw[decide_eq_false c5]; exact EZ n e hn he ⟨c1,c2,by omega,c4,c5⟩
theorem ul {n e:Q1} (h:fI n e):256<=n.length/\n.length<=512/\e.length<=4/\1<beN n:=by
 obtain⟨f,g,A,i,j,⟨k,B⟩,F,G,z⟩:=h
 have o:=vA f g
 have t:=vA i j
 have I:nb (beN e)<=32:=gx (by omega)
 have J:beN n≠0:=by omega
 have K:beN n≠1:=fun q=>by
  have:nb 1=1:=by rw[rq (by decide),show 1 / 2=0 from rfl,fU]
  rw[q,this]at k; omega
 unfold nby at o t
 omega
def ri (h:Int):Q1:=F.Hw.getD h.toNat []
theorem vZ {h:Int} (f:isH h):(ri h).length=19/\aC F.Hw h=some (ri h):=by
 rcases f with rfl | rfl | rfl <;> exact⟨rfl,rfl⟩
def vi (h:Int) (m:Q1) (size:Nat):Q1:=((([0,1]++List.replicate (size - 22 - Sz h) 255)++[0])++ri h)++cU h m
theorem ui (h:Int):F.Kx h=some (decide (isH h)):=by
 unfold F.Kx
 by_cases c:1<=h
 ·rw[if_pos (decide_eq_true c)]; congr 1; rw[decide_eq_decide]; unfold isH; omega
 ·rw[if_neg (by rw[decide_eq_true_eq]; exact c)]; congr 1; symm; rw[decide_eq_false_iff_not]; unfold isH; omega
theorem q7 {l m:Q1} (h:l.length+m.length<=225000000000000):apO 1 l m=some (l++m):=by unfold apO; rw[if_pos (by omega)]
theorem pt (h:Int) (f:isH h) (s:Q1) (hs:s.length<=64) (k:Nat) (g:k<=512):∀(r i:Nat),i+r=k ->
  loop (F.JU s (ri h) (k:Int)) ([0,1]++List.replicate i 255,(i:Int))=some (((([0,1]++List.replicate k 255)++[0])++ri h)++s,0)
 | 0,i,e=>by
  have:i=k:=by omega
  subst this
  have hi:=(vZ f).1
  refine bv ?_
  unfold F.JU
  dsimp only
  rw[if_neg (by rw[decide_eq_true_eq]; omega),q7 (by simp; omega),ae,q7 (by simp; omega),ae,q7 (by simp; omega),ae]
 | r+1,i,e=>by
  rw[<-pt h f s hs k g r (i+1) (by omega)]
  refine bB ?_
  unfold F.JU
  dsimp only
  rw[if_pos (decide_eq_true (by omega)),q7 (by simp; omega),ae,aJ (by omega) (by omega),List.append_assoc,show List.replicate i (255:UInt8)++[255]=List.replicate (i+1) 255 from (List.replicate_succ' ..).symm]
  rfl
theorem ze (h:Int) (g:isH h) (m:Q1) (hm:m.length<=900000000000000) (f:Nat) (i:94<=f) (j:f<=512):F.Lf h m (f:Int)=some (vi h m f,0):=by
 have hi:=vZ g
 have k:=ic h
 have hl:=iG h m
 unfold F.Lf
 rw[ui,decide_eq_true g,ae,if_neg (by decide),sA h g m hm,ae,hi.2,ae,hi.1,hl,aJ (x:=3+((19:Nat):Int)) (by omega) (by omega),aJ (x:=_+((Sz h:Nat):Int)) (by omega) (by omega),aJ (by omega) (by omega),
  if_neg (by rw[decide_eq_true_eq]; omega),decide_eq_false (by omega)]
 unfold F.K8
 rw[if_neg (by decide),hi.1,hl,aJ (x:=(f:Int) - 3) (by omega) (by omega),aJ (x:=(f:Int) - 3 - ((19:Nat):Int)) (by omega) (by omega),aJ (by omega) (by omega),aV,dy (by omega),ae,q7 (by simp),ae,
  show (f:Int) - 3 - ((19:Nat):Int) - ((Sz h:Nat):Int)=((f - 22 - Sz h:Nat):Int) by omega]
 have:=pt h g (cU h m) (by omega) (f - 22 - Sz h) (by omega) (f - 22 - Sz h) 0 (by omega)
 exact this
def wm (h:Int) (n e m sig:Q1):Int:=
 if isH h then if fI n e then if sig.length=n.length/\beN sig<beN n/\beB n.length (beN sig^beN e%beN n)=vi h m n.length then 0 else 91 else 90 else 111
theorem u6 (a b:Q1):F.IS a b=some (decide (a=b)):=by
 unfold F.IS
 by_cases h:a=b
 ·subst h; simp
 ·simp[h]
theorem ym (b:Bool):F.J8 b=some (if b=true then 91 else 0):=by cases b <;> rfl
theorem fq {l:Q1} (h:l.length<=140737488351232):(aq (beN l)).length<=40000000000000:=by
 have:beN l<4294967296^((l.length+3) / 4):=by
  refine Nat.lt_of_lt_of_le (gn l) ?_
  rw[show (4294967296:Nat)=256^4 from rfl,<-Nat.pow_mul]
  exact Nat.pow_le_pow_right (by decide) (by omega)
 have:=bb this
 omega
theorem zg (h:Int) (i:isH h) (n e m sig:Q1) (hm:m.length<=900000000000000) (f:fI n e) (hs:sig.length=n.length) (g:beN sig<beN n) :
  F.JN h n e m (aq (beN n)) (aq (beN sig)) false=some (if beB n.length (beN sig^beN e%beN n)=vi h m n.length then 0 else 91):=by
 obtain⟨A,B,G,j⟩:=ul f
 have b1:=f.2.2.2.2.2.1.2
 have I:nb (beN e)<=32:=gx (by have:=f.2.2.2.2.2.2.2.2; omega)
 have k:nb (beN sig)<=4096:=Nat.le_trans (gx (Nat.lt_trans g (de (beN n)).1)) b1
 have l1:=fq (l:=sig) (by omega); have o:=fq (l:=e) (by omega); have t:=jc b1
 have z:beN sig^beN e%beN n<256^n.length:=Nat.lt_trans (Nat.mod_lt _ (by omega)) (gn n)
 have J:(aq (beN sig^beN e%beN n)).length<=128:=Nat.le_trans (dg (Nat.le_of_lt (Nat.mod_lt _ (by omega)))) t
 unfold F.JN
 rw[if_neg (by decide),ze h i m hm _ (by omega) (by omega),ae,if_neg (show ¬((0:Int) != 0)=true by decide),cA e (by omega),ae,sa _ _ _ j b1 (by omega) (by rw[aw]; exact k) (by rw[aw]; omega) l1 o,ae,aw,aw,
  rP (aq (beN sig^beN e%beN n)) _ (by omega) (by omega),aw,if_pos z,ae,if_neg (show ¬((0:Int) != 0)=true by decide),if_neg (show ¬(!true)=true by decide),u6,ae,ym]
 by_cases hq:beB n.length (beN sig^beN e%beN n)=vi h m n.length
 ·rw[if_pos hq,decide_eq_true hq]; rfl
 ·rw[if_neg hq,decide_eq_false hq]; rfl
theorem rt (h:Int) (n e m sig:Q1) (hn:n.length<=140737488351232) (he:e.length<=140737488351232) (hm:m.length<=900000000000000) (hs:sig.length<=140737488351232):F.Kl h n e m sig=some (wm h n e m sig):=by
 unfold F.Kl wm
 rw[ui,ae]
 by_cases hh:isH h
 ·rw[decide_eq_true hh,if_neg (by decide),if_pos hh,vM n e hn he,ae]
  by_cases hk:fI n e
  ·rw[if_pos hk,if_neg (by decide),if_pos hk,cA n hn,ae,cA sig hs,ae]
   by_cases c1:sig.length=n.length
   ·have l1:=fq hs; have f:=fq hn
    rw[if_neg (by rw[c1]; simp),eP _ _ (by omega) (by omega),ae,aw,aw]
    by_cases c2:beN sig<beN n
    ·have:¬0<=cE (beN sig) (beN n):=by unfold cE; rw[if_pos c2]; decide
     rw[decide_eq_false this,zg h hh n e m sig hm hk c1 c2]
     by_cases c3:beB n.length (beN sig^beN e%beN n)=vi h m n.length
     ·rw[if_pos c3,if_pos ⟨c1,c2,c3⟩]
     ·rw[if_neg c3,if_neg fun q=>c3 q.2.2]
    ·have:0<=cE (beN sig) (beN n):=by unfold cE; rw[if_neg c2]; split <;> decide
     rw[decide_eq_true this,if_neg fun q=>c2 q.2.1]; rfl
   ·rw[if_pos (by rw[bne_iff_ne]; omega),if_neg fun q=>c1 q.1]; rfl
  ·rw[if_neg hk,if_pos (by decide),if_neg hk]
 ·rw[decide_eq_false hh,if_pos (by decide),if_neg hh]
end Go.Gk.Bn
end

section
namespace Go.Gk.Bn
open Go Go.Gk Go.Gk.Sh
def c4B (x:UInt32):Q1:=[(bu x 24).toUInt8,(bu x 16).toUInt8,(bu x 8).toUInt8,x.toUInt8]
def mkB (h:Int) (s:Q1) (c:Nat):Q1:=cU h (s++c4B (UInt32.ofNat c))
def mk1 (h:Int) (s:Q1) (j:Nat):UInt8:=(mkB h s (j / Sz h)).getD (j%Sz h) 0
def xk (h:Int) (s o:Q1) (k:Nat):Q1:=o.mapIdx fun i x=>if i<k then x ^^^ mk1 h s i else x
theorem ou (h:Int) (s o:Q1) (k:Nat):(xk h s o k).length=o.length:=by simp[xk]
theorem Fl {h:Int} {s o:Q1} {k i:Nat} (hi:i<o.length):(xk h s o k).getD i 0=if i<k then o.getD i 0 ^^^ mk1 h s i else o.getD i 0:=by
 simp[xk,List.getD,hi]
theorem EB {h:Int} {s o:Q1} {k:Nat} (g:k<o.length):(xk h s o k).set k (o.getD k 0 ^^^ mk1 h s k)=xk h s o (k+1):=by
 apply List.ext_getElem (by simp[xk])
 intro i f j
 simp only[List.length_set,ou]at f
 by_cases hik:k=i
 ·subst hik; simp[xk,List.getD,f]
 ·rw[List.getElem_set_ne hik]
  simp only[xk,List.getElem_mapIdx]
  by_cases hl:i<k
  ·rw[if_pos hl,if_pos (by omega)]
  ·rw[if_neg hl,if_neg (by omega)]
theorem DD (h:Int) (s o:Q1):xk h s o 0=o:=by
 apply List.ext_getElem (by simp[xk])
 intro i f g
 simp[xk]
theorem Gr {l:Q1} {lo hi i:Nat} (g:hi<=l.length) (f:i<hi - lo):aC ((l.drop lo).take (hi - lo)) (i:Int)=some (l.getD (lo+i) 0):=by
 rw[jn,List.getElem?_take,if_pos f,List.getElem?_drop,List.getElem?_eq_getElem (by omega),List.getD_eq_getElem?_getD,List.getElem?_eq_getElem (by omega)]; rfl
theorem vh {l:Q1} {lo hi:Nat} (f:hi<=l.length):((l.drop lo).take (hi - lo)).length=hi - lo:=by simp; omega
theorem CT (c:Nat):UInt32.ofNat c+1=UInt32.ofNat (c+1):=by
 apply UInt32.toNat_inj.1
 rw[UInt32.toNat_add,UInt32.toNat_ofNat',UInt32.toNat_ofNat',show (1:UInt32).toNat=1 from rfl]; omega
theorem qX (h:Int) (s o:Q1) (c lo:Nat) (hc:lo=c*Sz h) (t:lo<o.length) (A:o.length<=1000000):∀r i:Nat,i+r=min (Sz h) (o.length - lo) ->
  loop (F.Jc o.length lo (UInt32.ofNat c) (xk h s o lo) (mkB h s c)) ((i:Int),xk h s o (lo+i))=some (.inl (lo+min (Sz h) (o.length - lo),UInt32.ofNat (c+1),xk h s o (lo+min (Sz h) (o.length - lo))))
 | r,i,e=>by
  have G:=ic h
  have l1:(mkB h s c).length=Sz h:=iG _ _
  have z:=fun k=>ou h s o k
  have j:∀k,(((xk h s o k).drop lo).take (o.length - lo)).length=o.length - lo:=fun k=>vh (by rw[z]; exact Nat.le_refl _)
  have f:(min ((Sz h:Nat):Int) ((o.length - lo:Nat):Int))=((min (Sz h) (o.length - lo):Nat):Int):=by omega
  match r,e with
  | 0,e=>
   have:i=min (Sz h) (o.length - lo):=by omega
   subst this
   refine bv ?_
   unfold F.Jc
   dsimp only
   rw[l1,j,j,f,if_neg (by rw[decide_eq_true_eq]; omega),ib (by rw[j]; omega),ae,CT,Int.toNat_natCast]
   rfl
  | r+1,e=>
   rw[<-qX h s o c lo hc t A r (i+1) (by omega)]
   have hi:i<o.length - lo:=by omega
   have g:i<Sz h:=by omega
   have B:mk1 h s (lo+i)=(mkB h s c).getD i 0:=by
    unfold mk1
    rw[hc,Nat.mul_comm c,Nat.mul_add_div (by omega),Nat.div_eq_of_lt g,Nat.add_zero,Nat.mul_add_mod,Nat.mod_eq_of_lt g]
   refine bB ?_
   unfold F.Jc
   dsimp only
   rw[l1,j,f,if_pos (decide_eq_true (by omega)),Gr (by rw[z]; exact Nat.le_refl _) hi,ae,aU (by rw[l1]; exact g) 0,ae,ae,aV,Fl (by omega),if_neg (by omega),<-B,Int.toNat_natCast,EB (by omega),aJ (by omega) (by omega)]
   rfl
theorem s7 (h:Int) (j:isH h) (s o:Q1) (hs:s.length<=1000000) (k:o.length<=1000000):∀r c lo:Nat,o.length - lo<=r->(lo=c*Sz h/\lo<=o.length\/lo=o.length)->loop (F.Jg h s o.length) (lo,UInt32.ofNat c,xk h s o lo)=some (xk h s o o.length)
 | r,c,lo,hr,hlo=>by
  have G:=ic h
  have t:(((xk h s o lo).drop lo).take (o.length - lo)).length=o.length - lo:=vh (by rw[ou]; exact Nat.le_refl _)
  by_cases he:lo=o.length
  ·refine bv ?_
   unfold F.Jg
   dsimp only
   rw[t,if_neg (by rw[decide_eq_true_eq]; omega),he]
  ·have hc:lo=c*Sz h:=by omega
   match r,hr with
   | 0,hr=>omega
   | r+1,hr=>
    have z:lo<o.length:=by omega
    have f:[s,c4B (UInt32.ofNat c)].flatten=s++c4B (UInt32.ofNat c):=by simp
    have g:F.GO h [s,c4B (UInt32.ofNat c)]=some (mkB h s c):=by
     rw[gh h j _ (by simp) (by rw[f]; simp[c4B]; omega),f]; rfl
    have A:=qX h s o c lo hc z k (min (Sz h) (o.length - lo)) 0 (by omega)
    have B:F.Jg h s o.length (lo,UInt32.ofNat c,xk h s o lo)=some (.inl (lo+min (Sz h) (o.length - lo),UInt32.ofNat (c+1),xk h s o (lo+min (Sz h) (o.length - lo)))):=by
     unfold F.Jg
     dsimp only
     rw[t,if_pos (decide_eq_true (by omega))]
     have:ah (F.GO h [s,c4B (UInt32.ofNat c)]) (fun i=>loop (F.Jc o.length lo (UInt32.ofNat c) (xk h s o lo) i) (0,xk h s o lo))=some (.inl (lo+min (Sz h) (o.length - lo),UInt32.ofNat (c+1),xk h s o (lo+min (Sz h) (o.length - lo)))):=by
      rw[g,ae]; exact A
     exact this
    rw[bB B]
    refine s7 h j s o hs k r (c+1) _ (by omega) ?_
    by_cases hq:Sz h<=o.length - lo
    ·left; rw[Nat.min_eq_left hq,Nat.add_mul,Nat.one_mul,<-hc]; omega
    ·right; omega
theorem D9 (h:Int) (f:isH h) (s o:Q1) (hs:s.length<=1000000) (g:o.length<=1000000):F.L6 h s o 0 o.length=some (xk h s o o.length):=by
 have:=s7 h f s o hs g o.length 0 0 (by omega) (by left; omega)
 rw[DD]at this
 exact this
def hiB (b:Nat):UInt8:=jt 255 ((8 - b%8)%8)
theorem xE (b:Nat) (hb:b<=1000000):F.KP (b:Int)=some (hiB b):=by
 have f:∀n,n &&& 7=n%8:=fun n=>Nat.and_two_pow_sub_one_eq_mod n 3
 have g:j7 (b:Int) 7=((b%8:Nat):Int):=by rw[<-f]; exact v9 b 7 (by omega) (by omega)
 have h:j7 ((8 - b%8:Nat):Int) 7=(((8 - b%8)%8:Nat):Int):=by rw[<-f (8 - b%8)]; exact v9 (8 - b%8) 7 (by omega) (by omega)
 unfold F.KP hiB
 have i:wI (8 - ((b%8:Nat):Int))=((8 - b%8:Nat):Int):=by rw[aJ (by omega) (by omega)]; omega
 rw[g,i,h,grd_true _ (by omega),Int.toNat_natCast]
theorem An (h:Int) (g:isH h) (d s:Q1) (i:d.length<=1000000) (hs:s.length<=1000000):F.LT h d s=some (cU h (List.replicate 8 0++(d++s))):=by
 have f:[List.replicate 8 (0:UInt8),d,s].flatten=List.replicate 8 0++(d++s):=by simp
 unfold F.LT
 rw[dy (by decide),ae,show (8:Int).toNat=8 from rfl,gh h g _ (by simp) (by rw[f]; simp; omega),f,ae]
def vY (h:Int) (d sum blk:Q1) (at_:Nat):Bool:=decide ((∀i,i<at_->blk.getD i 0=0)/\blk.getD at_ 0=1/\cU h (List.replicate 8 0++(d++blk.drop (at_+1)))=sum)
theorem qJ (h:Int) (o:isH h) (d g blk:Q1) (f:Nat) (ha:f<blk.length) (hb:blk.length<=100000) (t:d.length<=1000):∀r i:Nat,i+r=f->(∀j,j<i->blk.getD j 0=0) ->
  loop (F.IZ h d g blk (f:Int)) (i:Int)=some (vY h d g blk f)
 | 0,i,e,hz=>by
  have:i=f:=by omega
  subst this
  have k:(∀j,j<i->blk.getD j 0=0):=hz
  refine bv ?_
  unfold F.IZ vY
  dsimp only
  rw[Int.toNat_natCast,if_neg (by rw[decide_eq_true_eq,List.length_take]; omega),aU ha 0,ae]
  by_cases h1:blk.getD i 0=1
  ·rw[if_pos (by rw[h1]; rfl),aJ (by omega) (by omega),show (i:Int)+1=((i+1:Nat):Int) by omega,ib (by omega),ae,An h o _ _ (by omega) (by simp; omega),ae,u6,ae]
   congr 2
   rw[decide_eq_decide]
   exact⟨fun q=>⟨k,h1,q⟩,fun q=>q.2.2⟩
  ·rw[if_neg (by rw[beq_iff_eq]; exact h1),decide_eq_false fun q=>h1 q.2.1]
 | r+1,i,e,hz=>by
  have hg:aC (blk.take f) (i:Int)=some (blk.getD i 0):=by
   rw[jn,List.getElem?_take,if_pos (by omega),List.getElem?_eq_getElem (by omega),List.getD_eq_getElem?_getD,List.getElem?_eq_getElem (by omega)]; rfl
  by_cases h0:blk.getD i 0=0
  ·rw[<-qJ h o d g blk f ha hb t r (i+1) (by omega) (fun j z=>by
    rcases Nat.lt_or_ge j i with q | q
    ·exact hz j q
    ·have:j=i:=by omega
     rw[this]; exact h0)]
   refine bB ?_
   unfold F.IZ
   dsimp only
   rw[Int.toNat_natCast,if_pos (decide_eq_true (by rw[List.length_take]; omega)),hg,ae,if_neg (by rw[h0]; decide),aJ (by omega) (by omega)]
   rfl
  ·refine bv ?_
   unfold F.IZ vY
   dsimp only
   rw[Int.toNat_natCast,if_pos (decide_eq_true (by rw[List.length_take]; omega)),hg,ae,if_pos (by rw[bne_iff_ne]; exact h0),decide_eq_false fun q=>h0 (q.1 i (by omega))]
def uQ (h:Int) (em:Q1) (k b:Nat):Q1:=
 (xk h ((em.drop k).take (Sz h)) (em.take k) k).set 0 ((xk h ((em.drop k).take (Sz h)) (em.take k) k).getD 0 0 &&& hiB b)
def oD (h:Int) (d em:Q1) (b:Nat):Bool:=
 if em.length=(b+7) / 8/\2*Sz h+2<=(b+7) / 8/\em.getD ((b+7) / 8 - 1) 0=188/\(em.getD 0 0 &&& ~~~ hiB b)=0 then
  vY h d ((em.drop ((b+7) / 8 - Sz h - 1)).take (Sz h)) (uQ h em ((b+7) / 8 - Sz h - 1) b) ((b+7) / 8 - Sz h - 1 - Sz h - 1)
 else false
theorem CV (a:Q1) (h:a.length<=225000000000000):F.Hs a=some a:=by
 unfold F.Hs
 rw[show apO 1 [] a=some a by unfold apO; rw[if_pos (by simp; omega)]; rfl,ae]
theorem vU (h:Int) (f:isH h):F.GL h=some ((Sz h:Nat):Int):=by rw[p8,if_pos f]
theorem B8 (h:Int) (i:isH h) (d f:Q1) (b:Nat) (hb:b<=65536) (A:d.length<=1000) (B:f.length=(b+7) / 8) (G:2*Sz h+2<=(b+7) / 8) :
  F.Hp h f (b:Int) ((Sz h:Nat):Int) d false=some (vY h d ((f.drop ((b+7) / 8 - Sz h - 1)).take (Sz h)) (uQ h f ((b+7) / 8 - Sz h - 1) b) ((b+7) / 8 - Sz h - 1 - Sz h - 1)):=by
 have R:=ic h
 have o:eD (wI ((b:Int)+7)) 3=(((b+7) / 8:Nat):Int):=by
  rw[aJ (by omega) (by omega),show (b:Int)+7=((b+7:Nat):Int) by omega,pY _ _ (by decide)]
 obtain⟨g,t⟩:∃g,(b+7) / 8=g:=⟨_,rfl⟩
 rw[t]at B G o ⊢
 obtain⟨k,I⟩:∃k,g - Sz h - 1=k:=⟨_,rfl⟩
 have U:g=k+Sz h+1:=by omega
 have J:wI (wI ((g:Int) - ((Sz h:Nat):Int)) - 1)=(k:Int):=by rw[aJ (x:=(g:Int) - _) (by omega) (by omega),aJ (by omega) (by omega)]; omega
 have K:wI ((g:Int) - 1)=((k+Sz h:Nat):Int):=by rw[aJ (by omega) (by omega)]; omega
 have z:slO f (k:Int) ((k+Sz h:Nat):Int)=some ((f.drop k).take (Sz h)):=by
  unfold slO; rw[if_pos (by omega),Int.toNat_natCast,Int.toNat_natCast,show k+Sz h - k=Sz h by omega]
 have lt:(f.take k).length=k:=by rw[List.length_take]; omega
 have M:(uQ h f k b).length=k:=by unfold uQ; rw[List.length_set,ou,lt]
 unfold F.Hp
 rw[if_neg (by decide),o,J,K,z,ae,vc (by omega),ae,CV _ (by omega),ae,D9 h i _ _ (by simp; omega) (by omega),ae,lt,
  show (0:Int)=((0:Nat):Int) from rfl,aU (by rw[ou,lt]; omega) 0,ae,xE b (by omega),ae,ae,aV,Int.toNat_natCast]
 have N:(xk h ((f.drop k).take (Sz h)) (f.take k) k).set 0 ((xk h ((f.drop k).take (Sz h)) (f.take k) k).getD 0 0 &&& hiB b)=uQ h f k b:=rfl
 rw[N,M,I,aJ (x:=(k:Int) - _) (by omega) (by omega),aJ (by omega) (by omega),aV,show (k:Int) - ((Sz h:Nat):Int) - 1=((k - Sz h - 1:Nat):Int) by omega,grd_true _ (by omega)]
 exact qJ h i d _ _ (k - Sz h - 1) (by omega) (by omega) A (k - Sz h - 1) 0 (by omega) (fun j O=>absurd O (Nat.not_lt_zero _))
theorem kY (h:Int) (d f:Q1) (b z:Int):F.Hp h f b z d true=some false:=rfl
theorem Bp (h:Int) (j:isH h) (d f:Q1) (b:Nat) (hb:b<=65536) (t:d.length=Sz h) (A:f.length<=1000000):F.K0 h d f (b:Int)=some (oD h d f b):=by
 have B:=ic h
 have k:eD (wI ((b:Int)+7)) 3=(((b+7) / 8:Nat):Int):=by
  rw[aJ (by omega) (by omega),show (b:Int)+7=((b+7:Nat):Int) by omega,pY _ _ (by decide)]
 have z:wI (wI (2*((Sz h:Nat):Int))+2)=((2*Sz h+2:Nat):Int):=by rw[aJ (x:=2*_) (by omega) (by omega),aJ (by omega) (by omega)]; omega
 have i:=B8 h j d f b hb (by omega)
 obtain⟨g,o⟩:∃g,(b+7) / 8=g:=⟨_,rfl⟩
 unfold F.K0 oD
 rw[vU h j,ae,if_neg (by rw[beq_iff_eq]; omega),if_neg (by rw[decide_eq_true_eq]; omega),if_neg (by rw[decide_eq_true_eq]; omega),t,bne_self_eq_false]
 unfold F.I3
 rw[o]at k i ⊢
 rw[if_neg (by decide),k,z]
 by_cases c1:f.length=g
 ·rw[if_neg (by rw[c1]; simp)]
  by_cases c2:2*Sz h+2<=g
  ·rw[if_neg (by rw[decide_eq_true_eq]; omega),aJ (by omega) (by omega),show (g:Int) - 1=((g - 1:Nat):Int) by omega,aU (show g - 1<f.length by omega) 0,ae]
   by_cases c3:f.getD (g - 1) 0=188
   ·rw[if_neg (by rw[c3]; decide),show (0:Int)=((0:Nat):Int) from rfl,aU (show 0<f.length by omega) 0,ae,xE b (by omega),ae]
    by_cases c4:(f.getD 0 0 &&& ~~~ hiB b)=0
    ·rw[if_pos ⟨c1,c2,c3,c4⟩,c4,show ((0:UInt8) != 0)=false from rfl,i c1 c2]
    ·rw[show ((f.getD 0 0 &&& ~~~ hiB b) != 0)=true by rw[bne_iff_ne]; exact c4,kY,if_neg fun q=>c4 q.2.2.2]
   ·rw[if_pos (by rw[bne_iff_ne]; exact c3),kY,if_neg fun q=>c3 q.2.2.1]
  ·rw[if_pos (decide_eq_true (by omega)),kY,if_neg fun q=>c2 q.2.1]
 ·rw[if_pos (by rw[bne_iff_ne]; omega),kY,if_neg fun q=>c1 q.1]
def vg (h:Int) (n e m sig:Q1):Int:=
 if isH h then if fI n e then if sig.length=n.length/\beN sig<beN n then
  if beN sig^beN e%beN n<256^((nb (beN n) - 1+7) / 8)/\oD h (cU h m) (beB ((nb (beN n) - 1+7) / 8) (beN sig^beN e%beN n)) (nb (beN n) - 1)=true then 0 else 91 else 91 else 90 else 111
theorem q9 (b:Bool):F.K4 b=some (if b=true then 91 else 0):=by cases b <;> rfl
theorem yZ (h:Int) (g:isH h) (n e m sig:Q1) (hm:m.length<=900000000000000) (f:fI n e) (hs:sig.length=n.length) (i:beN sig<beN n) :
  F.Ky h e m (aq (beN n)) (aq (beN sig)) false=some (if beN sig^beN e%beN n<256^((nb (beN n) - 1+7) / 8)/\oD h (cU h m) (beB ((nb (beN n) - 1+7) / 8) (beN sig^beN e%beN n)) (nb (beN n) - 1)=true then 0 else 91):=by
 obtain⟨B,G,I,j⟩:=ul f
 have b0:=f.2.2.2.2.2.1.1
 have b1:=f.2.2.2.2.2.1.2
 have J:nb (beN e)<=32:=gx (by have:=f.2.2.2.2.2.2.2.2; omega)
 have k:nb (beN sig)<=4096:=Nat.le_trans (gx (Nat.lt_trans i (de (beN n)).1)) b1
 have l1:=fq (l:=sig) (by omega); have o:=fq (l:=e) (by omega); have t:=jc b1
 have K:(aq (beN sig^beN e%beN n)).length<=128:=Nat.le_trans (dg (Nat.le_of_lt (Nat.mod_lt _ (by omega)))) t
 have z:wI (((nb (beN n):Nat):Int) - 1)=((nb (beN n) - 1:Nat):Int):=by rw[aJ (by omega) (by omega)]; omega
 have A:eD (wI (((nb (beN n) - 1:Nat):Int)+7)) 3=(((nb (beN n) - 1+7) / 8:Nat):Int):=by
  rw[aJ (by omega) (by omega),show ((nb (beN n) - 1:Nat):Int)+7=((nb (beN n) - 1+7:Nat):Int) by omega,pY _ _ (by decide)]
 have hl:=iG h m
 unfold F.Ky
 rw[if_neg (by decide),cA e (by omega),ae,sa _ _ _ j b1 (by omega) (by rw[aw]; exact k) (by rw[aw]; omega) l1 o,ae,aw,aw,if_neg (show ¬((0:Int) != 0)=true by decide),
  eA _ (by omega),ae,aw,z,A,rP (aq (beN sig^beN e%beN n)) _ (by omega) (by omega),aw]
 by_cases c1:beN sig^beN e%beN n<256^((nb (beN n) - 1+7) / 8)
 ·rw[if_pos c1,ae,if_neg (show ¬(!true)=true by decide),sA h g m hm,ae,Bp h g _ _ _ (by omega) hl (by rw[gN]; omega),ae,q9]
  cases hq:oD h (cU h m) (beB ((nb (beN n) - 1+7) / 8) (beN sig^beN e%beN n)) (nb (beN n) - 1) with
  | true=>rw[if_neg (by decide),if_pos ⟨c1,rfl⟩]
  | false=>rw[if_pos (by decide),if_neg fun q=>by cases q.2]
 ·rw[if_neg c1,ae,if_pos (show (!false)=true by decide),q9,if_pos rfl,if_neg fun q=>c1 q.1]
theorem qn (h:Int) (n e m sig:Q1) (hn:n.length<=140737488351232) (he:e.length<=140737488351232) (hm:m.length<=900000000000000) (hs:sig.length<=140737488351232):F.KD h n e m sig=some (vg h n e m sig):=by
 unfold F.KD vg
 rw[p8,ae]
 by_cases hh:isH h
 ·have f:=ic h
  rw[if_pos hh,if_neg (by rw[beq_iff_eq]; omega),if_pos hh,vM n e hn he,ae]
  by_cases hk:fI n e
  ·rw[if_pos hk,if_neg (by decide),if_pos hk,cA n hn,ae,cA sig hs,ae]
   by_cases c1:sig.length=n.length
   ·have l1:=fq hs; have g:=fq hn
    rw[if_neg (by rw[c1]; simp),eP _ _ (by omega) (by omega),ae,aw,aw]
    by_cases c2:beN sig<beN n
    ·have:¬0<=cE (beN sig) (beN n):=by unfold cE; rw[if_pos c2]; decide
     rw[decide_eq_false this,yZ h hh n e m sig hm hk c1 c2,if_pos (show sig.length=n.length/\beN sig<beN n from⟨c1,c2⟩)]
    ·have:0<=cE (beN sig) (beN n):=by unfold cE; rw[if_neg c2]; split <;> decide
     rw[decide_eq_true this,if_neg fun q=>c2 q.2]; rfl
   ·rw[if_pos (by rw[bne_iff_ne]; omega),if_neg fun q=>c1 q.1]; rfl
  ·rw[if_neg hk,if_pos (by decide),if_neg hk]
 ·rw[if_neg hh,if_pos (by decide),if_neg hh]
end Go.Gk.Bn
end
