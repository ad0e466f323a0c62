import Derived.Test.YtmegjloifgfldaaGreatDoorGkX5
import Derived.Test.YtmegjloifgfldaaGreatDoorGkFb64
import Derived.Test.YtmegjloifgfldaaGreatDoorGkP1
set_option linter.unusedVariables false
set_option linter.unusedSimpArgs false
set_option linter.unusedSectionVars false

section
namespace Go.Gk.Bn
open Go Go.Gk Go.Gk.Sh
theorem Gu (x:UInt32) (r:Nat) (f:r<32):((bv x r &&& 1) == 1)=decide (x.toNat / 2^r%2=1):=by
 rw[EX,gq,Nat.min_eq_left (by omega)]
theorem wZ (l:Q0) (i:Nat) (hi:i<=4611686018427387904) (hl:l.length<=4611686018427387904):F.GP l (i:Int)=some (decide (val l / 2^i%2=1)):=by
 have f:wI (Int.tdiv (i:Int) 32)=((i / 32:Nat):Int):=by rw[Int.tdiv_eq_ediv_of_nonneg (by omega),aI (by omega) (by omega)]; omega
 have g:Int.tmod (i:Int) 32=((i%32:Nat):Int):=by rw[Int.tmod_eq_emod_of_nonneg (by omega)]; omega
 unfold F.GP
 rw[if_pos (decide_eq_true (by omega)),f,g,<-p7]
 by_cases h:i / 32<l.length
 ·rw[if_pos (decide_eq_true (by omega)),aT h 0,ae,grd_true _ (by omega),Int.toNat_natCast,Gu _ _ (by omega)]
 ·rw[if_neg (by rw[decide_eq_true_eq]; omega),List.getD_eq_getElem?_getD,List.getElem?_eq_none (by omega)]
  simp
theorem DX (l:Q0) (s:Nat) (hs:s<32) (hl:l.length<=40000000000000):F.GU l (s:Int)=some (ao (val l / 2^s)):=by
 obtain⟨m,i,G,j⟩:=dD l (by omega)
 have I:(ao (val l)).length<=l.length:=ba (bD l)
 have w0:wI (Int.tdiv (max (s:Int) 0) 32)=((0:Nat):Int):=by
  rw[show max (s:Int) 0=(s:Int) by omega,Int.tdiv_eq_ediv_of_nonneg (by omega),aI (by omega) (by omega)]; omega
 have o:Int.tmod (max (s:Int) 0) 32=(s:Int):=by rw[show max (s:Int) 0=(s:Int) by omega,Int.tmod_eq_emod_of_nonneg (by omega)]; omega
 unfold F.GU
 rw[i,ae,j,w0,o]
 by_cases h:(ao (val l)).length=0
 ·have:val l=0:=(jc _).1 h
  rw[if_pos (decide_eq_true (by omega)),this,Nat.zero_div,bG]
 ·have f:apO 4 [] (ao (val l))=some (ao (val l)):=by unfold apO; rw[if_pos (by simp; omega)]; simp
  obtain⟨t,z,J,g⟩:=pH (ao (val l)) s hs (by omega)
  rw[aw]at g
  obtain⟨k,A,K,B⟩:=eo t (by omega)
  rw[if_neg (by rw[decide_eq_true_eq]; omega),g9 (by omega),ae,List.drop_zero,f,ae,z,ae,A,ae,B,g]
theorem Gv (e i:Nat):e / 2^i=2*(e / 2^(i+1))+(if decide (e / 2^i%2=1)=true then 1 else 0):=DN e i
theorem uH (z m:Nat) (k:1<m) (o:(ao m).length<=900) (j:z<m) (e:Q0) (le:e.length<=4611686018427387904):∀i:Nat,i<=4000000000000000 ->
  loop (F.JB e (ao m) (ao z)) (ao (z^(val e / 2^i)%m),(i:Int) - 1)=some (ao (z^val e%m),0)
 | 0,_=>by
  rw[Nat.pow_zero,Nat.div_one]
  refine bu ?_
  unfold F.JB
  dsimp only
  rw[if_neg (by decide)]
 | i+1,hi=>by
  have hm:∀x,x%m<m:=fun x=>Nat.mod_lt _ (by omega)
  have t:(((i+1:Nat):Int)) - 1=(i:Int):=by omega
  have w:wI ((i:Int) - 1)=(i:Int) - 1:=aI (by omega) (by omega)
  have f:∀x,x<m->(ao x).length<=900:=fun x hx=>dG (Nat.le_of_lt hx) o
  have A:∀x y,x<m->y<m->(ao (x*y)).length<=1800:=fun x y hx hy=>by
   have k:=kY x y; have I:=f x hx; have J:=f y hy
   omega
  have mul:∀x y,x<m->y<m->F.HO (ao x) (ao y)=some (ao (x*y)):=fun x y hx hy=>by
   have B:=f x hx; have K:=f y hy
   rw[xL _ _ (by omega) (by omega) (by rw[aw,aw]; omega),aw,aw]
  have rest:∀x y,x<m->y<m->F.GO (ao (x*y)) (ao m)=some (ao (x*y%m)):=fun x y hx hy=>by
   have B:=A x y hx hy
   rw[fH _ _ (by omega) (by omega) (by rw[aw]; omega),aw,aw]
  rw[t,<-uH z m k o j e le i (by omega)]
  refine bB ?_
  unfold F.JB
  dsimp only
  rw[if_pos (decide_eq_true (by omega)),mul _ _ (hm _) (hm _),ae,rest _ _ (hm _) (hm _),ae,wZ _ _ (by omega) le,ae]
  have hb:=Gv (val e) i
  have g:z^(val e / 2^(i+1))%m*(z^(val e / 2^(i+1))%m)%m=z^(2*(val e / 2^(i+1)))%m:=by
   rw[<-Nat.mul_mod,<-Nat.pow_add]; congr 2; omega
  by_cases h:val e / 2^i%2=1
  ·rw[if_pos (decide_eq_true h)]at hb ⊢
   rw[mul _ _ (hm _) j,ae,rest _ _ (hm _) j,ae]
   unfold F.Jo
   dsimp only
   rw[w,g,Nat.mod_mul_mod,<-Nat.pow_succ,Nat.succ_eq_add_one,<-hb]
   rfl
  ·have G:¬decide (val e / 2^i%2=1)=true:=by rw[decide_eq_true_eq]; exact h
   rw[if_neg G]at hb ⊢
   unfold F.Jo
   dsimp only
   rw[w,g,<-Nat.add_zero (2*(val e / 2^(i+1))),<-hb]
   rfl
theorem rX (a e:Q0) (m:Nat) (g:1<m) (hm:nb m<=4096) (h:(ao m).length<=900) (ha:nb (val a)<=4096) (he:nb (val e)<=4096) (f:a.length<=40000000000000) (le:e.length<=40000000000000) :
  F.IJ a e (ao m)=some (ao (val a^val e%m),0):=by
 have i:wI (((nb (val e):Nat):Int) - 1)=((nb (val e):Nat):Int) - 1:=aI (by omega) (by omega)
 have j:val e / 2^nb (val e)=0:=Nat.div_eq_of_lt (c9 (val e)).1
 have l1:val ([1]:Q0)=1:=rfl
 unfold F.IJ
 rw[mL ha he (by rw[aw]; exact hm) (by rw[aw]; omega) f le (by omega),ae,if_neg (by decide),fH a _ f (by omega) (by rw[aw]; omega),ae,fH [1] _ (by decide) (by omega) (by rw[aw]; omega),ae,
  ew e (by omega),ae,i,aw,l1]
 have:=uH (val a%m) m g h (Nat.mod_lt _ (by omega)) e (by omega) (nb (val e)) (by omega)
 rw[j,Nat.pow_zero]at this
 rw[this,<-Nat.pow_mod]
noncomputable def nJ (m a:Nat):Nat:=if h:∃w,w<m/\a*w%m=1 then Classical.choose h else 0
theorem DV {n s w v:Nat} (f:w<n) (g:v<n) (h:s*w%n=1) (i:s*v%n=1):w=v:=q6 f g h i
theorem Du {m a w:Nat} (f:w<m) (h:a*w%m=1):nJ m a=w:=by
 unfold nJ
 have hx:∃w,w<m/\a*w%m=1:=⟨w,f,h⟩
 rw[dif_pos hx]
 exact DV (Classical.choose_spec hx).1 f (Classical.choose_spec hx).2 h
theorem DI {m a:Nat} (h:0<m):nJ m a<m:=by
 unfold nJ
 split
 ·rename_i hx; exact (Classical.choose_spec hx).1
 ·exact h
theorem Al {m a:Nat} (g:1<m) (hg:Nat.gcd a m≠1):nJ m a=0:=by
 unfold nJ
 rw[dif_neg]
 rintro⟨w,_,h⟩
 apply hg
 have f:Nat.gcd a m ∣ a*w%m:=(Nat.dvd_mod_iff (Nat.gcd_dvd_right a m)).2 (Nat.dvd_mul_right_of_dvd (Nat.gcd_dvd_left a m) w)
 rw[h]at f
 exact Nat.dvd_one.1 f
theorem DT (a:Q0) (m:Nat) (g:1<m) (hm:m%2=1) (o:nb m<=4096) (f:(ao m).length<=900) (t:nb (val a)<=4096) (i:a.length<=40000000000000) :
  F.Hy a (ao m)=some (ao (nJ m (val a)),if Nat.gcd (val a) m=1 then 0 else 61):=by
 by_cases hg:Nat.gcd (val a) m=1
 ·obtain⟨w,G,I,J⟩:=zw a m g hm o f t i hg
  rw[J,if_pos hg,Du G I]
 ·have K:F.G4 [a,ao m]=some 0:=by
   have hl:∀x∈[a,ao m],x.length<=40000000000000:=by
    intro x hx
    simp only[List.mem_cons,List.not_mem_nil,or_false]at hx
    rcases hx with h | h
    ·rw[h]; exact i
    ·rw[h]; omega
   rw[pQ [a,ao m] 1 rfl (by decide) hl]
   unfold jG
   rw[if_neg]
   ·rw[show [a,ao m].getD 1 []=ao m from rfl,aw,if_neg (by omega)]
   ·simp only[List.any_cons,List.any_nil,Bool.or_false,Bool.or_eq_true,decide_eq_true_eq,aw]
    omega
  have M:Nat.gcd (val a%m) m=Nat.gcd (val a) m:=by rw[<-Nat.gcd_rec,Nat.gcd_comm]
  have j:Nat.gcd (val a%m) m%2=1:=by
   have:=Nat.gcd_dvd_right (val a%m) m
   rcases Nat.mod_two_eq_zero_or_one (Nat.gcd (val a%m) m) with h | h
   ·obtain⟨k,N⟩:=this
    rw[N,Nat.mul_mod,h,Nat.zero_mul,Nat.zero_mod]at hm
    omega
   ·exact h
  obtain⟨x,O,U,z⟩:=Av (a:=val a%m) hm f (val a%m+m) (val a%m) m 1 0 (Nat.le_refl _) (Nat.le_of_lt (Nat.mod_lt _ (by omega))) (by omega) (Nat.le_refl _) g (by omega) (by rw[Nat.one_mul]) (by rw[Nat.zero_mul,Nat.mod_self,Nat.zero_mod]) j
  rw[M]at z
  have l1:ao 1=[1]:=by rw[f7 (by decide),show 1 / 4294967296=0 by decide,bG]; rfl
  have A:Nat.gcd (val a) m<=m:=Nat.gcd_le_right _ (by omega)
  have V:=dG A f
  have lx:=dG (Nat.le_of_lt O) f
  have R:F.H7 (ao (val a%m)) (ao m)=some (ao (Nat.gcd (val a) m),ao x):=by
   unfold F.H7
   rw[<-l1,<-bG]at *
   exact z
  have B:(cD (Nat.gcd (val a) m) 1 != 0)=true:=by
   rw[bne_iff_ne]; intro h
   have:=Cp (Nat.gcd (val a) m) 1
   rw[h,decide_eq_false hg]at this
   exact absurd this (by decide)
  unfold F.Hy
  rw[K,ae,if_neg (by decide),fH a _ i (by omega) (by rw[aw]; omega),aw,ae,iI _ (by omega),aw,ae,if_pos (decide_eq_true hm),R,ae]
  dsimp only
  rw[eN _ _ (by omega) (by decide),ae,aw,show val ([1]:Q0)=1 from rfl,if_pos B,if_neg hg,Al g hg,bG]
theorem rJ (a:Q0) (m:Nat) (ha:a.length<=35184372087808) (hm:m<=16384):F.Hp a (m:Int)=some (if val a<256^m then (beB m (val a),true) else ([],false)):=by
 by_cases hv:val a<256^m
 ·rw[if_pos hv]; exact AO a m ha hm hv
 ·have hb:nb (val a)<=32*a.length:=Nat.le_trans (ib _) (Nat.mul_le_mul_left 32 (ba (bD a)))
  have f:m<(nb (val a)+7) / 8:=by
   rcases Nat.lt_or_ge m (nby (val a)) with h | h
   ·exact h
   ·exact absurd (Nat.lt_of_lt_of_le (q7 (val a)) (Nat.pow_le_pow_right (by decide) h)) hv
  rw[if_neg hv]
  unfold F.Hp
  rw[if_neg (by rw[decide_eq_true_eq]; omega),if_neg (by rw[decide_eq_true_eq]; omega),ew a (by omega),ae,aI (x:=((nb (val a):Nat):Int)+7) (by omega) (by omega),Int.tdiv_eq_ediv_of_nonneg (by omega),aI (by omega) (by omega),
   decide_eq_true (show (m:Int)<(((nb (val a):Nat):Int)+7) / 8 by omega)]
  rfl
theorem D4 (a:Q0) (ha:a.length<=40000000000000):∃u,F.Li a=some (u,decide (val a<18446744073709551616))/\(val a<18446744073709551616->u.toNat=val a):=by
 obtain⟨m,A,J,g⟩:=dD a (by omega)
 have hl:=aw (val a)
 unfold F.Li
 rw[A,ae]
 have K:F.HB a m=fun s=>F.HB a m s:=rfl
 by_cases h:2<(ao (val a)).length
 ·have j:¬val a<18446744073709551616:=fun o=>by
   have:=ba (n:=val a) (k:=2) (by omega)
   omega
  rw[g,if_pos (decide_eq_true (by omega)),decide_eq_false j]
  exact⟨0,rfl,fun q=>absurd q j⟩
 ·have o:val a<18446744073709551616:=by
   have t:=bD (ao (val a))
   rw[hl]at t
   refine Nat.lt_of_lt_of_le t ?_
   refine Nat.le_trans (Nat.pow_le_pow_right (by decide) (show (ao (val a)).length<=2 by omega)) (by decide)
  rw[g,if_neg (by rw[decide_eq_true_eq]; omega),decide_eq_true o]
  have step:∀(s:UInt64) (i:Nat) (x:UInt32),i<2->(ao (val a))[i]? = some x->F.HB a m (s,(i:Int))=some (.inl (s ||| aF x.toUInt64 (32*i),((i+1:Nat):Int))):=by
   intro s i x hi hx
   have I:i<(ao (val a)).length:=(List.getElem?_eq_some_iff.1 hx).1
   unfold F.HB
   dsimp only
   rw[g,if_pos (decide_eq_true (by omega)),jj,hx,ae,aI (x:=32*(i:Int)) (by omega) (by omega),grd_true _ (by omega),aV,aI (by omega) (by omega),show (32*(i:Int)).toNat=32*i by omega]
   rfl
  have f:∀(s:UInt64) (i:Nat),(ao (val a)).length<=i->F.HB a m (s,(i:Int))=bz (some (s,true)):=by
   intro s i hi
   unfold F.HB
   dsimp only
   rw[g,if_neg (by rw[decide_eq_true_eq]; omega)]
  match hq:ao (val a),h with
  | [],_=>
   rw[hq]at hl f
   have:=bu (f 0 0 (Nat.le_refl _))
   exact⟨0,this,fun _=>hl⟩
  | [x],_=>
   rw[hq]at hl f step
   refine⟨_,(bB (step 0 0 x (by decide) rfl)).trans (bu (f _ 1 (Nat.le_refl _))),fun _=>?_⟩
   rw[<-hl,UInt64.toNat_or,dX]
   simp[val]
  | [x,y],_=>
   rw[hq]at hl f step
   refine⟨_,(bB (step 0 0 x (by decide) rfl)).trans ((bB (step _ 1 y (by decide) rfl)).trans (bu (f _ 2 (Nat.le_refl _)))),fun _=>?_⟩
   have hx:=cn x; have hy:=cn y
   rw[<-hl,UInt64.toNat_or,UInt64.toNat_or,dX,dX]
   have B:x.toUInt64.toNat=x.toNat:=bY x
   have G:y.toUInt64.toNat=y.toNat:=bY y
   rw[B,G]
   simp only[val,Nat.mul_zero,Nat.add_zero,Nat.pow_zero,Nat.mul_one,show min 0 64=0 from rfl,show min 32 64=32 from rfl]
   rw[show (0:UInt64).toNat=0 from rfl,Nat.zero_or,Nat.mod_eq_of_lt (a:=x.toNat) (by omega),Nat.mod_eq_of_lt (a:=y.toNat*_) (by omega)]
   have:=gA (x:=y.toNat*2^32) (y:=x.toNat) 32 (by omega) (by omega)
   rw[Nat.or_comm,this]; omega
  | x :: y :: z :: r,h=>simp at h
end Go.Gk.Bn
end

section
namespace Go.Gk.Bn
open Go Go.Gk Go.Gk.Sh
theorem we (x:UInt8):(x == 0)=decide (x.toNat=0):=by
 by_cases h:x.toNat=0
 ·rw[decide_eq_true h,beq_iff_eq]; exact UInt8.toNat_inj.1 h
 ·rw[decide_eq_false h,beq_eq_false_iff_ne]; intro e; rw[e]at h; exact h rfl
theorem Dr (x:UInt8):(x%2 == 0)=decide (x.toNat%2=0):=by rw[we,UInt8.toNat_mod]; rfl
theorem xe {τ:Type} (l:List τ):((l.length:Int) == 0)=decide (l.length=0):=by
 by_cases h:l.length=0
 ·rw[decide_eq_true h,h]; rfl
 ·rw[decide_eq_false h,beq_eq_false_iff_ne]; omega
theorem Bs (l:Q1) (h:l.length≠0):beN l%2=(l.getD (l.length - 1) 0).toNat%2:=by
 have f:=ik l (i:=l.length - 1) (by omega)
 rw[show l.length - 1+1=l.length by omega,List.take_length]at f
 rw[f]; omega
theorem Bv {l:Q1} (h:l.length≠0) (f:(l.getD 0 0).toNat≠0):256^(l.length - 1)<=beN l:=by
 match l,h with
 | x :: r,_=>
  rw[show x :: r=[x]++r from rfl,mO]
  have e:beN [x]=x.toNat:=by simp[beN]
  simp only[List.getD_cons_zero]at f
  rw[e,List.singleton_append,List.length_cons,Nat.add_sub_cancel]
  have:=Nat.le_mul_of_pos_left (256^r.length) (Nat.pos_of_ne_zero f)
  omega
theorem vq {l:Q1} (h:l.length≠0) (f:(l.getD 0 0).toNat≠0):nby (beN l)=l.length:=by
 have i:=zU (gk l)
 rcases Nat.lt_or_ge (nby (beN l)) l.length with g | g
 ·have j:=q7 (beN l)
  have k:=Bv h f
  have:=Nat.pow_le_pow_right (show 0<256 by decide) (show nby (beN l)<=l.length - 1 by omega)
  omega
 ·omega
def gf (n e:Q1):Prop:=n.length≠0/\(n.getD 0 0).toNat≠0/\beN n%2=1/\e.length≠0/\(e.getD 0 0).toNat≠0/\(2048<=nb (beN n)/\nb (beN n)<=4096)/\beN e%2=1/\3<=beN e/\beN e<=4294967295
instance (n e:Q1):Decidable (gf n e):=by unfold gf; infer_instance
theorem ES (n e:Q1) (hn:n.length<=140737488351232) (he:e.length<=140737488351232) (h:n.length≠0/\(n.getD 0 0).toNat≠0/\beN n%2=1/\e.length≠0/\(e.getD 0 0).toNat≠0):F.Hc n e false=some (if gf n e then 0 else 90):=by
 obtain⟨k,o,t,z,A⟩:=h
 have l1:(ao (beN n)).length<=40000000000000:=by
  have:beN n<4294967296^((n.length+3) / 4):=by
   have:=gk n
   refine Nat.lt_of_lt_of_le this ?_
   rw[show (4294967296:Nat)=256^4 from rfl,<-Nat.pow_mul]
   exact Nat.pow_le_pow_right (by decide) (by omega)
  have:=ba this
  omega
 have B:(ao (beN e)).length<=40000000000000:=by
  have:beN e<4294967296^((e.length+3) / 4):=by
   have:=gk e
   refine Nat.lt_of_lt_of_le this ?_
   rw[show (4294967296:Nat)=256^4 from rfl,<-Nat.pow_mul]
   exact Nat.pow_le_pow_right (by decide) (by omega)
  have:=ba this
  omega
 have f:∀b,F.Hn b=some (if b=true then 90 else 0):=fun b=>by cases b <;> rfl
 obtain⟨u,j,g⟩:=D4 (ao (beN e)) B
 rw[aw]at j g
 unfold F.Hc
 rw[if_neg (by decide),cz n hn,ae,ew _ (by omega),ae,aw,cz e he,ae,j,ae]
 have i:¬gf n e->some (90:Int)=some (if gf n e then 0 else 90):=fun q=>by rw[if_neg q]
 by_cases c1:nb (beN n)<2048
 ·rw[if_pos (decide_eq_true (by omega)),f,if_pos rfl]; exact i fun q=>by have:=q.2.2.2.2.2.1.1; omega
 by_cases c2:4096<nb (beN n)
 ·rw[if_neg (by rw[decide_eq_true_eq]; omega),if_pos (decide_eq_true (by omega)),f,if_pos rfl]; exact i fun q=>by have:=q.2.2.2.2.2.1.2; omega
 rw[if_neg (by rw[decide_eq_true_eq]; omega),if_neg (by rw[decide_eq_true_eq]; omega)]
 by_cases c3:beN e<18446744073709551616
 ·have g:=g c3
  rw[decide_eq_true c3,if_neg (show ¬(!true)=true by decide)]
  have G:((u%2) == 0)=decide (beN e%2=0):=by
   rw[<-g]
   by_cases q:u.toNat%2=0
   ·rw[decide_eq_true q,beq_iff_eq]; apply UInt64.toNat_inj.1; rw[UInt64.toNat_mod]; exact q
   ·rw[decide_eq_false q,beq_eq_false_iff_ne]; intro h; apply q; rw[<-show (u%2).toNat=u.toNat%2 from UInt64.toNat_mod u 2,h]; rfl
  have I:(decide (u<3))=decide (beN e<3):=by rw[<-g,decide_eq_decide,UInt64.lt_iff_toNat_lt]; rfl
  have J:(decide ((4294967295:UInt64)<u))=decide (4294967295<beN e):=by rw[<-g,decide_eq_decide,UInt64.lt_iff_toNat_lt]; rfl
  rw[G,I,J]
  by_cases c4:beN e%2=0
  ·rw[if_pos (decide_eq_true c4),f,if_pos rfl]; exact i fun q=>by have:=q.2.2.2.2.2.2.1; omega
  by_cases c5:beN e<3
  ·rw[if_neg (by rw[decide_eq_true_eq]; omega),if_pos (decide_eq_true c5),f,if_pos rfl]; exact i fun q=>by have:=q.2.2.2.2.2.2.2.1; omega
  rw[if_neg (by rw[decide_eq_true_eq]; omega),if_neg (by rw[decide_eq_true_eq]; omega),f]
  by_cases c6:4294967295<beN e
  ·rw[if_pos (decide_eq_true c6)]; exact i fun q=>by have:=q.2.2.2.2.2.2.2.2; omega
  ·rw[if_neg (by rw[decide_eq_true_eq]; omega),if_pos ⟨k,o,t,z,A,⟨by omega,by omega⟩,by omega,by omega,by omega⟩]
 ·rw[decide_eq_false c3,if_pos (show (!false)=true by decide),f,if_pos rfl]; exact i fun q=>by have:=q.2.2.2.2.2.2.2.2; omega
theorem vE (n e:Q1) (hn:n.length<=140737488351232) (he:e.length<=140737488351232):F.IG n e=some (if gf n e then 0 else 90):=by
 have f:F.Hc n e true=some 90:=rfl
 have g:¬gf n e->some (90:Int)=some (if gf n e then 0 else 90):=fun q=>by rw[if_neg q]
 unfold F.IG
 rw[xe,xe]
 by_cases c1:n.length=0
 ·rw[if_pos (decide_eq_true c1),f]; exact g fun q=>q.1 c1
 rw[if_neg (by rw[decide_eq_true_eq]; exact c1),show (0:Int)=((0:Nat):Int) from rfl,aT (show 0<n.length by omega) 0,ae,we]
 by_cases c2:(n.getD 0 0).toNat=0
 ·rw[if_pos (decide_eq_true c2),f]; exact g fun q=>q.2.1 c2
 rw[if_neg (by rw[decide_eq_true_eq]; exact c2),aI (by omega) (by omega),show (n.length:Int) - 1=((n.length - 1:Nat):Int) by omega,aT (show n.length - 1<n.length by omega) 0,ae,Dr,<-Bs n c1]
 by_cases c3:beN n%2=0
 ·rw[if_pos (decide_eq_true c3),f]; exact g fun q=>by have:=q.2.2.1; omega
 rw[if_neg (by rw[decide_eq_true_eq]; exact c3)]
 by_cases c4:e.length=0
 ·rw[if_pos (decide_eq_true c4),f]; exact g fun q=>q.2.2.2.1 c4
 rw[if_neg (by rw[decide_eq_true_eq]; exact c4),aT (show 0<e.length by omega) 0,ae,we]
 by_cases c5:(e.getD 0 0).toNat=0
 ·rw[decide_eq_true c5,f]; exact g fun q=>q.2.2.2.2.1 c5
 ·rw[decide_eq_false c5]; exact ES n e hn he ⟨c1,c2,by omega,c4,c5⟩
theorem uh {n e:Q1} (h:gf n e):256<=n.length/\n.length<=512/\e.length<=4/\1<beN n:=by
 obtain⟨f,g,A,i,j,⟨k,B⟩,F,G,z⟩:=h
 have o:=vq f g
 have t:=vq i j
 have I:nb (beN e)<=32:=gv (by omega)
 have J:beN n≠0:=by omega
 have K:beN n≠1:=fun q=>by
  have:nb 1=1:=by rw[ri (by decide),show 1 / 2=0 from rfl,fR]
  rw[q,this]at k; omega
 unfold nby at o t
 omega
def ra (h:Int):Q1:=F.Hr.getD h.toNat []
theorem vU {h:Int} (f:isH h):(ra h).length=19/\aC F.Hr h=some (ra h):=by
 rcases f with rfl | rfl | rfl <;> exact⟨rfl,rfl⟩
def vb (h:Int) (m:Q1) (size:Nat):Q1:=((([0,1]++List.replicate (size - 22 - Sz h) 255)++[0])++ra h)++cT h m
theorem ue (h:Int):F.Kl h=some (decide (isH h)):=by
 unfold F.Kl
 by_cases c:1<=h
 ·rw[if_pos (decide_eq_true c)]; congr 1; rw[decide_eq_decide]; unfold isH; omega
 ·rw[if_neg (by rw[decide_eq_true_eq]; exact c)]; congr 1; symm; rw[decide_eq_false_iff_not]; unfold isH; omega
theorem qW {l m:Q1} (h:l.length+m.length<=225000000000000):apO 1 l m=some (l++m):=by unfold apO; rw[if_pos (by omega)]
theorem pq (h:Int) (f:isH h) (s:Q1) (hs:s.length<=64) (k:Nat) (g:k<=512):∀(r i:Nat),i+r=k ->
  loop (F.JJ s (ra h) (k:Int)) ([0,1]++List.replicate i 255,(i:Int))=some (((([0,1]++List.replicate k 255)++[0])++ra h)++s,0)
 | 0,i,e=>by
  have:i=k:=by omega
  subst this
  have hi:=(vU f).1
  refine bu ?_
  unfold F.JJ
  dsimp only
  rw[if_neg (by rw[decide_eq_true_eq]; omega),qW (by simp; omega),ae,qW (by simp; omega),ae,qW (by simp; omega),ae]
 | r+1,i,e=>by
  rw[<-pq h f s hs k g r (i+1) (by omega)]
  refine bB ?_
  unfold F.JJ
  dsimp only
  rw[if_pos (decide_eq_true (by omega)),qW (by simp; omega),ae,aI (by omega) (by omega),List.append_assoc,show List.replicate i (255:UInt8)++[255]=List.replicate (i+1) 255 from (List.replicate_succ' ..).symm]
  rfl
theorem y7 (h:Int) (g:isH h) (m:Q1) (hm:m.length<=900000000000000) (f:Nat) (i:94<=f) (j:f<=512):F.K3 h m (f:Int)=some (vb h m f,0):=by
 have hi:=vU g
 have k:=iW h
 have hl:=iB h m
 unfold F.K3
 rw[ue,decide_eq_true g,ae,if_neg (by decide),so h g m hm,ae,hi.2,ae,hi.1,hl,aI (x:=3+((19:Nat):Int)) (by omega) (by omega),aI (x:=_+((Sz h:Nat):Int)) (by omega) (by omega),aI (by omega) (by omega),
  if_neg (by rw[decide_eq_true_eq]; omega),decide_eq_false (by omega)]
 unfold F.KX
 rw[if_neg (by decide),hi.1,hl,aI (x:=(f:Int) - 3) (by omega) (by omega),aI (x:=(f:Int) - 3 - ((19:Nat):Int)) (by omega) (by omega),aI (by omega) (by omega),aV,dv (by omega),ae,qW (by simp),ae,
  show (f:Int) - 3 - ((19:Nat):Int) - ((Sz h:Nat):Int)=((f - 22 - Sz h:Nat):Int) by omega]
 have:=pq h g (cT h m) (by omega) (f - 22 - Sz h) (by omega) (f - 22 - Sz h) 0 (by omega)
 exact this
def CT (h:Int) (n e m sig:Q1):Int:=
 if isH h then if gf n e then if sig.length=n.length/\beN sig<beN n/\beB n.length (beN sig^beN e%beN n)=vb h m n.length then 0 else 91 else 90 else 111
theorem uV (a b:Q1):F.IL a b=some (decide (a=b)):=by
 unfold F.IL
 by_cases h:a=b
 ·subst h; simp
 ·simp[h]
theorem yf (b:Bool):F.JX b=some (if b=true then 91 else 0):=by cases b <;> rfl
theorem fo {l:Q1} (h:l.length<=140737488351232):(ao (beN l)).length<=40000000000000:=by
 have:beN l<4294967296^((l.length+3) / 4):=by
  refine Nat.lt_of_lt_of_le (gk l) ?_
  rw[show (4294967296:Nat)=256^4 from rfl,<-Nat.pow_mul]
  exact Nat.pow_le_pow_right (by decide) (by omega)
 have:=ba this
 omega
theorem y9 (h:Int) (i:isH h) (n e m sig:Q1) (hm:m.length<=900000000000000) (f:gf n e) (hs:sig.length=n.length) (g:beN sig<beN n) :
  F.JD h n e m (ao (beN n)) (ao (beN sig)) false=some (if beB n.length (beN sig^beN e%beN n)=vb h m n.length then 0 else 91):=by
 obtain⟨A,B,G,j⟩:=uh f
 have b1:=f.2.2.2.2.2.1.2
 have I:nb (beN e)<=32:=gv (by have:=f.2.2.2.2.2.2.2.2; omega)
 have k:nb (beN sig)<=4096:=Nat.le_trans (gv (Nat.lt_trans g (c9 (beN n)).1)) b1
 have l1:=fo (l:=sig) (by omega); have o:=fo (l:=e) (by omega); have t:=i9 b1
 have z:beN sig^beN e%beN n<256^n.length:=Nat.lt_trans (Nat.mod_lt _ (by omega)) (gk n)
 have J:(ao (beN sig^beN e%beN n)).length<=128:=Nat.le_trans (da (Nat.le_of_lt (Nat.mod_lt _ (by omega)))) t
 unfold F.JD
 rw[if_neg (by decide),y7 h i m hm _ (by omega) (by omega),ae,if_neg (show ¬((0:Int) != 0)=true by decide),cz e (by omega),ae,rX _ _ _ j b1 (by omega) (by rw[aw]; exact k) (by rw[aw]; omega) l1 o,ae,aw,aw,
  rJ (ao (beN sig^beN e%beN n)) _ (by omega) (by omega),aw,if_pos z,ae,if_neg (show ¬((0:Int) != 0)=true by decide),if_neg (show ¬(!true)=true by decide),uV,ae,yf]
 by_cases hq:beB n.length (beN sig^beN e%beN n)=vb h m n.length
 ·rw[if_pos hq,decide_eq_true hq]; rfl
 ·rw[if_neg hq,decide_eq_false hq]; rfl
theorem zj (h:Int) (n e m sig:Q1) (hn:n.length<=140737488351232) (he:e.length<=140737488351232) (hm:m.length<=900000000000000) (hs:sig.length<=140737488351232):F.Lx h n e m sig=some (CT h n e m sig):=by
 unfold F.Lx CT
 rw[ue,ae]
 by_cases hh:isH h
 ·rw[decide_eq_true hh,if_neg (by decide),if_pos hh,vE n e hn he,ae]
  by_cases hk:gf n e
  ·rw[if_pos hk,if_neg (by decide),if_pos hk,cz n hn,ae,cz sig hs,ae]
   by_cases c1:sig.length=n.length
   ·have l1:=fo hs; have f:=fo hn
    rw[if_neg (by rw[c1]; simp),eN _ _ (by omega) (by omega),ae,aw,aw]
    by_cases c2:beN sig<beN n
    ·have:¬0<=cD (beN sig) (beN n):=by unfold cD; rw[if_pos c2]; decide
     rw[decide_eq_false this,y9 h hh n e m sig hm hk c1 c2]
     by_cases c3:beB n.length (beN sig^beN e%beN n)=vb h m n.length
     ·rw[if_pos c3,if_pos ⟨c1,c2,c3⟩]
     ·rw[if_neg c3,if_neg fun q=>c3 q.2.2]
    ·have:0<=cD (beN sig) (beN n):=by unfold cD; rw[if_neg c2]; split <;> decide
     rw[decide_eq_true this,if_neg fun q=>c2 q.2.1]; rfl
   ·rw[if_pos (by rw[bne_iff_ne]; omega),if_neg fun q=>c1 q.1]; rfl
  ·rw[if_neg hk,if_pos (by decide),if_neg hk]
 ·rw[decide_eq_false hh,if_pos (by decide),if_neg hh]
end Go.Gk.Bn
end

section
namespace Go.Gk.Bn
open Go Go.Gk Go.Gk.Sh
def c4B (x:UInt32):Q1:=[(bv x 24).toUInt8,(bv x 16).toUInt8,(bv x 8).toUInt8,x.toUInt8]
def mkB (h:Int) (s:Q1) (c:Nat):Q1:=cT h (s++c4B (UInt32.ofNat c))
def mk1 (h:Int) (s:Q1) (j:Nat):UInt8:=(mkB h s (j / Sz h)).getD (j%Sz h) 0
def xk (h:Int) (s o:Q1) (k:Nat):Q1:=o.mapIdx fun i x=>if i<k then x ^^^ mk1 h s i else x
theorem oq (h:Int) (s o:Q1) (k:Nat):(xk h s o k).length=o.length:=by simp[xk]
theorem Fd {h:Int} {s o:Q1} {k i:Nat} (hi:i<o.length):(xk h s o k).getD i 0=if i<k then o.getD i 0 ^^^ mk1 h s i else o.getD i 0:=by
 simp[xk,List.getD,hi]
theorem Eu {h:Int} {s o:Q1} {k:Nat} (g:k<o.length):(xk h s o k).set k (o.getD k 0 ^^^ mk1 h s k)=xk h s o (k+1):=by
 apply List.ext_getElem (by simp[xk])
 intro i f j
 simp only[List.length_set,oq]at f
 by_cases hik:k=i
 ·subst hik; simp[xk,List.getD,f]
 ·rw[List.getElem_set_ne hik]
  simp only[xk,List.getElem_mapIdx]
  by_cases hl:i<k
  ·rw[if_pos hl,if_pos (by omega)]
  ·rw[if_neg hl,if_neg (by omega)]
theorem Dv (h:Int) (s o:Q1):xk h s o 0=o:=by
 apply List.ext_getElem (by simp[xk])
 intro i f g
 simp[xk]
theorem Gl {l:Q1} {lo hi i:Nat} (g:hi<=l.length) (f:i<hi - lo):aC ((l.drop lo).take (hi - lo)) (i:Int)=some (l.getD (lo+i) 0):=by
 rw[jj,List.getElem?_take,if_pos f,List.getElem?_drop,List.getElem?_eq_getElem (by omega),List.getD_eq_getElem?_getD,List.getElem?_eq_getElem (by omega)]; rfl
theorem u9 {l:Q1} {lo hi:Nat} (f:hi<=l.length):((l.drop lo).take (hi - lo)).length=hi - lo:=by simp; omega
theorem CL (c:Nat):UInt32.ofNat c+1=UInt32.ofNat (c+1):=by
 apply UInt32.toNat_inj.1
 rw[UInt32.toNat_add,UInt32.toNat_ofNat',UInt32.toNat_ofNat',show (1:UInt32).toNat=1 from rfl]; omega
theorem qR (h:Int) (s o:Q1) (c lo:Nat) (hc:lo=c*Sz h) (t:lo<o.length) (A:o.length<=1000000):∀r i:Nat,i+r=min (Sz h) (o.length - lo) ->
  loop (F.I4 o.length lo (UInt32.ofNat c) (xk h s o lo) (mkB h s c)) ((i:Int),xk h s o (lo+i))=some (.inl (lo+min (Sz h) (o.length - lo),UInt32.ofNat (c+1),xk h s o (lo+min (Sz h) (o.length - lo))))
 | r,i,e=>by
  have G:=iW h
  have l1:(mkB h s c).length=Sz h:=iB _ _
  have z:=fun k=>oq h s o k
  have j:∀k,(((xk h s o k).drop lo).take (o.length - lo)).length=o.length - lo:=fun k=>u9 (by rw[z]; exact Nat.le_refl _)
  have f:(min ((Sz h:Nat):Int) ((o.length - lo:Nat):Int))=((min (Sz h) (o.length - lo):Nat):Int):=by omega
  match r,e with
  | 0,e=>
   have:i=min (Sz h) (o.length - lo):=by omega
   subst this
   refine bu ?_
   unfold F.I4
   dsimp only
   rw[l1,j,j,f,if_neg (by rw[decide_eq_true_eq]; omega),g9 (by rw[j]; omega),ae,CL,Int.toNat_natCast]
   rfl
  | r+1,e=>
   rw[<-qR h s o c lo hc t A r (i+1) (by omega)]
   have hi:i<o.length - lo:=by omega
   have g:i<Sz h:=by omega
   have B:mk1 h s (lo+i)=(mkB h s c).getD i 0:=by
    unfold mk1
    rw[hc,Nat.mul_comm c,Nat.mul_add_div (by omega),Nat.div_eq_of_lt g,Nat.add_zero,Nat.mul_add_mod,Nat.mod_eq_of_lt g]
   refine bB ?_
   unfold F.I4
   dsimp only
   rw[l1,j,f,if_pos (decide_eq_true (by omega)),Gl (by rw[z]; exact Nat.le_refl _) hi,ae,aT (by rw[l1]; exact g) 0,ae,ae,aV,Fd (by omega),if_neg (by omega),<-B,Int.toNat_natCast,Eu (by omega),aI (by omega) (by omega)]
   rfl
theorem sU (h:Int) (j:isH h) (s o:Q1) (hs:s.length<=1000000) (k:o.length<=1000000):∀r c lo:Nat,o.length - lo<=r->(lo=c*Sz h/\lo<=o.length\/lo=o.length)->loop (F.I8 h s o.length) (lo,UInt32.ofNat c,xk h s o lo)=some (xk h s o o.length)
 | r,c,lo,hr,hlo=>by
  have G:=iW h
  have t:(((xk h s o lo).drop lo).take (o.length - lo)).length=o.length - lo:=u9 (by rw[oq]; exact Nat.le_refl _)
  by_cases he:lo=o.length
  ·refine bu ?_
   unfold F.I8
   dsimp only
   rw[t,if_neg (by rw[decide_eq_true_eq]; omega),he]
  ·have hc:lo=c*Sz h:=by omega
   match r,hr with
   | 0,hr=>omega
   | r+1,hr=>
    have z:lo<o.length:=by omega
    have f:[s,c4B (UInt32.ofNat c)].flatten=s++c4B (UInt32.ofNat c):=by simp
    have g:F.GK h [s,c4B (UInt32.ofNat c)]=some (mkB h s c):=by
     rw[ge h j _ (by simp) (by rw[f]; simp[c4B]; omega),f]; rfl
    have A:=qR h s o c lo hc z k (min (Sz h) (o.length - lo)) 0 (by omega)
    have B:F.I8 h s o.length (lo,UInt32.ofNat c,xk h s o lo)=some (.inl (lo+min (Sz h) (o.length - lo),UInt32.ofNat (c+1),xk h s o (lo+min (Sz h) (o.length - lo)))):=by
     unfold F.I8
     dsimp only
     rw[t,if_pos (decide_eq_true (by omega))]
     have:ah (F.GK h [s,c4B (UInt32.ofNat c)]) (fun i=>loop (F.I4 o.length lo (UInt32.ofNat c) (xk h s o lo) i) (0,xk h s o lo))=some (.inl (lo+min (Sz h) (o.length - lo),UInt32.ofNat (c+1),xk h s o (lo+min (Sz h) (o.length - lo)))):=by
      rw[g,ae]; exact A
     exact this
    rw[bB B]
    refine sU h j s o hs k r (c+1) _ (by omega) ?_
    by_cases hq:Sz h<=o.length - lo
    ·left; rw[Nat.min_eq_left hq,Nat.add_mul,Nat.one_mul,<-hc]; omega
    ·right; omega
theorem DZ (h:Int) (f:isH h) (s o:Q1) (hs:s.length<=1000000) (g:o.length<=1000000):F.LX h s o 0 o.length=some (xk h s o o.length):=by
 have:=sU h f s o hs g o.length 0 0 (by omega) (by left; omega)
 rw[Dv]at this
 exact this
def hiB (b:Nat):UInt8:=jo 255 ((8 - b%8)%8)
theorem xv (b:Nat) (hb:b<=1000000):F.KD (b:Int)=some (hiB b):=by
 have f:∀n,n &&& 7=n%8:=fun n=>Nat.and_two_pow_sub_one_eq_mod n 3
 have g:j3 (b:Int) 7=((b%8:Nat):Int):=by rw[<-f]; exact vW b 7 (by omega) (by omega)
 have h:j3 ((8 - b%8:Nat):Int) 7=(((8 - b%8)%8:Nat):Int):=by rw[<-f (8 - b%8)]; exact vW (8 - b%8) 7 (by omega) (by omega)
 unfold F.KD hiB
 have i:wI (8 - ((b%8:Nat):Int))=((8 - b%8:Nat):Int):=by rw[aI (by omega) (by omega)]; omega
 rw[g,i,h,grd_true _ (by omega),Int.toNat_natCast]
theorem Ah (h:Int) (g:isH h) (d s:Q1) (i:d.length<=1000000) (hs:s.length<=1000000):F.LM h d s=some (cT h (List.replicate 8 0++(d++s))):=by
 have f:[List.replicate 8 (0:UInt8),d,s].flatten=List.replicate 8 0++(d++s):=by simp
 unfold F.LM
 rw[dv (by decide),ae,show (8:Int).toNat=8 from rfl,ge h g _ (by simp) (by rw[f]; simp; omega),f,ae]
def vT (h:Int) (d sum blk:Q1) (at_:Nat):Bool:=decide ((∀i,i<at_->blk.getD i 0=0)/\blk.getD at_ 0=1/\cT h (List.replicate 8 0++(d++blk.drop (at_+1)))=sum)
theorem qF (h:Int) (o:isH h) (d g blk:Q1) (f:Nat) (ha:f<blk.length) (hb:blk.length<=100000) (t:d.length<=1000):∀r i:Nat,i+r=f->(∀j,j<i->blk.getD j 0=0) ->
  loop (F.IR h d g blk (f:Int)) (i:Int)=some (vT h d g blk f)
 | 0,i,e,hz=>by
  have:i=f:=by omega
  subst this
  have k:(∀j,j<i->blk.getD j 0=0):=hz
  refine bu ?_
  unfold F.IR vT
  dsimp only
  rw[Int.toNat_natCast,if_neg (by rw[decide_eq_true_eq,List.length_take]; omega),aT ha 0,ae]
  by_cases h1:blk.getD i 0=1
  ·rw[if_pos (by rw[h1]; rfl),aI (by omega) (by omega),show (i:Int)+1=((i+1:Nat):Int) by omega,g9 (by omega),ae,Ah h o _ _ (by omega) (by simp; omega),ae,uV,ae]
   congr 2
   rw[decide_eq_decide]
   exact⟨fun q=>⟨k,h1,q⟩,fun q=>q.2.2⟩
  ·rw[if_neg (by rw[beq_iff_eq]; exact h1),decide_eq_false fun q=>h1 q.2.1]
 | r+1,i,e,hz=>by
  have hg:aC (blk.take f) (i:Int)=some (blk.getD i 0):=by
   rw[jj,List.getElem?_take,if_pos (by omega),List.getElem?_eq_getElem (by omega),List.getD_eq_getElem?_getD,List.getElem?_eq_getElem (by omega)]; rfl
  by_cases h0:blk.getD i 0=0
  ·rw[<-qF h o d g blk f ha hb t r (i+1) (by omega) (fun j z=>by
    rcases Nat.lt_or_ge j i with q | q
    ·exact hz j q
    ·have:j=i:=by omega
     rw[this]; exact h0)]
   refine bB ?_
   unfold F.IR
   dsimp only
   rw[Int.toNat_natCast,if_pos (decide_eq_true (by rw[List.length_take]; omega)),hg,ae,if_neg (by rw[h0]; decide),aI (by omega) (by omega)]
   rfl
  ·refine bu ?_
   unfold F.IR vT
   dsimp only
   rw[Int.toNat_natCast,if_pos (decide_eq_true (by rw[List.length_take]; omega)),hg,ae,if_pos (by rw[bne_iff_ne]; exact h0),decide_eq_false fun q=>h0 (q.1 i (by omega))]
def uK (h:Int) (em:Q1) (k b:Nat):Q1:=
 (xk h ((em.drop k).take (Sz h)) (em.take k) k).set 0 ((xk h ((em.drop k).take (Sz h)) (em.take k) k).getD 0 0 &&& hiB b)
def oy (h:Int) (d em:Q1) (b:Nat):Bool:=
 if em.length=(b+7) / 8/\2*Sz h+2<=(b+7) / 8/\em.getD ((b+7) / 8 - 1) 0=188/\(em.getD 0 0 &&& ~~~ hiB b)=0 then
  vT h d ((em.drop ((b+7) / 8 - Sz h - 1)).take (Sz h)) (uK h em ((b+7) / 8 - Sz h - 1) b) ((b+7) / 8 - Sz h - 1 - Sz h - 1)
 else false
theorem CN (a:Q1) (h:a.length<=225000000000000):F.Ho a=some a:=by
 unfold F.Ho
 rw[show apO 1 [] a=some a by unfold apO; rw[if_pos (by simp; omega)]; rfl,ae]
theorem vN (h:Int) (f:isH h):F.GH h=some ((Sz h:Nat):Int):=by rw[pX,if_pos f]
theorem B0 (h:Int) (i:isH h) (d f:Q1) (b:Nat) (hb:b<=65536) (A:d.length<=1000) (B:f.length=(b+7) / 8) (G:2*Sz h+2<=(b+7) / 8) :
  F.Hl h f (b:Int) ((Sz h:Nat):Int) d false=some (vT h d ((f.drop ((b+7) / 8 - Sz h - 1)).take (Sz h)) (uK h f ((b+7) / 8 - Sz h - 1) b) ((b+7) / 8 - Sz h - 1 - Sz h - 1)):=by
 have R:=iW h
 have o:eA (wI ((b:Int)+7)) 3=(((b+7) / 8:Nat):Int):=by
  rw[aI (by omega) (by omega),show (b:Int)+7=((b+7:Nat):Int) by omega,pU _ _ (by decide)]
 obtain⟨g,t⟩:∃g,(b+7) / 8=g:=⟨_,rfl⟩
 rw[t]at B G o ⊢
 obtain⟨k,I⟩:∃k,g - Sz h - 1=k:=⟨_,rfl⟩
 have U:g=k+Sz h+1:=by omega
 have J:wI (wI ((g:Int) - ((Sz h:Nat):Int)) - 1)=(k:Int):=by rw[aI (x:=(g:Int) - _) (by omega) (by omega),aI (by omega) (by omega)]; omega
 have K:wI ((g:Int) - 1)=((k+Sz h:Nat):Int):=by rw[aI (by omega) (by omega)]; omega
 have z:slO f (k:Int) ((k+Sz h:Nat):Int)=some ((f.drop k).take (Sz h)):=by
  unfold slO; rw[if_pos (by omega),Int.toNat_natCast,Int.toNat_natCast,show k+Sz h - k=Sz h by omega]
 have lt:(f.take k).length=k:=by rw[List.length_take]; omega
 have M:(uK h f k b).length=k:=by unfold uK; rw[List.length_set,oq,lt]
 unfold F.Hl
 rw[if_neg (by decide),o,J,K,z,ae,uZ (by omega),ae,CN _ (by omega),ae,DZ h i _ _ (by simp; omega) (by omega),ae,lt,
  show (0:Int)=((0:Nat):Int) from rfl,aT (by rw[oq,lt]; omega) 0,ae,xv b (by omega),ae,ae,aV,Int.toNat_natCast]
 have N:(xk h ((f.drop k).take (Sz h)) (f.take k) k).set 0 ((xk h ((f.drop k).take (Sz h)) (f.take k) k).getD 0 0 &&& hiB b)=uK h f k b:=rfl
 rw[N,M,I,aI (x:=(k:Int) - _) (by omega) (by omega),aI (by omega) (by omega),aV,show (k:Int) - ((Sz h:Nat):Int) - 1=((k - Sz h - 1:Nat):Int) by omega,grd_true _ (by omega)]
 exact qF h i d _ _ (k - Sz h - 1) (by omega) (by omega) A (k - Sz h - 1) 0 (by omega) (fun j O=>absurd O (Nat.not_lt_zero _))
theorem kU (h:Int) (d f:Q1) (b z:Int):F.Hl h f b z d true=some false:=rfl
theorem Bg (h:Int) (j:isH h) (d f:Q1) (b:Nat) (hb:b<=65536) (t:d.length=Sz h) (A:f.length<=1000000):F.KO h d f (b:Int)=some (oy h d f b):=by
 have B:=iW h
 have k:eA (wI ((b:Int)+7)) 3=(((b+7) / 8:Nat):Int):=by
  rw[aI (by omega) (by omega),show (b:Int)+7=((b+7:Nat):Int) by omega,pU _ _ (by decide)]
 have z:wI (wI (2*((Sz h:Nat):Int))+2)=((2*Sz h+2:Nat):Int):=by rw[aI (x:=2*_) (by omega) (by omega),aI (by omega) (by omega)]; omega
 have i:=B0 h j d f b hb (by omega)
 obtain⟨g,o⟩:∃g,(b+7) / 8=g:=⟨_,rfl⟩
 unfold F.KO oy
 rw[vN h j,ae,if_neg (by rw[beq_iff_eq]; omega),if_neg (by rw[decide_eq_true_eq]; omega),if_neg (by rw[decide_eq_true_eq]; omega),t,bne_self_eq_false]
 unfold F.IV
 rw[o]at k i ⊢
 rw[if_neg (by decide),k,z]
 by_cases c1:f.length=g
 ·rw[if_neg (by rw[c1]; simp)]
  by_cases c2:2*Sz h+2<=g
  ·rw[if_neg (by rw[decide_eq_true_eq]; omega),aI (by omega) (by omega),show (g:Int) - 1=((g - 1:Nat):Int) by omega,aT (show g - 1<f.length by omega) 0,ae]
   by_cases c3:f.getD (g - 1) 0=188
   ·rw[if_neg (by rw[c3]; decide),show (0:Int)=((0:Nat):Int) from rfl,aT (show 0<f.length by omega) 0,ae,xv b (by omega),ae]
    by_cases c4:(f.getD 0 0 &&& ~~~ hiB b)=0
    ·rw[if_pos ⟨c1,c2,c3,c4⟩,c4,show ((0:UInt8) != 0)=false from rfl,i c1 c2]
    ·rw[show ((f.getD 0 0 &&& ~~~ hiB b) != 0)=true by rw[bne_iff_ne]; exact c4,kU,if_neg fun q=>c4 q.2.2.2]
   ·rw[if_pos (by rw[bne_iff_ne]; exact c3),kU,if_neg fun q=>c3 q.2.2.1]
  ·rw[if_pos (decide_eq_true (by omega)),kU,if_neg fun q=>c2 q.2.1]
 ·rw[if_pos (by rw[bne_iff_ne]; omega),kU,if_neg fun q=>c1 q.1]
def Cb (h:Int) (n e m sig:Q1):Int:=
 if isH h then if gf n e then if sig.length=n.length/\beN sig<beN n then
  if beN sig^beN e%beN n<256^((nb (beN n) - 1+7) / 8)/\oy h (cT h m) (beB ((nb (beN n) - 1+7) / 8) (beN sig^beN e%beN n)) (nb (beN n) - 1)=true then 0 else 91 else 91 else 90 else 111
theorem qY (b:Bool):F.KT b=some (if b=true then 91 else 0):=by cases b <;> rfl
theorem yR (h:Int) (g:isH h) (n e m sig:Q1) (hm:m.length<=900000000000000) (f:gf n e) (hs:sig.length=n.length) (i:beN sig<beN n) :
  F.Km h e m (ao (beN n)) (ao (beN sig)) false=some (if beN sig^beN e%beN n<256^((nb (beN n) - 1+7) / 8)/\oy h (cT h m) (beB ((nb (beN n) - 1+7) / 8) (beN sig^beN e%beN n)) (nb (beN n) - 1)=true then 0 else 91):=by
 obtain⟨B,G,I,j⟩:=uh f
 have b0:=f.2.2.2.2.2.1.1
 have b1:=f.2.2.2.2.2.1.2
 have J:nb (beN e)<=32:=gv (by have:=f.2.2.2.2.2.2.2.2; omega)
 have k:nb (beN sig)<=4096:=Nat.le_trans (gv (Nat.lt_trans i (c9 (beN n)).1)) b1
 have l1:=fo (l:=sig) (by omega); have o:=fo (l:=e) (by omega); have t:=i9 b1
 have K:(ao (beN sig^beN e%beN n)).length<=128:=Nat.le_trans (da (Nat.le_of_lt (Nat.mod_lt _ (by omega)))) t
 have z:wI (((nb (beN n):Nat):Int) - 1)=((nb (beN n) - 1:Nat):Int):=by rw[aI (by omega) (by omega)]; omega
 have A:eA (wI (((nb (beN n) - 1:Nat):Int)+7)) 3=(((nb (beN n) - 1+7) / 8:Nat):Int):=by
  rw[aI (by omega) (by omega),show ((nb (beN n) - 1:Nat):Int)+7=((nb (beN n) - 1+7:Nat):Int) by omega,pU _ _ (by decide)]
 have hl:=iB h m
 unfold F.Km
 rw[if_neg (by decide),cz e (by omega),ae,rX _ _ _ j b1 (by omega) (by rw[aw]; exact k) (by rw[aw]; omega) l1 o,ae,aw,aw,if_neg (show ¬((0:Int) != 0)=true by decide),
  ew _ (by omega),ae,aw,z,A,rJ (ao (beN sig^beN e%beN n)) _ (by omega) (by omega),aw]
 by_cases c1:beN sig^beN e%beN n<256^((nb (beN n) - 1+7) / 8)
 ·rw[if_pos c1,ae,if_neg (show ¬(!true)=true by decide),so h g m hm,ae,Bg h g _ _ _ (by omega) hl (by rw[gL]; omega),ae,qY]
  cases hq:oy h (cT h m) (beB ((nb (beN n) - 1+7) / 8) (beN sig^beN e%beN n)) (nb (beN n) - 1) with
  | true=>rw[if_neg (by decide),if_pos ⟨c1,rfl⟩]
  | false=>rw[if_pos (by decide),if_neg fun q=>by cases q.2]
 ·rw[if_neg c1,ae,if_pos (show (!false)=true by decide),qY,if_pos rfl,if_neg fun q=>c1 q.1]
theorem x4 (h:Int) (n e m sig:Q1) (hn:n.length<=140737488351232) (he:e.length<=140737488351232) (hm:m.length<=900000000000000) (hs:sig.length<=140737488351232):F.LJ h n e m sig=some (Cb h n e m sig):=by
 unfold F.LJ Cb
 rw[pX,ae]
 by_cases hh:isH h
 ·have f:=iW h
  rw[if_pos hh,if_neg (by rw[beq_iff_eq]; omega),if_pos hh,vE n e hn he,ae]
  by_cases hk:gf n e
  ·rw[if_pos hk,if_neg (by decide),if_pos hk,cz n hn,ae,cz sig hs,ae]
   by_cases c1:sig.length=n.length
   ·have l1:=fo hs; have g:=fo hn
    rw[if_neg (by rw[c1]; simp),eN _ _ (by omega) (by omega),ae,aw,aw]
    by_cases c2:beN sig<beN n
    ·have:¬0<=cD (beN sig) (beN n):=by unfold cD; rw[if_pos c2]; decide
     rw[decide_eq_false this,yR h hh n e m sig hm hk c1 c2,if_pos (show sig.length=n.length/\beN sig<beN n from⟨c1,c2⟩)]
    ·have:0<=cD (beN sig) (beN n):=by unfold cD; rw[if_neg c2]; split <;> decide
     rw[decide_eq_true this,if_neg fun q=>c2 q.2]; rfl
   ·rw[if_pos (by rw[bne_iff_ne]; omega),if_neg fun q=>c1 q.1]; rfl
  ·rw[if_neg hk,if_pos (by decide),if_neg hk]
 ·rw[if_neg hh,if_pos (by decide),if_neg hh]
end Go.Gk.Bn
end
