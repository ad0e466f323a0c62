import Derived.Test.YthnmbmmifamifaaGreatDoorGkUL
import Derived.Test.YthnmbmmifamifaaGreatDoorGkFman
import Derived.Test.YthnmbmmifamifaaGreatDoorGkP0
set_option linter.unusedVariables false
set_option linter.unusedSimpArgs false
set_option linter.unusedSectionVars false
section
namespace Go.Gk.Bn
open Go Go.Gk Go.Gk.Sh
theorem TO (x:UInt32) (r:Nat) (j:r<32):((cq x r &&& 1) == 1)=decide (x.toNat / 2^r%2=1):=by
 rw[Qx,lP,aT q10]
theorem E2 (l:L8) (i:Nat) (hi:i<=4611686018427387904) (hl:l.length<=4611686018427387904):F.Us l (i:Int)=some (decide (val l / 2^i%2=1)):=by
 have j:wI (Int.tdiv (i:Int) 32)=((i / 32:Nat):Int):=by rw[bQ q10,ay q10 q10]; omega
 have k:Int.tmod (i:Int) 32=((i%32:Nat):Int):=by rw[dv q10]; omega
 unfold F.Us
 rw[af (ah q10),j,k,<-sI]
 by_cases h:i / 32<l.length
 ·rw[af (ah q10),aG h 0,aa,grd_true _ q10,ao,TO _ _ q10]
 ·rw[ae (by rw[aj]; omega),ak,dw q10]
  simp
theorem OM (l:L8) (s:Nat) (hs:s<32) (hl:l.length<=40000000000000):F.UK l (s:Int)=some (am (val l / 2^s)):=by
 obtain⟨m,A,R,B⟩:=jf l q10
 have U:(am (val l)).length<=l.length:=bc (bN l)
 have w0:wI (Int.tdiv (max (s:Int) 0) 32)=((0:Nat):Int):=by
  rw[show max (s:Int) 0=(s:Int) by omega,bQ q10,ay q10 q10]; omega
 have G:Int.tmod (max (s:Int) 0) 32=(s:Int):=by rw[show max (s:Int) 0=(s:Int) by omega,dv q10]; omega
 unfold F.UK
 rw[A,aa,B,w0,G]
 by_cases h:(am (val l)).length=0
 ·have:val l=0:=(ko _).1 h
  rw[af (ah q10),this,kw,cu]
 ·have j:apO 4 [] (am (val l))=some (am (val l)):=by unfold apO; rw[af (by simp; omega)]; simp
  obtain⟨I,J,V,z⟩:=vz (am (val l)) s hs q10
  rw[al]at z
  obtain⟨k,N,X,O⟩:=kI I q10
  rw[ae (by rw[aj]; omega),na q10,aa,cR,j,aa,J,aa,N,aa,O,z]
theorem TP (e i:Nat):e / 2^i=2*(e / 2^(i+1))+(if decide (e / 2^i%2=1)=true then 1 else 0):=Fm e i
theorem Cg (z m:Nat) (A:1<m) (B:(am m).length<=900) (hz:z<m) (e:L8) (le:e.length<=4611686018427387904):∀i:Nat,i<=4000000000000000 ->
  loop (F.Z6 e (am m) (am z)) (am (z^(val e / 2^i)%m),(i:Int) - 1)=some (am (z^val e%m),0)
 | 0,_=>by
  rw[dg,iK]
  refine bm ?_
  unfold F.Z6
  dsimp only
  rw[ae q11]
 | i+1,hi=>by
  have hm:∀x,x%m<m:=fun x=>ba _ q10
  have G:(((i+1:Nat):Int)) - 1=(i:Int):=by omega
  have w:wI ((i:Int) - 1)=(i:Int) - 1:=ay q10 q10
  have j:∀x,x<m->(am x).length<=900:=fun x hx=>gk (bG hx) B
  have I:∀x y,x<m->y<m->(am (x*y)).length<=1800:=fun x y hx hy=>by
   have A:=kc x y; have N:=j x hx; have O:=j y hy
   omega
  have mul:∀x y,x<m->y<m->F.VF (am x) (am y)=some (am (x*y)):=fun x y hx hy=>by
   have J:=j x hx; have R:=j y hy
   rw[FT _ _ q10 q10 (by rw[al,al]; omega),al,al]
  have rest:∀x y,x<m->y<m->F.Uq (am (x*y)) (am m)=some (am (x*y%m)):=fun x y hx hy=>by
   have J:=I x y hx hy
   rw[mB _ _ q10 q10 (by rw[al]; omega),al,al]
  rw[G,<-Cg z m A B hz e le i q10]
  refine bv ?_
  unfold F.Z6
  dsimp only
  rw[af (ah q10),mul _ _ (hm _) (hm _),aa,rest _ _ (hm _) (hm _),aa,E2 _ _ q10 le,aa]
  have hb:=TP (val e) i
  have k:z^(val e / 2^(i+1))%m*(z^(val e / 2^(i+1))%m)%m=z^(2*(val e / 2^(i+1)))%m:=by
   rw[<-cF,<-bu]; congr 2; omega
  by_cases h:val e / 2^i%2=1
  ·rw[af (ah h)]at hb ⊢
   rw[mul _ _ (hm _) hz,aa,rest _ _ (hm _) hz,aa]
   unfold F.ZO
   dsimp only
   rw[w,k,Nat.mod_mul_mod,<-aU,Nat.succ_eq_add_one,<-hb]
   rfl
  ·have hf:¬decide (val e / 2^i%2=1)=true:=by rw[aj]; exact h
   rw[ae hf]at hb ⊢
   unfold F.ZO
   dsimp only
   rw[w,k,<-bb (2*(val e / 2^(i+1))),<-hb]
   rfl
theorem yV (a e:L8) (m:Nat) (k:1<m) (hm:nb m<=4096) (z:(am m).length<=900) (ha:nb (val a)<=4096) (he:nb (val e)<=4096) (j:a.length<=40000000000000) (le:e.length<=40000000000000) :
  F.WF a e (am m)=some (am (val a^val e%m),0):=by
 have A:wI (((nb (val e):Nat):Int) - 1)=((nb (val e):Nat):Int) - 1:=ay q10 q10
 have B:val e / 2^nb (val e)=0:=bE (fi (val e)).1
 have l1:val ([1]:L8)=1:=rfl
 unfold F.WF
 rw[su ha he (by rw[al]; exact hm) (by rw[al]; omega) j le q10,aa,ae q11,mB a _ j q10 (by rw[al]; omega),aa,mB [1] _ q11 q10 (by rw[al]; omega),aa,
  kO e q10,aa,A,al,l1]
 have:=Cg (val a%m) m k z (ba _ q10) e q10 (nb (val e)) q10
 rw[B,dg]at this
 rw[this,<-Nat.pow_mod]
noncomputable def sd (m a:Nat):Nat:=if h:∃w,w<m/\a*w%m=1 then Classical.choose h else 0
theorem OJ {n s w v:Nat} (j:w<n) (k:v<n) (z:s*w%n=1) (A:s*v%n=1):w=v:=xR j k z A
theorem E3 {m a w:Nat} (j:w<m) (h:a*w%m=1):sd m a=w:=by
 unfold sd
 have hx:∃w,w<m/\a*w%m=1:=⟨w,j,h⟩
 rw[dif_pos hx]
 exact OJ (iJ hx).1 j (iJ hx).2 h
theorem Oi {m a:Nat} (h:0<m):sd m a<m:=by
 unfold sd
 split
 ·rename_i hx; exact (iJ hx).1
 ·exact h
theorem zX {m a:Nat} (j:1<m) (hg:Nat.gcd a m≠1):sd m a=0:=by
 unfold sd
 rw[dif_neg]
 rintro⟨w,_,h⟩
 apply hg
 have hd:Nat.gcd a m ∣ a*w%m:=(Nat.dvd_mod_iff (gO a m)).2 (Nat.dvd_mul_right_of_dvd (jO a m) w)
 rw[h]at hd
 exact Nat.dvd_one.1 hd
theorem OH (a:L8) (m:Nat) (z:1<m) (hm:m%2=1) (G:nb m<=4096) (j:(am m).length<=900) (I:nb (val a)<=4096) (A:a.length<=40000000000000) :
  F.Vp a (am m)=some (am (sd m (val a)),if Nat.gcd (val a) m=1 then 0 else 61):=by
 by_cases hg:Nat.gcd (val a) m=1
 ·obtain⟨w,R,U,V⟩:=Ie a m z hm G j I A hg
  rw[V,af hg,E3 R U]
 ·have X:F.UZ [a,am m]=some 0:=by
   have hl:∀x∈[a,am m],x.length<=40000000000000:=by
    intro x hx
    simp only[aJ,aM,bC]at hx
    rcases hx with h | h
    ·rw[h]; exact A
    ·rw[h]; omega
   rw[vR [a,am m] 1 rfl q11 hl]
   unfold pK
   rw[ae]
   ·rw[show [a,am m].getD 1 []=am m from rfl,al,ae q10]
   ·simp only[List.any_cons,List.any_nil,Bool.or_false,fu,aj,al]
    omega
  have Y:Nat.gcd (val a%m) m=Nat.gcd (val a) m:=by rw[<-jF,eg]
  have B:Nat.gcd (val a%m) m%2=1:=by
   have:=gO (val a%m) m
   rcases Nat.mod_two_eq_zero_or_one (Nat.gcd (val a%m) m) with h | h
   ·obtain⟨k,Z⟩:=this
    rw[Z,cF,h,eW,Nat.zero_mod]at hm
    omega
   ·exact h
  obtain⟨x,c1,c2,J⟩:=Jr (a:=val a%m) hm j (val a%m+m) (val a%m) m 1 0 (aq _) (bG (ba _ q10)) q10 (aq _) z q10 (by rw[ci]) (by rw[eW,Nat.mod_self,Nat.zero_mod]) B
  rw[Y]at J
  have l1:am 1=[1]:=by rw[lG q11,show 1 / 4294967296=0 by decide,cu]; rfl
  have N:Nat.gcd (val a) m<=m:=Nat.gcd_le_right _ q10
  have lg:=gk N j
  have lx:=gk (bG c1) j
  have ho:F.V2 (am (val a%m)) (am m)=some (am (Nat.gcd (val a) m),am x):=by
   unfold F.V2
   rw[<-l1,<-cu]at *
   exact J
  have O:(cW (Nat.gcd (val a) m) 1 != 0)=true:=by
   rw[bV]; intro h
   have:=C6 (Nat.gcd (val a) m) 1
   rw[h,an hg]at this
   exact absurd this q11
  unfold F.Vp
  rw[X,aa,ae q11,mB a _ A q10 (by rw[al]; omega),al,aa,oG _ q10,al,aa,af (ah hm),ho,aa]
  dsimp only
  rw[lQ _ _ q10 q11,aa,al,show val ([1]:L8)=1 from rfl,af O,ae hg,zX z hg,cu]
theorem yt (a:L8) (m:Nat) (ha:a.length<=35184372087808) (hm:m<=16384):F.Vh a (m:Int)=some (if val a<256^m then (beB m (val a),true) else ([],false)):=by
 by_cases hv:val a<256^m
 ·rw[af hv]; exact J6 a m ha hm hv
 ·have hb:nb (val a)<=32*a.length:=aA (mf _) (bf 32 (bc (bN a)))
  have j:m<(nb (val a)+7) / 8:=by
   rcases cI m (nby (val a)) with h | h
   ·exact h
   ·exact absurd (aO (xU (val a)) (aE q11 h)) hv
  rw[ae hv]
  unfold F.Vh
  rw[ae (by rw[aj]; omega),ae (by rw[aj]; omega),kO a q10,aa,ay (x:=((nb (val a):Nat):Int)+7) q10 q10,bQ q10,ay q10 q10,
   ah (show (m:Int)<(((nb (val a):Nat):Int)+7) / 8 by omega)]
  rfl
theorem O6 (a:L8) (ha:a.length<=40000000000000):∃u,F.aaZ a=some (u,decide (val a<18446744073709551616))/\(val a<18446744073709551616->u.toNat=val a):=by
 obtain⟨m,J,U,A⟩:=jf a q10
 have hl:=al (val a)
 unfold F.aaZ
 rw[J,aa]
 have V:F.VY a m=fun s=>F.VY a m s:=rfl
 by_cases h:2<(am (val a)).length
 ·have B:¬val a<18446744073709551616:=fun G=>by
   have:=bc (n:=val a) (k:=2) q10
   omega
  rw[A,af (ah q10),an B]
  exact⟨0,rfl,fun q=>absurd q B⟩
 ·have G:val a<18446744073709551616:=by
   have I:=bN (am (val a))
   rw[hl]at I
   refine aO I ?_
   refine aA (aE q11 (show (am (val a)).length<=2 by omega)) q11
  rw[A,ae (by rw[aj]; omega),ah G]
  have step:∀(s:UInt64) (i:Nat) (x:UInt32),i<2->(am (val a))[i]? = some x->F.VY a m (s,(i:Int))=some (.inl (s ||| di x.toUInt64 (32*i),((i+1:Nat):Int))):=by
   intro s i x hi hx
   have R:i<(am (val a)).length:=(br.1 hx).1
   unfold F.VY
   dsimp only
   rw[A,af (ah q10),qt,hx,aa,ay (x:=32*(i:Int)) q10 q10,grd_true _ q10,aS,ay q10 q10,show (32*(i:Int)).toNat=32*i by omega]
   rfl
  have j:∀(s:UInt64) (i:Nat),(am (val a)).length<=i->F.VY a m (s,(i:Int))=bz (some (s,true)):=by
   intro s i hi
   unfold F.VY
   dsimp only
   rw[A,ae (by rw[aj]; omega)]
  match hq:am (val a),h with
  | [],_=>
   rw[hq]at hl j
   have:=bm (j 0 0 (aq _))
   exact⟨0,this,fun _=>hl⟩
  | [x],_=>
   rw[hq]at hl j step
   refine⟨_,(bv (step 0 0 x q11 rfl)).trans (bm (j _ 1 (aq _))),fun _=>?_⟩
   rw[<-hl,UInt64.toNat_or,mA]
   simp[val]
  | [x,y],_=>
   rw[hq]at hl j step
   refine⟨_,(bv (step 0 0 x q11 rfl)).trans ((bv (step _ 1 y q11 rfl)).trans (bm (j _ 2 (aq _)))),fun _=>?_⟩
   have hx:=eF x; have hy:=eF y
   rw[<-hl,UInt64.toNat_or,UInt64.toNat_or,mA,mA]
   have N:x.toUInt64.toNat=x.toNat:=dD x
   have O:y.toUInt64.toNat=y.toNat:=dD y
   rw[N,O]
   simp only[val,cb,bb,dg,de,show min 0 64=0 from rfl,show min 32 64=32 from rfl]
   rw[show (0:UInt64).toNat=0 from rfl,Nat.zero_or,av (a:=x.toNat) q10,av (a:=y.toNat*_) q10]
   have:=qD (x:=y.toNat*2^32) (y:=x.toNat) 32 q10 q10
   rw[Nat.or_comm,this]; omega
  | x :: y :: z :: r,h=>simp at h
theorem qK (x:UInt8):(x == 0)=decide (x.toNat=0):=by
 by_cases h:x.toNat=0
 ·rw[ah h,dh]; exact cO.1 h
 ·rw[an h,cd]; intro e; rw[e]at h; exact h rfl
theorem E1 (x:UInt8):(x%2 == 0)=decide (x.toNat%2=0):=by rw[qK,UInt8.toNat_mod]; rfl
theorem uA {τ:Type} (l:List τ):((l.length:Int) == 0)=decide (l.length=0):=by
 by_cases h:l.length=0
 ·rw[ah h,h]; rfl
 ·rw[an h,cd]; omega
theorem BE (l:L00) (h:l.length≠0):beN l%2=(l.getD (l.length - 1) 0).toNat%2:=by
 have j:=nf l (i:=l.length - 1) q10
 rw[show l.length - 1+1=l.length by omega,cJ]at j
 rw[j]; omega
theorem K3 {l:L00} (h:l.length≠0) (j:(l.getD 0 0).toNat≠0):256^(l.length - 1)<=beN l:=by
 match l,h with
 | x :: r,_=>
  rw[show x :: r=[x]++r from rfl,mu]
  have e:beN [x]=x.toNat:=by simp[beN]
  simp only[List.getD_cons_zero]at j
  rw[e,jC,dN,fa]
  have:=Nat.le_mul_of_pos_left (256^r.length) (eu j)
  omega
theorem sQ {l:L00} (h:l.length≠0) (j:(l.getD 0 0).toNat≠0):nby (beN l)=l.length:=by
 have z:=IK (gS l)
 rcases cI (nby (beN l)) l.length with k | k
 ·have A:=xU (beN l)
  have B:=K3 h j
  have:=aE (show 0<256 by decide) (show nby (beN l)<=l.length - 1 by omega)
  omega
 ·omega
def kg (n e:L00):Prop:=n.length≠0/\(n.getD 0 0).toNat≠0/\beN n%2=1/\e.length≠0/\(e.getD 0 0).toNat≠0/\(2048<=nb (beN n)/\nb (beN n)<=4096)/\beN e%2=1/\3<=beN e/\beN e<=4294967295
instance (n e:L00):Decidable (kg n e):=by unfold kg; infer_instance
theorem Qr (n e:L00) (hn:n.length<=140737488351232) (he:e.length<=140737488351232) (h:n.length≠0/\(n.getD 0 0).toNat≠0/\beN n%2=1/\e.length≠0/\(e.getD 0 0).toNat≠0):F.Vg n e false=some (if kg n e then 0 else 90):=by
 obtain⟨A,B,G,I,J⟩:=h
 have l1:(am (beN n)).length<=40000000000000:=by
  have:beN n<4294967296^((n.length+3) / 4):=by
   have:=gS n
   refine aO this ?_
   rw[show (4294967296:Nat)=256^4 from rfl,<-bB]
   exact aE q11 q10
  have:=bc this
  omega
 have N:(am (beN e)).length<=40000000000000:=by
  have:beN e<4294967296^((e.length+3) / 4):=by
   have:=gS e
   refine aO this ?_
   rw[show (4294967296:Nat)=256^4 from rfl,<-bB]
   exact aE q11 q10
  have:=bc this
  omega
 have j:∀b,F.Vw b=some (if b=true then 90 else 0):=fun b=>by cases b <;> rfl
 obtain⟨u,hu,k⟩:=O6 (am (beN e)) N
 rw[al]at hu k
 unfold F.Vg
 rw[ae q11,fV n hn,aa,kO _ q10,aa,al,fV e he,aa,hu,aa]
 have z:¬kg n e->some (90:Int)=some (if kg n e then 0 else 90):=fun q=>by rw[ae q]
 by_cases c1:nb (beN n)<2048
 ·rw[af (ah q10),j,af rfl]; exact z fun q=>by have:=q.2.2.2.2.2.1.1; omega
 by_cases c2:4096<nb (beN n)
 ·rw[ae (by rw[aj]; omega),af (ah q10),j,af rfl]; exact z fun q=>by have:=q.2.2.2.2.2.1.2; omega
 rw[ae (by rw[aj]; omega),ae (by rw[aj]; omega)]
 by_cases c3:beN e<18446744073709551616
 ·have k:=k c3
  rw[ah c3,ae (show ¬(!true)=true by decide)]
  have O:((u%2) == 0)=decide (beN e%2=0):=by
   rw[<-k]
   by_cases q:u.toNat%2=0
   ·rw[ah q,dh]; apply dA.1; rw[dM]; exact q
   ·rw[an q,cd]; intro h; apply q; rw[<-show (u%2).toNat=u.toNat%2 from dM u 2,h]; rfl
  have R:(decide (u<3))=decide (beN e<3):=by rw[<-k,cK,cM]; rfl
  have U:(decide ((4294967295:UInt64)<u))=decide (4294967295<beN e):=by rw[<-k,cK,cM]; rfl
  rw[O,R,U]
  by_cases c4:beN e%2=0
  ·rw[af (ah c4),j,af rfl]; exact z fun q=>by have:=q.2.2.2.2.2.2.1; omega
  by_cases c5:beN e<3
  ·rw[ae (by rw[aj]; omega),af (ah c5),j,af rfl]; exact z fun q=>by have:=q.2.2.2.2.2.2.2.1; omega
  rw[ae (by rw[aj]; omega),ae (by rw[aj]; omega),j]
  by_cases c6:4294967295<beN e
  ·rw[af (ah c6)]; exact z fun q=>by have:=q.2.2.2.2.2.2.2.2; omega
  ·rw[ae (by rw[aj]; omega),af ⟨A,B,G,I,J,⟨by omega,by omega⟩,by omega,by omega,by omega⟩]
 ·rw[an c3,af (show (!false)=true by decide),j,af rfl]; exact z fun q=>by have:=q.2.2.2.2.2.2.2.2; omega
theorem Dm (n e:L00) (hn:n.length<=140737488351232) (he:e.length<=140737488351232):F.WA n e=some (if kg n e then 0 else 90):=by
 have j:F.Vg n e true=some 90:=rfl
 have k:¬kg n e->some (90:Int)=some (if kg n e then 0 else 90):=fun q=>by rw[ae q]
 unfold F.WA
 rw[uA,uA]
 by_cases c1:n.length=0
 ·rw[af (ah c1),j]; exact k fun q=>q.1 c1
 rw[ae (by rw[aj]; exact c1),show (0:Int)=((0:Nat):Int) from rfl,aG (show 0<n.length by omega) 0,aa,qK]
 by_cases c2:(n.getD 0 0).toNat=0
 ·rw[af (ah c2),j]; exact k fun q=>q.2.1 c2
 rw[ae (by rw[aj]; exact c2),ay q10 q10,show (n.length:Int) - 1=((n.length - 1:Nat):Int) by omega,aG (show n.length - 1<n.length by omega) 0,aa,E1,<-BE n c1]
 by_cases c3:beN n%2=0
 ·rw[af (ah c3),j]; exact k fun q=>by have:=q.2.2.1; omega
 rw[ae (by rw[aj]; exact c3)]
 by_cases c4:e.length=0
 ·rw[af (ah c4),j]; exact k fun q=>q.2.2.2.1 c4
 rw[ae (by rw[aj]; exact c4),aG (show 0<e.length by omega) 0,aa,qK]
 by_cases c5:(e.getD 0 0).toNat=0
 ·rw[ah c5,j]; exact k fun q=>q.2.2.2.2.1 c5
 ·rw[an c5]; exact Qr n e hn he ⟨c1,c2,by omega,c4,c5⟩
theorem sc {n e:L00} (h:kg n e):256<=n.length/\n.length<=512/\e.length<=4/\1<beN n:=by
 obtain⟨j,k,N,z,A,⟨B,O⟩,R,U,J⟩:=h
 have G:=sQ j k
 have I:=sQ z A
 have V:nb (beN e)<=32:=mE q10
 have X:beN n≠0:=by omega
 have Y:beN n≠1:=fun q=>by
  have:nb 1=1:=by rw[up q11,show 1 / 2=0 from rfl,lU]
  rw[q,this]at B; omega
 unfold nby at G I
 omega
def qj (h:Int):L00:=F.VK.getD h.toNat []
theorem qJ {h:Int} (hh:isH h):(qj h).length=19/\au F.VK h=some (qj h):=by
 rcases hh with rfl | rfl | rfl <;> exact⟨rfl,rfl⟩
def nn (h:Int) (m:L00) (size:Nat):L00:=((([0,1]++List.replicate (size - 22 - Sz h) 255)++[0])++qj h)++dT h m
theorem BB (h:Int):F.Y4 h=some (decide (isH h)):=by
 unfold F.Y4
 by_cases c:1<=h
 ·rw[af (ah c)]; congr 1; rw[cK]; unfold isH; omega
 ·rw[ae (by rw[aj]; exact c)]; congr 1; symm; rw[decide_eq_false_iff_not]; unfold isH; omega
theorem kC {l m:L00} (h:l.length+m.length<=225000000000000):apO 1 l m=some (l++m):=by unfold apO; rw[af q10]
theorem vh (h:Int) (hh:isH h) (s:L00) (hs:s.length<=64) (k:Nat) (j:k<=512):∀(r i:Nat),i+r=k ->
  loop (F.aaD s (qj h) (k:Int)) ([0,1]++List.replicate i 255,(i:Int))=some (((([0,1]++List.replicate k 255)++[0])++qj h)++s,0)
 | 0,i,e=>by
  have:i=k:=by omega
  subst this
  have hi:=(qJ hh).1
  refine bm ?_
  unfold F.aaD
  dsimp only
  rw[ae (by rw[aj]; omega),kC (by simp; omega),aa,kC (by simp; omega),aa,kC (by simp; omega),aa]
 | r+1,i,e=>by
  rw[<-vh h hh s hs k j r (i+1) q10]
  refine bv ?_
  unfold F.aaD
  dsimp only
  rw[af (ah q10),kC (by simp; omega),aa,ay q10 q10,bh,show List.replicate i (255:UInt8)++[255]=List.replicate (i+1) 255 from (ez ..).symm]
  rfl
theorem Hw (h:Int) (hh:isH h) (m:L00) (hm:m.length<=900000000000000) (size:Nat) (j:94<=size) (k:size<=512):F.aam h m (size:Int)=some (nn h m size,0):=by
 have hi:=qJ hh
 have hz:=jn h
 have hl:=jg h m
 unfold F.aam
 rw[BB,ah hh,aa,ae q11,zB h hh m hm,aa,hi.2,aa,hi.1,hl,ay (x:=3+((19:Nat):Int)) q10 q10,ay (x:=_+((Sz h:Nat):Int)) q10 q10,ay q10 q10,
  ae (by rw[aj]; omega),an q10]
 unfold F.ack
 rw[ae q11,hi.1,hl,ay (x:=(size:Int) - 3) q10 q10,ay (x:=(size:Int) - 3 - ((19:Nat):Int)) q10 q10,ay q10 q10,aS,fU q10,aa,kC (by simp),aa,
  show (size:Int) - 3 - ((19:Nat):Int) - ((Sz h:Nat):Int)=((size - 22 - Sz h:Nat):Int) by omega]
 have:=vh h hh (dT h m) q10 (size - 22 - Sz h) q10 (size - 22 - Sz h) 0 q10
 exact this
theorem KK {h:Int} (hh:isH h) (m:L00) {size:Nat} (j:94<=size):(nn h m size).length=size:=by
 have hi:=qJ hh; have hz:=jn h; have hl:=jg h m
 unfold nn
 simp only[aR,aZ,hi.1,hl,dN,fw]; omega
def DQ (h:Int) (n e m sig:L00):Int:=
 if isH h then if kg n e then if sig.length=n.length/\beN sig<beN n/\beB n.length (beN sig^beN e%beN n)=nn h m n.length then 0 else 91 else 90 else 111
theorem CB (a b:L00):F.WI a b=some (decide (a=b)):=by
 unfold F.WI
 by_cases h:a=b
 ·subst h; simp
 ·simp[h]
theorem Gv (b:Bool):F.aa0 b=some (if b=true then 91 else 0):=by cases b <;> rfl
theorem eE {l:L00} (h:l.length<=140737488351232):(am (beN l)).length<=40000000000000:=by
 have:beN l<4294967296^((l.length+3) / 4):=by
  refine aO (gS l) ?_
  rw[show (4294967296:Nat)=256^4 from rfl,<-bB]
  exact aE q11 q10
 have:=bc this
 omega
theorem Hz (h:Int) (hh:isH h) (n e m j:L00) (hm:m.length<=900000000000000) (k:kg n e) (hs:j.length=n.length) (z:beN j<beN n) :
  F.aac h n e m (am (beN n)) (am (beN j)) false=some (if beB n.length (beN j^beN e%beN n)=nn h m n.length then 0 else 91):=by
 obtain⟨J,N,O,A⟩:=sc k
 have b1:=k.2.2.2.2.2.1.2
 have R:nb (beN e)<=32:=mE (by have:=k.2.2.2.2.2.2.2.2; omega)
 have B:nb (beN j)<=4096:=aA (mE (fT z (fi (beN n)).1)) b1
 have l1:=eE (l:=j) q10; have G:=eE (l:=e) q10; have I:=np b1
 have hp:beN j^beN e%beN n<256^n.length:=fT (ba _ q10) (gS n)
 have U:(am (beN j^beN e%beN n)).length<=128:=aA (db (bG (ba _ q10))) I
 unfold F.aac
 rw[ae q11,Hw h hh m hm _ q10 q10,aa,ae (show ¬((0:Int) != 0)=true by decide),fV e q10,aa,yV _ _ _ A b1 q10 (by rw[al]; exact B) (by rw[al]; omega) l1 G,aa,al,al,
  yt (am (beN j^beN e%beN n)) _ q10 q10,al,af hp,aa,ae (show ¬((0:Int) != 0)=true by decide),ae (show ¬(!true)=true by decide),CB,aa,Gv]
 by_cases hq:beB n.length (beN j^beN e%beN n)=nn h m n.length
 ·rw[af hq,ah hq]; rfl
 ·rw[ae hq,an hq]; rfl
theorem HM (h:Int) (n e m j:L00) (hn:n.length<=140737488351232) (he:e.length<=140737488351232) (hm:m.length<=900000000000000) (hs:j.length<=140737488351232):F.abn h n e m j=some (DQ h n e m j):=by
 unfold F.abn DQ
 rw[BB,aa]
 by_cases hh:isH h
 ·rw[ah hh,ae q11,af hh,Dm n e hn he,aa]
  by_cases hk:kg n e
  ·rw[af hk,ae q11,af hk,fV n hn,aa,fV j hs,aa]
   by_cases c1:j.length=n.length
   ·have l1:=eE hs; have k:=eE hn
    rw[ae (by rw[c1]; simp),lQ _ _ q10 q10,aa,al,al]
    by_cases c2:beN j<beN n
    ·have:¬0<=cW (beN j) (beN n):=by unfold cW; rw[af c2]; decide
     rw[an this,Hz h hh n e m j hm hk c1 c2]
     by_cases c3:beB n.length (beN j^beN e%beN n)=nn h m n.length
     ·rw[af c3,af ⟨c1,c2,c3⟩]
     ·rw[ae c3,ae fun q=>c3 q.2.2]
    ·have:0<=cW (beN j) (beN n):=by unfold cW; rw[ae c2]; split <;> decide
     rw[ah this,ae fun q=>c2 q.2.1]; rfl
   ·rw[af (by rw[bV]; omega),ae fun q=>c1 q.1]; rfl
  ·rw[ae hk,af q11,ae hk]
 ·rw[an hh,af q11,ae hh]
theorem HH:∀(n:Nat) (u:UInt32) (x:Nat),u.toNat<=n->x<=4611686018427387904 - nb u.toNat->nb u.toNat<=32->loop F.XR ((x:Int),u)=some (((x+nb u.toNat:Nat):Int)):=by
 intro n
 induction n with
 | zero=>
  intro u x hu hx hb
  have j:u.toNat=0:=by omega
  refine bm ?_
  unfold F.XR
  dsimp only
  rw[ae (by rw[aj,dn]; have:(0:UInt32).toNat=0:=rfl; omega),j,lU,bb]
 | succ n ih=>
  intro u x hu hx hb
  by_cases j:u.toNat=0
  ·exact ih u x q10 hx hb
  have k:(u / 2).toNat=u.toNat / 2:=by rw[UInt32.toNat_div]; rfl
  have hp:=up j
  have z:F.XR ((x:Int),u)=some (.inl (((x+1:Nat):Int),u / 2)):=by
   unfold F.XR
   dsimp only
   rw[af (by rw[aj,dn]; have:(0:UInt32).toNat=0:=rfl; omega),ay q10 q10]
   rfl
  rw[bv z,ih (u / 2) (x+1) q10 (by rw[k]; omega) (by rw[k]; omega),k,hp]
  congr 2
  omega
theorem Jq (a:L8) (ha:a.length<=40000000000000):F.YO a=some ((nb (val a):Nat):Int):=by
 have hl:(am (val a)).length<=a.length:=bc (bN a)
 unfold F.YO
 rw[qi a q10,aa,<-pz]
 unfold oR
 by_cases h0:(am (val a)).length=0
 ·rw[af (by rw[h0]; rfl),af h0]; rfl
 ·have j:wI (((am (val a)).length:Int) - 1)=(((am (val a)).length - 1:Nat):Int):=by rw[ay q10 q10]; omega
  have k:=GF ((am (val a)).getD ((am (val a)).length - 1) 0)
  rw[ae (by rw[dh]; omega),ae h0,j,aG q10 0,aS,aa,ay (x:=32*_) q10 q10,show (32:Int)*(((am (val a)).length - 1:Nat):Int)=((32*((am (val a)).length - 1):Nat):Int) by omega,
   HH _ _ _ (aq _) q10 k]
theorem If (a:L8) (ha:a.length<=40000000000000):F.Ya a 0=some (decide (val a%2=1)):=by
 unfold F.Ya
 rw[ae q11,show wI (Int.tdiv 0 32)=0 from rfl]
 cases a with
 | nil=>rfl
 | cons w r=>
  have hd:decide (((w :: r).length:Int)<=0)=false:=an (by simp)
  rw[hd]
  unfold F.acu
  rw[ae q11,show wI (Int.tdiv 0 32)=((0:Nat):Int) from rfl,aG (by simp) 0,aa]
  refine bm ?_
  unfold F.adc
  dsimp only
  rw[ae q11]
  have e:((w%2) == 1)=decide (val (w :: r)%2=1):=by
   have k:val (w :: r)=w.toNat+4294967296*val r:=rfl
   have j:(w%2).toNat=w.toNat%2:=by rw[UInt32.toNat_mod]; rfl
   by_cases h:w.toNat%2=1
   ·rw[ah q10,dh]
    exact cz.1 (by rw[j,h]; rfl)
   ·rw[an q10,cd]
    exact fun q=>h (by rw[<-j,q]; rfl)
  show bz (some ((w%2) == 1))=_
  rw[e]
theorem Of (a b:Nat):decide (cW a b<0)=decide (a<b):=by
 rw[cK]
 unfold cW
 split
 ·constructor <;> intro h <;> omega
 ·split
  ·constructor <;> intro h <;> omega
  ·constructor <;> intro h <;> omega
theorem CG (n:Nat):nb n<=32↔n<=4294967295:=by
 constructor
 ·intro h
  have j:=(fi n).1
  have k:(2:Nat)^nb n<=2^32:=aE q11 h
  omega
 ·intro h
  exact mE q10
theorem Ns (n e:L00) (hn:n.length<=140737488351232) (he:e.length<=140737488351232):F.Zc n e=some (if kg n e then 0 else 90):=by
 have z:F.WK n e true=some 90:=rfl
 have k:∀b,F.VS b=some (if b=true then 90 else 0):=fun b=>by cases b <;> rfl
 have j:¬kg n e->some (90:Int)=some (if kg n e then 0 else 90):=fun q=>by rw[ae q]
 have l1:(am (beN n)).length<=40000000000000:=aA (gZ (gS n)) q10
 have B:(am (beN e)).length<=40000000000000:=aA (gZ (gS e)) q10
 unfold F.Zc
 rw[uA,uA]
 by_cases c1:n.length=0
 ·rw[af (ah c1),z]; exact j fun q=>q.1 c1
 rw[ae (by rw[aj]; exact c1)]
 by_cases c4:e.length=0
 ·rw[af (ah c4),z]; exact j fun q=>q.2.2.2.1 c4
 rw[ae (by rw[aj]; exact c4),show (0:Int)=((0:Nat):Int) from rfl,aG (show 0<n.length by omega) 0,aa,qK]
 by_cases c2:(n.getD 0 0).toNat=0
 ·rw[af (ah c2),z]; exact j fun q=>q.2.1 c2
 rw[ae (by rw[aj]; exact c2),aG (show 0<e.length by omega) 0,aa,qK]
 by_cases c5:(e.getD 0 0).toNat=0
 ·rw[ah c5,z]; exact j fun q=>q.2.2.2.2.1 c5
 rw[an c5]
 unfold F.WK
 rw[ae q11,lT n hn,aa,lT e he,aa,Jq _ l1,aa,show ((0:Nat):Int)=0 from rfl,If _ l1,aa,If _ B,aa,qn _ _ q10 (by simp),aa,al,al,Of]
 have G:val ([3]:L8)=3:=rfl
 rw[G]
 by_cases c6:nb (beN n)<2048
 ·rw[af (ah q10),k,af rfl]; exact j fun q=>by have:=q.2.2.2.2.2.1.1; omega
 rw[ae (by rw[aj]; omega)]
 by_cases c7:4096<nb (beN n)
 ·rw[af (ah q10),k,af rfl]; exact j fun q=>by have:=q.2.2.2.2.2.1.2; omega
 rw[ae (by rw[aj]; omega)]
 by_cases c3:beN n%2=1
 ·rw[ah c3,ae q11]
  by_cases c8:beN e%2=1
  ·rw[ah c8,ae q11]
   by_cases c9:beN e<3
   ·rw[af (ah c9),k,af rfl]; exact j fun q=>by have:=q.2.2.2.2.2.2.2.1; omega
   rw[ae (by rw[aj]; exact c9),Jq _ B,aa,al,k]
   have A:=CG (beN e)
   by_cases ca:nb (beN e)<=32
   ·rw[an q10,ae q11,af ⟨c1,c2,c3,c4,c5,⟨by omega,by omega⟩,c8,by omega,A.1 ca⟩]
   ·rw[ah q10,af rfl]; exact j fun q=>ca (A.2 q.2.2.2.2.2.2.2.2)
  ·rw[an c8,af q11,k,af rfl]; exact j fun q=>c8 q.2.2.2.2.2.2.1
 ·rw[an c3,af q11,k,af rfl]; exact j fun q=>c3 q.2.2.1
end Go.Gk.Bn
end
section
namespace Go.Gk.Sh
open Go Go.Gk
theorem OP (v:UInt32):(q32 v).length=4:=by simp[q32]
theorem Kf (s:L8):(A4 s).length=32:=by
 unfold A4
 have:=eO (fun i (x:L00)=>x.length=4*i) (fun x i=>x++q32 (s.getD i 0)) (fun i x hx=>by simp only[aR,OP,hx]; omega) 8 0 [] rfl
 simpa using this
theorem mW (a:Int) (D:L00):(dT a D).length=Sz a:=by
 unfold dT qv
 split
 ·rename_i h; rw[Kf]; unfold Sz; rw[af h]
 ·rename_i h
  rw[az,qU]; unfold Sz; rw[ae h]; split <;> rfl
theorem A3 (a:Int):Sz a<=64:=by unfold Sz; split; decide; split <;> decide
theorem uE (a:Int):64<=Bk a/\Bk a<=128:=by unfold Bk; split <;> omega
def sC (a:Int) (key:L00):L00:=if Bk a<key.length then dT a key else key
def rh (a:Int) (key:L00) (w:UInt8):L00:=(List.range' 0 (Bk a)).map (fun i=>(sC a key).getD i 0 ^^^ w)
theorem oF (a:Int) (j:L00) (w:UInt8):(rh a j w).length=Bk a:=by simp[rh]
theorem MQ (a:Int) (j:L00):(sC a j).length<=Bk a:=by
 unfold sC
 split
 ·rw[mW]; exact aA (A3 a) (uE a).1
 ·omega
theorem MG {f:Int×L00->Option ((Int×L00)⊕L00)} (w:UInt8) (B:Nat) (A:B<=1000)
  (hf:∀i x,f (i,x)=if decide (i<(B:Int))=true then (ag (au x i) fun a=>ag (au x i) fun b=>bD (x.set i.toNat (a ^^^ w)) fun y=>bJ (wI (i+1),y)) else bz (some x))
  (l:L00) (hl:l.length=B):loop f (0,l)=some (l.map (· ^^^ w)):=by
 have j:∀(r i:Nat),i+r=B->loop f ((i:Int),(l.take i).map (· ^^^ w)++l.drop i)=some (l.map (· ^^^ w)):=by
  intro r
  induction r with
  | zero=>
   intro i h
   refine bm ?_
   rw[hf,an q10,aC q10,bp q10,dS]
   rfl
  | succ r ih=>
   intro i h
   have hi:i<l.length:=by omega
   have k:((l.take i).map (· ^^^ w)++l.drop i).length=B:=by simp; omega
   have hg:au ((l.take i).map (· ^^^ w)++l.drop i) (i:Int)=some l[i]:=by
    rw[jv q10,List.getElem_append_right (by simp; omega)]
    congr 1
    simp; congr 1; omega
   have hs:f ((i:Int),(l.take i).map (· ^^^ w)++l.drop i)=some (.inl (((i+1:Nat):Int),(l.take (i+1)).map (· ^^^ w)++l.drop (i+1))):=by
    rw[hf,ah q10,hg]
    simp only[bo,aa,aS,ao]
    rw[ay q10 q10,eQ _ _ (by simp; omega),bZ hi,List.take_succ_eq_append_getElem hi]
    have z:i - ((l.take i).map (· ^^^ w)).length=0:=by simp; omega
    rw[z,List.set_cons_zero,List.map_append,bh]
    rfl
   rw[bv hs]
   exact ih (i+1) q10
 have:=j B 0 q10
 simpa using this
theorem EO (a:Int) (k:L00) (B:Nat) (w:UInt8) (z:k.length<=B):(cpL (List.replicate B 0) k 0 B).map (· ^^^ w)=(List.range' 0 B).map (fun i=>k.getD i 0 ^^^ w):=by
 have hl:(cpL (List.replicate B (0:UInt8)) k 0 B).length=B:=by rw[kA _ _ _ _ q10 (by simp)]; simp
 refine ew (by simp[hl]) fun i j A=>?_
 simp only[List.getElem_map,List.getElem_range',bn,ci]
 congr 1
 unfold cpL
 rw[ak]
 simp only[List.take_zero,cZ,fW,bn]
 have hi:i<B:=by simpa [hl] using j
 by_cases h:i<k.length
 ·rw[List.getElem_append_left (by simp; omega),List.getElem_take,aw h]; rfl
 ·rw[List.getElem_append_right (by simp; omega),List.getElem_drop,js,dw q10]; rfl
theorem CM {ρ:Type} (d:L00) {X:L00->Option ρ} {f:L00×Int->Option ((L00×Int)⊕ρ)}
  (hf:∀x i,f (x,i)=if decide (i<(d.length:Int))=true then (ag (au d i) fun y=>ag (apO 1 x [y]) fun z=>bJ (z,wI (i+1))) else bz (X x))
  (x0:L00) (hl:x0.length+d.length<=225000000000000):loop f (x0,0)=X (x0++d):=by
 have e:=dC (f:=f) (fun (x:L00) i=>(x,(i:Int))) (fun i x=>x.length=x0.length+i) (fun x i=>x++[d.getD i 0]) 0 d.length
  (X:=X)
  (fun i x _ hi hx=>by
   refine⟨?_,by simp[hx]; omega⟩
   rw[hf,af (ah q10),aG hi 0,aa,iy (by simp; omega),aa,ay q10 q10]; rfl)
  (fun x _=>by rw[hf,ae (by simp)]) d.length 0 x0 (aq _) q10 rfl
 refine e.trans ?_
 rw[ox (fun i=>[d.getD i 0]),sw]
 congr 2
 refine ew (by simp) fun i k j=>?_
 simp[ak,aw j]
section
variable (a:Int) (ha:a=1\/a=2\/a=3)
include ha
theorem vn (j:L00) (w:UInt8) (A:j.length<=150000000000000):F.Yp a j w=some (rh a j w):=by
 unfold F.Yp rh
 have B:=uE a
 have z:=MQ a j
 have k:∀(f:Int×L00->Option ((Int×L00)⊕L00)),(∀i x,f (i,x)=if decide (i<(Bk a:Int))=true then (ag (au x i) fun a=>ag (au x i) fun b=>bD (x.set i.toNat (a ^^^ w)) fun y=>bJ (wI (i+1),y)) else bz (some x)) ->
   loop f (0,cpL (List.replicate (Bk a) 0) (sC a j) 0 (Bk a))=some ((List.range' 0 (Bk a)).map (fun i=>(sC a j).getD i 0 ^^^ w)):=by
  intro f hf
  rw[MG w (Bk a) q10 hf _ (by rw[kA _ _ _ _ q10 (by simp)]; simp),EO a _ _ w z]
 have hm:mkO 1 ((Bk a:Nat):Int) ((Bk a:Nat):Int) (0:UInt8)=some (List.replicate (Bk a) 0):=by rw[fU q10]; simp
 rw[vN a ha,aa]
 by_cases h:Bk a<j.length
 ·rw[af (ah q10),mT a ha [j] (by simp) (by simp; omega),aa,aa,hm,aa,aS,aa,aZ]
  have:=k (F.adi w ((Bk a:Nat):Int)) (fun i x=>rfl)
  rw[show sC a j=dT a j from af h]at this ⊢
  simpa using this
 ·rw[ae (by simp; omega),aa,hm,aa,aS,aa,aZ]
  have:=k (F.ade w ((Bk a:Nat):Int)) (fun i x=>rfl)
  rw[show sC a j=j from ae h]at this ⊢
  exact this
theorem mY:F.Vo a=some ((Bk a:Nat):Int):=by
 rcases ha with rfl | rfl | rfl <;> rfl
theorem s9 (k:L00) (w:UInt8) {f:L00×Int->Option ((L00×Int)⊕L00)}
  (hf:∀x i,f (x,i)=ag (F.Vo a) fun b=>if decide (i<b)=true then (if decide (i<(k.length:Int))=true then (ag (au k i) fun y=>ag (apO 1 x [y ^^^ w]) fun z=>bJ (z,wI (i+1))) else (ag (apO 1 x [0 ^^^ w]) fun z=>bJ (z,wI (i+1)))) else bz (some x)) :
  loop f ([],0)=some ((List.range' 0 (Bk a)).map (fun i=>k.getD i 0 ^^^ w)):=by
 have j:=uE a
 have e:=dC (f:=f) (fun (x:L00) i=>(x,(i:Int))) (fun i x=>x.length=i) (fun x i=>x++[k.getD i 0 ^^^ w]) 0 (Bk a)
  (X:=fun x=>some x)
  (fun i x _ hi hx=>by
   refine⟨?_,by simp[hx]⟩
   rw[hf,mY a ha,aa,af (ah q10)]
   by_cases h:i<k.length
   ·rw[af (ah q10),aG h 0,aa,iy (by simp; omega),aa,ay q10 q10]; rfl
   ·rw[ae (by simp; omega),iy (by simp; omega),aa,ay q10 q10,ak,dw q10]; rfl)
  (fun x _=>by
   rw[hf,mY a ha,aa,ae (by simp)]) (Bk a) 0 [] (aq _) q10 rfl
 refine e.trans ?_
 rw[ox (fun i=>[k.getD i 0 ^^^ w]),sw]
 simp
theorem xd (j:L00) (w:UInt8) (k:j.length<=150000000000000):F.Zd a j w=some (rh a j w):=by
 unfold F.Zd rh
 rw[mY a ha,aa]
 by_cases h:Bk a<j.length
 ·rw[af (ah q10),lh a ha j q10,aa]
  have:=s9 a ha (dT a j) w (f:=F.ac5 a (dT a j) w) (fun i x=>rfl)
  rw[show sC a j=dT a j from af h]
  exact this
 ·rw[ae (by simp; omega)]
  have:=s9 a ha j w (f:=F.acW a j w) (fun i x=>rfl)
  rw[show sC a j=j from ae h]
  exact this
def oS (a:Int) (key data:L00):L00:=dT a (rh a key 92++dT a (rh a key 54++data))
theorem EI (j k:L00) (z:j.length<=150000000000000) (hd:k.length<=150000000000000):F.ab5 a j k=some (oS a j k):=by
 unfold F.ab5 oS
 have G:=uE a
 have hS:=A3 a
 have A:F.Uk a=some ((Sz a:Nat):Int):=by rcases ha with rfl | rfl | rfl <;> rfl
 have B:(((Sz a:Nat):Int) == 0)=false:=by rcases ha with rfl | rfl | rfl <;> rfl
 rw[A,aa,B,ae (by simp),vn a ha j 92 z,aa,vn a ha j 54 z,aa,mT a ha _ (by simp) (by simp[oF]; omega),aa,
  mT a ha _ (by simp) (by simp[oF,mW]; omega),aa]
 simp
theorem EM (k j:L00) (z:k.length<=150000000000000) (hd:j.length<=150000000000000):F.aaM a k j=some (oS a k j):=by
 unfold F.aaM oS
 have B:=uE a
 have hS:=A3 a
 have A:(((Bk a:Nat):Int) == 0)=false:=by rcases ha with rfl | rfl | rfl <;> rfl
 rw[mY a ha,aa,A,ae (by simp),xd a ha k 54 z,aa]
 refine (CM j (f:=F.adh a k j) (fun x i=>rfl) _ (by rw[oF]; omega)).trans ?_
 rw[lh a ha _ (by simp[oF]; omega),aa,xd a ha k 92 z,aa]
 refine (CM _ (f:=F.adl a _) (fun x i=>rfl) _ (by rw[oF,mW]; omega)).trans ?_
 rw[lh a ha _ (by simp[oF,mW]; omega),aa]
end
def wO (a:Int):Prop:=a=1\/a=2\/a=3
instance (a:Int):Decidable (wO a):=by unfold wO; infer_instance
theorem MU (a b:UInt8):a ||| b=0↔a=0/\b=0:=by
 constructor
 ·intro h
  have j:=cD UInt8.toNat h
  rw[UInt8.toNat_or]at j
  have k:a.toNat<=a.toNat ||| b.toNat:=Nat.left_le_or
  have z:b.toNat<=a.toNat ||| b.toNat:=Nat.right_le_or
  have A:(0:UInt8).toNat=0:=rfl
  exact⟨cO.1 q10,cO.1 q10⟩
 ·rintro⟨rfl,rfl⟩; rfl
theorem Ka (a b:UInt8):a ^^^ b=0↔a=b:=by
 constructor
 ·intro h
  have j:(a ^^^ b) ^^^ b=0 ^^^ b:=by rw[h]
  rwa [UInt8.xor_assoc,UInt8.xor_self,UInt8.xor_zero,UInt8.zero_xor]at j
 ·rintro rfl; exact UInt8.xor_self
theorem GX (x y:L00) (hl:x.length=y.length) (hx:x.length<=1000):∀(r i:Nat) (j:UInt8),i+r=x.length->loop (F.YU x y) (j,(i:Int))=some (decide (j=0/\x.drop i=y.drop i)):=by
 intro r
 induction r with
 | zero=>
  intro i j h
  refine eL ?_
  unfold F.YU
  dsimp only
  rw[ae (by simp; omega),bp q10,bp q10]
  simp only[bz,eN,and_true]
  congr 2
 | succ r ih=>
  intro i j h
  have hi:i<x.length:=by omega
  have k:i<y.length:=by omega
  have hs:F.YU x y (j,(i:Int))=some (.inl (j ||| (x[i] ^^^ y[i]),((i+1:Nat):Int))):=by
   unfold F.YU
   dsimp only
   rw[af (ah q10),jv hi,aa,jv k,aa,ay q10 q10]; rfl
  rw[bv hs,ih (i+1) _ q10]
  congr 1
  rw[cK,MU,Ka,bZ hi,bZ k,iG,and_assoc]
theorem M2 (x y:L00) (hx:x.length<=1000):F.abd x y=some (decide (x=y)):=by
 unfold F.abd
 by_cases h:x.length=y.length
 ·rw[ae (by simp[h])]
  have:=GX x y h hx x.length 0 0 q10
  simpa using this
 ·rw[af (by simpa using (fun j=>h q10)),an (fun j=>h (by rw[j]))]
theorem AV (a:Int) (ha:wO a) (s t g:L00) (hs:s.length<=150000000000000) (z:t.length<=150000000000000):F.aa8 a s t g=some (decide (oS a s t=g)):=by
 unfold F.aa8
 have j:F.Uk a=some ((Sz a:Nat):Int):=by rcases ha with rfl | rfl | rfl <;> rfl
 have k:decide ((0:Int)<((Sz a:Nat):Int))=true:=by rcases ha with rfl | rfl | rfl <;> rfl
 have hl:(oS a s t).length<=1000:=by simp only[oS,mW]; exact aA (A3 a) q11
 rw[j,aa,k,af rfl,EI a ha s t hs z,aa,M2 _ _ hl,aa]
end Go.Gk.Sh
end
section
namespace Go.Gk.Bn
open Go Go.Gk Go.Gk.Sh
theorem Q0 {h:Int} (hh:isH h):F.acr h=some (qj h):=by
 rcases hh with rfl | rfl | rfl <;> rfl
theorem JB (h:Int) (hh:isH h) (m:L00) (size:Nat) (A:94<=size) (B:size<=512):∀(r i:Nat),i+r=size - 22 - Sz h ->
  loop (F.Yx (size:Int) (qj h++dT h m)) ([0,1]++List.replicate i 255)=some (nn h m size,0):=by
 have k:=(qJ hh).1
 have z:(dT h m).length=Sz h:=mW _ _
 have hz:Sz h<=64:=by rcases hh with rfl | rfl | rfl <;> decide
 have w:wI (wI ((size:Int) - ((qj h++dT h m).length:Int)) - 1)=((size - 20 - Sz h:Nat):Int):=by
  rw[aR,k,z,ay (x:=(size:Int) - _) q10 q10,ay q10 q10]; omega
 intro r
 induction r with
 | zero=>
  intro i hi
  refine bm ?_
  unfold F.Yx
  rw[w,ae (by rw[aj,aR,aZ]; simp; omega),kC (by simp; omega),aa,kC (by simp; omega),aa]
  unfold nn
  have:i=size - 22 - Sz h:=by omega
  subst this
  rw[bh (([0,1]++List.replicate (size - 22 - Sz h) (255:UInt8))++[0])]
 | succ r ih=>
  intro i hi
  have j:F.Yx (size:Int) (qj h++dT h m) ([0,1]++List.replicate i 255)=some (.inl ([0,1]++List.replicate (i+1) 255)):=by
   unfold F.Yx
   rw[w,af (by rw[aj,aR,aZ]; simp; omega),kC (by simp; omega),aa,bh,<-ez]
   rfl
  rw[bv j]
  exact ih (i+1) q10
theorem Lb (h:Int) (hh:isH h) (m:L00) (hm:m.length<=200000000000000) (size:Nat) (j:94<=size) (k:size<=512):F.aa3 h m (size:Int)=some (nn h m size,0):=by
 have z:=(qJ hh).1
 have A:(dT h m).length=Sz h:=mW _ _
 have hz:Sz h<=64:=by rcases hh with rfl | rfl | rfl <;> decide
 have B:1<=h/\h<=3:=by unfold isH at hh; omega
 unfold F.aa3
 rw[ae (by rw[aj]; omega),an q10]
 unfold F.acq
 rw[ae q11,Q0 hh,aa,lh h q10 m hm,aa,kC q10,aa,aR,z,A,ay q10 q10,ae (by rw[aj]; omega),an q10]
 unfold F.acA
 rw[ae q11]
 exact JB h hh m size j k (size - 22 - Sz h) 0 q10
theorem Ee (h:Int) (hh:isH h) (n e m j:L00) (hm:m.length<=200000000000000) (B:kg n e) (hs:j.length=n.length) (G:beN j<beN n) :
  F.Yr h n e m (am (beN n)) (am (beN j)) false=some (if beB n.length (beN j^beN e%beN n)=nn h m n.length then 0 else 91):=by
 obtain⟨N,O,R,U⟩:=sc B
 have b1:=B.2.2.2.2.2.1.2
 have k:=KK hh m (size:=n.length) q10
 have ln:=np b1
 have I:(am (beN j)).length<=128:=aA (db (bG G)) ln
 have lx:(am (beN e)).length<=128:=aA (gZ (gS e)) q10
 have hp:beN j^beN e%beN n<beN n:=ba _ q10
 have J:(am (beN j^beN e%beN n)).length<=128:=aA (db (bG hp)) ln
 unfold F.Yr
 rw[ae q11,Lb h hh m hm n.length q10 q10,aa,lT e q10,aa,Nj _ _ _ I lx ln (by rw[al]; omega),aa,al,al,al]
 dsimp only
 generalize beN j^beN e%beN n=p at hp J ⊢
 have V:(am (beN (nn h m n.length))).length<=40000000000000:=aA (gZ (gS _)) (by rw[k]; omega)
 rw[lT _ (by rw[k]; omega),aa,qn _ _ q10 q10,aa,al,al]
 have z:beB n.length p=nn h m n.length↔p=beN (nn h m n.length):=by
  have A:p<256^n.length:=fT hp (gS n)
  constructor
  ·intro q
   rw[<-q,pe,av A]
  ·intro q
   have:=Oz (nn h m n.length)
   rw[k,<-q]at this
   exact this
 have hc:=C6 p (beN (nn h m n.length))
 by_cases c:p=beN (nn h m n.length)
 ·rw[ah c]at hc
  rw[ae (by unfold bne; rw[hc]; decide),af (z.2 c)]
 ·rw[an c]at hc
  rw[af (by unfold bne; rw[hc]; rfl),ae fun q=>c (z.1 q)]
theorem MY (h:Int) (n e m j:L00) (hn:n.length<=140737488351232) (he:e.length<=140737488351232) (hm:m.length<=200000000000000) (hs:j.length<=140737488351232):F.abH h n e m j=some (DQ h n e m j):=by
 have z:F.abL n e j h m true=some 111:=rfl
 have k:∀a b,F.Yr h n e m a b true=some 91:=fun _ _=>rfl
 unfold F.abH DQ
 by_cases hh:isH h
 ·have A:1<=h/\h<=3:=by unfold isH at hh; omega
  rw[ae (by rw[aj]; omega),an q10,af hh]
  unfold F.abL
  rw[ae q11,Ns n e hn he,aa]
  by_cases hk:kg n e
  ·rw[af hk,ae q11,af hk,lT n hn,aa,lT j hs,aa]
   by_cases hl:j.length=n.length
   ·have l1:=eE hn
    have B:=eE hs
    rw[ae (by rw[hl]; simp),qn _ _ q10 q10,aa,al,al]
    by_cases hlt:beN j<beN n
    ·have:¬0<=cW (beN j) (beN n):=by unfold cW; rw[af hlt]; decide
     rw[an this,Ee h hh n e m j hm hk hl hlt]
     by_cases c:beB n.length (beN j^beN e%beN n)=nn h m n.length
     ·rw[af c,af ⟨hl,hlt,c⟩]
     ·rw[ae c,ae fun q=>c q.2.2]
    ·have:0<=cW (beN j) (beN n):=by unfold cW; rw[ae hlt]; split <;> decide
     rw[ah this,k,ae fun q=>hlt q.2.1]
   ·rw[af (by rw[bV]; omega),k,ae fun q=>hl q.1]
  ·rw[ae hk,af q11,ae hk]
 ·rw[ae hh]
  by_cases c:h<1
  ·rw[af (ah c),z]
  ·have:3<h:=by unfold isH at hh; omega
   rw[ae (by rw[aj]; exact c),ah this,z]
theorem Bw (a:UInt8) (l:L00):beN (a :: l)=a.toNat*256^l.length+beN l:=by
 have h:=mu [a] l
 have e:beN [a]=a.toNat:=by simp[beN]
 rw[e]at h
 exact h
theorem zM {l:L00} {k:Nat} (h:l.length=k+1):(128<=(l.getD 0 0).toNat↔8*k+8<=nb (beN l)):=by
 cases l with
 | nil=>simp at h
 | cons a r=>
  have G:r.length=k:=by simp at h; omega
  have e:=Bw a r
  have j:=gS r
  rw[G]at e j
  have hp:(2:Nat)^(8*k+7)=128*256^k:=by rw[bu,bB,aP]
  have hb:=(fi (beN (a :: r))).1
  show 128<=a.toNat↔_
  generalize (256:Nat)^k=B at *
  constructor
  ·intro z
   have I:128*B<=a.toNat*B:=bg _ z
   refine Nat.le_of_not_lt fun q=>?_
   have A:(2:Nat)^nb (beN (a :: r))<=2^(8*k+7):=aE q11 q10
   omega
  ·intro z
   refine Nat.le_of_not_lt fun q=>?_
   have I:a.toNat*B<=127*B:=bg _ q10
   have A:beN (a :: r)<2^(8*k+7):=by omega
   have:=mE A
   omega
def rV (n e:L00):Prop:=256<=n.length/\n.length<=512/\(n.getD 0 0).toNat≠0/\beN n%2=1/\(n.length=256->128<=(n.getD 0 0).toNat)/\1<=e.length/\e.length<=4/\(e.getD 0 0).toNat≠0/\beN e%2=1/\(1<e.length\/3<=(e.getD 0 0).toNat)
instance (n e:L00):Decidable (rV n e):=by unfold rV; infer_instance
theorem KJ (n e:L00):rV n e↔kg n e:=by
 unfold rV kg
 have hn:n.length≠0->(n.getD 0 0).toNat≠0->(nb (beN n)+7) / 8=n.length:=fun a b=>sQ a b
 have he:e.length≠0->(e.getD 0 0).toNat≠0->(nb (beN e)+7) / 8=e.length:=fun a b=>sQ a b
 have j:=CG (beN e)
 have B:e.length≠0->(e.getD 0 0).toNat≠0->(3<=beN e↔(1<e.length\/3<=(e.getD 0 0).toNat)):=fun a b=>by
  cases e with
  | nil=>simp at a
  | cons x r=>
   have e1:=Bw x r
   show _↔(1<(x :: r).length\/3<=x.toNat)
   have b':x.toNat≠0:=b
   cases r with
   | nil=>
    have:beN [x]=x.toNat:=by simp[beN]
    rw[this]
    simp
   | cons y t=>
    have h1:256<=256^(y :: t).length:=by
     have:=aE (show 0<256 by decide) (show 1<=(y :: t).length by simp)
     simpa using this
    have h2:1*256^(y :: t).length<=x.toNat*256^(y :: t).length:=bg _ q10
    constructor
    ·intro _; left; simp
    ·intro _; omega
 constructor
 ·rintro⟨a1,a2,G,V,X,a6,a7,z,Y,I⟩
  have J:=hn q10 G
  have N:=he q10 z
  refine⟨by omega,G,V,by omega,z,⟨?_,by omega⟩,Y,(B q10 z).2 I,j.1 q10⟩
  by_cases c:n.length=256
  ·have:=(zM (l:=n) (k:=255) c).1 (X c)
   omega
  ·omega
 ·rintro⟨b1,O,Z,R,A,⟨b6,b7⟩,b8,b9,U⟩
  have J:=hn b1 O
  have N:=he R A
  have:=j.2 U
  refine⟨by omega,by omega,O,Z,fun c=>(zM (l:=n) (k:=255) c).2 q10,by omega,by omega,A,b8,(B R A).1 b9⟩
def c4B (x:UInt32):L00:=[(cq x 24).toUInt8,(cq x 16).toUInt8,(cq x 8).toUInt8,x.toUInt8]
def mkB (h:Int) (s:L00) (c:Nat):L00:=dT h (s++c4B (UInt32.ofNat c))
def mk1 (h:Int) (s:L00) (j:Nat):UInt8:=(mkB h s (j / Sz h)).getD (j%Sz h) 0
def xk (h:Int) (s o:L00) (k:Nat):L00:=o.mapIdx fun i x=>if i<k then x ^^^ mk1 h s i else x
theorem jz (h:Int) (s o:L00) (k:Nat):(xk h s o k).length=o.length:=by simp[xk]
theorem ub {h:Int} {s o:L00} {k i:Nat} (hi:i<o.length):(xk h s o k).getD i 0=if i<k then o.getD i 0 ^^^ mk1 h s i else o.getD i 0:=by
 simp[xk,List.getD,hi]
theorem H1 {h:Int} {s o:L00} {k:Nat} (z:k<o.length):(xk h s o k).set k (o.getD k 0 ^^^ mk1 h s k)=xk h s o (k+1):=by
 apply ew (by simp[xk])
 intro i j A
 simp only[bM,jz]at j
 by_cases hik:k=i
 ·subst hik; simp[xk,List.getD,j]
 ·rw[List.getElem_set_ne hik]
  simp only[xk,List.getElem_mapIdx]
  by_cases hl:i<k
  ·rw[af hl,af q10]
  ·rw[ae hl,ae q10]
theorem E4 (h:Int) (s o:L00):xk h s o 0=o:=by
 apply ew (by simp[xk])
 intro i j k
 simp[xk]
theorem Tx {l:L00} {lo hi i:Nat} (k:hi<=l.length) (j:i<hi - lo):au ((l.drop lo).take (hi - lo)) (i:Int)=some (l.getD (lo+i) 0):=by
 rw[qt,bY,af j,dt,aw q10,ak,aw q10]; rfl
theorem CS {l:L00} {lo hi:Nat} (j:hi<=l.length):((l.drop lo).take (hi - lo)).length=hi - lo:=by simp; omega
theorem MW (c:Nat):UInt32.ofNat c+1=UInt32.ofNat (c+1):=by
 apply cz.1
 rw[ij,cV,cV,show (1:UInt32).toNat=1 from rfl]; omega
theorem xA (h:Int) (s o:L00) (c lo:Nat) (hc:lo=c*Sz h) (B:lo<o.length) (I:o.length<=1000000):∀r i:Nat,i+r=min (Sz h) (o.length - lo) ->
  loop (F.W1 o.length lo (UInt32.ofNat c) (xk h s o lo) (mkB h s c)) ((i:Int),xk h s o (lo+i))=some (.inl (lo+min (Sz h) (o.length - lo),UInt32.ofNat (c+1),xk h s o (lo+min (Sz h) (o.length - lo))))
 | r,i,e=>by
  have hz:=jn h
  have l1:(mkB h s c).length=Sz h:=jg _ _
  have G:=fun k=>jz h s o k
  have A:∀k,(((xk h s o k).drop lo).take (o.length - lo)).length=o.length - lo:=fun k=>CS (by rw[G]; exact aq _)
  have j:(min ((Sz h:Nat):Int) ((o.length - lo:Nat):Int))=((min (Sz h) (o.length - lo):Nat):Int):=by omega
  match r,e with
  | 0,e=>
   have:i=min (Sz h) (o.length - lo):=by omega
   subst this
   refine bm ?_
   unfold F.W1
   dsimp only
   rw[l1,A,A,j,ae (by rw[aj]; omega),na (by rw[A]; omega),aa,MW,ao]
   rfl
  | r+1,e=>
   rw[<-xA h s o c lo hc B I r (i+1) q10]
   have hi:i<o.length - lo:=by omega
   have z:i<Sz h:=by omega
   have J:mk1 h s (lo+i)=(mkB h s c).getD i 0:=by
    unfold mk1
    rw[hc,aP c,Nat.mul_add_div q10,bE z,bb,Nat.mul_add_mod,av z]
   refine bv ?_
   unfold F.W1
   dsimp only
   rw[l1,A,j,af (ah q10),Tx (by rw[G]; exact aq _) hi,aa,aG (by rw[l1]; exact z) 0,aa,aa,aS,ub q10,ae q10,<-J,ao,H1 q10,ay q10 q10]
   rfl
theorem Ac (h:Int) (hh:isH h) (s o:L00) (hs:s.length<=1000000) (A:o.length<=1000000):∀r c lo:Nat,o.length - lo<=r->(lo=c*Sz h/\lo<=o.length\/lo=o.length)->loop (F.Xa h s o.length) (lo,UInt32.ofNat c,xk h s o lo)=some (xk h s o o.length)
 | r,c,lo,hr,hlo=>by
  have hz:=jn h
  have B:(((xk h s o lo).drop lo).take (o.length - lo)).length=o.length - lo:=CS (by rw[jz]; exact aq _)
  by_cases he:lo=o.length
  ·refine bm ?_
   unfold F.Xa
   dsimp only
   rw[B,ae (by rw[aj]; omega),he]
  ·have hc:lo=c*Sz h:=by omega
   match r,hr with
   | 0,hr=>omega
   | r+1,hr=>
    have G:lo<o.length:=by omega
    have j:[s,c4B (UInt32.ofNat c)].flatten=s++c4B (UInt32.ofNat c):=by simp
    have k:F.Uj h [s,c4B (UInt32.ofNat c)]=some (mkB h s c):=by
     rw[mT h hh _ (by simp) (by rw[j]; simp[c4B]; omega),j]; rfl
    have I:=xA h s o c lo hc G A (min (Sz h) (o.length - lo)) 0 q10
    have J:F.Xa h s o.length (lo,UInt32.ofNat c,xk h s o lo)=some (.inl (lo+min (Sz h) (o.length - lo),UInt32.ofNat (c+1),xk h s o (lo+min (Sz h) (o.length - lo)))):=by
     unfold F.Xa
     dsimp only
     rw[B,af (ah q10)]
     have:ag (F.Uj h [s,c4B (UInt32.ofNat c)]) (fun z=>loop (F.W1 o.length lo (UInt32.ofNat c) (xk h s o lo) z) (0,xk h s o lo))=some (.inl (lo+min (Sz h) (o.length - lo),UInt32.ofNat (c+1),xk h s o (lo+min (Sz h) (o.length - lo)))):=by
      rw[k,aa]; exact I
     exact this
    rw[bv J]
    refine Ac h hh s o hs A r (c+1) _ q10 ?_
    by_cases hq:Sz h<=o.length - lo
    ·left; rw[aT hq,bd,ci,<-hc]; omega
    ·right; omega
theorem OW (h:Int) (hh:isH h) (s o:L00) (hs:s.length<=1000000) (j:o.length<=1000000):F.aco h s o 0 o.length=some (xk h s o o.length):=by
 have:=Ac h hh s o hs j o.length 0 0 q10 (by left; omega)
 rw[E4]at this
 exact this
def hiB (b:Nat):UInt8:=nB 255 ((8 - b%8)%8)
theorem FD (b:Nat) (hb:b<=1000000):F.Zm (b:Int)=some (hiB b):=by
 have j:∀n,n &&& 7=n%8:=fun n=>dJ n 3
 have k:n7 (b:Int) 7=((b%8:Nat):Int):=by rw[<-j]; exact wr b 7 q10 q10
 have z:n7 ((8 - b%8:Nat):Int) 7=(((8 - b%8)%8:Nat):Int):=by rw[<-j (8 - b%8)]; exact wr (8 - b%8) 7 q10 q10
 unfold F.Zm hiB
 have A:wI (8 - ((b%8:Nat):Int))=((8 - b%8:Nat):Int):=by rw[ay q10 q10]; omega
 rw[k,A,z,grd_true _ q10,ao]
theorem Jb (h:Int) (hh:isH h) (d s:L00) (hd:d.length<=1000000) (hs:s.length<=1000000):F.abW h d s=some (dT h (List.replicate 8 0++(d++s))):=by
 have j:[List.replicate 8 (0:UInt8),d,s].flatten=List.replicate 8 0++(d++s):=by simp
 unfold F.abW
 rw[fU q11,aa,show (8:Int).toNat=8 from rfl,mT h hh _ (by simp) (by rw[j]; simp; omega),j,aa]
def sS (h:Int) (d sum blk:L00) (at_:Nat):Bool:=decide ((∀i,i<at_->blk.getD i 0=0)/\blk.getD at_ 0=1/\dT h (List.replicate 8 0++(d++blk.drop (at_+1)))=sum)
theorem wX (h:Int) (hh:isH h) (d z blk:L00) (k:Nat) (ha:k<blk.length) (hb:blk.length<=100000) (hd:d.length<=1000):∀r i:Nat,i+r=k->(∀j,j<i->blk.getD j 0=0) ->
  loop (F.YK h d z blk (k:Int)) (i:Int)=some (sS h d z blk k)
 | 0,i,e,hz=>by
  have:i=k:=by omega
  subst this
  have A:(∀j,j<i->blk.getD j 0=0):=hz
  refine bm ?_
  unfold F.YK sS
  dsimp only
  rw[ao,ae (by rw[aj,az]; omega),aG ha 0,aa]
  by_cases h1:blk.getD i 0=1
  ·rw[af (by rw[h1]; rfl),ay q10 q10,show (i:Int)+1=((i+1:Nat):Int) by omega,na q10,aa,Jb h hh _ _ q10 (by simp; omega),aa,CB,aa]
   congr 2
   rw[cK]
   exact⟨fun q=>⟨A,h1,q⟩,fun q=>q.2.2⟩
  ·rw[ae (by rw[dh]; exact h1),an fun q=>h1 q.2.1]
 | r+1,i,e,hz=>by
  have hg:au (blk.take k) (i:Int)=some (blk.getD i 0):=by
   rw[qt,bY,af q10,aw q10,ak,aw q10]; rfl
  by_cases h0:blk.getD i 0=0
  ·rw[<-wX h hh d z blk k ha hb hd r (i+1) q10 (fun j B=>by
    rcases cI j i with q | q
    ·exact hz j q
    ·have:j=i:=by omega
     rw[this]; exact h0)]
   refine bv ?_
   unfold F.YK
   dsimp only
   rw[ao,af (ah (by rw[az]; omega)),hg,aa,ae (by rw[h0]; decide),ay q10 q10]
   rfl
  ·refine bm ?_
   unfold F.YK sS
   dsimp only
   rw[ao,af (ah (by rw[az]; omega)),hg,aa,af (by rw[bV]; exact h0),an fun q=>h0 (q.1 i q10)]
def sm (h:Int) (em:L00) (k b:Nat):L00:=
 (xk h ((em.drop k).take (Sz h)) (em.take k) k).set 0 ((xk h ((em.drop k).take (Sz h)) (em.take k) k).getD 0 0 &&& hiB b)
def pa (h:Int) (d em:L00) (b:Nat):Bool:=
 if em.length=(b+7) / 8/\2*Sz h+2<=(b+7) / 8/\em.getD ((b+7) / 8 - 1) 0=188/\(em.getD 0 0 &&& ~~~ hiB b)=0 then
  sS h d ((em.drop ((b+7) / 8 - Sz h - 1)).take (Sz h)) (sm h em ((b+7) / 8 - Sz h - 1) b) ((b+7) / 8 - Sz h - 1 - Sz h - 1)
 else false
theorem MX (a:L00) (h:a.length<=225000000000000):F.Vf a=some a:=by
 unfold F.Vf
 rw[show apO 1 [] a=some a by unfold apO; rw[af (by simp; omega)]; rfl,aa]
theorem Dx (h:Int) (hh:isH h):F.Uk h=some ((Sz h:Nat):Int):=by rw[v9,af hh]
theorem LV (h:Int) (hh:isH h) (d z:L00) (b:Nat) (hb:b<=65536) (hd:d.length<=1000) (J:z.length=(b+7) / 8) (N:2*Sz h+2<=(b+7) / 8) :
  F.Vt h z (b:Int) ((Sz h:Nat):Int) d false=some (sS h d ((z.drop ((b+7) / 8 - Sz h - 1)).take (Sz h)) (sm h z ((b+7) / 8 - Sz h - 1) b) ((b+7) / 8 - Sz h - 1 - Sz h - 1)):=by
 have hz:=jn h
 have B:kV (wI ((b:Int)+7)) 3=(((b+7) / 8:Nat):Int):=by
  rw[ay q10 q10,show (b:Int)+7=((b+7:Nat):Int) by omega,pn _ _ q11]
 obtain⟨A,G⟩:∃A,(b+7) / 8=A:=⟨_,rfl⟩
 rw[G]at J N B ⊢
 obtain⟨k,O⟩:∃k,A - Sz h - 1=k:=⟨_,rfl⟩
 have Z:A=k+Sz h+1:=by omega
 have R:wI (wI ((A:Int) - ((Sz h:Nat):Int)) - 1)=(k:Int):=by rw[ay (x:=(A:Int) - _) q10 q10,ay q10 q10]; omega
 have U:wI ((A:Int) - 1)=((k+Sz h:Nat):Int):=by rw[ay q10 q10]; omega
 have I:slO z (k:Int) ((k+Sz h:Nat):Int)=some ((z.drop k).take (Sz h)):=by
  unfold slO; rw[af q10,ao,ao,show k+Sz h - k=Sz h by omega]
 have lt:(z.take k).length=k:=by rw[az]; omega
 have V:(sm h z k b).length=k:=by unfold sm; rw[bM,jz,lt]
 unfold F.Vt
 rw[ae q11,B,R,U,I,aa,t9 q10,aa,MX _ q10,aa,OW h hh _ _ (by simp; omega) q10,aa,lt,
  show (0:Int)=((0:Nat):Int) from rfl,aG (by rw[jz,lt]; omega) 0,aa,FD b q10,aa,aa,aS,ao]
 have X:(xk h ((z.drop k).take (Sz h)) (z.take k) k).set 0 ((xk h ((z.drop k).take (Sz h)) (z.take k) k).getD 0 0 &&& hiB b)=sm h z k b:=rfl
 rw[X,V,O,ay (x:=(k:Int) - _) q10 q10,ay q10 q10,aS,show (k:Int) - ((Sz h:Nat):Int) - 1=((k - Sz h - 1:Nat):Int) by omega,grd_true _ q10]
 exact wX h hh d _ _ (k - Sz h - 1) q10 q10 hd (k - Sz h - 1) 0 q10 (fun j Y=>absurd Y (Nat.not_lt_zero _))
theorem qT (h:Int) (d j:L00) (b z:Int):F.Vt h j b z d true=some false:=rfl
theorem KQ (h:Int) (hh:isH h) (d j:L00) (b:Nat) (hb:b<=65536) (hd:d.length=Sz h) (I:j.length<=1000000):F.ZH h d j (b:Int)=some (pa h d j b):=by
 have hz:=jn h
 have A:kV (wI ((b:Int)+7)) 3=(((b+7) / 8:Nat):Int):=by
  rw[ay q10 q10,show (b:Int)+7=((b+7:Nat):Int) by omega,pn _ _ q11]
 have G:wI (wI (2*((Sz h:Nat):Int))+2)=((2*Sz h+2:Nat):Int):=by rw[ay (x:=2*_) q10 q10,ay q10 q10]; omega
 have z:=LV h hh d j b hb q10
 obtain⟨k,B⟩:∃k,(b+7) / 8=k:=⟨_,rfl⟩
 unfold F.ZH pa
 rw[Dx h hh,aa,ae (by rw[dh]; omega),ae (by rw[aj]; omega),ae (by rw[aj]; omega),hd,gM]
 unfold F.YR
 rw[B]at A z ⊢
 rw[ae q11,A,G]
 by_cases c1:j.length=k
 ·rw[ae (by rw[c1]; simp)]
  by_cases c2:2*Sz h+2<=k
  ·rw[ae (by rw[aj]; omega),ay q10 q10,show (k:Int) - 1=((k - 1:Nat):Int) by omega,aG (show k - 1<j.length by omega) 0,aa]
   by_cases c3:j.getD (k - 1) 0=188
   ·rw[ae (by rw[c3]; decide),show (0:Int)=((0:Nat):Int) from rfl,aG (show 0<j.length by omega) 0,aa,FD b q10,aa]
    by_cases c4:(j.getD 0 0 &&& ~~~ hiB b)=0
    ·rw[af ⟨c1,c2,c3,c4⟩,c4,show ((0:UInt8) != 0)=false from rfl,z c1 c2]
    ·rw[show ((j.getD 0 0 &&& ~~~ hiB b) != 0)=true by rw[bV]; exact c4,qT,ae fun q=>c4 q.2.2.2]
   ·rw[af (by rw[bV]; exact c3),qT,ae fun q=>c3 q.2.2.1]
  ·rw[af (ah q10),qT,ae fun q=>c2 q.2.1]
 ·rw[af (by rw[bV]; omega),qT,ae fun q=>c1 q.1]
def CR (h:Int) (n e m sig:L00):Int:=
 if isH h then if kg n e then if sig.length=n.length/\beN sig<beN n then
  if beN sig^beN e%beN n<256^((nb (beN n) - 1+7) / 8)/\pa h (dT h m) (beB ((nb (beN n) - 1+7) / 8) (beN sig^beN e%beN n)) (nb (beN n) - 1)=true then 0 else 91 else 91 else 90 else 111
theorem xJ (b:Bool):F.ach b=some (if b=true then 91 else 0):=by cases b <;> rfl
theorem Hf (h:Int) (hh:isH h) (n e m j:L00) (hm:m.length<=900000000000000) (k:kg n e) (hs:j.length=n.length) (z:beN j<beN n) :
  F.abI h e m (am (beN n)) (am (beN j)) false=some (if beN j^beN e%beN n<256^((nb (beN n) - 1+7) / 8)/\pa h (dT h m) (beB ((nb (beN n) - 1+7) / 8) (beN j^beN e%beN n)) (nb (beN n) - 1)=true then 0 else 91):=by
 obtain⟨O,R,U,A⟩:=sc k
 have b0:=k.2.2.2.2.2.1.1
 have b1:=k.2.2.2.2.2.1.2
 have V:nb (beN e)<=32:=mE (by have:=k.2.2.2.2.2.2.2.2; omega)
 have B:nb (beN j)<=4096:=aA (mE (fT z (fi (beN n)).1)) b1
 have l1:=eE (l:=j) q10; have G:=eE (l:=e) q10; have I:=np b1
 have X:(am (beN j^beN e%beN n)).length<=128:=aA (db (bG (ba _ q10))) I
 have J:wI (((nb (beN n):Nat):Int) - 1)=((nb (beN n) - 1:Nat):Int):=by rw[ay q10 q10]; omega
 have N:kV (wI (((nb (beN n) - 1:Nat):Int)+7)) 3=(((nb (beN n) - 1+7) / 8:Nat):Int):=by
  rw[ay q10 q10,show ((nb (beN n) - 1:Nat):Int)+7=((nb (beN n) - 1+7:Nat):Int) by omega,pn _ _ q11]
 have hl:=jg h m
 unfold F.abI
 rw[ae q11,fV e q10,aa,yV _ _ _ A b1 q10 (by rw[al]; exact B) (by rw[al]; omega) l1 G,aa,al,al,ae (show ¬((0:Int) != 0)=true by decide),
  kO _ q10,aa,al,J,N,yt (am (beN j^beN e%beN n)) _ q10 q10,al]
 by_cases c1:beN j^beN e%beN n<256^((nb (beN n) - 1+7) / 8)
 ·rw[af c1,aa,ae (show ¬(!true)=true by decide),zB h hh m hm,aa,KQ h hh _ _ _ q10 hl (by rw[gl]; omega),aa,xJ]
  cases hq:pa h (dT h m) (beB ((nb (beN n) - 1+7) / 8) (beN j^beN e%beN n)) (nb (beN n) - 1) with
  | true=>rw[ae q11,af ⟨c1,rfl⟩]
  | false=>rw[af q11,ae fun q=>by cases q.2]
 ·rw[ae c1,aa,af (show (!false)=true by decide),xJ,af rfl,ae fun q=>c1 q.1]
theorem Ga (h:Int) (n e m j:L00) (hn:n.length<=140737488351232) (he:e.length<=140737488351232) (hm:m.length<=900000000000000) (hs:j.length<=140737488351232):F.abN h n e m j=some (CR h n e m j):=by
 unfold F.abN CR
 rw[v9,aa]
 by_cases hh:isH h
 ·have hz:=jn h
  rw[af hh,ae (by rw[dh]; omega),af hh,Dm n e hn he,aa]
  by_cases hk:kg n e
  ·rw[af hk,ae q11,af hk,fV n hn,aa,fV j hs,aa]
   by_cases c1:j.length=n.length
   ·have l1:=eE hs; have k:=eE hn
    rw[ae (by rw[c1]; simp),lQ _ _ q10 q10,aa,al,al]
    by_cases c2:beN j<beN n
    ·have:¬0<=cW (beN j) (beN n):=by unfold cW; rw[af c2]; decide
     rw[an this,Hf h hh n e m j hm hk c1 c2,af (show j.length=n.length/\beN j<beN n from⟨c1,c2⟩)]
    ·have:0<=cW (beN j) (beN n):=by unfold cW; rw[ae c2]; split <;> decide
     rw[ah this,ae fun q=>c2 q.2]; rfl
   ·rw[af (by rw[bV]; omega),ae fun q=>c1 q.1]; rfl
  ·rw[ae hk,af q11,ae hk]
 ·rw[ae hh,af q11,ae hh]
def pE:Nat:=57896044618658097711785492504343953926634992332820282019728792003956564819949
def nE:Nat:=7237005577332262213973186563042994240857116359379907606001950938285454250989
theorem fD:1<pE/\pE%2=1/\pE<2^255/\0<pE:=by decide +kernel
theorem sV:1<nE/\nE<2^253:=by decide +kernel
instance:NeZero pE:=⟨Nat.ne_of_gt fD.2.2.2⟩
theorem xp:nb pE<=255:=mE fD.2.2.1
theorem uq {n k:Nat} (h:n<2^(32*k)):(am n).length<=k:=bc (by rw[show (4294967296:Nat)=2^32 from rfl,<-bB]; exact h)
theorem jR:(am pE).length<=8:=uq (aO fD.2.2.1 (aE q11 q11))
abbrev Fe:=Fin pE
def le (x:Fe):L8:=am x.val
theorem gz (x:Fe):(le x).length<=8:=aA (db (bG x.isLt)) jR
theorem eY (x:Fe):val (le x)=x.val:=al _
theorem qY (x:Fe):nb (val (le x))<=255:=by rw[eY]; exact mE (fT x.isLt fD.2.2.1)
theorem P9 {x y:Fe} (h:le x=le y):x=y:=dI (by rw[<-eY x,h,eY])
theorem pv:le 0=[]:=by unfold le; rw[show (0:Fe).val=0 from rfl,cu]
theorem rN:(1:Fe).val=1:=av fD.1
theorem oO:le 1=[1]:=by
 unfold le; rw[rN,lG q11,show 1 / 4294967296=0 by decide,cu]; rfl
theorem ng {l:L8} {n:Nat} (h:val l=n) (hc:l.getLast?≠some 0):l=am n:=vP h hc
theorem nJ:F.UM=some (am pE):=by
 rw[<-ng (l:=F.WL) (n:=pE) (by decide +kernel) q11]; rfl
theorem KW:F.aaf=some (am nE):=by
 rw[<-ng (l:=F.WN) (n:=nE) (by decide +kernel) q11]; rfl
def dE:Fe:=⟨37095705934669439343138083508754565189542113879843219016388785533085940283555,by decide +kernel⟩
def iE:Fe:=⟨38214883241950591754978413199355411911188925816896391856984770930832735035197,by decide +kernel⟩
def gX:Fe:=⟨15112221349535400772501151409588531511454012693041857206046113283949847762202,by decide +kernel⟩
def gY:Fe:=⟨46316835694926478169428394003475163141307993866256225615783033603165251855960,by decide +kernel⟩
theorem wh:F.Wm=some (le dE):=by
 unfold le
 rw[<-ng (l:=F.Wq) (n:=dE.val) (by decide +kernel) q11]; rfl
theorem NV:F.acL=some (le iE):=by
 unfold le
 rw[<-ng (l:=F.Wz) (n:=iE.val) (by decide +kernel) q11]; rfl
theorem Ox:F.acH=some (le gX,le gY,false):=by
 unfold le
 rw[<-ng (l:=F.U0) (n:=gX.val) (by decide +kernel) q11,<-ng (l:=F.UW) (n:=gY.val) (by decide +kernel) q11]; rfl
theorem NQ (a b:L8) (m:Nat) (z:1<m) (hm:nb m<=4096) (ha:nb (val a)<=4096) (hb:nb (val b)<=4096) (j:a.length<=40000000000000) (k:b.length<=40000000000000) (A:(am m).length<=900) :
  F.aaU a b (am m)=some (am ((val a+val b)%m),0):=by
 have l1:=np ha; have B:=np hb
 have hs:(am (val a+val b)).length<=200:=aA (kH _ _) q10
 unfold F.aaU
 rw[su ha hb (by rw[al]; omega) (by rw[al]; omega) j k q10,aa,ae q11,uJ _ _ j k,aa,mB _ _ q10 q10 (by rw[al]; omega),aa,al,al]
theorem Oq (a b:L8) (m:Nat) (z:1<m) (hm:nb m<=4096) (ha:nb (val a)<=4096) (hb:nb (val b)<=4096) (j:a.length<=40000000000000) (k:b.length<=40000000000000) (A:(am m).length<=900) :
  F.abt a b (am m)=some (am ((m - val b%m+val a%m)%m),0):=by
 unfold F.abt
 rw[su ha hb (by rw[al]; omega) (by rw[al]; omega) j k q10,aa,ae q11,mB _ _ j q10 (by rw[al]; omega),aa,mB _ _ k q10 (by rw[al]; omega),aa,al,
  vL (ba _ q10) (ba _ q10) q10 (am m) (al m) q10,aa]
theorem BO (x y:Fe):F.Um (le x) (le y)=some (le (x+y)):=by
 have a:=gz x; have b:=gz y; have c:=qY x; have d:=qY y; have e:=xp; have f:=jR
 unfold F.Um
 rw[nJ,aa,NQ _ _ _ fD.1 q10 q10 q10 q10 q10 q10,aa,eY,eY]; rfl
theorem yO (x y:Fe):F.Uz (le x) (le y)=some (le (x - y)):=by
 have a:=gz x; have b:=gz y; have c:=qY x; have d:=qY y; have e:=xp; have f:=jR
 unfold F.Uz
 rw[nJ,aa,Oq _ _ _ fD.1 q10 q10 q10 q10 q10 q10,aa,eY,eY,av x.isLt,av y.isLt]; rfl
theorem ov (x y:Fe):F.T3 (le x) (le y)=some (le (x*y)):=by
 have a:=gz x; have b:=gz y; have c:=qY x; have d:=qY y; have e:=xp; have f:=jR
 unfold F.T3
 rw[nJ,aa,zv _ _ _ fD.1 q10 q10 q10 q10 q10 q10,aa,eY,eY]; rfl
noncomputable def mO (x:Fe):Fe:=⟨sd pE x.val,Oi fD.2.2.2⟩
def jK (x:Fe) (e:Nat):Fe:=⟨x.val^e%pE,ba _ fD.2.2.2⟩
theorem RL (x:Fe):F.YJ (le x)=some (le (mO x)):=by
 have a:=gz x; have c:=qY x; have e:=xp; have f:=jR
 unfold F.YJ
 rw[nJ,aa,OH _ _ fD.1 fD.2.1 q10 q10 q10 q10,aa,eY]
 simp only[le,mO]
theorem TL (x:Fe) (e:L8) (j:e.length<=1000) (he:nb (val e)<=4096):F.ab4 (le x) e=some (le (jK x (val e))):=by
 have a:=gz x; have c:=qY x; have k:=xp; have f:=jR
 unfold F.ab4
 rw[nJ,aa,yV _ _ _ fD.1 q10 q10 q10 he q10 q10,aa,eY]; rfl
theorem Ny (x:Fe):F.Yk (le x)=some (le x):=by
 unfold F.Yk
 rw[<-pv,BO,aa,Fin.add_zero]
abbrev Q4:=Fe×Fe×Fe×Fe
def q4 (s:Q4):L8×L8×L8×L8:=(le s.1,le s.2.1,le s.2.2.1,le s.2.2.2)
def twE (s:Q4):Q4:=
 let a:=s.1*s.1; let b:=s.2.1*s.2.1; let c:=s.2.2.1*(s.2.2.1+s.2.2.1); let h:=a+b; let w:=s.1+s.2.1; let e:=h - w*w; let g:=a - b; let f:=c+g
 (e*f,g*h,f*g,e*h)
def plE (s q:Q4):Q4:=
 let a:=(s.2.1 - s.1)*(q.2.1 - q.1); let b:=(s.2.1+s.1)*(q.2.1+q.1); let c:=s.2.2.2*q.2.2.2*(dE+dE); let d:=s.2.2.1*(q.2.2.1+q.2.2.1); let e:=b - a; let f:=d - c; let g:=d+c; let h:=b+a
 (e*f,g*h,f*g,e*h)
theorem KI (s:Q4):F.aaY (le s.1) (le s.2.1) (le s.2.2.1) (le s.2.2.2)=some (q4 (twE s)):=by
 unfold F.aaY
 simp only[ov,BO,yO,aa]
 rfl
theorem Wq7 (s q:Q4):F.YE (le s.1) (le s.2.1) (le s.2.2.1) (le s.2.2.2) (le q.1) (le q.2.1) (le q.2.2.1) (le q.2.2.2)=some (q4 (plE s q)):=by
 unfold F.YE
 simp only[ov,BO,yO,wh,aa]
 rfl
def tmE (s:Q4) (k:Nat):Nat->Q4->Q4
 | 0,a=>a
 | i+1,a=>tmE s k i (if k / 2^i%2=1 then plE (twE a) s else twE a)
theorem xB (s:Q4) (k:L8) (j:k.length<=1000):∀(i:Nat) (a:Q4),i<=1000000->loop (F.ZG (le s.1) (le s.2.1) (le s.2.2.1) (le s.2.2.2) k) ((i:Int) - 1,q4 a)=some (q4 (tmE s (val k) i a))
 | 0,a,_=>by
  refine bm ?_
  unfold F.ZG q4
  dsimp only
  rw[ae q11]; rfl
 | i+1,a,hi=>by
  have z:(((i+1:Nat):Int)) - 1=(i:Int):=by omega
  have w:wI ((i:Int) - 1)=(i:Int) - 1:=ay q10 q10
  rw[z]
  show _=some (q4 (tmE s (val k) i (if val k / 2^i%2=1 then plE (twE a) s else twE a)))
  rw[<-xB s k j i _ q10]
  refine bv ?_
  unfold F.ZG q4
  dsimp only
  rw[af (ah q10),KI,aa,E2 _ _ q10 q10,aa]
  by_cases h:val k / 2^i%2=1
  ·rw[af (ah h),af h]
   have:=Wq7 (twE a) s
   unfold q4 at this ⊢
   rw[this,aa]
   unfold F.abq
   dsimp only
   rw[w]; rfl
  ·rw[ae (by rw[aj]; exact h),ae h]
   unfold F.abq q4
   dsimp only
   rw[w]; rfl
def tiE (s:Q4) (k:Nat):Q4:=tmE s k (nb k) (0,1,1,0)
theorem BD (s:Q4) (k:L8) (j:k.length<=1000):F.YG (le s.1) (le s.2.1) (le s.2.2.1) (le s.2.2.2) k=some (q4 (tiE s (val k))):=by
 have hb:nb (val k)<=32*k.length:=aA (mf _) (bf 32 (bc (bN k)))
 have w:wI (((nb (val k):Nat):Int) - 1)=((nb (val k):Nat):Int) - 1:=ay q10 q10
 unfold F.YG
 rw[kO k q10,aa,w,<-oO,<-pv]
 exact xB s k j (nb (val k)) (0,1,1,0) q10
noncomputable def ptE (s:Q4):Fe×Fe:=(s.1*mO s.2.2.1,s.2.1*mO s.2.2.1)
theorem LN (s:Q4):F.aaS (le s.1) (le s.2.1) (le s.2.2.1) (le s.2.2.2)=some (le (ptE s).1,le (ptE s).2,false):=by
 unfold F.aaS
 rw[RL,aa,ov,aa,ov,aa]; rfl
theorem z6 (x y:Fe):F.Zf (le x) (le y) false=some (q4 (x,y,1,x*y)):=by
 unfold F.Zf
 rw[Ny,aa,Ny,aa,ov,aa,<-oO]; rfl
def onE (x y:Fe):Bool:=decide (y*y - x*x=1+dE*(x*x*(y*y)))
theorem LG (x y:Fe):F.Uf (le x) (le y)=some (cW x.val y.val):=by
 have a:=gz x; have b:=gz y
 rw[lQ _ _ q10 q10,eY,eY]
theorem Lv (x y:Fe):(cW x.val y.val == 0)=decide (x=y):=by
 rw[C6,cK]; exact⟨fun h=>dI h,fun h=>by rw[h]⟩
theorem JX (x:Fe):F.Uf (le x) (am pE)=some (-1):=by
 have a:=gz x; have f:=jR
 rw[lQ _ _ q10 q10,eY,al]; unfold cW; rw[af x.isLt]
theorem PY (x y:Fe):F.aa2 (le x) (le y) false=some (onE x y):=by
 unfold F.aa2
 rw[ae q11,nJ,aa,JX,aa,ae q11,aa,JX,aa]
 unfold F.aaP onE
 dsimp only
 rw[ae q11,ov,aa,ov,aa,yO,aa,wh,aa,ov,aa,ov,aa,<-oO,BO,aa,LG,aa,Lv]
theorem Ct (l:L00) (hl:l.length<=1000000):∀(r i:Nat) (x:L00),l.length - 1 - 2*i<=r->2*i<=l.length->x.length=l.length->(∀j,j<l.length->x.getD j 0=if j<i\/l.length - i<=j then l.getD (l.length - 1 - j) 0 else l.getD j 0) ->
  loop F.YA ((i:Int),(l.length:Int) - 1 - (i:Int),x)=some l.reverse
 | r,i,x,hr,hi,hx,hj=>by
  by_cases hlt:i+i+1<l.length
  ·match r,hr with
   | 0,hr=>omega
   | r+1,hr=>
    have z:=Ct l hl r (i+1) ((x.set i (x.getD (l.length - 1 - i) 0)).set (l.length - 1 - i) (x.getD i 0)) q10 q10 (by simpa using hx) (fun j B=>by
     by_cases e1:j=l.length - 1 - i
     ·subst e1
      rw[ak,dp (by simp[hx]; omega),af q10]
      show x.getD i 0=_
      rw[hj i q10,ae q10]; congr 1; omega
     ·by_cases e2:j=i
      ·subst e2
       rw[ak,iU q10,dp q10,af q10]
       show x.getD (l.length - 1 - j) 0=_
       rw[hj _ q10,ae q10]
      ·rw[ak,iU q10,iU q10,<-ak,hj j B]
       by_cases e3:j<i\/l.length - i<=j
       ·rw[af e3,af q10]
       ·rw[ae e3,ae q10])
    rw[<-z]
    refine bv ?_
    have ei:(l.length:Int) - 1 - (i:Int)=((l.length - 1 - i:Nat):Int):=by omega
    unfold F.YA
    dsimp only
    rw[ei,af (ah q10),aG q10 0,aa,aG q10 0,aa,aa,aS,aG (by rw[bM]; omega) 0,aa,aS,ao,ao,ay q10 q10,ay q10 q10]
    rw[show ((l.length - 1 - i:Nat):Int) - 1=(l.length:Int) - 1 - ((i+1:Nat):Int) by omega]
    rfl
  ·refine bm ?_
   unfold F.YA
   dsimp only
   rw[ae (by rw[aj]; omega)]
   congr 2
   apply ew (by simp[hx])
   intro j z J
   have A:=hj j q10
   rw[ak,aw z]at A
   simp only[Option.getD_some]at A
   rw[A,List.getElem_reverse]
   have G:∀k (I:k<l.length),l.getD k 0=l[k]:=fun k I=>by rw[ak,aw I]; rfl
   split
   ·rw[G _ q10]
   ·rw[G _ q10]
    have:j=l.length - 1 - j:=by omega
    congr 1
theorem xo (l:L00) (hl:l.length<=1000000):F.YQ l=some l.reverse:=by
 unfold F.YQ
 rw[aS,ay q10 q10]
 have:=Ct l hl l.length 0 l q10 q10 rfl (fun j k=>by rw[ae q10])
 rw[<-this]
 congr 3
 omega
def leN (l:L00):Nat:=beN l.reverse
theorem pN (l:L00):leN l<256^l.length:=by have:=gS l.reverse; rwa [List.length_reverse]at this
theorem H2 (a:L00) (h:a.length<=225000000000000):F.Vf a=some a:=by
 unfold F.Vf
 rw[show apO 1 [] a=some a by unfold apO; rw[af (by simp; omega)]; rfl,aa]
theorem rU (l:L00) (hl:l.length<=1000000):F.Wj l=some (am (leN l)):=by
 unfold F.Wj
 rw[H2 l q10,aa,xo l hl,aa,fV _ (by rw[List.length_reverse]; omega),aa]; rfl
noncomputable def xxE (y:Fe):Fe:=(y*y - 1)*mO (dE*(y*y)+1)
noncomputable def x1E (y:Fe):Fe:=if jK (xxE y) ((pE+3) / 8)*jK (xxE y) ((pE+3) / 8)=xxE y then jK (xxE y) ((pE+3) / 8) else jK (xxE y) ((pE+3) / 8)*iE
noncomputable def qr (y:Fe) (odd:Bool):Option Fe:=
 if x1E y*x1E y=xxE y/\¬(x1E y=0/\odd=true) then some (if decide ((x1E y).val%2=1)=odd then x1E y else 0 - x1E y) else none
def QI (o:Option Fe):L8×Bool:=match o with
 | some x=>(le x,true)
 | none=>([],false)
theorem A6 (x y:Fe):(cW x.val y.val != 0)=decide (¬x=y):=by
 rw[bne,Lv]; by_cases h:x=y
 ·rw[ah h,an (by simpa using h)]; rfl
 ·rw[an h,ah h]; rfl
theorem NA (x:Fe):F.Us (le x) 0=some (decide (x.val%2=1)):=by
 have a:=gz x
 rw[oG _ q10,eY]
theorem Je (j:Bool) (x:Fe):F.Xu j (le x) false=some (le (if decide (x.val%2=1)=j then x else 0 - x),true):=by
 unfold F.Xu
 rw[ae q11,NA,aa]
 by_cases h:decide (x.val%2=1)=j
 ·rw[ae (by rw[h]; simp),af h]; rfl
 ·rw[af (by rw[bV]; exact h),<-pv,yO,aa,ae h]; rfl
theorem Iw (j:Bool) (xx x:Fe):F.aaT j (le xx) (le x)=some (QI (if x*x=xx/\¬(x=0/\j=true) then some (if decide (x.val%2=1)=j then x else 0 - x) else none)):=by
 have a:=gz x
 have hb:(((nb x.val:Nat):Int) == 0)=decide (x=0):=by
  by_cases h:x=0
  ·rw[h,ah rfl,show (0:Fe).val=0 from rfl,lU]; rfl
  ·rw[an h,cd]
   have k:x.val≠0:=fun q=>h (dI q)
   have:=(fi x.val).2 k
   omega
 unfold F.aaT
 dsimp only
 rw[ov,aa,LG,aa,A6]
 by_cases h1:x*x=xx
 ·rw[ae (by rw[aj]; exact fun q=>q h1),kO _ q10,aa,eY,hb]
  by_cases h2:x=0
  ·rw[af (ah h2)]
   cases j with
   | true=>rw[ae (fun q=>q.2 ⟨h2,rfl⟩)]; rfl
   | false=>rw[af ⟨h1,fun q=>by cases q.2⟩,Je]; rfl
  ·rw[ae (by rw[aj]; exact h2),af ⟨h1,fun q=>h2 q.1⟩,Je]; rfl
 ·rw[af (ah h1),ae fun q=>h1 q.1]; rfl
theorem P8:F.UK (am (pE+3)) 3=some (am ((pE+3) / 8)):=by
 have h:(am (pE+3)).length<=9:=aA (kH _ _) (by have:=jR; have:(am 3).length<=1:=bc q11; omega)
 have:=OM (am (pE+3)) 3 q11 q10
 rw[al]at this
 exact this
theorem Rv (y:Fe) (j:Bool):F.abr (le y) j=some (QI (qr y j)):=by
 have f:=jR
 have k:val ([3]:L8)=3:=rfl
 have he:(am ((pE+3) / 8)).length<=9:=aA (db (dy _ _)) (aA (kH _ _) (by have:(am 3).length<=1:=bc q11; omega))
 have z:nb ((pE+3) / 8)<=32*9:=aA (mf _) q10
 unfold F.abr
 rw[ov,aa,<-oO,yO,aa,wh,aa,ov,aa,BO,aa,RL,aa,ov,aa,nJ,aa,uJ _ _ q10 q11,aa,al,k,P8,aa,
  TL _ _ q10 (by rw[al]; omega),aa,al,ov,aa,LG,aa,A6]
 have hx:(y*y - 1)*mO (dE*(y*y)+1)=xxE y:=rfl
 rw[hx]
 unfold qr x1E
 by_cases h:jK (xxE y) ((pE+3) / 8)*jK (xxE y) ((pE+3) / 8)=xxE y
 ·rw[ae (by rw[aj]; exact fun q=>q h),af h,Iw]
 ·rw[af (ah h),NV,aa,ov,aa,ae h,Iw]
def clr (b:L00):L00:=b.set 31 (b.getD 31 0 &&& 127)
noncomputable def ow (b:L00):Option (Fe×Fe):=
 if b.length=32 then if h:leN (clr b)<pE then match qr ⟨leN (clr b),h⟩ ((b.getD 31 0 &&& 128) != 0) with
  | some x=>some (x,⟨leN (clr b),h⟩)
  | none=>none else none else none
def CH (o:Option (Fe×Fe)):L8×L8×Bool×Int:=match o with
 | some (x,y)=>(le x,le y,false,0)
 | none=>([],[],false,93)
theorem xm (b:L00):F.YV b=some (CH (ow b)):=by
 unfold F.YV ow
 by_cases h:b.length=32
 ·have hl:(clr b).length=32:=by unfold clr; rw[bM,h]
  have j:=pN (clr b)
  rw[hl]at j
  have A:(am (leN (clr b))).length<=8:=bc (by rw[show (4294967296:Nat)=256^4 from rfl,<-bB]; exact j)
  have f:=jR
  rw[ae (by rw[h]; simp),af h,H2 b q10,aa,show (31:Int)=((31:Nat):Int) from rfl,aG (show 31<b.length by omega) 0,aa,aa,aa,aS,ao]
  have k:b.set 31 (b.getD 31 0 &&& 127)=clr b:=rfl
  rw[k,rU _ q10,aa,nJ,aa,lQ _ _ q10 q10,aa,al,al]
  by_cases hc:leN (clr b)<pE
  ·have:¬0<=cW (leN (clr b)) pE:=by unfold cW; rw[af hc]; decide
   rw[ae (by rw[aj]; exact this),dif_pos hc]
   have z:am (leN (clr b))=le ⟨leN (clr b),hc⟩:=rfl
   rw[z,Rv,aa]
   cases qr ⟨leN (clr b),hc⟩ ((b.getD 31 0 &&& 128) != 0) <;> rfl
  ·have:0<=cW (leN (clr b)) pE:=by unfold cW; rw[ae hc]; split <;> decide
   rw[af (ah this),dif_neg hc]; rfl
 ·rw[af (by rw[bV]; omega),ae h]; rfl
def pY (x y:Fe):L00:=if x.val%2=1 then (beB 32 y.val).reverse.set 31 ((beB 32 y.val).reverse.getD 31 0 ||| 128) else (beB 32 y.val).reverse
theorem HK (x y:Fe):F.ZD (le x) (le y) false=some (if onE x y=true then (pY x y,0) else ([],93)):=by
 have a:=gz y
 have hy:y.val<256^32:=fT y.isLt (aO fD.2.2.1 q11)
 have hl:((beB 32 y.val).reverse).length=32:=by rw[List.length_reverse,gl]
 unfold F.ZD
 rw[PY,aa]
 cases onE x y with
 | false=>rfl
 | true=>
  rw[ae q11,show (32:Int)=((32:Nat):Int) from rfl,yt (le y) 32 q10 q11,eY,af hy,aa,xo _ (by rw[gl]; decide),aa,NA,aa,af rfl]
  unfold pY F.acg
  by_cases h:x.val%2=1
  ·rw[af (ah h),af h,show (31:Int)=((31:Nat):Int) from rfl,aG (show 31<_ by rw[hl]; decide) 0,aa,aa,aS,ao]
  ·rw[ae (by rw[aj]; exact h),ae h]
noncomputable def rE (x y:Fe) (s k:Nat):Fe×Fe:=ptE (plE (tiE (gX,gY,1,gX*gY) s) (tiE (0 - x,y,1,(0 - x)*y) k))
noncomputable def edT (pub m sig:L00):Int:=match ow pub with
 | none=>90
 | some (x,y)=>if sig.length=64/\leN (sig.drop 32)<nE/\onE (rE x y (leN (sig.drop 32)) (leN (dT 3 (sig.take 32++(pub++m)))%nE)).1 (rE x y (leN (sig.drop 32)) (leN (dT 3 (sig.take 32++(pub++m)))%nE)).2=true /\
   pY (rE x y (leN (sig.drop 32)) (leN (dT 3 (sig.take 32++(pub++m)))%nE)).1 (rE x y (leN (sig.drop 32)) (leN (dT 3 (sig.take 32++(pub++m)))%nE)).2=sig.take 32 then 0 else 91
theorem wQ (b:Bool):F.acj b=some (if b=true then 91 else 0):=by cases b <;> rfl
theorem B8 {b:L00} {p:Fe×Fe} (h:ow b=some p):b.length=32:=by
 unfold ow at h
 split at h
 ·assumption
 ·cases h
theorem G5 (k m j:L00) (hm:m.length<=800000000000000) (hs:j.length<=140737488351232):F.abl k m j=some (edT k m j):=by
 unfold F.abl edT
 rw[xm,aa]
 cases hd:ow k with
 | none=>rfl
 | some p=>
  obtain⟨x,y⟩:=p
  have hp:=B8 hd
  show (if ((0:Int) != 0)=true then _ else _)=_
  rw[ae q11]
  by_cases h1:j.length=64
  ·have J:=pN (j.drop 32)
   rw[bj,h1]at J
   have X:(am (leN (j.drop 32))).length<=8:=bc (by rw[show (4294967296:Nat)=256^4 from rfl,<-bB]; exact J)
   have hn:(am nE).length<=8:=uq (aO sV.2 (aE q11 q11))
   rw[ae (by rw[h1]; simp),show (32:Int)=((32:Nat):Int) from rfl,na q10,aa,rU _ (by rw[bj]; omega),aa,KW,aa,lQ _ _ q10 q10,aa,al,al]
   by_cases h2:leN (j.drop 32)<nE
   ·have:¬0<=cW (leN (j.drop 32)) nE:=by unfold cW; rw[af h2]; decide
    have z:[j.take 32,k,m].flatten=j.take 32++(k++m):=by simp
    have hS:F.Uj 3 [j.take 32,k,m]=some (dT 3 (j.take 32++(k++m))):=by
     rw[mT 3 (by right; right; rfl) _ (by simp) (by rw[z]; simp; omega),z]
    have A:=jg 3 (j.take 32++(k++m))
    rw[show Sz 3=64 from rfl]at A
    have B:=pN (dT 3 (j.take 32++(k++m)))
    rw[A]at B
    have Y:(am (leN (dT 3 (j.take 32++(k++m))))).length<=16:=bc (by rw[show (4294967296:Nat)=256^4 from rfl,<-bB]; exact B)
    have N:nE≠0:=by have:=sV.1; omega
    have Z:(am (leN (dT 3 (j.take 32++(k++m)))%nE)).length<=8:=aA (db (bG (ba _ q10))) hn
    rw[ae (by rw[aj]; exact this),t9 q10,aa,hS,aa,rU _ q10,aa,aa,sN _ _ q10 q10,aa,al,al,ae N,<-pv]
    dsimp only[CH]
    rw[yO,aa,Ox,aa,z6,aa]
    have G:=BD (gX,gY,1,gX*gY) (am (leN (j.drop 32))) q10
    have I:=BD (0 - x,y,1,(0 - x)*y) (am (leN (dT 3 (j.take 32++(k++m)))%nE)) q10
    rw[al]at G I
    dsimp only[q4]at G I ⊢
    rw[G,aa,z6,aa]
    dsimp only[q4]
    rw[I,aa]
    dsimp only
    have O:=Wq7 (tiE (gX,gY,1,gX*gY) (leN (j.drop 32))) (tiE (0 - x,y,1,(0 - x)*y) (leN (dT 3 (j.take 32++(k++m)))%nE))
    dsimp only[q4]at O
    rw[O,aa]
    dsimp only
    rw[LN,aa]
    dsimp only
    rw[HK,aa]
    have U:ptE (plE (tiE (gX,gY,1,gX*gY) (leN (j.drop 32))) (tiE (0 - x,y,1,(0 - x)*y) (leN (dT 3 (j.take 32++(k++m)))%nE)))=rE x y (leN (j.drop 32)) (leN (dT 3 (j.take 32++(k++m)))%nE):=rfl
    rw[U]
    obtain⟨R,V⟩:∃R,rE x y (leN (j.drop 32)) (leN (dT 3 (j.take 32++(k++m)))%nE)=R:=⟨_,rfl⟩
    rw[V]
    cases h3:onE R.1 R.2 with
    | false=>
     rw[ae (show ¬false=true by decide)]
     show (if ((93:Int) != 0)=true then _ else _)=_
     rw[af q11,wQ,af rfl,ae fun q=>by cases q.2.2.1]
    | true=>
     rw[af rfl]
     show (if ((0:Int) != 0)=true then _ else _)=_
     rw[ae q11,aa,CB,aa,wQ]
     by_cases h4:pY R.1 R.2=j.take 32
     ·rw[ah h4,ae q11,af ⟨h1,h2,rfl,h4⟩]
     ·rw[an h4,af q11,ae fun q=>h4 q.2.2.2]
   ·have:0<=cW (leN (j.drop 32)) nE:=by unfold cW; rw[ae h2]; split <;> decide
    rw[af (ah this)]
    show _=some (if _ then _ else _)
    rw[ae fun q=>h2 q.2.1]
  ·rw[af (by rw[bV]; omega)]
   show _=some (if _ then _ else _)
   rw[ae fun q=>h1 q.1]
abbrev LB:Nat:=140737488351232
def jD (l:List L00):Nat:=(l.map List.length).sum
theorem vj (l:List L00) (hl:l.length<=10) (hb:∀x∈l,x.length<=LB):∀(r i:Nat),i+r=l.length->loop (F.Zx l) (((jD (l.take i):Nat):Int),(i:Int))=some (decide (jD l=0))
 | 0,i,e=>by
  refine bm ?_
  unfold F.Zx
  dsimp only
  rw[ae (by rw[aj]; omega),aC q10]
  congr 2
  by_cases h:jD l=0
  ·rw[h,ah rfl]; rfl
  ·rw[an h,cd]; omega
 | r+1,i,e=>by
  have hi:i<l.length:=by omega
  have A:l.take (i+1)=l.take i++[l[i]]:=by rw[gR,aw hi]; rfl
  have hs:jD (l.take (i+1))=jD (l.take i)+l[i].length:=by unfold jD; rw[A,List.map_append,List.sum_append]; simp
  have k:∀(m:List L00),(∀x∈m,x.length<=LB)->jD m<=m.length*LB:=by
   intro m
   induction m with
   | nil=>intro _; simp[jD]
   | cons a m ih=>
    intro h
    have j:=ih fun x hx=>h x (by simp[hx])
    have z:=h a (by simp)
    simp only[jD,dm,List.sum_cons,dN,bd]at j ⊢
    omega
  have j:=k (l.take (i+1)) fun x hx=>hb x (List.mem_of_mem_take hx)
  have z:(l.take (i+1)).length<=10:=by rw[az]; omega
  have B:jD (l.take (i+1))<=10*LB:=aA j (bg _ z)
  rw[<-vj l hl hb r (i+1) q10]
  refine bv ?_
  unfold F.Zx
  dsimp only
  rw[af (ah q10),jv hi,aa,ay q10 (by unfold LB at B; omega),aS,ay q10 q10,hs]
  rfl
theorem rc (l:List L00) (hl:l.length<=10) (hb:∀x∈l,x.length<=LB):F.U1 l=some (decide (jD l=0)):=vj l hl hb l.length 0 q10
noncomputable def o9 (kty crv:Int) (s n e x y:L00):Bool:=
 if kty=1 then decide (crv=0/\32<=s.length/\s.length<=4096/\jD [n,e,x,y]=0)
 else if kty=2 then decide (crv=0/\jD [s,x,y]=0/\kg n e)
 else if kty=3 then decide ((nu crv x y).2.2.2=0/\jD [s,n,e]=0)
 else if kty=4 then decide (crv=3/\jD [s,n,e,y]=0/\(ow x).isSome=true) else false
theorem kE (a b:Int):(a == b)=decide (a=b):=by
 by_cases h:a=b
 ·rw[ah h,dh]; exact h
 ·rw[an h,cd]; exact h
theorem Pf (kty crv:Int) (s n e x y:L00) (hs:s.length<=LB) (hn:n.length<=LB) (he:e.length<=LB) (hx:x.length<=LB) (hy:y.length<=LB):F.abV kty crv s n e x y=some (o9 kty crv s n e x y):=by
 have j:F.U1 [n,e,x,y]=some (decide (jD [n,e,x,y]=0)):=rc _ (by simp) (by simp[hn,he,hx,hy])
 have k:F.U1 [s,x,y]=some (decide (jD [s,x,y]=0)):=rc _ (by simp) (by simp[hs,hx,hy])
 have z:F.U1 [s,n,e]=some (decide (jD [s,n,e]=0)):=rc _ (by simp) (by simp[hs,hn,he])
 have A:F.U1 [s,n,e,y]=some (decide (jD [s,n,e,y]=0)):=rc _ (by simp) (by simp[hs,hn,he,hy])
 unfold F.abV o9
 simp only[kE,aj]
 by_cases k1:kty=1
 ·rw[af k1,af k1]
  by_cases c1:crv=0
  ·rw[af c1]
   by_cases c2:32<=s.length
   ·rw[af q10]
    by_cases c3:s.length<=4096
    ·rw[af q10,j,aa]; congr 1; rw[cK]; exact⟨fun q=>⟨c1,c2,c3,q⟩,fun q=>q.2.2.2⟩
    ·rw[ae q10,an fun q=>c3 q.2.2.1]
   ·rw[ae q10,an fun q=>c2 q.2.1]
  ·rw[ae c1,an fun q=>c1 q.1]
 rw[ae k1,ae k1]
 by_cases k2:kty=2
 ·rw[af k2,af k2]
  by_cases c1:crv=0
  ·rw[af c1,k,aa]
   by_cases c2:jD [s,x,y]=0
   ·rw[af (ah c2),Dm n e hn he,aa]
    by_cases c3:kg n e
    ·rw[af c3,ah (show crv=0/\jD [s,x,y]=0/\kg n e from⟨c1,c2,c3⟩)]; rfl
    ·rw[ae c3,an (show ¬(crv=0/\jD [s,x,y]=0/\kg n e) from fun q=>c3 q.2.2)]; rfl
   ·rw[ae (by rw[aj]; exact c2),an fun q=>c2 q.2.1]
  ·rw[ae c1,an fun q=>c1 q.1]
 rw[ae k2,ae k2]
 by_cases k3:kty=3
 ·rw[af k3,af k3,zG,aa]
  by_cases c1:(nu crv x y).2.2.2=0
  ·rw[af c1,z,aa]; congr 1; rw[cK]; exact⟨fun q=>⟨c1,q⟩,fun q=>q.2⟩
  ·rw[ae c1,an fun q=>c1 q.1]
 rw[ae k3,ae k3]
 by_cases k4:kty=4
 ·rw[af k4,af k4]
  by_cases c1:crv=3
  ·rw[ae (by rw[c1]; decide),A,aa]
   by_cases c2:jD [s,n,e,y]=0
   ·rw[ah c2]
    unfold F.acx
    dsimp only
    rw[ae q11,xm,aa]
    cases hd:ow x with
    | none=>rw[an fun q=>by cases q.2.2]; rfl
    | some p=>rw[ah ⟨c1,c2,rfl⟩]; rfl
   ·rw[an c2,an fun q=>c2 q.2.1]; rfl
  ·rw[af (by rw[bV]; exact c1),an fun q=>c1 q.1]; rfl
 rw[ae k4,ae k4]
theorem Is (kty crv:Int) (s n e x y:L00) (hs:s.length<=LB) (hn:n.length<=LB) (he:e.length<=LB) (hx:x.length<=LB) (hy:y.length<=LB):F.ZL kty crv s n e x y=some (if o9 kty crv s n e x y=true then 0 else 90):=by
 unfold F.ZL
 rw[Pf kty crv s n e x y hs hn he hx hy,aa]
 cases o9 kty crv s n e x y <;> rfl
def dr (a:Int):Int×Int×Int:=
 if 1<=a/\a<=3 then (1,a,0) else if 4<=a/\a<=6 then (2,a - 3,0) else if 7<=a/\a<=9 then (3,a - 6,0) else if a=10 then (4,1,1) else if a=11 then (4,2,2) else if a=12 then (5,0,3) else (0,0,0)
theorem nv (a:Int):(a=1\/a=2\/a=3\/a=4\/a=5\/a=6\/a=7\/a=8\/a=9\/a=10\/a=11\/a=12)\/(a<1\/12<a):=by omega
theorem Fv (a:Int):F.Yq a=some (dr a):=by
 rcases nv a with (rfl | rfl | rfl | rfl | rfl | rfl | rfl | rfl | rfl | rfl | rfl | rfl) | h
 all_goals first | rfl | skip
 have j:∀k:Int,1<=k->k<=12->(a == k)=false:=fun k A B=>by rw[cd]; omega
 have z:dr a=(0,0,0):=by
  unfold dr
  rw[ae q10,ae q10,ae q10,ae q10,ae q10,ae q10]
 rw[z]
 unfold F.Yq F.aab F.aaX F.abU
 simp only[j 1 q11 q11,j 2 q11 q11,j 3 q11 q11,j 4 q11 q11,j 5 q11 q11,j 6 q11 q11,j 7 q11 q11,j 8 q11 q11,j 9 q11 q11,
  j 10 q11 q11,j 11 q11 q11,j 12 q11 q11]
 rfl
def qI (a kty crv:Int):Bool:=
 if 1<=a/\a<=3 then decide (kty=1) else if 4<=a/\a<=9 then decide (kty=2) else if a=10\/a=11 then decide (kty=3/\crv=a - 9) else if a=12 then decide (kty=4/\crv=3) else false
theorem yF (a kty crv:Int) (s n e x y:L00):F.WE a kty crv s n e x y=some (qI a kty crv):=by
 unfold F.WE
 rw[Fv,aa]
 have k:∀(p q:Int) (h:¬p=q),decide (p=q)=false:=fun p q h=>an h
 rcases nv a with (rfl | rfl | rfl | rfl | rfl | rfl | rfl | rfl | rfl | rfl | rfl | rfl) | h
 all_goals first
  | (show some (kty == 1)=some (decide (kty=1)); rw[kE])
  | (show some (kty == 2)=some (decide (kty=2)); rw[kE])
  | (show (if (kty == 3)=true then some (crv == 1) else some false)=some (decide (kty=3/\crv=10 - 9)); rw[kE,kE]; by_cases h:kty=3 <;> simp[h])
  | (show (if (kty == 3)=true then some (crv == 2) else some false)=some (decide (kty=3/\crv=11 - 9)); rw[kE,kE]; by_cases h:kty=3 <;> simp[h])
  | (show (if (kty == 4)=true then some (crv == 3) else some false)=some (decide (kty=4/\crv=3)); rw[kE,kE]; by_cases h:kty=4 <;> simp[h])
  | skip
 have j:dr a=(0,0,0):=by
  unfold dr
  rw[ae q10,ae q10,ae q10,ae q10,ae q10,ae q10]
 have hf:qI a kty crv=false:=by
  unfold qI
  rw[ae q10,ae q10,ae q10,ae q10]
 rw[j,hf]
 rfl
noncomputable def xQ (k:Int×Int×Int) (s n e x y m sig:L00):Bool:=
 if k.1=1 then decide (oS k.2.1 s m=sig) else if k.1=2 then decide (DQ k.2.1 n e m sig=0) else if k.1=3 then decide (CR k.2.1 n e m sig=0) else if k.1=4 then decide (Bg k.2.1 k.2.2 x y m sig=0) else decide (edT x m sig=0)
noncomputable def tH (a kty crv:Int) (s n e x y m sig:L00):Int:=
 if (dr a).1=0 then 111 else if qI a kty crv=true then if o9 kty crv s n e x y=true/\¬((dr a).1=1/\s.length<Sz (dr a).2.1) then if xQ (dr a) s n e x y m sig=true then 0 else 91 else 90 else 105
theorem ri {a:Int} (h:(dr a).1=1):wO (dr a).2.1:=by
 rcases nv a with (rfl | rfl | rfl | rfl | rfl | rfl | rfl | rfl | rfl | rfl | rfl | rfl) | j
 all_goals first | (exact .inl rfl) | (exact .inr (.inl rfl)) | (exact .inr (.inr rfl)) | (exact absurd h q11) | skip
 unfold dr at h
 rw[ae q10,ae q10,ae q10,ae q10,ae q10,ae q10]at h
 exact absurd h q11
theorem q8 (z:Int):F.Vm z=some (if z=0 then 0 else 91):=by
 unfold F.Vm
 by_cases h:z=0
 ·rw[ae (by rw[h]; decide),af h]
 ·rw[af (by rw[bV]; exact h),ae h]
theorem uz {p:Prop} [Decidable p]:(if decide p=true then (0:Int) else 91)=if p then 0 else 91:=by simp
theorem Ak (a:Int) (s n e x y m j:L00) (hs:s.length<=LB) (hn:n.length<=LB) (he:e.length<=LB) (hm:m.length<=LB) (hg:j.length<=LB):F.Xd s n e x y m j (dr a) false=some (if xQ (dr a) s n e x y m j=true then 0 else 91):=by
 unfold LB at hs hn he hm hg
 unfold F.Xd xQ
 rw[ae q11]
 simp only[kE,aj]
 by_cases k1:(dr a).1=1
 ·rw[af k1,af k1,AV _ (ri k1) _ _ _ q10 q10,aa]
  by_cases h:oS (dr a).2.1 s m=j
  ·rw[ah h]; rfl
  ·rw[an h]; rfl
 rw[ae k1,ae k1]
 by_cases k2:(dr a).1=2
 ·rw[af k2,af k2,HM _ _ _ _ _ hn he q10 hg,aa,q8,uz]
 rw[ae k2,ae k2]
 by_cases k3:(dr a).1=3
 ·rw[af k3,af k3,Ga _ _ _ _ _ hn he q10 hg,aa,q8,uz]
 rw[ae k3,ae k3]
 by_cases k4:(dr a).1=4
 ·rw[af k4,af k4,Ls _ _ _ _ _ _ q10 hg,aa,q8,uz]
 rw[ae k4,ae k4,G5 _ _ _ q10 hg,aa,q8,uz]
theorem ui (a kty crv:Int) (s n e x y m j:L00) (hs:s.length<=LB) (hn:n.length<=LB) (he:e.length<=LB) (hx:x.length<=LB) (hy:y.length<=LB) (hm:m.length<=LB) (hg:j.length<=LB):F.Vy a kty crv s n e x y m j=some (tH a kty crv s n e x y m j):=by
 unfold F.Vy tH
 rw[Fv,aa,kE]
 by_cases k0:(dr a).1=0
 ·rw[af (ah k0),af k0]
 rw[ae (by rw[aj]; exact k0),ae k0,yF,aa]
 cases hf:qI a kty crv with
 | false=>rfl
 | true=>
  rw[ae q11,af rfl,Is kty crv s n e x y hs hn he hx hy,aa]
  cases hgd:o9 kty crv s n e x y with
  | false=>rw[af q11,ae (show ¬(false=true/\_) from fun q=>by cases q.1)]; rfl
  | true=>
   rw[af rfl,ae q11,kE]
   by_cases k1:(dr a).1=1
   ·have z:=ri k1
    have k:F.Uk (dr a).2.1=some ((Sz (dr a).2.1:Nat):Int):=Dx _ z
    rw[af (ah k1),k,aa]
    by_cases c:s.length<Sz (dr a).2.1
    ·rw[ah q10,ae fun q=>q.2 ⟨k1,c⟩]; rfl
    ·rw[an q10,af ⟨rfl,fun q=>c q.2⟩]; exact Ak a s n e x y m j hs hn he hm hg
   ·rw[ae (by rw[aj]; exact k1),af ⟨rfl,fun q=>k1 q.1⟩]; exact Ak a s n e x y m j hs hn he hm hg
end Go.Gk.Bn
end
section
namespace Go.Gk.Pr
theorem Sv:Prm 97:=jr (by decide +kernel)
theorem Qe:Prm 103:=jr (by decide +kernel)
theorem Rg:Prm 127:=jr (by decide +kernel)
theorem P2:Prm 419:=jr (by decide +kernel)
theorem Rn:Prm 991:=jr (by decide +kernel)
theorem Pe:Prm 1723:=jr (by decide +kernel)
theorem PL:Prm 4153:=jr (by decide +kernel)
theorem Hi:Prm 8574133:=ff [(991,2),(103,2)] (by
 intro q j
 simp only[aJ,aM,bC]at j
 rcases j with rfl | rfl
 ·exact Rn
 ·exact Qe) (by decide +kernel)
theorem tg:Prm 1919519569386763:=ff [(8574133,2),(127,2)] (by
 intro q j
 simp only[aJ,aM,bC]at j
 rcases j with rfl | rfl
 ·exact Hi
 ·exact Rg) (by decide +kernel)
theorem In:Prm 569003:=ff [(419,2),(97,2)] (by
 intro q j
 simp only[aJ,aM,bC]at j
 rcases j with rfl | rfl
 ·exact P2
 ·exact Sv) (by decide +kernel)
theorem AM:Prm 2773320623:=ff [(569003,2)] (by
 intro q j
 simp only[aJ,aM,bC]at j
 rw[j]; exact In) (by decide +kernel)
theorem yz:Prm 72106336199:=ff [(2773320623,2)] (by
 intro q j
 simp only[aJ,aM,bC]at j
 rw[j]; exact AM) (by decide +kernel)
theorem nm:Prm 75445702479781427272750846543864801:=ff [(1919519569386763,2),(72106336199,2)] (by
 intro q j
 simp only[aJ,aM,bC]at j
 rcases j with rfl | rfl
 ·exact tg
 ·exact yz) (by decide +kernel)
theorem I4:Prm 430751:=ff [(1723,2)] (by
 intro q j
 simp only[aJ,aM,bC]at j
 rw[j]; exact Pe) (by decide +kernel)
theorem sE:Prm 31757755568855353:=ff [(430751,2),(4153,2)] (by
 intro q j
 simp only[aJ,aM,bC]at j
 rcases j with rfl | rfl
 ·exact I4
 ·exact PL) (by decide +kernel)
theorem iQ:Prm 74058212732561358302231226437062788676166966415465897661863160754340907:=ff [(75445702479781427272750846543864801,2),(31757755568855353,2)] (by
 intro q j
 simp only[aJ,aM,bC]at j
 rcases j with rfl | rfl
 ·exact nm
 ·exact sE) (by decide +kernel)
theorem im:Prm 57896044618658097711785492504343953926634992332820282019728792003956564819949:=ff [(74058212732561358302231226437062788676166966415465897661863160754340907,2)] (by
 intro q j
 simp only[aJ,aM,bC]at j
 rw[j]; exact iQ) (by decide +kernel)
end Go.Gk.Pr
end
section
namespace Go.Gk.Bn
open Go Go.Gk Go.Gk.Sh Go.Gk.Ec Go.Gk.Pr
theorem Cw:Prm pE:=im
theorem Q5:Fld pE:=HY Cw (by decide +kernel)
theorem nzE {u v:Fe} (hu:u≠0) (j:v≠0):u*v≠0:=fun h=>(Q5.nz u v h).elim hu j
theorem Be (u:Fe):(mO u).val=sd pE u.val:=by simp only[mO]
theorem MP {u v:Fe} (h:u*v=1):u.val*v.val%pE=1:=by
 have:=cD Fin.val h
 rw[gt,rN]at this
 exact this
theorem yA {u v:Fe} (h:u*v=1):mO u=v:=by
 apply dI
 rw[Be]
 exact E3 v.isLt (MP h)
theorem qs {u:Fe} (hu:u≠0):u*mO u=1:=by
 obtain⟨v,j⟩:=Q5.iv u hu
 rw[yA j]; exact j
theorem tT:mO 0=0:=by
 apply dI
 rw[Be]
 refine zX fD.1 ?_
 have j:(0:Fe).val=0:=rfl
 rw[j,Nat.gcd_zero_left]
 have:=fD.1
 omega
section
variable {p:Nat} [NeZero p]
theorem MD (l m u v:Fin p):(l*u)*(m*v)=(l*m)*(u*v):=by grind
theorem idT {X Y Z T d:Fin p} (j:X*Y=Z*T) (k:Y*Y - X*X=Z*Z+d*(T*T)) :
  ((Y+X)*(Y+X) - (Y - X)*(Y - X))*(Z*(Z+Z) - T*T*(d+d))=(-4)*((X*X+Y*Y - (X+Y)*(X+Y))*(Z*(Z+Z)+(X*X - Y*Y))) /\
  (Z*(Z+Z)+T*T*(d+d))*((Y+X)*(Y+X)+(Y - X)*(Y - X))=(-4)*((X*X - Y*Y)*(X*X+Y*Y)) /\
  (Z*(Z+Z) - T*T*(d+d))*(Z*(Z+Z)+T*T*(d+d))=(-4)*((Z*(Z+Z)+(X*X - Y*Y))*(X*X - Y*Y)) /\
  ((Y+X)*(Y+X) - (Y - X)*(Y - X))*((Y+X)*(Y+X)+(Y - X)*(Y - X))=(-4)*((X*X+Y*Y - (X+Y)*(X+Y))*(X*X+Y*Y)):=by
 refine⟨?_,?_,?_,?_⟩ <;> grobner
theorem idP {j k z A B G I T2 d:Fin p} (J:j*k=z*A) (N:k*k - j*j=z*z+d*(A*A)) (O:B*G=I*T2) (R:G*G - B*B=I*I+d*(T2*T2)) :
  (2*(z*I+d*(A*T2))*(2*(k*G+j*B)))*(2*(z*I+d*(A*T2))*(2*(k*G+j*B))) - (2*(j*G+k*B)*(2*(z*I - d*(A*T2))))*(2*(j*G+k*B)*(2*(z*I - d*(A*T2)))) =
  (2*(z*I - d*(A*T2))*(2*(z*I+d*(A*T2))))*(2*(z*I - d*(A*T2))*(2*(z*I+d*(A*T2))))+d*((2*(j*G+k*B)*(2*(k*G+j*B)))*(2*(j*G+k*B)*(2*(k*G+j*B)))):=by grobner
abbrev G4 (p:Nat):=Fin p×Fin p×Fin p×Fin p
def twG (s:G4 p):G4 p:=
 let a:=s.1*s.1; let b:=s.2.1*s.2.1; let c:=s.2.2.1*(s.2.2.1+s.2.2.1); let h:=a+b; let w:=s.1+s.2.1; let e:=h - w*w; let g:=a - b; let f:=c+g
 (e*f,g*h,f*g,e*h)
def plG (d:Fin p) (s q:G4 p):G4 p:=
 let a:=(s.2.1 - s.1)*(q.2.1 - q.1); let b:=(s.2.1+s.1)*(q.2.1+q.1); let c:=s.2.2.2*q.2.2.2*(d+d); let dd:=s.2.2.1*(q.2.2.1+q.2.2.1); let e:=b - a; let f:=dd - c; let g:=dd+c; let h:=b+a
 (e*f,g*h,f*g,e*h)
def scG (l:Fin p) (s:G4 p):G4 p:=(l*s.1,l*s.2.1,l*s.2.2.1,l*s.2.2.2)
def EvG (d:Fin p) (s:G4 p):Prop:=s.1*s.2.1=s.2.2.1*s.2.2.2/\s.2.1*s.2.1 - s.1*s.1=s.2.2.1*s.2.2.1+d*(s.2.2.2*s.2.2.2)
theorem Kk (l m:Fin p) (s:G4 p):scG l (scG m s)=scG (l*m) s:=by
 obtain⟨X,Y,Z,T⟩:=s
 simp only[scG,iD]
 refine⟨?_,?_,?_,?_⟩ <;> grind
theorem FC (s:G4 p):scG 1 s=s:=by
 obtain⟨X,Y,Z,T⟩:=s
 simp only[scG,iD]
 refine⟨?_,?_,?_,?_⟩ <;> grind
theorem C1 (d l m:Fin p) (s q:G4 p):plG d (scG l s) (scG m q)=scG ((l*m)*(l*m)) (plG d s q):=by
 obtain⟨j,k,z,A⟩:=s
 obtain⟨B,G,I,T2⟩:=q
 simp only[plG,scG,iD]
 refine⟨?_,?_,?_,?_⟩ <;> grobner
theorem J0 {d:Fin p} {s:G4 p} (h:EvG d s):plG d s s=scG (-4) (twG s):=by
 obtain⟨X,Y,Z,T⟩:=s
 obtain⟨j,k⟩:=h
 obtain⟨z,A,B,G⟩:=idT j k
 simp only[plG,twG,scG,iD]
 exact⟨z,A,B,G⟩
theorem Kq {d:Fin p} {s q:G4 p} (hs:EvG d s) (J:EvG d q):EvG d (plG d s q):=by
 obtain⟨j,k,G,I⟩:=s
 obtain⟨z,A,B,T2⟩:=q
 obtain⟨N,O⟩:=hs
 obtain⟨R,U⟩:=J
 have i:=idP N O R U
 have e:(k+j)*(A+z) - (k - j)*(A - z)=2*(j*A+k*z):=by grind
 have h:(k+j)*(A+z)+(k - j)*(A - z)=2*(k*A+j*z):=by grind
 have f:G*(B+B) - I*T2*(d+d)=2*(G*B - d*(I*T2)):=by grind
 have g:G*(B+B)+I*T2*(d+d)=2*(G*B+d*(I*T2)):=by grind
 simp only[EvG,plG]
 rw[e,f,g,h]
 exact⟨by grind,i⟩
theorem Mh {d l m:Fin p} (hl:m*l=1) {s:G4 p} (h:EvG d (scG l s)):EvG d s:=by
 obtain⟨X,Y,Z,T⟩:=s
 obtain⟨j,k⟩:=h
 simp only[scG]at j k
 constructor <;> simp only <;> grobner
end
theorem Pp (u v:Fe):mO (u*v)=mO u*mO v:=by
 by_cases hu:u=0
 ·rw[hu,Fin.zero_mul,tT,Fin.zero_mul]
 by_cases hv:v=0
 ·rw[hv,Fin.mul_zero,tT,Fin.mul_zero]
 refine yA ?_
 rw[MD,qs hu,qs hv,Fin.one_mul]
theorem F0 {u:Fe} (h:u≠0):¬pE ∣ u.val:=fun hd=>h (dI (by
 have k:=u.isLt
 have j:(0:Fe).val=0:=rfl
 rw[j]
 rcases bR u.val with q | q
 ·exact q
 ·have:=fG q hd; omega))
theorem kq (u:Fe) (e:Nat):(jK u e).val=u.val^e%pE:=by simp only[jK]
theorem LY (u:Fe):jK u (pE - 2)=mO u:=by
 have hp:=fD.1
 by_cases hu:u=0
 ·subst hu
  rw[tT]
  apply dI
  have k:(0:Fe).val=0:=rfl
  have j:pE - 2≠0:=by
   have:pE≠2:=by
    have:=fD.2.1
    omega
   omega
  rw[kq,k,Nat.zero_pow (eu j),Nat.zero_mod]
 ·refine (yA ?_).symm
  apply dI
  have z:=tK Cw (F0 hu)
  rw[gt,rN,kq,cF,eA,<-cF,aP,<-aU,show (pE - 2).succ=pE - 1 by omega]
  exact z
theorem xI (s q:Q4):plE s q=plG dE s q:=rfl
theorem RT (s:Q4):twE s=twG s:=rfl
def tmR (s:Q4) (k:Nat):Nat->Q4->Q4
 | 0,a=>a
 | i+1,a=>tmR s k i (if k / 2^i%2=1 then plE (plE a a) s else plE a a)
abbrev Up4 (a b:Q4):Prop:=∃l:Fe,l≠0/\b=scG l a
theorem Fi:(-4:Fe)≠0:=by decide +kernel
theorem RU {a:Q4} (h:EvG dE a):EvG dE (twE a):=by
 have j:=Kq h h
 rw[J0 h]at j
 exact Mh (by rw[Fin.mul_comm]; exact qs Fi) j
theorem RX {a b:Q4} (s:Q4) (h:Up4 a b):Up4 (plE a s) (plE b s):=by
 obtain⟨l,hl,rfl⟩:=h
 refine⟨(l*1)*(l*1),nzE (nzE hl fun q=>?_) (nzE hl fun q=>?_),?_⟩
 ·exact absurd q (by decide +kernel)
 ·exact absurd q (by decide +kernel)
 ·rw[xI,xI]
  have:=C1 dE l 1 a s
  rwa [FC]at this
theorem ND {a b:Q4} (h:Up4 a b) (he:EvG dE a):Up4 (twE a) (plE b b):=by
 obtain⟨l,hl,rfl⟩:=h
 refine⟨((l*l)*(l*l))*(-4),nzE (nzE (nzE hl hl) (nzE hl hl)) Fi,?_⟩
 rw[xI,C1,J0 he,Kk,RT]
theorem Bl {s:Q4} (hs:EvG dE s) (k:Nat):∀(i:Nat) (a b:Q4),EvG dE a->Up4 a b->Up4 (tmE s k i a) (tmR s k i b)
 | 0,a,b,_,h=>h
 | i+1,a,b,he,h=>by
  have j:=RU he
  have z:=ND h he
  unfold tmE tmR
  by_cases hk:k / 2^i%2=1
  ·rw[af hk,af hk]
   exact Bl hs k i _ _ (Kq j hs) (RX s z)
  ·rw[ae hk,ae hk]
   exact Bl hs k i _ _ j z
theorem NB:EvG dE ((0,1,1,0):Q4):=by
 constructor <;> simp only <;> decide +kernel
theorem Ff (s:Q4) (k:Nat):∀(j i:Nat) (b:Q4),k<2^i->Up4 ((0,1,1,0):Q4) b->∃z,Up4 ((0,1,1,0):Q4) z/\tmR s k (i+j) b=tmR s k i z
 | 0,i,b,_,h=>⟨b,h,rfl⟩
 | j+1,i,b,hk,h=>by
  have A:k / 2^(i+j)=0:=bE (aO hk (aE q11 q10))
  have B:=ND h NB
  have G:twE ((0,1,1,0):Q4)=scG (-1) (0,1,1,0):=by decide +kernel
  have I:Up4 ((0,1,1,0):Q4) (plE b b):=by
   obtain⟨l,hl,e⟩:=B
   rw[G,Kk]at e
   exact⟨_,nzE hl (by decide +kernel),e⟩
  obtain⟨z,hb,e⟩:=Ff s k j i (plE b b) hk I
  refine⟨z,hb,?_⟩
  rw[<-e]
  show tmR s k (i+j) (if k / 2^(i+j)%2=1 then _ else _)=_
  rw[A,ae q11]
theorem IL {s:Q4} (hs:EvG dE s) (k m:Nat) (hm:nb k<=m):Up4 (tiE s k) (tmR s k m (0,1,1,0)):=by
 have j:k<2^nb k:=(fi k).1
 obtain⟨z,hb,e⟩:=Ff s k (m - nb k) (nb k) (0,1,1,0) j ⟨1,by decide +kernel,(FC _).symm⟩
 rw[show nb k+(m - nb k)=m by omega]at e
 rw[e]
 exact Bl hs k (nb k) _ _ NB hb
theorem R8 {l:Fe} (hl:l≠0) (s:Q4):ptE (scG l s)=ptE s:=by
 have j:∀x:Fe,(l*x)*mO (l*s.2.2.1)=x*mO s.2.2.1:=fun x=>by
  rw[Pp,MD,qs hl,Fin.one_mul]
 unfold ptE scG
 dsimp only
 rw[j,j]
theorem SK {a b:Q4} (h:Up4 a b):ptE b=ptE a:=by
 obtain⟨l,hl,rfl⟩:=h
 exact R8 hl a
theorem Qs {a b c e:Q4} (h:Up4 a b) (j:Up4 c e):Up4 (plE a c) (plE b e):=by
 obtain⟨l,hl,rfl⟩:=h
 obtain⟨m,hm,rfl⟩:=j
 exact⟨_,nzE (nzE hl hm) (nzE hl hm),by rw[xI,xI]; exact C1 dE l m a c⟩
theorem Nn {x y:Fe} (h:onE x y=true):EvG dE ((x,y,1,x*y):Q4):=by
 unfold onE at h
 have h:=of_decide_eq_true h
 constructor
 ·show x*y=1*(x*y)
  rw[Fin.one_mul]
 ·show y*y - x*x=1*1+dE*((x*y)*(x*y))
  rw[h,Fin.one_mul,MD]
theorem QY {x y:Fe} (j:onE gX gY=true) (hA:onE (0 - x) y=true) (s k m n:Nat) (hm:nb s<=m) (hn:nb k<=n) :
  ptE (plE (tmR (gX,gY,1,gX*gY) s m (0,1,1,0)) (tmR (0 - x,y,1,(0 - x)*y) k n (0,1,1,0)))=rE x y s k:=
 SK (Qs (IL (Nn j) s m hm) (IL (Nn hA) k n hn))
theorem TJ:onE gX gY=true:=by decide +kernel
theorem BX (u v:Fe) (e:Nat):jK (u*v) e=jK u e*jK v e:=by
 apply dI
 rw[kq,gt,gt,kq,kq,<-Nat.pow_mod,Nat.mul_pow,cF]
theorem DF (u:Fe) (e:Nat):jK (u*u) e=jK u (2*e):=by
 apply dI
 rw[kq,gt,kq,<-Nat.pow_mod,bB]
 congr 2
 rw[aU,aU,dg,ci]
theorem QQ:jK dE ((pE - 1) / 2)=-1:=by
 apply dI
 rw[kq,<-Gx]
 decide +kernel
theorem Rp:jK (-1) ((pE - 1) / 2)=1:=by
 apply dI
 rw[kq,<-Gx]
 decide +kernel
theorem Pl:2*((pE - 1) / 2)=pE - 1:=by
 have:=fD.2.1
 omega
theorem idM {p:Nat} [NeZero p] {u:Fin p} (h:u+1=0):u=-1:=by grind
theorem SN (y:Fe):dE*(y*y)+1≠0:=fun h=>by
 have j:dE*(y*y)=-1:=idM h
 have z:y≠0:=fun q=>by
  rw[q,Fin.mul_zero,Fin.mul_zero]at j
  exact absurd j (by decide +kernel)
 have k:=cD (fun u=>jK u ((pE - 1) / 2)) j
 rw[BX,QQ,Rp,DF,Pl]at k
 have A:jK y (pE - 1)=1:=by
  apply dI
  rw[kq,rN]
  exact tK Cw (F0 z)
 rw[A]at k
 exact absurd k (by decide +kernel)
theorem idD {p:Nat} [NeZero p] {x xx y d u w:Fin p} (k:x*x=(y*y - 1)*w) (z:u*w=1) (j:u=d*(y*y)+1):y*y - x*x=1+d*(x*x*(y*y)):=by
 subst j
 grobner
theorem idN {p:Nat} [NeZero p] (x:Fin p):(0 - x)*(0 - x)=x*x:=by grind
theorem SC {x y:Fe} (h:x*x=xxE y):onE x y=true:=by
 unfold onE
 apply ah
 exact idD (xx:=x) (u:=dE*(y*y)+1) (w:=mO (dE*(y*y)+1)) h (qs (SN y)) rfl
theorem HZ {x y:Fe} (h:onE x y=true):onE (0 - x) y=true:=by
 unfold onE at h ⊢
 rw[idN]
 exact h
theorem QO {y x:Fe} {j:Bool} (h:qr y j=some x):onE x y=true:=by
 unfold qr at h
 split at h
 ·rename_i c
  have e:=SC c.1
  obtain rfl:=fv h
  split
  ·exact e
  ·exact HZ e
 ·cases h
theorem Pk {b:L00} {x y:Fe} (h:ow b=some (x,y)):onE x y=true:=by
 unfold ow at h
 split at h
 ·split at h
  ·rename_i c
   cases ha:qr ⟨leN (clr b),c⟩ ((b.getD 31 0 &&& 128) != 0) with
   | none=>rw[ha]at h; cases h
   | some x'=>
    rw[ha]at h
    obtain⟨rfl,rfl⟩:=Prod.mk.inj (fv h)
    exact QO ha
  ·cases h
 ·cases h
end Go.Gk.Bn
end
section
namespace Go.Gk.Bn
open Go Go.Gk Go.Gk.Sh Go.Gk.Pr
theorem qg:F.Uy=some (am pE):=by
 unfold F.Uy
 rw[<-ng (l:=[4294967277,4294967295,4294967295,4294967295,4294967295,4294967295,4294967295,2147483647]) (n:=pE) (by decide +kernel) q11]
theorem tL (a b:Nat):decide ((0:Int)<=cW a b)=decide (b<=a):=by
 rw[cK]
 unfold cW
 split
 ·constructor <;> intro h <;> omega
 ·split
  ·constructor <;> intro h <;> omega
  ·constructor <;> intro h <;> omega
theorem SY:∀(n:Nat) (x:L8),val x<=n->x.length<=1000->loop F.Wi x=some (am (val x%pE)):=by
 intro n
 induction n with
 | zero=>
  intro x hn hx
  have hp:=fD.2.2.2
  refine bm ?_
  unfold F.Wi
  rw[qg,aa,jj _ _ q10 (by have:=jR; omega),aa,al,tL,an q10,ae q11,fX _ q10,aa,av q10]
 | succ n ih=>
  intro x hn hx
  have hp:=fD.2.2.2
  have f:=jR
  by_cases h:pE<=val x
  ·have j:F.Wi x=some (.inl (am (val x - pE))):=by
    unfold F.Wi
    rw[qg,aa,jj _ _ q10 q10,aa,al,tL,ah h,af rfl,aa,ku _ _ q10 (by rw[al]; exact h),aa,al]
    rfl
   have hl:(am (val x - pE)).length<=1000:=aA (db (Nat.sub_le _ _)) (aA (bc (bN x)) hx)
   rw[bv j,ih _ (by rw[al]; omega) hl,al,<-Nat.mod_eq_sub_mod h]
  ·refine bm ?_
   unfold F.Wi
   rw[qg,aa,jj _ _ q10 q10,aa,al,tL,an h,ae q11,fX _ q10,aa,av q10]
theorem Kx (a b:Nat):(a+b*38)%pE=(a+4294967296^8*b)%pE:=by
 have:4294967296^8=2*pE+38:=by decide +kernel
 rw[this,bd,aP 38 b,show a+(2*pE*b+b*38)=a+b*38+pE*(2*b) by rw[aP 2 pE,aD]; omega,eJ]
theorem An (x:L8) (hx:x.length<=1000) (h:8<x.length):F.W0 x=some (.inl (am (val (x.take 8)+val (x.drop 8)*38))):=by
 have z:tkO x (8:Int)=some (x.take 8):=t9 (k:=8) q10
 have A:drO x (8:Int)=some (x.drop 8):=na (k:=8) q10
 have j:val ([38]:L8)=38:=rfl
 have l1:(am (val (x.drop 8)*38)).length<=2000:=by
  refine aA (kc _ 38) ?_
  have a:=bc (bN (x.drop 8))
  rw[bj]at a
  have b:(am 38).length<=1:=bc q11
  omega
 unfold F.W0
 rw[af (ah q10),z,aa,A,aa,mC _ _ (by rw[bj]; simp; omega),aa,j,nX _ _ (by rw[az]; omega) q10,aa,al]
 rfl
theorem vY (x:L8) (hx:x.length<=8):loop F.W0 x=some (am (val x%pE)):=by
 refine bm ?_
 unfold F.W0
 rw[ae (by rw[aj]; omega),SY (val x) x (aq _) q10]
theorem Ti:∀(n v:Nat),v<=n->(am v).length<=1000->loop F.W0 (am v)=some (am (v%pE)):=by
 intro n
 induction n with
 | zero=>
  intro v hn hl
  have:v=0:=by omega
  subst this
  rw[vY _ (by rw[cu]; decide),al]
 | succ n ih=>
  intro v hn hl
  by_cases h:8<(am v).length
  ·have hs:=fS (am v) 8 q10
   rw[al]at hs
   have A:4294967296^8<=v:=by
    refine Nat.le_of_not_lt fun q=>?_
    have:=bc q
    omega
   have j:=bN ((am v).take 8)
   rw[az,aT q10]at j
   rw[bv (An _ hl h)]
   have e:=Kx (val ((am v).take 8)) (val ((am v).drop 8))
   rw[<-hs]at e
   have k:(4294967296:Nat)^8=115792089237316195423570985008687907853269984665640564039457584007913129639936:=by decide +kernel
   rw[k]at hs A j
   generalize val ((am v).take 8)=a at *
   generalize val ((am v).drop 8)=b at *
   have z:a+b*38<=n:=by omega
   rw[ih _ z (aA (db q10) hl),e]
  ·rw[vY _ q10,al]
theorem A9 (x:L8) (hx:x.length<=900):F.Vv x=some (am (val x%pE)):=by
 unfold F.Vv
 by_cases h:8<x.length
 ·have hs:=fS x 8 q10
  rw[bv (An _ q10 h)]
  have e:=Kx (val (x.take 8)) (val (x.drop 8))
  rw[<-hs]at e
  have j:val (x.take 8)+val (x.drop 8)*38<=val x:=by
   have k:(4294967296:Nat)^8=115792089237316195423570985008687907853269984665640564039457584007913129639936:=by decide +kernel
   rw[k]at hs
   omega
  rw[Ti _ _ (aq _) (aA (db j) (aA (bc (bN x)) q10)),e]
 ·rw[vY _ q10]
theorem kZ (x y:Fe):F.T5 (le x) (le y)=some (le (x*y)):=by
 have a:=gz x; have b:=gz y
 have hl:(am (x.val*y.val)).length<=900:=aA (kc x.val y.val) (by unfold le at a b; omega)
 unfold F.T5
 rw[mC _ _ q10,aa,eY,eY,A9 _ hl,aa,al]
 rfl
theorem rH {n:Nat} (h:n<=2*pE):(am n).length<=900:=by
 have f:(am (2*pE)).length<=900:=by
  refine aA (kc 2 pE) ?_
  have:=jR
  have:(am 2).length<=1:=bc q11
  omega
 exact aA (db h) f
theorem tW (x y:Fe):F.UL (le x) (le y)=some (le (x+y)):=by
 have a:=gz x; have b:=gz y; have c:=x.isLt; have d:=y.isLt
 unfold F.UL
 rw[nX _ _ q10 q10,aa,eY,eY,A9 _ (rH q10),aa,al]
 rfl
theorem yD (x y:Fe):F.U6 (le x) (le y)=some (le (x - y)):=by
 have a:=gz x; have b:=gz y; have c:=x.isLt; have d:=y.isLt; have f:=jR
 have l1:(am (x.val+pE)).length<=900:=rH q10
 unfold F.U6
 rw[qg,aa,nX _ _ q10 q10,aa,eY,al,ku _ _ q10 (by rw[al,eY]; omega),aa,al,eY,A9 _ (rH q10),aa,al]
 unfold le
 rw[Fin.sub_def]
 dsimp only
 congr 3
 omega
theorem Di:F.VG=some (le dE):=by
 unfold F.VG
 unfold le
 rw[<-ng (l:=[324630691,1978355146,1094834347,7342669,2004478104,2361868409,728759923,1375956206]) (n:=dE.val) (by decide +kernel) q11]
theorem RZ:F.ZQ=some (le iE):=by
 unfold F.ZQ
 unfold le
 rw[<-ng (l:=[3052494653,991028440,1389370247,3502041081,3255052376,3568500582,2956861684,1417468799]) (n:=iE.val) (by decide +kernel) q11]
theorem Sg:F.abf=some (le gX,le gY,false):=by
 unfold F.abf
 unfold le
 rw[<-ng (l:=[2401621274,3377868128,2502272946,1764542304,4258716764,3232031281,3446559742,560543443]) (n:=gX.val) (by decide +kernel) q11,
  <-ng (l:=[1717986904,1717986918,1717986918,1717986918,1717986918,1717986918,1717986918,1717986918]) (n:=gY.val) (by decide +kernel) q11]
theorem Mq (s q:Q4):F.VT (le s.1) (le s.2.1) (le s.2.2.1) (le s.2.2.2) (le q.1) (le q.2.1) (le q.2.2.1) (le q.2.2.2)=some (q4 (plE s q)):=by
 unfold F.VT
 rw[yD,aa,yD,aa,kZ,aa,tW,aa,tW,aa,kZ,aa,kZ,aa,Di,aa,aa,tW,aa,kZ,aa,tW,aa,kZ,aa,yD,aa,yD,aa,tW,aa,tW,aa,kZ,aa,kZ,aa,kZ,aa,kZ,aa]
 rfl
theorem r32 (n:Nat) (hn:n<=1000):wI (wI (32*(n:Int)) - 1)=((32*n:Nat):Int) - 1:=by
 rw[ay (x:=32*_) q10 q10,ay q10 q10]; omega
theorem vi (s:Q4) (k:L8) (j:k.length<=1000):∀(i:Nat) (a:Q4),i<=1000000->loop (F.Z8 k (le s.1) (le s.2.1) (le s.2.2.1) (le s.2.2.2)) ((i:Int) - 1,q4 a)=some (q4 (tmR s (val k) i a))
 | 0,a,_=>by
  refine bm ?_
  unfold F.Z8 q4
  dsimp only
  rw[ae q11]; rfl
 | i+1,a,hi=>by
  have z:(((i+1:Nat):Int)) - 1=(i:Int):=by omega
  have w:wI ((i:Int) - 1)=(i:Int) - 1:=ay q10 q10
  rw[z]
  show _=some (q4 (tmR s (val k) i (if val k / 2^i%2=1 then plE (plE a a) s else plE a a)))
  rw[<-vi s k j i _ q10]
  refine bv ?_
  unfold F.Z8 q4
  dsimp only
  rw[af (ah q10),Mq,aa,mM _ _ q10,aa]
  by_cases h:val k / 2^i%2=1
  ·rw[af (ah h),af h]
   have:=Mq (plE a a) s
   unfold q4 at this ⊢
   rw[this,aa]
   unfold F.aan
   dsimp only
   rw[w]; rfl
  ·rw[ae (by rw[aj]; exact h),ae h]
   unfold F.aan q4
   dsimp only
   rw[w]; rfl
theorem I5 (s:Q4) (k:L8) (j:k.length<=1000):F.VJ k (le s.1) (le s.2.1) (le s.2.2.1) (le s.2.2.2)=some (q4 (tmR s (val k) (32*k.length) (0,1,1,0))):=by
 unfold F.VJ
 rw[r32 _ j,aS,<-oO,<-pv]
 exact vi s k j (32*k.length) (0,1,1,0) q10
def pwR (x:Fe) (e:Nat):Nat->Fe->Fe
 | 0,a=>a
 | i+1,a=>pwR x e i (if e / 2^i%2=1 then a*a*x else a*a)
theorem J8 (x:Fe) (e:Nat):∀(i:Nat) (a:Fe),a=jK x (e / 2^i)->pwR x e i a=jK x e
 | 0,a,h=>by
  unfold pwR
  rw[h,dg,iK]
 | i+1,a,h=>by
  unfold pwR
  refine J8 x e i _ ?_
  have j:e / 2^i=2*(e / 2^(i+1))+e / 2^i%2:=by
   have:e / 2^(i+1)=e / 2^i / 2:=by rw[aU,dq]
   omega
  have k:a*a=jK x (2*(e / 2^(i+1))):=by
   rw[h,<-BX,DF]
  generalize e / 2^i=c at *
  generalize e / 2^(i+1)=g at *
  by_cases hb:c%2=1
  ·rw[af hb,k,j,hb]
   apply dI
   rw[gt,kq,kq,cF,eA,<-cF,aU]
  ·have:c%2=0:=by omega
   rw[ae hb,k,j,this,bb]
theorem z8 (x:Fe) (k:L8) (j:k.length<=1000):∀(i:Nat) (a:Fe),i<=1000000->loop (F.aa7 (le x) k) (le a,(i:Int) - 1)=some (le (pwR x (val k) i a))
 | 0,a,_=>by
  refine bm ?_
  unfold F.aa7
  dsimp only
  rw[ae q11]; rfl
 | i+1,a,hi=>by
  have z:(((i+1:Nat):Int)) - 1=(i:Int):=by omega
  have w:wI ((i:Int) - 1)=(i:Int) - 1:=ay q10 q10
  rw[z]
  show _=some (le (pwR x (val k) i (if val k / 2^i%2=1 then a*a*x else a*a)))
  rw[<-z8 x k j i _ q10]
  refine bv ?_
  unfold F.aa7
  dsimp only
  rw[af (ah q10),kZ,aa,mM _ _ q10,aa]
  by_cases h:val k / 2^i%2=1
  ·rw[af (ah h),af h,kZ,aa]
   unfold F.ZV
   rw[w]; rfl
  ·rw[ae (by rw[aj]; exact h),ae h]
   unfold F.ZV
   rw[w]; rfl
theorem Kp (x:Fe) (k:L8) (j:k.length<=1000):F.Y8 (le x) k=some (le (jK x (val k))):=by
 unfold F.Y8
 rw[r32 _ j,aS,<-oO,z8 x k j (32*k.length) 1 q10,J8]
 have:val k / 2^(32*k.length)=0:=bE (by
  have:=bN k
  rwa [show (4294967296:Nat)=2^32 from rfl,<-bB]at this)
 rw[this]
 apply dI
 rw[kq,dg,rN,av fD.1]
theorem C4 (x:Fe):F.Zl (le x)=some (le (mO x)):=by
 have f:=jR
 have hp:=fD.1
 have j:val ([2]:L8)=2:=rfl
 have k:(am (pE - 2)).length<=8:=aA (db (Nat.sub_le _ _)) f
 unfold F.Zl
 rw[qg,aa,ku _ _ q10 (by rw[al,j]; omega),aa,al,j,Kp _ _ q10,aa,al,LY]
theorem Qn (s:Q4):F.XF (le s.1) (le s.2.1) (le s.2.2.1) (le s.2.2.2)=some (le (ptE s).1,le (ptE s).2,false):=by
 unfold F.XF
 rw[C4,aa,kZ,aa,kZ,aa]; rfl
theorem xG (x:Fe):F.T4 (le x)=some (le x):=by
 have:=gz x
 rw[fX _ q10,eY]; rfl
theorem Nl (x y:Fe) (b:Bool):F.VO (le x) (le y) b=some (q4 (x,y,1,x*y)):=by
 unfold F.VO
 rw[xG,aa,xG,aa,kZ,aa,<-oO]; rfl
theorem MT (x y:Fe):F.T6 (le x) (le y)=some (cW x.val y.val):=by
 have a:=gz x; have b:=gz y
 rw[jj _ _ q10 q10,eY,eY]
theorem Iq (x:Fe):F.T6 (le x) (am pE)=some (-1):=by
 have a:=gz x; have f:=jR
 rw[jj _ _ q10 q10,eY,al]; unfold cW; rw[af x.isLt]
theorem Si (x y:Fe):F.aat (le x) (le y) false=some (onE x y):=by
 unfold F.aat
 rw[ae q11,qg,aa,Iq,aa,ae q11,aa,Iq,aa]
 unfold F.Z9 onE
 dsimp only
 rw[ae q11,xG,aa,xG,aa,kZ,aa,kZ,aa,yD,aa,Di,aa,kZ,aa,kZ,aa,<-oO,tW,aa,MT,aa,Lv]
theorem Dw (x y:UInt32) (t:Nat) (hy:y.toNat<256) (k:t<4) (hx:x.toNat<256^t):(x ||| dB y (8*t)).toNat=x.toNat+y.toNat*256^t:=by
 have j:(256:Nat)^t=2^(8*t):=by rw[show (256:Nat)=2^8 from rfl,<-bB]
 have e:(dB y (8*t)).toNat=y.toNat*2^(8*t):=by
  rw[n8,aT q10,av]
  have z:y.toNat*2^(8*t)<256*2^(8*t):=iA hy (dF q11)
  have A:(256:Nat)*2^(8*t)<=2^32:=by
   rw[show (256:Nat)=2^8 from rfl,<-bu]
   exact aE q11 q10
  omega
 rw[ji,Nat.or_comm,e,qD (8*t) (Nat.mul_mod_left _ _) (by rw[<-j]; exact hx),j,bW]
theorem C0 (l:L00) (c:UInt8):leN (l++[c])=leN l+c.toNat*256^l.length:=by
 unfold leN
 have j:beN [c]=c.toNat:=by simp[beN]
 rw[List.reverse_append,List.reverse_singleton,mu,j,List.length_reverse,bW]
theorem ME (i:Nat):(256:Nat)^i=4294967296^(i / 4)*256^(i%4):=by
 rw[show (4294967296:Nat)=256^4 from rfl,<-bB,<-bu]
 congr 1
 omega
theorem wx {x:L8} {i:Nat} (h:val x<256^i) (j:i / 4<x.length):(x.getD (i / 4) 0).toNat<256^(i%4):=by
 have hs:=qP x (i / 4) j
 rw[ME]at h
 refine Nat.lt_of_mul_lt_mul_left (a:=4294967296^(i / 4)) ?_
 rw[aF]at hs
 omega
theorem sh8 (i:Nat):(UInt64.ofInt (wI (8*(Int.tmod (i:Int) 4)))).toNat=8*(i%4):=by
 have e:Int.tmod (i:Int) 4=((i%4:Nat):Int):=by
  rw[dv q10]; rfl
 rw[e]
 have h:i%4<4:=ba _ q11
 generalize i%4=k at h
 match k,h with
 | 0,_=>rfl
 | 1,_=>rfl
 | 2,_=>rfl
 | 3,_=>rfl
theorem q4i (i:Nat) (hi:i<=4611686018427387904):wI (Int.tdiv (i:Int) 4)=((i / 4:Nat):Int):=by
 rw[bQ q10,ay q10 q10]; rfl
theorem Em (b:L00) (hb:b.length<=1000000):∀(r i:Nat) (x:L8),i+r=b.length->x.length=(b.length+3) / 4->val x=leN (b.take i)->loop (F.Zo b) ((i:Int),x)=some (am (leN b)):=by
 intro r
 induction r with
 | zero=>
  intro i x hi hx j
  refine bm ?_
  unfold F.Zo
  dsimp only
  rw[ae (by rw[aj]; omega),fX _ q10,aa,j,aC q10]
 | succ r ih=>
  intro i x hi hx j
  have k:i<b.length:=by omega
  have z:i / 4<x.length:=by omega
  have A:val x<256^i:=by
   rw[j]
   have:=pN (b.take i)
   rwa [az,aT q10]at this
  have G:=wx A z
  have hm:i%4<4:=ba _ q11
  have hy:(b.getD i 0).toUInt32.toNat<256:=by rw[ea]; exact (b.getD i 0).toNat_lt
  have I:=Dw (x.getD (i / 4) 0) (b.getD i 0).toUInt32 (i%4) hy hm G
  have hs:=gI x (i / 4) (x.getD (i / 4) 0 ||| dB (b.getD i 0).toUInt32 (8*(i%4))) z
  have B:F.Zo b ((i:Int),x)=some (.inl (((i+1:Nat):Int),x.set (i / 4) (x.getD (i / 4) 0 ||| dB (b.getD i 0).toUInt32 (8*(i%4))))):=by
   unfold F.Zo
   dsimp only
   rw[af (ah q10),q4i i q10,aG z 0,aa,aG k 0,aa,aa,aS,sh8,ao,ay q10 q10]
   rfl
  rw[bv B]
  refine ih (i+1) _ q10 (by rw[bM]; exact hx) ?_
  rw[I,ea]at hs
  have J:b.take (i+1)=b.take i++[b.getD i 0]:=by
   rw[gR,ak,aw k]; rfl
  rw[J,C0,az,aT q10,<-j,ME i]
  rw[aF]at hs
  have hc:4294967296^(i / 4)*((b.getD i 0).toNat*256^(i%4))=(b.getD i 0).toNat*(4294967296^(i / 4)*256^(i%4)):=by
   rw[<-aD,<-aD,aP (4294967296^(i / 4))]
  omega
theorem wi:∀n:Nat,val (List.replicate n 0)=0
 | 0=>rfl
 | n+1=>by
  rw[ez]
  rw[kR,wi n]; simp
theorem yG (b:L00) (hb:b.length<=1000000):F.Wr b=some (am (leN b)):=by
 have e:wI (Int.tdiv (wI ((b.length:Int)+3)) 4)=(((b.length+3) / 4:Nat):Int):=by
  rw[ay (x:=(b.length:Int)+3) q10 q10,show (b.length:Int)+3=((b.length+3:Nat):Int) by omega,q4i _ q10]
 unfold F.Wr
 rw[e,fU q10,aa,ao]
 exact Em b hb b.length 0 _ q10 (by rw[aZ]) (by rw[wi]; simp[leN,beN])
theorem y8 (c:UInt8):((nB c 7) == 1)=((c &&& 128) != 0):=by
 have j:∀n:Fin 256,((nB (UInt8.ofNat n.val) 7) == 1)=((UInt8.ofNat n.val &&& 128) != 0):=by decide +kernel
 have h:=j ⟨c.toNat,c.toNat_lt⟩
 simpa using h
theorem DY (x:Fe):(((le x).length:Int) == 0)=decide (x=0):=by
 by_cases h:x=0
 ·rw[h,pv,ah rfl]; rfl
 ·rw[an h,cd]
  intro q
  have:le x=[]:=bA q10
  exact h (P9 (by rw[this,pv]))
theorem Qq {x:Fe} (h:x≠0):am (pE - x.val)=le (0 - x):=by
 unfold le
 rw[Fin.sub_def]
 dsimp only
 have j:(0:Fe).val=0:=rfl
 have k:x.val≠0:=fun q=>h (dI q)
 have z:=x.isLt
 rw[j,bb,av q10]
theorem rK2 (c:UInt8) (x y:Fe) {j:Bool} (k:((c &&& 128) != 0)=j) (h:¬(x=0/\j=true)):F.W6 c (le x) (le y) false=some (le (if decide (x.val%2=1)=j then x else 0 - x),le y,false,0):=by
 have a:=gz x; have f:=jR; have g:=x.isLt
 unfold F.W6
 rw[ae q11,show (0:Int)=((0:Nat):Int) from rfl,mM _ _ q10,aa,eY,dg,iK,y8,k]
 by_cases hb:decide (x.val%2=1)=j
 ·rw[ae (by rw[hb]; simp),af hb]; rfl
 ·have hx:x≠0:=fun q=>by
   subst q
   refine h ⟨rfl,?_⟩
   have z:(0:Fe).val=0:=rfl
   rw[z,show decide (0%2=1)=false from rfl]at hb
   cases j
   ·exact absurd rfl hb
   ·rfl
  rw[af (by rw[bV]; exact hb),qg,aa,ku _ _ q10 (by rw[al,eY]; omega),aa,al,eY,Qq hx,ae hb]; rfl
theorem rK1 (c:UInt8) (xx x y:Fe) {j:Bool} (k:((c &&& 128) != 0)=j):F.YW c (le xx) (le y) (le x) =
  some (CH ((if x*x=xx/\¬(x=0/\j=true) then some (if decide (x.val%2=1)=j then x else 0 - x) else none).map fun u=>(u,y))):=by
 have A:∀a b,F.W6 c a b true=some ([],[],false,93):=fun _ _=>rfl
 unfold F.YW
 dsimp only
 rw[kZ,aa,MT,aa,A6]
 by_cases h1:x*x=xx
 ·rw[ae (by rw[aj]; exact fun q=>q h1),DY]
  by_cases hn:x=0/\j=true
  ·rw[af (ah hn.1),y8,k,hn.2,A,ae (fun q:x*x=xx/\¬(x=0/\true=true)=>q.2 ⟨hn.1,rfl⟩)]; rfl
  ·have z:=rK2 c x y k hn
   rw[af (⟨h1,hn⟩:x*x=xx/\¬(x=0/\j=true))]
   by_cases h0:x=0
   ·have hf:j=false:=by
     cases j
     ·rfl
     ·exact absurd ⟨h0,rfl⟩ hn
    rw[af (ah h0),y8,k]
    rw[hf]at z ⊢
    exact z
   ·rw[ae (by rw[aj]; exact h0)]
    exact z
 ·rw[af (ah h1),A,ae fun q=>h1 q.1]; rfl
theorem zE (b:L00):F.Yz b=some (CH (ow b)):=by
 unfold F.Yz ow
 by_cases h:b.length=32
 ·have hl:(clr b).length=32:=by unfold clr; rw[bM,h]
  have z:=pN (clr b)
  rw[hl]at z
  have R:(am (leN (clr b))).length<=8:=bc (by rw[show (4294967296:Nat)=256^4 from rfl,<-bB]; exact z)
  have f:=jR
  have ha:apO 1 [] b=some b:=by unfold apO; rw[af (by simp; omega)]; rfl
  rw[ae (by rw[h]; simp),af h,ha,aa,show (31:Int)=((31:Nat):Int) from rfl,aG (show 31<b.length by omega) 0,aa,aa,aa,aS,ao]
  have A:b.set 31 (b.getD 31 0 &&& 127)=clr b:=rfl
  rw[A,yG _ q10,aa,qg,aa,jj _ _ q10 q10,aa,al,al,tL]
  by_cases hc:leN (clr b)<pE
  ·rw[ae (by rw[aj]; omega),dif_pos hc]
   have B:am (leN (clr b))=le ⟨leN (clr b),hc⟩:=rfl
   rw[B]
   generalize (⟨leN (clr b),hc⟩:Fe)=y
   have G:val ([3]:L8)=3:=rfl
   have v8:val ([8]:L8)=8:=rfl
   have U:=fD.1
   have V:=fD.2.1
   have I:(am (pE+3)).length<=900:=rH q10
   have J:(am ((pE+3) / 8)).length<=900:=aA (db (dy _ _)) I
   have j:∀E,(pE+3) / 8=E->x1E y=if jK (xxE y) E*jK (xxE y) E=xxE y then jK (xxE y) E else jK (xxE y) E*iE:=fun E hE=>by
    unfold x1E; rw[hE]
   have N:(y*y - 1)*mO (dE*(y*y)+1)=xxE y:=rfl
   rw[kZ,aa,<-oO,yD,aa,Di,aa,kZ,aa,tW,aa,C4,aa,kZ,aa,aa,nX _ _ q10 (by simp),aa,al,G,
    oJ _ _ q10 (by simp) (by rw[v8]; decide),aa,al,v8,N]
   dsimp only
   replace j:=j _ rfl
   generalize (pE+3) / 8=E at J j ⊢
   rw[Kp _ _ q10,aa,al,kZ,aa,MT,aa,A6]
   have k:∀x1:Fe,x1=x1E y->F.YW (b.getD 31 0) (le (xxE y)) (le y) (le x1)=some (CH ((qr y ((b.getD 31 0 &&& 128) != 0)).map fun u=>(u,y))):=fun x1 O=>by
    rw[rK1 _ _ _ _ rfl,O]
    unfold qr
    rfl
   by_cases hs:jK (xxE y) E*jK (xxE y) E=xxE y
   ·rw[ae (by rw[aj]; exact fun q=>q hs)]
    rw[k _ (by rw[j,af hs])]
    cases qr y ((b.getD 31 0 &&& 128) != 0) <;> rfl
   ·rw[af (ah hs),RZ,aa,kZ,aa]
    rw[k _ (by rw[j,ae hs])]
    cases qr y ((b.getD 31 0 &&& 128) != 0) <;> rfl
  ·rw[af (by rw[aj]; omega),dif_neg hc]; rfl
 ·rw[af (by rw[bV]; omega),ae h]; rfl
end Go.Gk.Bn
end
section
namespace Go.Gk.Bn
open Go Go.Gk Go.Gk.Sh
theorem BY (l:L00) (h:l.length≠0):(((l.getD (l.length - 1) 0)%2) == 0)=decide (¬beN l%2=1):=by
 rw[E1,BE l h,cK]
 omega
theorem IC (n e:L00) (hn:n.length<=LB) (he:e.length<=LB):F.aaO n e=some (decide (rV n e)):=by
 unfold LB at hn he
 have j:¬rV n e->some false=some (decide (rV n e)):=fun q=>by rw[an q]
 have k:F.W2 n e true=some false:=rfl
 have B:F.Yi e true=some false:=rfl
 have z:F.W8 e true=some false:=rfl
 unfold F.aaO
 by_cases c1:n.length<256
 ·rw[af (ah q10),k]; exact j fun q=>by have:=q.1; omega
 rw[ae (by rw[aj]; omega)]
 by_cases c2:512<n.length
 ·rw[af (ah q10),k]; exact j fun q=>by have:=q.2.1; omega
 rw[ae (by rw[aj]; omega),show (0:Int)=((0:Nat):Int) from rfl,aG (show 0<n.length by omega) 0,aa,qK]
 by_cases c3:(n.getD 0 0).toNat=0
 ·rw[af (ah c3),k]; exact j fun q=>q.2.2.1 c3
 rw[ae (by rw[aj]; exact c3),ay q10 q10,show (n.length:Int) - 1=((n.length - 1:Nat):Int) by omega,aG (show n.length - 1<n.length by omega) 0,aa,BY n q10]
 by_cases c4:beN n%2=1
 ·rw[an (fI c4)]
  have A:F.Yi e false=some (decide (1<=e.length/\e.length<=4/\(e.getD 0 0).toNat≠0/\beN e%2=1/\(1<e.length\/3<=(e.getD 0 0).toNat))):=by
   unfold F.Yi
   rw[ae q11]
   by_cases d1:e.length<1
   ·rw[af (ah q10),z,an fun q=>by have:=q.1; omega]
   rw[ae (by rw[aj]; omega)]
   by_cases d2:4<e.length
   ·rw[af (ah q10),z,an fun q=>by have:=q.2.1; omega]
   rw[ae (by rw[aj]; omega),show (0:Int)=((0:Nat):Int) from rfl,aG (show 0<e.length by omega) 0,aa,qK]
   by_cases d3:(e.getD 0 0).toNat=0
   ·rw[af (ah d3),z,an fun q=>q.2.2.1 d3]
   rw[ae (by rw[aj]; exact d3),ay q10 q10,show (e.length:Int) - 1=((e.length - 1:Nat):Int) by omega,aG (show e.length - 1<e.length by omega) 0,aa,BY e q10]
   by_cases d4:beN e%2=1
   ·rw[an (fI d4)]
    unfold F.W8
    rw[ae q11]
    by_cases d5:1<e.length
    ·rw[af (ah q10),ah ⟨by omega,by omega,d3,d4,.inl d5⟩]
    ·rw[ae (by rw[aj]; omega),show (0:Int)=((0:Nat):Int) from rfl,aG (show 0<e.length by omega) 0,aa]
     congr 1
     rw[cK,cT]
     have G:(3:UInt8).toNat=3:=rfl
     rw[G]
     exact⟨fun q=>⟨by omega,by omega,d3,d4,.inr q⟩,fun q=>q.2.2.2.2.elim (fun w=>absurd w d5) id⟩
   ·rw[ah d4,z,an fun q=>d4 q.2.2.2.1]
  unfold F.W2
  rw[ae q11]
  by_cases c5:n.length=256
  ·rw[af (by rw[c5]; rfl),show (0:Int)=((0:Nat):Int) from rfl,aG (show 0<n.length by omega) 0,aa]
   have e8:decide ((n.getD 0 0)<128)=decide ((n.getD 0 0).toNat<128):=by
    rw[cK,UInt8.lt_iff_toNat_lt]
    exact Iff.rfl
   rw[e8]
   by_cases c6:(n.getD 0 0).toNat<128
   ·rw[ah c6,B]; exact j fun q=>by have:=q.2.2.2.2.1 c5; omega
   ·rw[an c6,A]
    congr 1
    rw[cK]
    unfold rV
    exact⟨fun q=>⟨by omega,by omega,c3,c4,fun _=>by omega,q⟩,fun q=>q.2.2.2.2.2⟩
  ·rw[ae (by rw[dh]; omega),A]
   congr 1
   rw[cK]
   unfold rV
   exact⟨fun q=>⟨by omega,by omega,c3,c4,fun w=>absurd w c5,q⟩,fun q=>q.2.2.2.2.2⟩
 ·rw[ah c4,k]; exact j fun q=>c4 q.2.2.2.1
theorem Re (a b c:L00) (ha:a.length<=LB) (hb:b.length<=LB) (hc:c.length<=LB):((wI ((wI ((a.length:Int)+(b.length:Int)))+(c.length:Int))) == 0)=decide (jD [a,b,c]=0):=by
 unfold LB at *
 rw[ay (x:=(a.length:Int)+(b.length:Int)) q10 q10,ay q10 q10,kE,cK]
 unfold jD
 simp only[dm,List.map_nil,List.sum_cons,List.sum_nil]
 omega
theorem Qh (a b c d:L00) (ha:a.length<=LB) (hb:b.length<=LB) (hc:c.length<=LB) (hd:d.length<=LB):wI ((wI ((wI ((a.length:Int)+(b.length:Int)))+(c.length:Int)))+(d.length:Int))=((jD [a,b,c,d]:Nat):Int):=by
 unfold LB at *
 rw[ay (x:=(a.length:Int)+(b.length:Int)) q10 q10,ay (x:=(a.length:Int)+(b.length:Int)+_) q10 q10,ay q10 q10]
 unfold jD
 simp only[dm,List.map_nil,List.sum_cons,List.sum_nil]
 omega
theorem LX (kty crv:Int) (s n e x y:L00) (hs:s.length<=LB) (hn:n.length<=LB) (he:e.length<=LB) (hx:x.length<=LB) (hy:y.length<=LB):F.Zz kty crv s n e x y=some (o9 kty crv s n e x y):=by
 unfold F.Zz o9
 simp only[kE,aj]
 by_cases k1:kty=1
 ·rw[af k1,af k1]
  by_cases c:crv=0
  ·rw[af c]
   by_cases c2:(32:Int)<=(s.length:Int)
   ·rw[af c2]
    by_cases c3:(s.length:Int)<=4096
    ·rw[af c3,Qh n e x y hn he hx hy]
     congr 1
     rw[cK]
     constructor
     ·intro q; exact⟨c,by omega,by omega,by omega⟩
     ·intro q; have:=q.2.2.2; omega
    ·rw[ae c3,an fun q=>c3 (by have:=q.2.2.1; omega)]
   ·rw[ae c2,an fun q=>c2 (by have:=q.2.1; omega)]
  ·rw[ae c,an fun q=>c q.1]
 rw[ae k1,ae k1]
 by_cases k2:kty=2
 ·rw[af k2,af k2]
  by_cases c:crv=0
  ·rw[af c]
   have j:=Re s x y hs hx hy
   rw[kE]at j
   by_cases c2:wI ((wI ((s.length:Int)+(x.length:Int)))+(y.length:Int))=0
   ·have k:jD [s,x,y]=0:=by rw[ah c2]at j; exact of_decide_eq_true j.symm
    rw[af c2,IC n e hn he,aa]
    congr 1
    rw[cK,KJ]
    exact⟨fun q=>⟨c,k,q⟩,fun q=>q.2.2⟩
   ·have k:¬jD [s,x,y]=0:=by rw[an c2]at j; exact of_decide_eq_false j.symm
    rw[ae c2,an fun q=>k q.2.1]
  ·rw[ae c,an fun q=>c q.1]
 rw[ae k2,ae k2]
 by_cases k3:kty=3
 ·rw[af k3,af k3,xu,aa]
  have j:=Re s n e hs hn he
  rw[kE]at j
  by_cases c:(nu crv x y).2.2.2=0
  ·rw[af c,j]
   congr 1
   rw[cK]
   exact⟨fun q=>⟨c,q⟩,fun q=>q.2⟩
  ·rw[ae c,an fun q=>c q.1]
 rw[ae k3,ae k3]
 by_cases k4:kty=4
 ·rw[af k4,af k4]
  have z:F.abi x true=some false:=rfl
  by_cases c:crv=3
  ·rw[ae (by rw[bV]; exact fI c),Qh s n e y hs hn he hy]
   by_cases c2:jD [s,n,e,y]=0
   ·rw[an q10]
    unfold F.abi
    rw[ae q11,zE,aa]
    cases hd:ow x with
    | none=>rw[an fun q=>by cases q.2.2]; rfl
    | some p=>rw[ah ⟨c,c2,rfl⟩]; rfl
   ·rw[ah q10,z,an fun q=>c2 q.2.1]
  ·rw[af (by rw[bV]; exact c),z,an fun q=>c q.1]
 rw[ae k4,ae k4]
theorem Mk (kty crv:Int) (s n e x y:L00) (hs:s.length<=LB) (hn:n.length<=LB) (he:e.length<=LB) (hx:x.length<=LB) (hy:y.length<=LB):F.ZI kty crv s n e x y=some (if o9 kty crv s n e x y=true then 0 else 90):=by
 unfold F.ZI
 rw[LX kty crv s n e x y hs hn he hx hy,aa]
 cases o9 kty crv s n e x y <;> rfl
abbrev Lo:=Int×Int×Int×Int×Int
def LA:Option Lo->Int×Int×Int×Int×Int×Bool
 | some r=>(r.1,r.2.1,r.2.2.1,r.2.2.2.1,r.2.2.2.2,true)
 | none=>(0,0,0,0,0,false)
theorem I2 (a:Int) (l:List Lo) (hl:l.length<=100):∀(n i:Nat),i+n=l.length->loop (F.Wg a l) (i:Int)=some (LA ((l.drop i).find? (fun r=>r.1 == a))):=by
 intro n
 induction n with
 | zero=>
  intro i hi
  refine bm ?_
  unfold F.Wg
  rw[ae (by rw[aj]; omega),bp q10]; rfl
 | succ n ih=>
  intro i hi
  have h:i<l.length:=by omega
  have hd:=bZ h
  by_cases c:(l[i].1 == a)=true
  ·refine bm ?_
   unfold F.Wg
   rw[af (ah q10),jv h,aa,af c,aa,hd,List.find?_cons,c]; rfl
  ·have j:F.Wg a l (i:Int)=some (.inl ((i+1:Nat):Int)):=by
    unfold F.Wg
    rw[af (ah q10),jv h,aa,ae c,ay q10 q10]; rfl
   rw[bv j,ih (i+1) q10,hd,List.find?_cons,Bool.eq_false_iff.2 c]
def xw:List Lo:=[(1,1,0,1,1),(2,1,0,2,1),(3,1,0,3,1),(4,2,0,1,2),(5,2,0,2,2),(6,2,0,3,2),(7,2,0,1,3),(8,2,0,2,3),(9,2,0,3,3),(10,3,1,1,4),(11,3,2,2,4),(12,4,3,0,5)]
theorem FX (a:Int):F.abk a=some (LA (xw.find? (fun r=>r.1 == a))):=by
 have h:=I2 a xw q11 12 0 rfl
 exact h
theorem BN (a:Int):LA (xw.find? (fun r=>r.1 == a))=(if (dr a).1=0 then (0,0,0,0,0,false) else (a,(if (dr a).1=1 then 1 else if (dr a).1=2\/(dr a).1=3 then 2 else if (dr a).1=4 then 3 else 4),(dr a).2.2,(dr a).2.1,(dr a).1,true)):=by
 rcases nv a with (rfl | rfl | rfl | rfl | rfl | rfl | rfl | rfl | rfl | rfl | rfl | rfl) | h
 all_goals first | rfl | skip
 have j:dr a=(0,0,0):=by
  unfold dr
  rw[ae q10,ae q10,ae q10,ae q10,ae q10,ae q10]
 have hf:xw.find? (fun r=>r.1 == a)=none:=by
  rw[List.find?_eq_none]
  intro x hx
  unfold xw at hx
  simp only[aJ,aM,bC]at hx
  rcases hx with rfl | rfl | rfl | rfl | rfl | rfl | rfl | rfl | rfl | rfl | rfl | rfl <;> simp <;> omega
 rw[j,hf]; rfl
theorem zn (a kty crv:Int) (s n e x y:L00):F.Wb a kty crv s n e x y=some (qI a kty crv):=by
 unfold F.Wb
 rw[FX,aa]
 rcases nv a with (rfl | rfl | rfl | rfl | rfl | rfl | rfl | rfl | rfl | rfl | rfl | rfl) | h
 all_goals first
  | (show (if (kty == 1)=true then some true else some false)=some (decide (kty=1)); rw[kE]; by_cases h:kty=1 <;> simp[h])
  | (show (if (kty == 2)=true then some true else some false)=some (decide (kty=2)); rw[kE]; by_cases h:kty=2 <;> simp[h])
  | (show (if (kty == 3)=true then some (crv == 1) else some false)=some (decide (kty=3/\crv=10 - 9)); rw[kE,kE]; by_cases h:kty=3 <;> simp[h])
  | (show (if (kty == 3)=true then some (crv == 2) else some false)=some (decide (kty=3/\crv=11 - 9)); rw[kE,kE]; by_cases h:kty=3 <;> simp[h])
  | (show (if (kty == 4)=true then some (crv == 3) else some false)=some (decide (kty=4/\crv=3)); rw[kE,kE]; by_cases h:kty=4 <;> simp[h])
  | skip
 have j:dr a=(0,0,0):=by
  unfold dr
  rw[ae q10,ae q10,ae q10,ae q10,ae q10,ae q10]
 have hf:qI a kty crv=false:=by
  unfold qI
  rw[ae q10,ae q10,ae q10,ae q10]
 rw[BN,j,hf]
 rfl
end Go.Gk.Bn
end
section
namespace Go.Gk.Bn
open Go Go.Gk Go.Gk.Sh Go.Gk.Pr
theorem EK (b:L00) (hb:b.length<=150000000000000):∀(r i:Nat) (x:L8),i+r=b.length->x.length=(b.length+3) / 4->val x=leN (b.reverse.take i)->loop (F.XL b) ((i:Int),x)=some (am (leN b.reverse)):=by
 intro r
 induction r with
 | zero=>
  intro i x hi hx j
  refine bm ?_
  unfold F.XL
  dsimp only
  rw[ae (by rw[aj]; omega),fX _ q10,aa,j,aC (by rw[List.length_reverse]; omega)]
 | succ r ih=>
  intro i x hi hx j
  have z:i<b.length:=by omega
  have k:i / 4<x.length:=by omega
  have A:val x<256^i:=by
   rw[j]
   have:=pN (b.reverse.take i)
   rwa [az,aT (by rw[List.length_reverse]; omega)]at this
  have G:=wx A k
  have hm:i%4<4:=ba _ q11
  have hy:(b.getD (b.length - 1 - i) 0).toUInt32.toNat<256:=by rw[ea]; exact (b.getD (b.length - 1 - i) 0).toNat_lt
  have I:=Dw (x.getD (i / 4) 0) (b.getD (b.length - 1 - i) 0).toUInt32 (i%4) hy hm G
  have hs:=gI x (i / 4) (x.getD (i / 4) 0 ||| dB (b.getD (b.length - 1 - i) 0).toUInt32 (8*(i%4))) k
  have B:F.XL b ((i:Int),x)=some (.inl (((i+1:Nat):Int),x.set (i / 4) (x.getD (i / 4) 0 ||| dB (b.getD (b.length - 1 - i) 0).toUInt32 (8*(i%4))))):=by
   unfold F.XL
   dsimp only
   rw[af (ah q10),aS,ay (x:=(b.length:Int) - 1) q10 q10,ay (x:=(b.length:Int) - 1 - (i:Int)) q10 q10,show (b.length:Int) - 1 - (i:Int)=((b.length - 1 - i:Nat):Int) by omega,q4i i q10,aG k 0,aa,aG (show b.length - 1 - i<b.length by omega) 0,aa,aa,aS,sh8,ao,ay q10 q10]
   rfl
  rw[bv B]
  refine ih (i+1) _ q10 (by rw[bM]; exact hx) ?_
  rw[I,ea]at hs
  have J:b.reverse.take (i+1)=b.reverse.take i++[b.getD (b.length - 1 - i) 0]:=by
   rw[gR,List.getElem?_reverse z,ak,aw (show b.length - 1 - i<b.length by omega)]; rfl
  rw[J,C0,az,aT (by rw[List.length_reverse]; omega),<-j,ME i]
  rw[aF]at hs
  have hc:4294967296^(i / 4)*((b.getD (b.length - 1 - i) 0).toNat*256^(i%4))=(b.getD (b.length - 1 - i) 0).toNat*(4294967296^(i / 4)*256^(i%4)):=by
   rw[<-aD,<-aD,aP (4294967296^(i / 4))]
  omega
theorem uk (b:L00) (hb:b.length<=140737488351232):F.Wx b=some (am (beN b)):=by
 have e:wI (Int.tdiv (wI ((b.length:Int)+3)) 4)=(((b.length+3) / 4:Nat):Int):=by
  rw[ay (x:=(b.length:Int)+3) q10 q10,show (b.length:Int)+3=((b.length+3:Nat):Int) by omega,q4i _ q10]
 have j:leN b.reverse=beN b:=by unfold leN; rw[List.reverse_reverse]
 unfold F.Wx
 rw[e,fU q10,aa,ao,<-j]
 exact EK b q10 b.length 0 _ q10 (by rw[aZ]) (by rw[wi]; simp[leN,beN])
theorem EJ (a:L8):∀(r k:Nat),k<=1000000000000000->k=nb (val a)+r->loop (F.YS a) (k:Int)=some ((nb (val a):Nat):Int):=by
 intro r
 induction r with
 | zero=>
  intro k A e
  refine bm ?_
  unfold F.YS
  by_cases h0:k=0
  ·rw[ae (by rw[aj]; omega)]
   unfold F.WY
   rw[ae q11,e,bb]
  ·obtain⟨b1,B⟩:=fi (val a)
   have G:val a≠0:=fun q=>by rw[q,lU]at e; omega
   obtain⟨I,N⟩:=B G
   have j:val a / 2^(k - 1)%2=1:=by
    have hp:2^k=2^(k - 1)*2:=by rw[<-aU]; congr 1; omega
    rw[bb]at e
    rw[<-e]at b1 I
    have J:val a / 2^(k - 1)=1:=by
     refine Nat.div_eq_of_lt_le q10 q10
    rw[J]
   rw[af (ah q10),ay q10 q10,show (k:Int) - 1=((k - 1:Nat):Int) by omega,mM _ _ q10,aa,j]
   unfold F.WY
   rw[ae q11,e,bb]
 | succ r ih=>
  intro k A e
  obtain⟨b1,_⟩:=fi (val a)
  have z:val a<2^(k - 1):=aO b1 (aE q11 q10)
  rw[<-ih (k - 1) q10 q10]
  refine bv ?_
  unfold F.YS
  rw[af (ah q10),ay q10 q10,show (k:Int) - 1=((k - 1:Nat):Int) by omega,mM _ _ q10,aa,bE z]
  unfold F.WY
  rw[af q11,ay q10 q10,show (k:Int) - 1=((k - 1:Nat):Int) by omega]
  rfl
theorem NO (a:L8) (ha:a.length<=10000000000):F.abD a=some ((nb (val a):Nat):Int):=by
 have hb:nb (val a)<=32*a.length:=aA (mf _) (bf 32 (bc (bN a)))
 unfold F.abD
 rw[ay q10 q10,aS,show 32*(a.length:Int)=((32*a.length:Nat):Int) by omega]
 exact EJ a (32*a.length - nb (val a)) _ q10 q10
theorem Rc (a:L8) (i:Nat) (hi:i<4*a.length) (hs:a.length<=1000000000000):au a (wI (Int.tdiv (i:Int) 4):Int)=some (a.getD (i / 4) 0):=by
 rw[q4i i q10,aG q10 0]
theorem Mn (v i:Nat):v%256^(i+1)=v%256^i+v / 256^i%256*256^i:=by
 rw[aU,Nat.mod_mul,aP (256^i)]
theorem Pi (k v i:Nat) (hi:i<k):(beB k (v%256^i)).set (k - 1 - i) (UInt8.ofNat (v / 256^i))=beB k (v%256^(i+1)):=by
 apply ew (by rw[bM,gl,gl])
 intro j I z
 rw[gl]at z
 have g:∀n,∀h:j<(beB k n).length,(beB k n)[j]=UInt8.ofNat (n / 256^(k - 1 - j)):=fun n h=>by
  have:=wl k n j z
  rwa [ak,aw h,Option.getD_some]at this
 rw[g _ (by rw[gl]; exact z)]
 by_cases hj:k - 1 - i=j
 ·subst hj
  rw[List.getElem_set_self,show k - 1 - (k - 1 - i)=i by omega]
  apply cO.1
  have hp:256^(i+1)=256^i*256:=aU ..
  rw[cp,cp,hp,Nat.mod_mul_right_div_self,show (2:Nat)^8=256 from rfl,eA]
 ·rw[List.getElem_set_ne hj,g _ (by rw[gl]; exact z)]
  apply cO.1
  rw[cp,cp,show (2:Nat)^8=256 from rfl]
  obtain⟨t,B⟩:∃t,k - 1 - j=t:=⟨_,rfl⟩
  rw[B]
  rcases cI t i with q | q
  ·
   have e:∀m,t<m->v%256^m / 256^t%256=v / 256^t%256:=fun m hm=>by
    have A:256^m=256^t*(256*256^(m - t - 1)):=by rw[<-Nat.pow_succ',<-bu]; congr 1; omega
    rw[A,Nat.mod_mul_right_div_self,Nat.mod_mul_right_mod]
   rw[e i q,e (i+1) q10]
  ·have G:i+1<=t:=by omega
   have hz:∀m,m<=t->v%256^m / 256^t=0:=fun m hm=>bE (aO (ba _ (dF q11)) (aE q11 hm))
   rw[hz i q10,hz (i+1) G]
theorem KV (k:Nat):beB k 0=List.replicate k 0:=by
 have:=Ov (v:=0) (k:=0) (m:=k) q11 q10
 rw[<-this,fW]; exact dS _
theorem B7 (a:L8) (size:Nat) (ha:a.length<=1000000000) (hs:size<=1000000000):∀(r i:Nat),i+r=4*a.length->val a%256^i<256^size->loop (F.Yy a (size:Int)) ((i:Int),beB size (val a%256^i))=some (if val a<256^size then (beB size (val a),true) else ([],false)):=by
 have A:val a<256^(4*a.length):=by
  rw[bB,show (256:Nat)^4=4294967296 from rfl]; exact bN a
 have w0:wI (4*(a.length:Int))=((4*a.length:Nat):Int):=by rw[ay q10 q10]; omega
 intro r
 induction r with
 | zero=>
  intro i e z
  have:i=4*a.length:=by omega
  subst this
  rw[av A]at z ⊢
  refine bm ?_
  unfold F.Yy
  dsimp only
  rw[w0,ae (by rw[aj]; omega),af z]
 | succ r ih=>
  intro i e z
  have j:=Mn (val a) i
  have I:((cq (a.getD (i / 4) 0) (8*(i%4))) &&& 255).toUInt8=UInt8.ofNat (val a / 256^i):=by rw[uP,qW]
  have k:∀(X:Option ((Int×L00)⊕(L00×Bool))),(if (decide ((i:Int)<(size:Int)))=true then
     ag (au (beB size (val a%256^i)) (wI ((wI ((size:Int) - 1)) - (i:Int)):Int)) fun R=>
     bD ((beB size (val a%256^i)).set (wI ((wI ((size:Int) - 1)) - (i:Int)):Int).toNat (UInt8.ofNat (val a / 256^i))) fun B=>F.Xc (i:Int) B
    else if (UInt8.ofNat (val a / 256^i) != 0)=true then bz (some ([],false)) else F.Xc (i:Int) (beB size (val a%256^i)))=X->F.Yy a (size:Int) ((i:Int),beB size (val a%256^i))=X:=fun X hX=>by
   rw[<-hX]
   unfold F.Yy
   dsimp only
   rw[w0,af (ah q10),Rc a i q10 q10,aa,sh8,aS,I]
  by_cases hi:i<size
  ·have J:val a%256^(i+1)<256^size:=aO (ba _ (dF q11)) (aE q11 q10)
   rw[<-ih (i+1) q10 J]
   refine bv (k _ ?_)
   rw[af (ah q10),ay (x:=(size:Int) - 1) q10 q10,ay q10 q10,show (size:Int) - 1 - (i:Int)=((size - 1 - i:Nat):Int) by omega,aG (by rw[gl]; omega) 0,aa,aS,ao,Pi size _ i hi]
   unfold F.Xc
   rw[ay q10 q10]
   rfl
  ·have N:256^size<=256^i:=aE q11 q10
   by_cases hz:val a / 256^i%256=0
   ·have G:UInt8.ofNat (val a / 256^i)=0:=by apply cO.1; rw[cp,show (2:Nat)^8=256 from rfl,hz]; rfl
    rw[hz,eW,bb]at j
    rw[<-ih (i+1) q10 (by rw[j]; exact z)]
    refine bv (k _ ?_)
    rw[ae (by rw[aj]; omega),G,ae q11,j]
    unfold F.Xc
    rw[ay q10 q10]
    rfl
   ·have G:UInt8.ofNat (val a / 256^i)≠0:=fun q=>by
     have:=cD UInt8.toNat q
     rw[cp,show (2:Nat)^8=256 from rfl]at this
     exact hz this
    have O:¬val a<256^size:=fun q=>by
     rw[bE (aO q N)]at hz; exact hz rfl
    refine bm (k _ ?_)
    rw[ae (by rw[aj]; omega),af (by rw[bV]; exact G),ae O]
theorem La (a:L8) (size:Nat) (ha:a.length<=1000000000) (hs:size<=1000000000):F.ab0 a (size:Int)=some (if val a<256^size then (beB size (val a),true) else ([],false)):=by
 have:=B7 a size ha hs (4*a.length) 0 q10 (by rw[dg,Nat.mod_one]; exact dF q11)
 unfold F.ab0
 rw[fU q10,aa,ao,<-KV]
 rw[dg,Nat.mod_one]at this
 exact this
def mkN (h:Int) (s:L00) (n:Nat):L00:=(List.range n).map (mk1 h s)
theorem kM (h:Int) (s:L00) (n:Nat):(mkN h s n).length=n:=by simp[mkN]
theorem E5 {h:Int} {s:L00} {n i:Nat} (hi:i<n):(mkN h s n).getD i 0=mk1 h s i:=by simp[mkN,List.getD,hi]
theorem Bd (h:Int) (s:L00) {n m:Nat} (hn:n<=m):(mkN h s m).take n=mkN h s n:=by
 unfold mkN
 rw[<-List.map_take,List.take_range,aT hn]
theorem OQ (h:Int) (s:L00) (c:Nat):mkN h s (c*Sz h)++mkB h s c=mkN h s ((c+1)*Sz h):=by
 have hz:=(jn h).1
 have k:(mkB h s c).length=Sz h:=jg _ _
 apply ew
 ·rw[aR,kM,kM,k,bd,ci]
 intro i I z
 rw[kM,bd,ci]at z
 have A:(mkN h s ((c+1)*Sz h))[i]=mk1 h s i:=by simp[mkN]
 rw[A]
 rcases cI i (c*Sz h) with q | q
 ·rw[List.getElem_append_left (by rw[kM]; exact q)]; simp[mkN]
 ·rw[List.getElem_append_right (by rw[kM]; exact q)]
  have j:i=Sz h*c+(i - c*Sz h):=by rw[aP]; omega
  have hl:i - c*Sz h<Sz h:=by omega
  have:mk1 h s i=(mkB h s c).getD (i - c*Sz h) 0:=by
   unfold mk1
   have B:i / Sz h=c:=by rw[j,Nat.mul_add_div q10,bE hl,bb]
   have G:i%Sz h=i - c*Sz h:=by
    conv=>lhs; rw[j]
    rw[Nat.mul_add_mod,av hl]
   rw[B,G]
  rw[this,ak]
  simp only[kM]
  rw[aw q10,Option.getD_some]
theorem SB (c:Nat) (hc:c<=1000000):[UInt8.ofInt (kV (c:Int) 24),UInt8.ofInt (n7 (kV (c:Int) 16) 255),UInt8.ofInt (n7 (kV (c:Int) 8) 255),UInt8.ofInt (n7 (c:Int) 255)]=c4B (UInt32.ofNat c):=by
 have hn:∀n:Nat,UInt8.ofInt (n:Int)=UInt8.ofNat n:=fun n=>by
  apply cO.1
  simp only[UInt8.ofInt,cp]
  omega
 have ha:∀n:Nat,n<=1000000->n7 (n:Int) 255=((n%256:Nat):Int):=fun n h=>by
  have:=wr n 255 q10 q11
  rw[show (255:Nat)=2^8 - 1 from rfl,LS]at this
  exact this
 have hs:∀k,k<=32->(cq (UInt32.ofNat c) k).toUInt8=UInt8.ofNat (c / 2^k):=fun k j=>by
  apply cO.1
  rw[fb,lP,aT j,cV,cp,av (show c<2^32 by omega)]
 have hd:∀k,c / 2^k<=1000000:=fun k=>aA (dy _ _) hc
 have z:(UInt32.ofNat c).toUInt8=UInt8.ofNat c:=by
  apply cO.1
  rw[fb,cV,cp,av (show c<2^32 by omega)]
 have hm:∀n,UInt8.ofNat (n%256)=UInt8.ofNat n:=fun n=>by
  apply cO.1
  rw[cp,cp,show (2:Nat)^8=256 from rfl,eA]
 unfold c4B
 rw[pn _ _ q11,pn _ _ q11,pn _ _ q11,ha _ (hd 16),ha _ (hd 8),ha _ hc,hn,hn,hn,hn,hm,hm,hm,hs 24 q11,hs 16 q11,hs 8 q11,z]
theorem Eb (h:Int) (hh:isH h) (s:L00) (n:Nat) (hs:s.length<=1000000) (hn:n<=100000):∀(r c:Nat),n<=(c+r)*Sz h->c*Sz h<=n+Sz h->loop (F.YT h s (n:Int)) (mkN h s (c*Sz h),(c:Int))=some (mkN h s n):=by
 have hz:=jn h
 intro r
 induction r with
 | zero=>
  intro c j hc
  rw[bb]at j
  refine bm ?_
  unfold F.YT
  dsimp only
  rw[kM,ae (by rw[aj]; omega),grd_true _ q10,ao,Bd h s q10]
 | succ r ih=>
  intro c j hc
  by_cases hl:c*Sz h<n
  ·have z:c<=c*Sz h:=dX c q10
   have A:c<=100000:=by omega
   have k:(dT h (s++c4B (UInt32.ofNat c))).length=Sz h:=jg _ _
   rw[<-ih (c+1) (by rw[Nat.add_right_comm]at *; exact j) (by rw[bd,ci]; omega)]
   refine bv ?_
   unfold F.YT
   dsimp only
   rw[kM,af (ah q10),kC (by simp; omega),aa,cZ,SB c q10,kC (by simp[c4B]; omega),aa,lh h hh _ (by simp[c4B]; omega),aa,kC (by rw[kM,k]; omega),aa,ay q10 q10]
   have e:dT h (s++c4B (UInt32.ofNat c))=mkB h s c:=rfl
   rw[e,OQ]
   rfl
  ·refine bm ?_
   unfold F.YT
   dsimp only
   rw[kM,ae (by rw[aj]; omega),grd_true _ q10,ao,Bd h s q10]
theorem Fl (h:Int) (hh:isH h) (s:L00) (n:Nat) (hs:s.length<=1000000) (hn:n<=100000):F.Xv h s (n:Int)=some (mkN h s n):=by
 have hz:=jn h
 have:=Eb h hh s n hs hn n 0 (by rw[bn]; exact dX n q10) q10
 rw[eW]at this
 unfold F.Xv
 exact this
theorem Kh (h:Int) (hh:isH h) (d s:L00) (hd:d.length<=1000000) (hs:s.length<=1000000):F.aby h d s=some (dT h (List.replicate 8 0++(d++s))):=by
 unfold F.aby
 rw[fU q11,aa,show (8:Int).toNat=8 from rfl,kC (by simp; omega),aa,kC (by simp; omega),aa,lh h hh _ (by simp; omega),aa,bh]
end Go.Gk.Bn
end
section
namespace Go.Gk.Bn
open Go Go.Gk Go.Gk.Sh
theorem b8 {a b:UInt8} (h:∀i,a.toNat.testBit i=b.toNat.testBit i):a=b:=cO.1 (Nat.eq_of_testBit_eq h)
theorem uu (a b:UInt8) (i:Nat):(a ^^^ b).toNat.testBit i=(a.toNat.testBit i ^^ b.toNat.testBit i):=by rw[UInt8.toNat_xor,Nat.testBit_xor]
theorem og (a b:UInt8) (i:Nat):(a &&& b).toNat.testBit i=(a.toNat.testBit i&&b.toNat.testBit i):=by rw[UInt8.toNat_and,Nat.testBit_and]
theorem C2 (a m:UInt8):a ^^^ m ^^^ m=a:=b8 fun i=>by
 rw[uu,uu]; cases a.toNat.testBit i <;> cases m.toNat.testBit i <;> rfl
theorem Dt (a m x:UInt8):(((a ^^^ m) &&& x) ^^^ m) &&& x=a &&& x:=b8 fun i=>by
 rw[og,uu,og,uu,og]; cases a.toNat.testBit i <;> cases m.toNat.testBit i <;> cases x.toNat.testBit i <;> rfl
theorem DM (x:UInt8) (i:Nat) (hi:i<8):(~~~ x).toNat.testBit i = !x.toNat.testBit i:=by
 have:(~~~ x).toNat=2^8 - 1 - x.toNat:=by rw[UInt8.toNat_not]
 rw[this,Nat.sub_sub,bW,Nat.testBit_two_pow_sub_succ x.toNat_lt,ah hi,fH]
theorem NE (a:UInt8) (i:Nat) (hi:¬i<8):a.toNat.testBit i=false:=Nat.testBit_lt_two_pow (aO a.toNat_lt (aE (n:=2) q11 (show 8<=i by omega)))
theorem Cz (a x:UInt8):(a &&& ~~~ x)=0↔a &&& x=a:=by
 constructor
 ·intro h
  refine b8 fun i=>?_
  rw[og]
  by_cases hi:i<8
  ·have j:=cD (fun y:UInt8=>y.toNat.testBit i) h
   simp only[og,DM x i hi]at j
   have k:(0:UInt8).toNat.testBit i=false:=Nat.zero_testBit i
   rw[k]at j
   revert j
   cases a.toNat.testBit i <;> cases x.toNat.testBit i <;> decide
  ·rw[NE a i hi]; rfl
 ·intro h
  refine b8 fun i=>?_
  have k:(0:UInt8).toNat.testBit i=false:=Nat.zero_testBit i
  rw[og,k]
  by_cases hi:i<8
  ·have j:=cD (fun y:UInt8=>y.toNat.testBit i) h
   simp only[og]at j
   rw[DM x i hi]
   revert j
   cases a.toNat.testBit i <;> cases x.toNat.testBit i <;> decide
  ·rw[NE a i hi]; rfl
theorem MM (b:Nat):0 &&& hiB b=0/\1 &&& hiB b=1:=by
 have h:b%8<8:=ba _ q11
 unfold hiB
 obtain⟨t,j⟩:∃t,b%8=t:=⟨_,rfl⟩
 rw[j]at h ⊢
 have:t=0\/t=1\/t=2\/t=3\/t=4\/t=5\/t=6\/t=7:=by omega
 rcases this with rfl | rfl | rfl | rfl | rfl | rfl | rfl | rfl <;> exact⟨rfl,rfl⟩
def mI (n:Nat) (salt:L00):L00:=(List.replicate n 0++[1])++salt
theorem sA (n:Nat) (j:L00):(mI n j).length=n+1+j.length:=by simp[mI]; omega
def qB (h:Int) (d salt:L00):L00:=dT h (List.replicate 8 0++(d++salt))
def kW (b:Nat) (l:L00):L00:=l.set 0 (l.getD 0 0 &&& hiB b)
theorem kS (b:Nat) (l:L00):(kW b l).length=l.length:=bM ..
theorem nq {b:Nat} {l:L00} {i:Nat} (hi:i<l.length):(kW b l).getD i 0=if i=0 then l.getD 0 0 &&& hiB b else l.getD i 0:=by
 unfold kW
 rw[ak,gd]
 by_cases h:0=i
 ·subst h; rw[af rfl,af hi,af rfl]; rfl
 ·rw[ae h,ae (fun q=>h q.symm),ak]
def emD (h:Int) (d salt:L00) (b n:Nat):L00:=
 (kW b (xk h (qB h d salt) (mI n salt) (mI n salt).length)++qB h d salt)++[188]
theorem Se (b:Nat) (hb:b<=1000000):F.aa9 (b:Int)=some (((8 - b%8)%8:Nat):Int):=by
 unfold F.aa9
 have j:Int.tmod (b:Int) 8=((b%8:Nat):Int):=rfl
 rw[j,ay q10 q10,show (8:Int) - ((b%8:Nat):Int)=((8 - b%8:Nat):Int) by omega]
 rfl
theorem Gf (h:Int) (b:Nat) (hb:b<=65536) (j m o:L00) (B:o.length<=100000) (G:0<o.length) (k:j.length<=64) (hm:m=mkN h j o.length):∀(r i:Nat),i+r=o.length ->
  loop (F.Z5 (b:Int) j m) ((i:Int),xk h j o i)=some ((kW b (xk h j o o.length)++j)++[188],0):=by
 intro r
 induction r with
 | zero=>
  intro i e
  have:i=o.length:=by omega
  subst this
  have l1:=jz h j o o.length
  have z:(UInt64.ofInt (((8 - b%8)%8:Nat):Int)).toNat=(8 - b%8)%8:=D7 _ q10
  refine bm ?_
  unfold F.Z5
  dsimp only
  rw[l1,ae (by rw[aj]; omega),show (0:Int)=((0:Nat):Int) from rfl,aG q10 0,aa,Se b q10,aa,aa,z,ao,aS]
  have A:(xk h j o o.length).set 0 ((xk h j o o.length).getD 0 0 &&& nB 255 ((8 - b%8)%8))=kW b (xk h j o o.length):=rfl
  rw[A,kC (by rw[kS]; omega),aa,kC (by rw[aR,kS,gy]; omega),aa]
 | succ r ih=>
  intro i e
  have hi:i<o.length:=by omega
  rw[<-ih (i+1) q10]
  refine bv ?_
  unfold F.Z5
  dsimp only
  rw[jz,af (ah q10),aG (by rw[jz]; exact hi) 0,aa,hm,aG (by rw[kM]; exact hi) 0,aa,aa,aS,E5 hi,ub hi,ae (jW _),ao,H1 hi,ay q10 q10]
  rfl
theorem sL (h:Int) (hh:isH h):F.UH h=some ((Sz h:Nat):Int):=by
 rcases hh with rfl | rfl | rfl <;> rfl
theorem Ju (h:Int) (hh:isH h) (d j:L00) (b n:Nat) (hb:b<=65536) (hd:d.length=Sz h) (hs:j.length=Sz h) (hn:(b+7) / 8=n+2*Sz h+2) :
  F.aaj h d j (b:Int)=some (emD h d j b n,0):=by
 have hz:=jn h
 have k:wI (Int.tdiv (wI ((b:Int)+7)) 8)=(((b+7) / 8:Nat):Int):=by
  rw[ay (x:=(b:Int)+7) q10 q10,show (b:Int)+7=((b+7:Nat):Int) by omega,show Int.tdiv ((b+7:Nat):Int) 8=(((b+7) / 8:Nat):Int) from rfl,ay q10 q10]
 have z:wI (wI (((Sz h:Nat):Int)+(j.length:Int))+2)=((2*Sz h+2:Nat):Int):=by
  rw[hs,ay (x:=((Sz h:Nat):Int)+_) q10 q10,ay q10 q10]; omega
 have A:wI (wI (wI (wI (((n+2*Sz h+2:Nat):Int) - ((Sz h:Nat):Int)) - 1) - (j.length:Int)) - 1)=(n:Int):=by
  have B:wI (((n+2*Sz h+2:Nat):Int) - ((Sz h:Nat):Int))=((n+Sz h+2:Nat):Int):=by rw[ay q10 q10]; omega
  have G:wI (((n+Sz h+2:Nat):Int) - 1)=((n+Sz h+1:Nat):Int):=by rw[ay q10 q10]; omega
  have I:wI (((n+Sz h+1:Nat):Int) - ((Sz h:Nat):Int))=((n+1:Nat):Int):=by rw[ay q10 q10]; omega
  rw[hs,B,G,I,ay q10 q10]; omega
 unfold F.aaj
 rw[sL h hh,aa,ae (by rw[dh]; omega),ae (by rw[aj]; omega),an q10]
 unfold F.acd
 rw[ae q11,k,aS,hn,z,hd,ae (by simp),an q10]
 unfold F.acm
 have O:=sA n j
 have R:(qB h d j).length=Sz h:=jg _ _
 rw[ae q11,Kh h hh d j q10 q10,aa,A,fU q10,aa,ao,kC (by simp; omega),aa,kC (by simp; omega),aa]
 have J:List.replicate n (0:UInt8)++[1]++j=mI n j:=rfl
 have N:dT h (List.replicate 8 0++(d++j))=qB h d j:=rfl
 rw[J,N,Fl h hh _ _ q10 q10,aa]
 have:=Gf h b hb (qB h d j) _ (mI n j) q10 q10 q10 rfl (mI n j).length 0 q10
 rw[E4]at this
 exact this
theorem oY {a b:L00} (hl:a.length=b.length) (h:∀i,i<a.length->a.getD i 0=b.getD i 0):a=b:=by
 apply ew hl
 intro i j k
 have:=h i j
 rwa [ak,aw j,ak,aw k,Option.getD_some,Option.getD_some]at this
theorem Cl {n:Nat} {j:L00} {i:Nat} (hi:i<n+1+j.length):(mI n j).getD i 0=if i<n then 0 else if i=n then 1 else j.getD (i - n - 1) 0:=by
 unfold mI
 by_cases h1:i<n
 ·rw[af h1,ak,eK (by simp; omega),eK (by simp; omega),et,af h1]; rfl
 rw[ae h1]
 by_cases h2:i=n
 ·subst h2
  rw[af rfl,ak,eK (by simp),dL (by simp)]; simp
 ·rw[ae h2,ak,dL (by simp; omega),ak]
  simp only[aR,aZ,gy]
  rw[show i - (n+1)=i - n - 1 by omega]
theorem Pv (X:L00) (b n:Nat) (hX:n<X.length):kW b X=kW b (mI n (X.drop (n+1)))↔(∀i,i<n->(kW b X).getD i 0=0)/\(kW b X).getD n 0=1:=by
 have A:(X.drop (n+1)).length=X.length - n - 1:=by rw[bj]; omega
 have B:(mI n (X.drop (n+1))).length=X.length:=by rw[sA,A]; omega
 obtain⟨z0,G⟩:=MM b
 have z:∀i,i<X.length->(kW b (mI n (X.drop (n+1)))).getD i 0=if i<n then 0 else if i=n then 1 else X.getD i 0:=fun i hi=>by
  rw[nq q10]
  by_cases h0:i=0
  ·subst h0
   rw[af rfl,Cl q10]
   by_cases j:0<n
   ·rw[af j,af j,z0]
   ·rw[ae j,ae j,af q10,af q10,G]
  ·rw[ae h0,Cl q10]
   by_cases j:i<n
   ·rw[af j,af j]
   ·rw[ae j,ae j]
    by_cases k:i=n
    ·rw[af k,af k]
    ·rw[ae k,ae k,ak,dt,ak,show n+1+(i - n - 1)=i by omega]
 constructor
 ·intro h
  constructor
  ·intro i hi; rw[h,z i q10,af hi]
  ·rw[h,z n hX,ae (jW _),af rfl]
 ·rintro⟨j,k⟩
  refine oY (by rw[kS,kS,B]) fun i hi=>?_
  rw[kS]at hi
  rw[z i hi]
  by_cases c1:i<n
  ·rw[af c1,j i c1]
  ·rw[ae c1]
   by_cases c2:i=n
   ·rw[af c2,c2,k]
   ·rw[ae c2,nq hi,ae q10]
theorem L4 (h:Int) (s A B:L00) (b:Nat) (hl:A.length=B.length) (j:0<A.length):A=kW b (xk h s B B.length)↔(A.getD 0 0 &&& ~~~ hiB b)=0/\kW b (xk h s A A.length)=kW b B:=by
 rw[Cz]
 have z:∀i,i<A.length->(xk h s A A.length).getD i 0=A.getD i 0 ^^^ mk1 h s i:=fun i hi=>by rw[ub hi,af hi]
 have G:∀i,i<A.length->(xk h s B B.length).getD i 0=B.getD i 0 ^^^ mk1 h s i:=fun i hi=>by rw[ub q10,af q10]
 constructor
 ·intro e
  have I:∀i,i<A.length->A.getD i 0=if i=0 then (B.getD 0 0 ^^^ mk1 h s 0) &&& hiB b else B.getD i 0 ^^^ mk1 h s i:=fun i hi=>by
   have:=cD (fun l:L00=>l.getD i 0) e
   rw[this,nq (by rw[jz]; omega),G 0 j,G i hi]
  constructor
  ·have:=I 0 j
   rw[af rfl]at this
   rw[this]
   refine b8 fun i=>?_
   rw[og,og]; cases (hiB b).toNat.testBit i <;> simp
  ·refine oY (by rw[kS,kS,jz,hl]) fun i hi=>?_
   rw[kS,jz]at hi
   rw[nq (by rw[jz]; exact hi),nq q10,z 0 j,z i hi,I i hi,I 0 j,af rfl]
   by_cases c:i=0
   ·rw[af c,af c,Dt]
   ·rw[ae c,ae c,ae c,C2]
 ·rintro⟨J,N⟩
  refine oY (by rw[kS,jz,hl]) fun i hi=>?_
  have k:=cD (fun l:L00=>l.getD i 0) N
  rw[nq (by rw[jz]; exact hi),nq q10,z 0 j,z i hi]at k
  rw[nq (by rw[jz]; omega),G 0 j,G i hi]
  by_cases c:i=0
  ·rw[af c]at k ⊢
   rw[af c]at k
   subst c
   -- A0=(B0^m) & x from (A0^m) & x=B0 & x,A0 & x=A0
   have O:(B.getD 0 0 ^^^ mk1 h s 0) &&& hiB b=((B.getD 0 0 &&& hiB b) ^^^ (mk1 h s 0)) &&& hiB b:=b8 fun i=>by
    simp only[og,uu]; cases (B.getD 0 0).toNat.testBit i <;> cases (mk1 h s 0).toNat.testBit i <;> cases (hiB b).toNat.testBit i <;> rfl
   have R:(((A.getD 0 0 ^^^ mk1 h s 0) &&& hiB b) ^^^ (mk1 h s 0)) &&& hiB b=A.getD 0 0 &&& hiB b:=Dt _ _ _
   rw[O,<-k,R,J]
  ·rw[ae c,ae c]at k
   rw[ae c,<-k,C2]
theorem K6 (b:Nat) (l:L00) (n:Nat):(kW b l).drop (n+1)=l.drop (n+1):=by
 unfold kW
 rw[List.drop_set,af (Nat.succ_pos n)]
theorem Qa (h:Int) (d z:L00) (b n:Nat) (hl:z.length=n+2*Sz h+2) :
  z=emD h d ((xk h ((z.drop (n+1+Sz h)).take (Sz h)) (z.take (n+1+Sz h)) (n+1+Sz h)).drop (n+1)) b n ↔
   z.getD (n+1+Sz h+Sz h) 0=188/\(z.getD 0 0 &&& ~~~ hiB b)=0/\sS h d ((z.drop (n+1+Sz h)).take (Sz h)) (sm h z (n+1+Sz h) b) n=true:=by
 have hz:=jn h
 obtain⟨k,Z⟩:∃k,n+1+Sz h=k:=⟨_,rfl⟩
 rw[Z]
 obtain⟨A,hA⟩:∃A,z.take k=A:=⟨_,rfl⟩
 obtain⟨S,hS⟩:∃S,(z.drop k).take (Sz h)=S:=⟨_,rfl⟩
 have R:A.length=k:=by rw[<-hA,az]; omega
 have lS:S.length=Sz h:=by rw[<-hS,az,bj]; omega
 have O:z=(A++S)++[z.getD (k+Sz h) 0]:=by
  have h1:z=z.take (k+Sz h)++z.drop (k+Sz h):=(ch _ _).symm
  have h2:z.take (k+Sz h)=A++S:=by rw[<-hA,<-hS,List.take_add]
  have h3:z.drop (k+Sz h)=[z.getD (k+Sz h) 0]:=by
   rw[bZ q10,List.drop_eq_nil_of_le q10,ak,aw q10]; rfl
  rw[<-h2,<-h3]; exact h1
 have h0:z.getD 0 0=A.getD 0 0:=by
  rw[<-hA,ak,ak,bY,af q10]
 obtain⟨X,hX⟩:∃X,xk h S A k=X:=⟨_,rfl⟩
 have lX:X.length=k:=by rw[<-hX,jz,R]
 have U:sm h z k b=kW b X:=by unfold sm; rw[hA,hS,hX]; rfl
 rw[hA,hS,hX,U,h0]
 obtain⟨j,B⟩:∃j,X.drop (n+1)=j:=⟨_,rfl⟩
 have Y:j.length=Sz h:=by rw[<-B,bj,lX]; omega
 have lB:(mI n j).length=k:=by rw[sA]; omega
 have hT:sS h d S (kW b X) n=true↔(kW b X=kW b (mI n j))/\qB h d j=S:=by
  unfold sS qB
  rw[aj,K6,B,<-B,Pv X b n q10,B]
  exact⟨fun q=>⟨⟨q.1,q.2.1⟩,q.2.2⟩,fun q=>⟨q.1.1,q.1.2,q.2⟩⟩
 have bx:(qB h d j).length=Sz h:=jg _ _
 rw[hT,B]
 have hm:∀s,A=kW b (xk h s (mI n j) (mI n j).length)↔(A.getD 0 0 &&& ~~~ hiB b)=0/\kW b (xk h s A A.length)=kW b (mI n j):=fun s=>L4 h s A (mI n j) b q10 q10
 have hE:z=emD h d j b n↔(A=kW b (xk h (qB h d j) (mI n j) (mI n j).length)/\S=qB h d j)/\z.getD (k+Sz h) 0=188:=by
  constructor
  ·intro q
   rw[O]at q
   unfold emD at q
   obtain⟨J,G⟩:=List.append_inj q (by simp only[aR,kS,jz]; omega)
   obtain⟨I,q4⟩:=List.append_inj J (by simp only[kS,jz]; omega)
   exact⟨⟨I,q4⟩,(List.cons.inj G).1⟩
  ·rintro⟨⟨J,G⟩,I⟩
   rw[O,I,G]
   unfold emD
   rw[<-J]
 rw[hE]
 constructor
 ·rintro⟨⟨J,G⟩,I⟩
  rw[<-G]at J
  obtain⟨V,N⟩:=(hm S).1 J
  rw[R,hX]at N
  exact⟨I,V,N,G.symm⟩
 ·rintro⟨I,V,N,G⟩
  refine⟨⟨?_,G.symm⟩,I⟩
  rw[G]
  refine (hm S).2 ⟨V,?_⟩
  rw[R,hX]; exact N
theorem Gm (k:L00) (w:L00×Int) (hl:w.1.length=k.length) (hb:k.length<=100000):∀(r i:Nat),i+r=k.length->(∀j,j<i->w.1.getD j 0=k.getD j 0)->loop (F.WR k (k.length:Int) w) (i:Int)=some (decide (k=w.1)):=by
 intro r
 induction r with
 | zero=>
  intro i e z
  refine bm ?_
  unfold F.WR
  rw[ae (by rw[aj]; omega),ah]
  exact oY hl.symm fun j A=>(z j q10).symm
 | succ r ih=>
  intro i e z
  by_cases c:w.1.getD i 0=k.getD i 0
  ·rw[<-ih (i+1) q10 fun j A=>by
    rcases cI j i with q | q
    ·exact z j q
    ·rw[show j=i by omega]; exact c]
   refine bv ?_
   unfold F.WR
   rw[af (ah q10),aG q10 0,aa,aG q10 0,aa,c,ae (by simp),ay q10 q10]
   rfl
  ·refine bm ?_
   unfold F.WR
   rw[af (ah q10),aG q10 0,aa,aG q10 0,aa,af (by rw[bV]; exact c),an fun q=>c (by rw[<-q])]
theorem OA (h:Int) (d j:L00) (b n:Nat) (hs:j.length=Sz h):(emD h d j b n).length=n+2*Sz h+2:=by
 have:(qB h d j).length=Sz h:=jg _ _
 unfold emD
 simp only[aR,kS,jz,sA,gy]; omega
theorem Ev (h:Int) (hh:isH h) (d k:L00) (b n:Nat) (hb:b<=65536) (hd:d.length=Sz h) (hn:(b+7) / 8=n+2*Sz h+2) (hl:k.length=n+2*Sz h+2) (s X:L00) (hX:xk h s (k.take (n+1+Sz h)) (n+1+Sz h)=X):∀(r i:Nat),i+r=n+1+Sz h ->
  loop (F.XV h d k (b:Int) ((Sz h:Nat):Int) (mkN h s (n+1+Sz h)) ((n+2*Sz h+2:Nat):Int)) (X.take i,(i:Int))=some (decide (k=emD h d (X.drop (n+1)) b n)):=by
 have hz:=jn h
 have B:(k.take (n+1+Sz h)).length=n+1+Sz h:=by rw[az]; omega
 have z:X.length=n+1+Sz h:=by rw[<-hX,jz,B]
 intro r
 induction r with
 | zero=>
  intro i e
  have:i=n+1+Sz h:=by omega
  subst this
  have A:(X.drop (n+1)).length=Sz h:=by rw[bj,z]; omega
  refine bm ?_
  unfold F.XV
  dsimp only
  rw[kM,ae (by rw[aj]; omega),aC q10,z,ay q10 q10,show ((n+1+Sz h:Nat):Int) - ((Sz h:Nat):Int)=((n+1:Nat):Int) by omega,na q10,aa,Ju h hh d _ b n hb hd A hn,aa]
  dsimp only
  rw[ae q11,<-hl]
  exact cD _ (Gm k (emD h d (X.drop (n+1)) b n,0) (by rw[hl]; exact OA h d _ b n A) q10 k.length 0 q10 (fun j G=>absurd G (Nat.not_lt_zero _)))
 | succ r ih=>
  intro i e
  have hi:i<n+1+Sz h:=by omega
  rw[<-ih (i+1) q10]
  refine bv ?_
  have hg:k.getD i 0 ^^^ mk1 h s i=X.getD i 0:=by
   have:k.getD i 0=(k.take (n+1+Sz h)).getD i 0:=by
    rw[ak,ak,bY,af hi]
   rw[this,<-hX,ub q10,af hi]
  have I:X.take i++[X.getD i 0]=X.take (i+1):=by
   rw[gR,ak,aw q10]; rfl
  unfold F.XV
  dsimp only
  rw[kM,af (ah q10),aG q10 0,aa,aG (by rw[kM]; exact hi) 0,aa,E5 hi,hg,kC (by rw[az,gy]; omega),aa,I,ay q10 q10]
  rfl
theorem LR (h:Int) (hh:isH h) (d j:L00) (b:Nat) (hb:b<=65536) (hd:d.length=Sz h) (R:j.length<=1000000):F.aa6 h d j (b:Int)=some (pa h d j b):=by
 have hz:=jn h
 have z:wI (Int.tdiv (wI ((b:Int)+7)) 8)=(((b+7) / 8:Nat):Int):=by
  rw[ay (x:=(b:Int)+7) q10 q10,show (b:Int)+7=((b+7:Nat):Int) by omega,show Int.tdiv ((b+7:Nat):Int) 8=(((b+7) / 8:Nat):Int) from rfl,ay q10 q10]
 have A:wI (wI (2*((Sz h:Nat):Int))+2)=((2*Sz h+2:Nat):Int):=by rw[ay (x:=2*_) q10 q10,ay q10 q10]; omega
 have k:∀x y,F.XC h j x y d (b:Int) true=some false:=fun _ _=>rfl
 unfold F.aa6 pa
 rw[sL h hh,aa,ae (by rw[dh]; omega),ae (by rw[aj]; omega),ae (by rw[aj]; omega),hd,gM]
 unfold F.WM
 rw[ae q11,z,aS,A]
 by_cases c1:j.length=(b+7) / 8
 ·rw[ae (by rw[c1]; simp)]
  by_cases c2:2*Sz h+2<=(b+7) / 8
  ·obtain⟨n,hn⟩:∃n,(b+7) / 8=n+2*Sz h+2:=⟨(b+7) / 8 - (2*Sz h+2),by omega⟩
   have hl:j.length=n+2*Sz h+2:=by omega
   have B:wI (wI (((n+2*Sz h+2:Nat):Int) - ((Sz h:Nat):Int)) - 1)=((n+1+Sz h:Nat):Int):=by
    rw[ay (x:=((n+2*Sz h+2:Nat):Int) - _) q10 q10,ay q10 q10]; omega
   have G:wI (((n+2*Sz h+2:Nat):Int) - 1)=((n+1+Sz h+Sz h:Nat):Int):=by rw[ay q10 q10]; omega
   have hS:slO j ((n+1+Sz h:Nat):Int) ((n+1+Sz h+Sz h:Nat):Int)=some ((j.drop (n+1+Sz h)).take (Sz h)):=by
    rw[tN q10 q10,show n+1+Sz h+Sz h - (n+1+Sz h)=Sz h by omega]
   have I:((j.drop (n+1+Sz h)).take (Sz h)).length<=1000000:=by rw[az]; omega
   rw[an q10]
   unfold F.XC
   rw[ae q11,hn,B,G,hS,aa,Fl h hh _ _ I q10,aa]
   refine (Ev h hh d j b n hb hd hn hl _ _ rfl (n+1+Sz h) 0 q10).trans ?_
   congr 1
   have hi:=Qa h d j b n hl
   have J:n+2*Sz h+2 - 1=n+1+Sz h+Sz h:=by omega
   have N:n+2*Sz h+2 - Sz h - 1=n+1+Sz h:=by omega
   have O:n+1+Sz h - Sz h - 1=n:=by omega
   rw[J,N,O]
   by_cases q:j.getD (n+1+Sz h+Sz h) 0=188/\(j.getD 0 0 &&& ~~~ hiB b)=0
   ·rw[af ⟨hl,by omega,q.1,q.2⟩]
    cases hB:sS h d ((j.drop (n+1+Sz h)).take (Sz h)) (sm h j (n+1+Sz h) b) n with
    | true=>exact ah (hi.2 ⟨q.1,q.2,hB⟩)
    | false=>exact an fun w=>by have:=(hi.1 w).2.2; rw[hB]at this; cases this
   ·rw[ae fun w=>q ⟨w.2.2.1,w.2.2.2⟩]
    exact an fun w=>q ⟨(hi.1 w).1,(hi.1 w).2.1⟩
  ·rw[ah q10,k,ae fun q=>c2 q.2.1]
 ·rw[af (by rw[bV]; omega),k,ae fun q=>c1 q.1]
theorem Dy (h:Int) (hh:isH h) (n e m j:L00) (hm:m.length<=200000000000000) (k:kg n e) (hs:j.length=n.length) (A:beN j<beN n) :
  F.YD h e m (am (beN n)) (am (beN j)) false=some (if beN j^beN e%beN n<256^((nb (beN n) - 1+7) / 8)/\pa h (dT h m) (beB ((nb (beN n) - 1+7) / 8) (beN j^beN e%beN n)) (nb (beN n) - 1)=true then 0 else 91):=by
 obtain⟨J,z,N,O⟩:=sc k
 have b0:=k.2.2.2.2.2.1.1
 have b1:=k.2.2.2.2.2.1.2
 have ln:=np b1
 have B:(am (beN j)).length<=128:=aA (db (bG A)) ln
 have lx:(am (beN e)).length<=128:=aA (gZ (gS e)) q10
 have hp:beN j^beN e%beN n<beN n:=ba _ q10
 have R:(am (beN j^beN e%beN n)).length<=128:=aA (db (bG hp)) ln
 have G:wI (((nb (beN n):Nat):Int) - 1)=((nb (beN n) - 1:Nat):Int):=by rw[ay q10 q10]; omega
 have I:wI (Int.tdiv (wI (((nb (beN n) - 1:Nat):Int)+7)) 8)=(((nb (beN n) - 1+7) / 8:Nat):Int):=by
  rw[ay (x:=((nb (beN n) - 1:Nat):Int)+7) q10 q10,show ((nb (beN n) - 1:Nat):Int)+7=((nb (beN n) - 1+7:Nat):Int) by omega,show Int.tdiv ((nb (beN n) - 1+7:Nat):Int) 8=(((nb (beN n) - 1+7) / 8:Nat):Int) from rfl,ay q10 q10]
 have hl:=jg h m
 have z:∀b,F.aaz b=some (if b=true then 91 else 0):=fun b=>by cases b <;> rfl
 unfold F.YD
 rw[ae q11,uk e q10,aa,Nj _ _ _ B lx ln (by rw[al]; omega),aa,al,al,al]
 dsimp only
 rw[NO _ q10,aa,al,G,I,La _ _ q10 q10,aa,ae q11,al]
 by_cases c1:beN j^beN e%beN n<256^((nb (beN n) - 1+7) / 8)
 ·rw[af c1]
  dsimp only
  rw[ae q11,lh h hh m hm,aa,LR h hh _ _ _ q10 hl (by rw[gl]; omega),aa,z]
  cases hq:pa h (dT h m) (beB ((nb (beN n) - 1+7) / 8) (beN j^beN e%beN n)) (nb (beN n) - 1) with
  | true=>rw[ae q11,af ⟨c1,rfl⟩]
  | false=>rw[af q11,ae fun q=>by cases q.2]
 ·rw[ae c1]
  dsimp only
  rw[af q11,z,af rfl,ae fun q=>c1 q.1]
theorem JV (h:Int) (n e m j:L00) (hn:n.length<=140737488351232) (he:e.length<=140737488351232) (hm:m.length<=200000000000000) (hs:j.length<=140737488351232):F.aaV h n e m j=some (CR h n e m j):=by
 have k:∀a b,F.YD h e m a b true=some 91:=fun _ _=>rfl
 unfold F.aaV CR
 by_cases hh:isH h
 ·have hz:=jn h
  rw[sL h hh,aa,ae (by rw[dh]; omega),af hh,Ns n e hn he,aa]
  by_cases hk:kg n e
  ·rw[af hk,ae q11,af hk,uk n hn,aa,uk j hs,aa]
   by_cases c1:j.length=n.length
   ·have l1:=eE hs; have G:=eE hn
    rw[ae (by rw[c1]; simp),jj _ _ q10 q10,aa,al,al]
    by_cases c2:beN j<beN n
    ·have:¬0<=cW (beN j) (beN n):=by unfold cW; rw[af c2]; decide
     rw[an this,Dy h hh n e m j hm hk c1 c2,af (show j.length=n.length/\beN j<beN n from⟨c1,c2⟩)]
    ·have:0<=cW (beN j) (beN n):=by unfold cW; rw[ae c2]; split <;> decide
     rw[ah this,ae fun q=>c2 q.2,k]
   ·rw[af (by rw[bV]; omega),ae fun q=>c1 q.1,k]
  ·rw[ae hk,af q11,ae hk]
 ·have z:F.UH h=some 0:=by
   have n1:(h == 1)=false:=by rw[cd]; exact fun q=>hh (.inl q)
   have A:(h == 2)=false:=by rw[cd]; exact fun q=>hh (.inr (.inl q))
   have B:(h == 3)=false:=by rw[cd]; exact fun q=>hh (.inr (.inr q))
   unfold F.UH
   simp only[n1,A,B]
   rfl
  rw[z,aa,af q11,ae hh]
end Go.Gk.Bn
end
section
namespace Go.Gk.Bn
open Go Go.Gk Go.Gk.Sh Go.Gk.Pr
theorem Qy (n:Nat):∀k j:Nat,j<k->(beB k n).reverse.getD j 0=UInt8.ofNat (n / 256^j)
 | 0,j,h=>absurd h (Nat.not_lt_zero _)
 | k+1,j,h=>by
  rw[O1,List.reverse_cons]
  by_cases hj:j<k
  ·rw[ak,eK (by rw[List.length_reverse,gl]; exact hj),<-ak,Qy n k j hj]
  ·have:j=k:=by omega
   subst this
   rw[ak,dL (by rw[List.length_reverse,gl]; exact aq _),List.length_reverse,gl,kv]; rfl
theorem MN (w:UInt32):(w &&& 255).toUInt8=w.toUInt8:=by
 apply cO.1
 rw[fb,fb,UInt32.toNat_and,show (255:UInt32).toNat=2^8 - 1 from rfl,dJ,eA]
theorem OV (x:Fe) (o:L00) (B:o.length=32):(ag (F.Ur (le x) 0) fun j=>
    if j=true then
     ag (au o (31:Int)) fun k=>ag (au o (31:Int)) fun A=>bD (o.set (31:Int).toNat (k ||| 128)) fun z=>F.ab3 z
    else F.ab3 o)=some (if x.val%2=1 then o.set 31 (o.getD 31 0 ||| 128) else o,0):=by
 have a:=gz x
 rw[show (0:Int)=((0:Nat):Int) from rfl,mM _ _ q10,aa,eY,dg,iK]
 by_cases h:x.val%2=1
 ·rw[af (ah h),af h,show (31:Int)=((31:Nat):Int) from rfl,aG (show 31<o.length by omega) 0,aa,aa,aS,ao]; rfl
 ·rw[ae (by rw[aj]; exact h),ae h]; rfl
theorem MV (x y:Fe):∀(r i:Nat) (o:L00),i+r=4*(le y).length->o.length=32->(∀j,j<32->o.getD j 0=if j<i then UInt8.ofNat (y.val / 256^j) else 0) ->
  loop (F.YF (le x) (le y)) ((i:Int),o)=some (pY x y,0):=by
 have a:=gz y
 have B:wI (4*((le y).length:Int))=((4*(le y).length:Nat):Int):=by rw[ay q10 q10]; omega
 intro r
 induction r with
 | zero=>
  intro i o hi z A
  have k:o=(beB 32 y.val).reverse:=by
   apply jw
   intro j
   by_cases h:j<32
   ·have O:=A j h
    have R:=Qy y.val 32 j h
    have V:((beB 32 y.val).reverse).length=32:=by rw[List.length_reverse,gl]
    have G:o.getD j 0=(beB 32 y.val).reverse.getD j 0:=by
     rw[O,R]
     by_cases hlt:j<i
     ·rw[af hlt]
     ·rw[ae hlt]
      have I:=bN (le y)
      rw[eY]at I
      have:y.val / 256^j=0:=bE (aO I (by
       rw[show (4294967296:Nat)=256^4 from rfl,<-bB]
       exact aE q11 q10))
      rw[this]; rfl
    rw[ak,ak,aw q10,aw q10]at G
    rw[aw q10,aw q10]
    exact cD some G
   ·rw[dw q10,dw (by rw[List.length_reverse,gl]; omega)]
  refine bm ?_
  unfold F.YF
  dsimp only
  rw[B,ae (by rw[aj]; omega),OV x o z]
  unfold pY
  rw[<-k]
 | succ r ih=>
  intro i o hi z A
  have U:i / 4<(le y).length:=by omega
  have J:F.YF (le x) (le y) ((i:Int),o)=some (.inl (((i+1:Nat):Int),o.set i (UInt8.ofNat (y.val / 256^i)))):=by
   unfold F.YF
   dsimp only
   rw[B,af (ah q10),q4i i q10,aG U 0,aa,aG (show i<o.length by omega) 0,aa,aS,sh8,MN,qW,eY,ao,ay q10 q10]
   rfl
  rw[bv J]
  refine ih (i+1) _ q10 (by rw[bM]; exact z) ?_
  intro j N
  have:=A j N
  rw[ak]at this ⊢
  by_cases hji:i=j
  ·subst hji
   rw[dp q10,af q10]; rfl
  ·rw[iU hji,this]
   by_cases hlt:j<i
   ·rw[af hlt,af q10]
   ·rw[ae hlt,ae q10]
theorem JW (x y:Fe):F.Yw (le x) (le y) false=some (if onE x y=true then (pY x y,0) else ([],93)):=by
 unfold F.Yw
 rw[Si,aa]
 cases onE x y with
 | false=>rfl
 | true=>
  rw[ae q11,xG,aa,fU q11,aa,af rfl]
  refine MV x y (4*(le y).length) 0 _ q10 (by simp) (fun j h=>?_)
  rw[ae (Nat.not_lt_zero _)]
  show (List.replicate 32 (0:UInt8)).getD j 0=0
  rw[ak,et]
  split <;> rfl
theorem Sj:F.Ze=some (am nE):=by
 unfold F.Ze
 rw[<-ng (l:=[1559614445,1477600026,2734136534,350157278,0,0,0,268435456]) (n:=nE) (by decide +kernel) q11]
theorem LL (x y:Fe):(pY x y).length=32:=by
 unfold pY
 split
 ·rw[bM,List.length_reverse,gl]
 ·rw[List.length_reverse,gl]
theorem HR (e k:L00) (he:e.length=32) (hs:k.length=64):∀(r i:Nat),i+r=32->(∀j,j<i->e.getD j 0=k.getD j 0) ->
  loop (F.Wd k (e,0)) (i:Int)=some (if e=k.take 32 then 0 else 91):=by
 intro r
 induction r with
 | zero=>
  intro i hi z
  have A:e=k.take 32:=by
   apply jw
   intro j
   by_cases h:j<32
   ·have B:=z j q10
    rw[ak,ak,aw q10,aw q10]at B
    rw[List.getElem?_take_of_lt h,aw q10,aw q10]
    exact cD some B
   ·rw[dw q10,dw (by rw[az]; omega)]
  refine bm ?_
  unfold F.Wd
  rw[ae (by rw[aj]; omega),af A]
 | succ r ih=>
  intro i hi z
  by_cases h:e.getD i 0=k.getD i 0
  ·have G:F.Wd k (e,0) (i:Int)=some (.inl ((i+1:Nat):Int)):=by
    unfold F.Wd
    rw[af (ah q10),aG (show i<e.length by omega) 0,aa,aG (show i<k.length by omega) 0,aa,h,ae (by simp),ay q10 q10]
    rfl
   rw[bv G]
   refine ih (i+1) q10 fun j J=>?_
   by_cases hji:j=i
   ·rw[hji]; exact h
   ·exact z j q10
  ·have I:¬e=k.take 32:=fun q=>by
    apply h
    rw[q,ak,ak,List.getElem?_take_of_lt q10]
   refine bm ?_
   unfold F.Wd
   rw[af (ah q10),aG (show i<e.length by omega) 0,aa,aG (show i<k.length by omega) 0,aa,af (by rw[bV]; exact h),ae I]
theorem Px (x:Fe):am ((pE - x.val)%pE)=le (0 - x):=by
 unfold le
 rw[Fin.sub_def]
 rfl
theorem K9 {k:L00} {x y:Fe} (hd:ow k=some (x,y)) (m j:L00):edT k m j=if j.length=64/\leN (j.drop 32)<nE/\onE (rE x y (leN (j.drop 32)) (leN (dT 3 (j.take 32++(k++m)))%nE)).1 (rE x y (leN (j.drop 32)) (leN (dT 3 (j.take 32++(k++m)))%nE)).2=true /\
   pY (rE x y (leN (j.drop 32)) (leN (dT 3 (j.take 32++(k++m)))%nE)).1 (rE x y (leN (j.drop 32)) (leN (dT 3 (j.take 32++(k++m)))%nE)).2=j.take 32 then 0 else 91:=by
 unfold edT
 rw[hd]
theorem Kb (G m z:L00) (hm:m.length<=140737488351232) (hs:z.length<=140737488351232):F.aaF G m z=some (edT G m z):=by
 unfold F.aaF
 rw[zE,aa]
 cases hd:ow G with
 | none=>
  unfold edT
  rw[hd]; rfl
 | some p=>
  obtain⟨x,y⟩:=p
  rw[K9 hd]
  have hp:=B8 hd
  have I:=HZ (Pk hd)
  show (if ((0:Int) != 0)=true then _ else _)=_
  rw[ae q11]
  by_cases h1:z.length=64
  ·have f:=jR
   have J:drO z (32:Int)=some (z.drop 32):=na (k:=32) q10
   have N:tkO z (32:Int)=some (z.take 32):=t9 (k:=32) q10
   have lt:(z.take 32).length=32:=by rw[az]; omega
   have U:(z.drop 32).length=32:=by rw[bj]; omega
   have ln:(am nE).length<=8:=uq (fT sV.2 q11)
   have O:(am (leN (z.drop 32))).length<=8:=bc (by rw[show (4294967296:Nat)=256^4 from rfl,<-bB]; have:=pN (z.drop 32); rwa [U]at this)
   rw[ae (by rw[h1]; simp),J,aa,yG _ q10,aa,Sj,aa,jj _ _ q10 q10,aa,al,al,tL]
   by_cases h2:leN (z.drop 32)<nE
   ·have V:apO 1 [] (z.take 32)=some (z.take 32):=by unfold apO; rw[af (by simp; omega)]; rfl
    have X:apO 1 (z.take 32) G=some (z.take 32++G):=iy q10
    have Y:apO 1 (z.take 32++G) m=some ((z.take 32++G)++m):=iy (by rw[aR]; omega)
    have hS:(dT 3 (z.take 32++(G++m))).length=64:=mW _ _
    rw[ae (by rw[aj]; omega),N,aa,V,aa,X,aa,Y,aa,lh 3 q10 _ (by rw[aR,aR]; omega),aa,bh,
     yG _ q10,aa,aa]
    have Z:(am (leN (dT 3 (z.take 32++(G++m))))).length<=16:=bc (by rw[show (4294967296:Nat)=256^4 from rfl,<-bB]; have:=pN (dT 3 (z.take 32++(G++m))); rwa [hS]at this)
    generalize leN (dT 3 (z.take 32++(G++m)))=K at Z ⊢
    generalize leN (z.drop 32)=s at O h2 ⊢
    have ac:=sV.1
    have hq:(am (K%nE)).length<=8:=aA (db (bG (ba _ q10))) ln
    have hx:=x.isLt
    have lx:(am (pE - x.val)).length<=900:=rH q10
    have ax:=gz x
    rw[oJ _ _ q10 q10 (by rw[al]; omega),aa,al,al,qg,aa]
    show ag (F.Ui (am pE) (le x)) _=_
    rw[ku _ _ q10 (by rw[al,eY]; omega),aa,al,eY,A9 _ lx,aa,al,Px,Sg,aa]
    show ag (F.VO (le gX) (le gY) false) _=_
    rw[Nl,aa]
    show ag (F.VJ (am s) (le ((gX,gY,1,gX*gY):Q4).1) (le ((gX,gY,1,gX*gY):Q4).2.1) (le ((gX,gY,1,gX*gY):Q4).2.2.1) (le ((gX,gY,1,gX*gY):Q4).2.2.2)) _=_
    rw[I5 _ _ q10,aa,al]
    show ag (F.VO (le (0 - x)) (le y) false) _=_
    rw[Nl,aa]
    show ag (F.VJ (am (K%nE)) (le ((0 - x,y,1,(0 - x)*y):Q4).1) (le ((0 - x,y,1,(0 - x)*y):Q4).2.1) (le ((0 - x,y,1,(0 - x)*y):Q4).2.2.1) (le ((0 - x,y,1,(0 - x)*y):Q4).2.2.2)) _=_
    rw[I5 _ _ q10,aa,al]
    have hE:=QY TJ I s (K%nE) (32*(am s).length) (32*(am (K%nE)).length) (mf s) (mf (K%nE))
    generalize tmR (gX,gY,1,gX*gY) s (32*(am s).length) (0,1,1,0)=A at hE ⊢
    generalize tmR (0 - x,y,1,(0 - x)*y) (K%nE) (32*(am (K%nE)).length) (0,1,1,0)=B at hE ⊢
    show ag (F.VT (le A.1) (le A.2.1) (le A.2.2.1) (le A.2.2.2) (le B.1) (le B.2.1) (le B.2.2.1) (le B.2.2.2)) _=_
    rw[Mq,aa]
    show ag (F.XF (le (plE A B).1) (le (plE A B).2.1) (le (plE A B).2.2.1) (le (plE A B).2.2.2)) _=_
    rw[Qn,aa,hE]
    generalize rE x y s (K%nE)=R
    show ag (F.Yw (le R.1) (le R.2) false) _=_
    rw[JW,aa]
    by_cases ho:onE R.1 R.2=true
    ·rw[af ho]
     dsimp only
     rw[ae q11]
     have hc:=HR (pY R.1 R.2) z (LL _ _) h1 32 0 q10 (fun j hj=>absurd hj (Nat.not_lt_zero _))
     refine hc.trans ?_
     by_cases he:pY R.1 R.2=z.take 32
     ·rw[af he,af ⟨h1,h2,ho,he⟩]
     ·rw[ae he,ae fun q=>he q.2.2.2]
    ·rw[ae ho,af q11,ae fun q=>ho q.2.2.1]
   ·rw[af (by rw[aj]; omega),ae fun q=>h2 q.2.1]
  ·rw[af (by rw[bV]; omega),ae fun q=>h1 q.1]
end Go.Gk.Bn
end
section
namespace Go.Gk.Bn
open Go Go.Gk Go.Gk.Sh
theorem EL (x y:L00) (hl:x.length=y.length) (hx:x.length<=1000):∀(r i:Nat),i+r=x.length->(∀j,j<i->x.getD j 0=y.getD j 0)->loop (F.Yn x y) (i:Int)=some (decide (x=y)):=by
 intro r
 induction r with
 | zero=>
  intro i e k
  refine bm ?_
  unfold F.Yn
  rw[ae (by rw[aj]; omega),ah]
  exact oY hl fun j z=>k j q10
 | succ r ih=>
  intro i e k
  by_cases c:x.getD i 0=y.getD i 0
  ·rw[<-ih (i+1) q10 fun j z=>by
    rcases cI j i with q | q
    ·exact k j q
    ·rw[show j=i by omega]; exact c]
   refine bv ?_
   unfold F.Yn
   rw[af (ah q10),aG q10 0,aa,aG q10 0,aa,c,ae (by simp),ay q10 q10]
   rfl
  ·refine bm ?_
   unfold F.Yn
   rw[af (ah q10),aG q10 0,aa,aG q10 0,aa,af (by rw[bV]; exact c),an fun q=>c (by rw[q])]
theorem O2 (x y:L00) (hx:x.length<=1000):F.aax x y=some (decide (x=y)):=by
 unfold F.aax
 by_cases h:x.length=y.length
 ·rw[ae (by simp[h])]
  exact EL x y h hx x.length 0 q10 (fun j z=>absurd z (Nat.not_lt_zero _))
 ·rw[af (by simpa using (fun k=>h q10)),an (fun k=>h (by rw[k]))]
theorem Oa (a:Int) (ha:wO a) (s t g:L00) (hs:s.length<=150000000000000) (j:t.length<=150000000000000):F.aaJ a s t g=some (decide (oS a s t=g)):=by
 have k:=uE a
 have hz:=jn a
 have hl:(oS a s t).length=Sz a:=mW _ _
 unfold F.aaJ
 rw[mY a ha,aa,af (ah q10),EM a ha s t hs j,aa,O2 _ _ q10,aa]
theorem HN (a:Int):(dr a).1=0\/(dr a).1=1\/(dr a).1=2\/(dr a).1=3\/(dr a).1=4\/(dr a).1=5:=by
 rcases nv a with (rfl | rfl | rfl | rfl | rfl | rfl | rfl | rfl | rfl | rfl | rfl | rfl) | j
 all_goals first | decide | skip
 unfold dr
 rw[ae q10,ae q10,ae q10,ae q10,ae q10,ae q10]; exact .inl rfl
theorem PB {a kty crv:Int} (h:qI a kty crv=true) (j:(dr a).1=4):crv=(dr a).2.2:=by
 rcases nv a with (rfl | rfl | rfl | rfl | rfl | rfl | rfl | rfl | rfl | rfl | rfl | rfl) | k
 all_goals first
  | exact absurd j q11
  | exact (of_decide_eq_true h).2
  | skip
 unfold dr at j
 rw[ae q10,ae q10,ae q10,ae q10,ae q10,ae q10]at j
 exact absurd j q11
theorem vq (a kty crv:Int) (s n e x y m j:L00) (r:Int×Int×Int×Int×Int×Bool) (z:r.2.2.2.1=(dr a).2.1) (A:r.2.2.2.2.1=(dr a).1) (G:(dr a).1≠0) (hf:qI a kty crv=true) (hs:s.length<=LB) (hn:n.length<=LB) (he:e.length<=LB) (hm:m.length<=LB) (hg:j.length<=LB) :
  F.V6 crv s n e x y m j r false=some (if xQ (dr a) s n e x y m j=true then 0 else 91):=by
 unfold LB at hs hn he hm hg
 have k:∀b,F.VD b=some (if b=true then 0 else 91):=fun b=>by cases b <;> rfl
 unfold F.V6 xQ
 rw[ae q11,kC (by rw[fw]; omega),aa,cZ,z,A]
 simp only[kE,aj]
 by_cases c1:(dr a).1=1
 ·rw[af c1,af c1,Oa _ (ri c1) _ _ _ q10 q10,aa,k]
 rw[ae c1,ae c1]
 by_cases c2:(dr a).1=2
 ·rw[af c2,af c2,MY _ _ _ _ _ hn he q10 hg,aa,k]
 rw[ae c2,ae c2]
 by_cases c3:(dr a).1=3
 ·rw[af c3,af c3,JV _ _ _ _ _ hn he q10 hg,aa,k]
 rw[ae c3,ae c3]
 by_cases c4:(dr a).1=4
 ·rw[af c4,af c4,Gg _ _ _ _ _ _ q10 hg,aa,k,<-PB hf c4]
 rw[ae c4,ae c4]
 have B:(dr a).1=5:=by have:=HN a; omega
 rw[af B,Kb _ _ _ q10 hg,aa,k]
theorem vV (a kty crv:Int) (s n e x y m j:L00) (hs:s.length<=LB) (hn:n.length<=LB) (he:e.length<=LB) (hx:x.length<=LB) (hy:y.length<=LB) (hm:m.length<=LB) (hg:j.length<=LB):F.V3 a kty crv s n e x y m j=some (tH a kty crv s n e x y m j):=by
 unfold F.V3 tH
 rw[FX,aa,BN]
 by_cases k0:(dr a).1=0
 ·rw[af k0,af k0]; rfl
 rw[ae k0,ae k0]
 dsimp only
 rw[ae q11,zn,aa]
 cases hf:qI a kty crv with
 | false=>rfl
 | true=>
  have k:∀r,F.V6 crv s n e x y m j r true=some 90:=fun _=>rfl
  rw[ae q11,af rfl,Mk kty crv s n e x y hs hn he hx hy,aa]
  cases hgd:o9 kty crv s n e x y with
  | false=>rw[af q11,ae (show ¬(false=true/\_) from fun q=>by cases q.1),k]
  | true=>
   rw[af rfl,ae q11,kE]
   by_cases k1:(dr a).1=1
   ·have z:=ri k1
    rw[af (ah k1),sL _ z,aa]
    by_cases c:s.length<Sz (dr a).2.1
    ·rw[ah (show (s.length:Int)<((Sz (dr a).2.1:Nat):Int) by omega),k,ae (show ¬(true=true/\¬((dr a).1=1/\s.length<Sz (dr a).2.1)) from fun q=>q.2 ⟨k1,c⟩)]
    ·rw[an (show ¬(s.length:Int)<((Sz (dr a).2.1:Nat):Int) by omega),af (show true=true/\¬((dr a).1=1/\s.length<Sz (dr a).2.1) from⟨rfl,fun q=>c q.2⟩)]
     exact vq a kty crv s n e x y m j _ rfl rfl k0 hf hs hn he hm hg
   ·rw[ae (by rw[aj]; exact k1),af (show true=true/\¬((dr a).1=1/\s.length<Sz (dr a).2.1) from⟨rfl,fun q=>k1 q.1⟩)]
    exact vq a kty crv s n e x y m j _ rfl rfl k0 hf hs hn he hm hg
def pd (l:L00):L00:=l++List.replicate 40 165
theorem fR {l:L00} {k:Nat} (j:k=l.length):(pd l).take k=l:=by rw[j]; exact List.take_left' rfl
theorem CW {l:L00} {i:Nat} (v:UInt8) (hi:i<l.length):(pd l).set i v=pd (l.set i v):=by unfold pd; rw[List.set_append,af hi]
theorem nD {l:L00} {k:Nat} (j:k=l.length) (hl:l.length<=LB):F.UA (pd l) k l=some true:=by rw[j]; exact vt l (by unfold LB at hl; omega)
theorem qm {l:L00} (hl:l.length<=LB):F.UX l=some (pd l,l.length):=AZ l (by unfold LB at hl; omega)
theorem uB (kty crv:Int) {s n e x y:L00} {i j k l m:Nat} (z:i=s.length) (A:j=n.length) (B:k=e.length) (G:l=x.length) (I:m=y.length) (hs:s.length<=LB) (hn:n.length<=LB) (he:e.length<=LB) (hx:x.length<=LB) (hy:y.length<=LB) :
  F.Vj kty crv (pd s) i (pd n) j (pd e) k (pd x) l (pd y) m kty crv s n e x y=some true:=by
 unfold F.Vj
 rw[jS,af rfl,jS,af rfl,nD z hs,aa,af rfl,nD A hn,aa,af rfl,nD B he,aa,af rfl,nD G hx,aa,af rfl,nD I hy,aa]
section
variable (a kty crv:Int) (s n e x y m g:L00) (hs:s.length<=LB) (hn:n.length<=LB) (he:e.length<=LB) (hx:x.length<=LB) (hy:y.length<=LB) (hm:m.length<=LB) (hg:g.length<=LB)
def iw (kty crv:Int) (s n e x y:L00):Int×Int×(L00×Nat)×(L00×Nat)×(L00×Nat)×(L00×Nat)×(L00×Nat):=
 (kty,crv,(pd s,s.length),(pd n,n.length),(pd e,e.length),(pd x,x.length),(pd y,y.length))
include hs hn he hx hy hm hg in
theorem H8 (s' z A:L00) (B:s.length=s'.length) (lx:x.length=z.length) (I:g.length=A.length) :
  F.Xn a kty crv n e y m (iw kty crv s n e x y) (pd g,g.length) (pd A) A (pd s') s' (pd z,z)=some true:=by
 have j:s'.length<=LB:=by rw[<-B]; exact hs
 have k:z.length<=LB:=by rw[<-lx]; exact hx
 have G:A.length<=LB:=by rw[<-I]; exact hg
 unfold F.Xn iw
 dsimp only
 rw[fR B,fR rfl,fR rfl,fR lx,fR rfl,fR I,ui a kty crv s' n e z y m A j hn he k hy hm G,aa,vV a kty crv s' n e z y m A j hn he k hy hm G,aa,gM,ae q11,
  uB kty crv B rfl rfl lx rfl j hn he k hy,aa,ae q11,nD I G,aa]
 unfold F.XN
 dsimp only
 rw[ae q11,fR B,fR rfl,fR rfl,fR lx,fR rfl,fR I,yF,aa,zn,aa,jS,af rfl,uB _ crv B rfl rfl lx rfl j hn he k hy,aa]
include hs hn he hx hy hm hg in
theorem JF (s' j:L00) (z:s.length=s'.length) (A:g.length=j.length) :
  F.Yj (iw kty crv s n e x y) x a kty crv n e y m (pd g,g.length) (pd j) j (pd s',s')=some true:=by
 have k:=fun B lx=>H8 a kty crv s n e x y m g hs hn he hx hy hm hg s' B j z lx A
 unfold F.Yj
 dsimp only
 by_cases h:0<x.length
 ·rw[af (ah q10),show (0:Int)=((0:Nat):Int) from rfl,aG h 0,aa,aa,aS,ao]
  have G:(iw kty crv s n e x y).2.2.2.2.2.1.1.take (iw kty crv s n e x y).2.2.2.2.2.1.2=x:=fR rfl
  have I:(iw kty crv s n e x y).2.2.2.2.2.1.1=pd x:=rfl
  rw[G,I,aG h 0,aa,aa,aS,CW _ h]
  exact k _ (by rw[bM])
 ·rw[ae (by rw[aj]; omega)]
  exact k x rfl
include hs hn he hx hy hm hg in
theorem J9 (j:L00) (z:g.length=j.length) :
  F.XD a kty crv s n e x y m (iw kty crv s n e x y) (pd g,g.length) (pd j)=some true:=by
 have k:j.length<=LB:=by rw[<-z]; exact hg
 have hb:∀l:L00,l.length<=LB->apO 1 [] l=some l:=fun l hl=>by
  unfold LB at hl
  rw[kC (by rw[fw]; omega),cZ]
 have A:=fun s' B=>JF a kty crv s n e x y m g hs hn he hx hy hm hg s' j B z
 unfold F.XD
 dsimp only
 rw[fR z,hb j k,aa]
 have G:F.Vy a (iw kty crv s n e x y).1 (iw kty crv s n e x y).2.1 ((iw kty crv s n e x y).2.2.1.1.take (iw kty crv s n e x y).2.2.1.2) ((iw kty crv s n e x y).2.2.2.1.1.take (iw kty crv s n e x y).2.2.2.1.2) ((iw kty crv s n e x y).2.2.2.2.1.1.take (iw kty crv s n e x y).2.2.2.2.1.2) ((iw kty crv s n e x y).2.2.2.2.2.1.1.take (iw kty crv s n e x y).2.2.2.2.2.1.2) ((iw kty crv s n e x y).2.2.2.2.2.2.1.take (iw kty crv s n e x y).2.2.2.2.2.2.2) m j=some (tH a kty crv s n e x y m j):=by
  unfold iw
  dsimp only
  rw[fR rfl,fR rfl,fR rfl,fR rfl,fR rfl,ui a kty crv s n e x y m j hs hn he hx hy hm k]
 have I:F.Vj (iw kty crv s n e x y).1 (iw kty crv s n e x y).2.1 (iw kty crv s n e x y).2.2.1.1 (iw kty crv s n e x y).2.2.1.2 (iw kty crv s n e x y).2.2.2.1.1 (iw kty crv s n e x y).2.2.2.1.2 (iw kty crv s n e x y).2.2.2.2.1.1 (iw kty crv s n e x y).2.2.2.2.1.2 (iw kty crv s n e x y).2.2.2.2.2.1.1 (iw kty crv s n e x y).2.2.2.2.2.1.2 (iw kty crv s n e x y).2.2.2.2.2.2.1 (iw kty crv s n e x y).2.2.2.2.2.2.2 kty crv s n e x y=some true:=
  uB kty crv rfl rfl rfl rfl rfl hs hn he hx hy
 rw[G,aa,vV a kty crv s n e x y m j hs hn he hx hy hm k,aa,gM,ae q11,I,aa,ae q11,nD z k,aa]
 unfold F.Zh
 rw[ae q11]
 split
 ·rfl
 rw[hb s hs,aa,hb x hx,aa]
 by_cases h:0<s.length
 ·rw[af (ah q10),show (0:Int)=((0:Nat):Int) from rfl,aG h 0,aa,aa,aS,ao]
  have J:(iw kty crv s n e x y).2.2.1.1.take (iw kty crv s n e x y).2.2.1.2=s:=fR rfl
  have N:(iw kty crv s n e x y).2.2.1.1=pd s:=rfl
  rw[J,N,aG h 0,aa,aa,aS,CW _ h]
  exact A _ (by rw[bM])
 ·rw[ae (by rw[aj]; omega)]
  exact A s rfl
include hs hn he hx hy hm hg in
theorem H4:F.VL (pd g,g.length) a kty crv s n e x y m (iw kty crv s n e x y) false=some true:=by
 have j:=fun k z=>J9 a kty crv s n e x y m g hs hn he hx hy hm hg k z
 unfold F.VL
 rw[ae q11]
 dsimp only
 rw[fR rfl]
 by_cases h:0<g.length
 ·have w:wI (Int.tdiv (g.length:Int) 2)=((g.length / 2:Nat):Int):=by
   unfold LB at hg
   rw[show Int.tdiv (g.length:Int) 2=((g.length / 2:Nat):Int) from rfl,ay q10 q10]
  rw[af (ah q10),w,aG (show g.length / 2<g.length by omega) 0,aa,aa,aS,ao,CW _ (show g.length / 2<g.length by omega)]
  exact j _ (by rw[bM])
 ·rw[ae (by rw[aj]; omega)]
  exact j g rfl
end
theorem law18_JwsChecks_eq (a kty crv:Int) (s n e x y m g:L00) (hs:s.length<=140737488351232) (hn:n.length<=140737488351232) (he:e.length<=140737488351232) (hx:x.length<=140737488351232) (hy:y.length<=140737488351232) (hm:m.length<=140737488351232) (hg:g.length<=140737488351232) :
  F.act a kty crv s n e x y m g=some true:=by
 have k:F.aau kty crv s n e x y=some (iw kty crv s n e x y):=by
  unfold F.aau
  rw[qm hs,aa,qm hn,aa,qm he,aa,qm hx,aa,qm hy,aa]
  rfl
 have j:=H4 a kty crv s n e x y m g hs hn he hx hy hm hg
 unfold F.act
 rw[k,aa,qm hg,aa]
 unfold iw at j ⊢
 dsimp only
 rw[fR rfl,fR rfl,fR rfl,fR rfl,fR rfl,fR rfl,yF,aa,ui a kty crv s n e x y m g hs hn he hx hy hm hg,aa,zn,aa,gM,ae q11,
  vV a kty crv s n e x y m g hs hn he hx hy hm hg,aa,gM,ae q11,uB kty crv rfl rfl rfl rfl rfl hs hn he hx hy,aa,ae q11,nD rfl hg,aa]
 exact j
end Go.Gk.Bn
end
