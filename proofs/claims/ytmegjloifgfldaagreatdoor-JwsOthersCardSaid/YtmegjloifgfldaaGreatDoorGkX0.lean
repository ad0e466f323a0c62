import Derived.Test.YtmegjloifgfldaaGreatDoorGkUR
import Derived.Test.YtmegjloifgfldaaGreatDoorGkW4
import Derived.Test.YtmegjloifgfldaaGreatDoorGkUW
set_option linter.unusedVariables false
set_option linter.unusedSimpArgs false
set_option linter.unusedSectionVars false

section
namespace Go.Gk.Bn
open Go Go.Gk Go.Gk.Sh Go.Gk.Ec Go.Gk.Pr
section
variable {c:Int}
end
end Go.Gk.Bn
end

section
namespace Go.Gk.Bn
open Go Go.Gk Go.Gk.Sh
theorem wn {m x y:Nat} (hm:m%2=1) (h:2*x%m=2*y%m):x%m=y%m:=by
 have f:∀x:Nat,x%m=((m+1) / 2*(2*x%m))%m:=fun x=>by
  rw[Nat.mul_mod_mod,<-Nat.mul_assoc,show (m+1) / 2*2=m+1 by omega,Nat.add_mul,Nat.one_mul,Nat.mul_add_mod]
 rw[f x,f y,h]
theorem wu {m x y v:Nat} (h:(x+v)%m=(y+v)%m):x%m=y%m:=by
 rcases Nat.eq_zero_or_pos m with g | g
 ·subst g; rw[Nat.mod_zero,Nat.mod_zero]at h ⊢; omega
 ·have f:∀x:Nat,x%m=((x+v)%m+v*(m - 1))%m:=fun x=>by
   rw[Nat.mod_add_mod]
   have:x+v+v*(m - 1)=x+v*m:=by
    obtain⟨k,i⟩:∃k,m=k+1:=⟨m - 1,by omega⟩
    rw[i,Nat.add_sub_cancel,Nat.mul_add,Nat.mul_one]; omega
   rw[this,Nat.add_mul_mod_self_right]
  rw[f x,f y,h]
def ka (x m:Nat):Nat:=if x%2=1 then (x+m) / 2 else x / 2
theorem ux {x m:Nat} (hx:x<m):ka x m<m:=by unfold ka; split <;> omega
theorem zp {x m:Nat} (hm:m%2=1):2*ka x m%m=x%m:=by
 unfold ka
 split
 ·rw[show 2*((x+m) / 2)=x+m by omega,Nat.add_mod_right]
 ·rw[show 2*(x / 2)=x by omega]
theorem nc {m a u p:Nat} (hm:m%2=1) (f:u%2=0) (h:p*a%m=u%m):ka p m*a%m=u / 2%m:=by
 refine wn hm ?_
 rw[<-Nat.mul_assoc,Nat.mul_mod,zp hm,<-Nat.mul_mod,h,show 2*(u / 2)=u by omega]
theorem nU {m a u v p q:Nat} (h:q<=m) (i:v<=u) (f:p*a%m=u%m) (g:q*a%m=v%m):(m - q+p)%m*a%m=(u - v)%m:=by
 refine wu (v:=v) ?_
 rw[show u - v+v=u by omega,<-f,Nat.add_mod,Nat.mod_mul_mod,<-g,<-Nat.add_mod,<-Nat.add_mul,show m - q+p+q=m+p by omega,Nat.add_mul,Nat.mul_comm m,Nat.mul_add_mod_self_right]
theorem pZ {u v:Nat} (k:u%2=0) (g:v%2=1):Nat.gcd (u / 2) v=Nat.gcd u v:=by
 apply Nat.dvd_antisymm
 ·refine Nat.dvd_gcd ?_ (Nat.gcd_dvd_right _ _)
  exact Nat.dvd_trans (Nat.gcd_dvd_left _ _) ⟨2,by omega⟩
 ·refine Nat.dvd_gcd ?_ (Nat.gcd_dvd_right _ _)
  have h:Nat.gcd u v ∣ 2*(u / 2):=by rw[show 2*(u / 2)=u by omega]; exact Nat.gcd_dvd_left _ _
  refine Nat.Coprime.dvd_of_dvd_mul_left ?_ h
  have i:Nat.gcd (Nat.gcd u v) 2 ∣ 2:=Nat.gcd_dvd_right _ _
  have j:Nat.gcd (Nat.gcd u v) 2 ∣ v:=Nat.dvd_trans (Nat.gcd_dvd_left _ _) (Nat.gcd_dvd_right _ _)
  have f:Nat.gcd (Nat.gcd u v) 2 ∣ v%2:=(Nat.dvd_mod_iff i).2 j
  rw[g]at f
  exact Nat.eq_one_of_dvd_one f
theorem se {u v:Nat} (h:v<=u):Nat.gcd (u - v) v=Nat.gcd u v:=Nat.gcd_sub_self_left h
end Go.Gk.Bn
end

section
namespace Go.Gk.Bn
open Go Go.Gk Go.Gk.Sh Go.Gk.Ec Go.Gk.Pr
end Go.Gk.Bn
end

section
namespace Go.Gk.Bn
open Go Go.Gk Go.Gk.Sh
theorem EX (x:UInt32):((x &&& 1) == 1)=decide (x.toNat%2=1):=by
 have h:(x &&& 1).toNat=x.toNat%2:=by
  rw[UInt32.toNat_and]
  exact Nat.and_one_is_mod _
 by_cases h1:x.toNat%2=1
 ·rw[decide_eq_true h1,beq_iff_eq]
  apply UInt32.toNat_inj.1
  rw[h,h1]; rfl
 ·rw[decide_eq_false h1]
  apply Bool.eq_false_iff.2
  intro f
  rw[beq_iff_eq]at f
  rw[f]at h
  exact h1 h.symm
theorem iI (l:Q0) (hl:l.length<=4611686018427387904):F.GP l 0=some (decide (val l%2=1)):=by
 have w0:wI (Int.tdiv 0 32)=((0:Nat):Int):=by decide
 have f:Int.tmod 0 32=0:=by decide
 unfold F.GP
 rw[if_pos (by decide),w0,f]
 by_cases h:l.length=0
 ·rw[if_neg (by rw[decide_eq_true_eq]; omega),List.eq_nil_of_length_eq_zero h]; rfl
 ·rw[if_pos (decide_eq_true (by omega)),aT (show 0<l.length by omega) 0,ae,grd_true _ (by decide)]
  have e:bv (l.getD 0 0) (0:Int).toNat=l.getD 0 0:=by
   apply UInt32.toNat_inj.1
   unfold bv
   rw[UInt32.toNat_ofNat']
   have:=cn (l.getD 0 0)
   rw[show min (0:Int).toNat 32=0 from rfl,Nat.pow_zero,Nat.div_one]
   omega
  rw[e,EX]
  congr 2
  match l,h with
  | x :: r,_=>
   rw[dg]
   show (x.toNat%2=1)=((x.toNat+4294967296*val r)%2=1)
   rw[show (x.toNat+4294967296*val r)%2=x.toNat%2 by omega]
theorem oP (l:Q0) (hl:l.length<=40000000000000):F.GU l 1=some (ao (val l / 2)):=by
 obtain⟨m,i,G,j⟩:=dD l (by omega)
 have I:(ao (val l)).length<=l.length:=ba (bD l)
 have w0:wI (Int.tdiv (max 1 0) 32)=((0:Nat):Int):=by decide
 have o:Int.tmod (max 1 0) 32=((1:Nat):Int):=by decide
 unfold F.GU
 rw[i,ae,j,w0,o]
 by_cases h:(ao (val l)).length=0
 ·have:val l=0:=(jc _).1 h
  rw[if_pos (decide_eq_true (by omega)),this,Nat.zero_div,bG]
 ·have f:apO 4 [] (ao (val l))=some (ao (val l)):=by unfold apO; rw[if_pos (by simp; omega)]; simp
  obtain⟨t,z,J,g⟩:=pH (ao (val l)) 1 (by decide) (by omega)
  rw[aw,Nat.pow_one]at g
  obtain⟨k,A,K,B⟩:=eo t (by omega)
  rw[if_neg (by rw[decide_eq_true_eq]; omega),g9 (by omega),ae,List.drop_zero,f,ae,z,ae,A,ae,B,g]
theorem xh (x m:Q0) (hx:x.length<=1000) (hm:m.length<=1000):F.JW x m=some (ao (ka (val x) (val m))):=by
 have l1:(ao (val x+val m)).length<=1001:=by
  have f:=iH (val x) (val m)
  have g:(ao (val x)).length<=x.length:=ba (bD x)
  have i:(ao (val m)).length<=m.length:=ba (bD m)
  omega
 unfold F.JW ka
 rw[iI x (by omega),ae]
 by_cases h:val x%2=1
 ·rw[if_pos (decide_eq_true h),if_pos h,oK x m (by omega) (by omega),ae,oP _ (by omega),ae,aw]
 ·rw[if_neg (by rw[decide_eq_true_eq]; exact h),if_neg h,oP x (by omega),ae]
end Go.Gk.Bn
end

section
namespace Go.Gk.Bn
open Go Go.Gk Go.Gk.Sh
def sub3 (m u v p q:Nat):Q0×Q0×Q0×Q0:=
 if v<=u then (ao (u - v),ao v,ao ((m - q+p)%m),ao q) else (ao u,ao (v - u),ao p,ao ((m - p+q)%m))
theorem dG {n m k:Nat} (h:n<=m) (hm:(ao m).length<=k):(ao n).length<=k:=Nat.le_trans (da h) hm
theorem Fh {m a u p:Nat} (hm:m%2=1) (j:(ao m).length<=900) (t:u<=m) (k:p<m) :
  ∀v q,0<v->v<=m->q<m->q*a%m=v%m->∃f g,0<f/\f<=v/\g<m/\g*a%m=f%m/\(u%2=1->Nat.gcd u f=Nat.gcd u v) /\
   loop (F.Jt (ao m) (ao u) (ao p)) (ao v,ao q)=some (.inl (sub3 m u f p g)):=by
 intro v
 induction v using Nat.strongRecOn with
 | _ v ih=>
  intro q G z i h
  have O:=dG z j
  have R:=dG (Nat.le_of_lt i) j
  have U:=dG t j
  have V:=dG (Nat.le_of_lt k) j
  by_cases ho:v%2=1
  ·refine⟨v,q,G,Nat.le_refl _,i,h,fun _=>rfl,?_⟩
   refine cK ?_
   unfold F.Jt sub3
   dsimp only
   rw[iI _ (by omega),ae,aw,if_neg (by rw[decide_eq_true ho]; decide),eN _ _ (by omega) (by omega),ae,aw,aw]
   by_cases hc:v<=u
   ·have o:0<=cD u v:=by
     unfold cD
     rw[if_neg (by omega)]
     split <;> decide
    rw[if_pos (decide_eq_true o),if_pos hc,oY _ _ (by omega) (by omega),ae,aw,aw,if_neg (by omega),pL k i (by omega) (ao m) (aw m) (by omega),ae]
    rfl
   ·have o:¬0<=cD u v:=by
     unfold cD
     rw[if_pos (by omega)]
     decide
    rw[if_neg (by rw[decide_eq_true_eq]; exact o),if_neg hc,oY _ _ (by omega) (by omega),ae,aw,aw,if_neg (by omega),pL i k (by omega) (ao m) (aw m) (by omega),ae]
    rfl
  ·have A:v%2=0:=by omega
   obtain⟨f,g,I,X,J,K,M,N⟩:=ih (v / 2) (by omega) (ka q m) (by omega) (by omega) (ux i) (nc hm A h)
   refine⟨f,g,I,by omega,J,K,fun B=>?_,?_⟩
   ·rw[M B,Nat.gcd_comm,pZ A B,Nat.gcd_comm]
   ·refine Eq.trans (bB ?_) N
    unfold F.Jt
    dsimp only
    rw[iI _ (by omega),ae,aw,if_pos (by rw[decide_eq_false ho]; decide),oP _ (by omega),ae,aw,xh _ _ (by omega) (by omega),ae,aw,aw]
    rfl
theorem FG {m a v q:Nat} (hm:m%2=1) (j:(ao m).length<=900) (K:0<v) (z:v<=m) (G:q<m) (I:q*a%m=v%m) :
  ∀u p,0<u->u<=m->p<m->p*a%m=u%m->Nat.gcd u v%2=1->∃g f k i,0<g/\g<=u/\k<m/\k*a%m=g%m/\0<f/\f<=v/\i<m/\i*a%m=f%m /\
   Nat.gcd g f=Nat.gcd u v/\loop (F.Kk (ao m) (ao v) (ao q)) (ao u,ao p)=some (.inl (sub3 m g f k i)):=by
 intro u
 induction u using Nat.strongRecOn with
 | _ u ih=>
  intro p M A o h hg
  have lv:=dG z j
  have lq:=dG (Nat.le_of_lt G) j
  have lu:=dG A j
  have lp:=dG (Nat.le_of_lt o) j
  by_cases ho:u%2=1
  ·obtain⟨f,i,N,O,R,U,V,X⟩:=Fh (a:=a) hm j A o v q K z G I
   refine⟨u,f,p,i,M,Nat.le_refl _,o,h,N,O,R,U,V ho,?_⟩
   refine bu ?_ |>.trans X
   unfold F.Kk
   dsimp only
   rw[iI _ (by omega),ae,aw,if_neg (by rw[decide_eq_true ho]; decide)]
  ·have t:u%2=0:=by omega
   have B:v%2=1:=by
    apply Classical.byContradiction
    intro hc
    have d1:2 ∣ Nat.gcd u v:=Nat.dvd_gcd (Nat.dvd_of_mod_eq_zero t) (Nat.dvd_of_mod_eq_zero (by omega))
    omega
   obtain⟨g,f,k,i,b1,b2,Y,Z,b5,b6,b7,b8,b9,J⟩:=ih (u / 2) (by omega) (ka p m) (by omega) (by omega) (ux o) (nc hm t h) (by rw[pZ t B]; exact hg)
   refine⟨g,f,k,i,b1,by omega,Y,Z,b5,b6,b7,b8,by rw[b9,pZ t B],?_⟩
   refine Eq.trans (bB ?_) J
   unfold F.Kk
   dsimp only
   rw[iI _ (by omega),ae,aw,if_pos (by rw[decide_eq_false ho]; decide),oP _ (by omega),ae,aw,xh _ _ (by omega) (by omega),ae,aw,aw]
   rfl
theorem Av {m a:Nat} (hm:m%2=1) (J:(ao m).length<=900):∀n u v p q,u+v<=n->u<=m->0<v->v<=m->p<m->q<m->p*a%m=u%m->q*a%m=v%m->Nat.gcd u v%2=1 ->
  ∃x,x<m/\x*a%m=Nat.gcd u v%m/\loop (F.IN (ao m)) (ao u,ao v,ao p,ao q)=some (ao (Nat.gcd u v),ao x):=by
 intro n
 induction n with
 | zero=>intro u v p q Z h2 h3; omega
 | succ n ih=>
  intro u v p q hn o R K U M N t hg
  have lu:=dG o J
  by_cases hu:u=0
  ·subst hu
   rw[Nat.gcd_zero_left]
   refine⟨q,M,t,?_⟩
   refine cK ?_
   unfold F.IN
   dsimp only
   rw[ew _ (by omega),ae,aw,fR]
   rfl
  ·obtain⟨f,g,j,k,b1,b2,V,A,X,b6,Y,B,G,O⟩:=FG (a:=a) hm J R K M t u p (by omega) o U N hg
   have hs:F.IN (ao m) (ao u,ao v,ao p,ao q)=some (.inl (sub3 m f g j k)):=by
    unfold F.IN
    dsimp only
    have:=(c9 u).2 hu
    rw[ew _ (by omega),ae,aw,if_pos (decide_eq_true (by omega)),O]
   have z:0<m:=by omega
   rw[bB hs]
   unfold sub3
   by_cases hc:g<=f
   ·rw[if_pos hc]
    obtain⟨x,I,h,i⟩:=ih (f - g) g ((m - k+j)%m) k (by omega) (by omega) X (by omega) (Nat.mod_lt _ z) Y (nU (by omega) hc A B) B (by rw[se hc,G]; exact hg)
    rw[se hc,G]at h i
    exact⟨x,I,h,i⟩
   ·rw[if_neg hc]
    have e:Nat.gcd f (g - f)=Nat.gcd u v:=by rw[Nat.gcd_comm,se (by omega),Nat.gcd_comm,G]
    obtain⟨x,I,h,i⟩:=ih f (g - f) j ((m - j+k)%m) (by omega) (by omega) (by omega) (by omega) V (Nat.mod_lt _ z) A (nU (by omega) (by omega) B A) (by rw[e]; exact hg)
    rw[e]at h i
    exact⟨x,I,h,i⟩
theorem zw (a:Q0) (m:Nat) (i:1<m) (hm:m%2=1) (B:nb m<=4096) (j:(ao m).length<=900) (G:nb (val a)<=4096) (k:a.length<=40000000000000) (hg:Nat.gcd (val a) m=1) :
  ∃w,w<m/\val a*w%m=1/\F.Hy a (ao m)=some (ao w,0):=by
 have z:F.G4 [a,ao m]=some 0:=by
  have hl:∀x∈[a,ao m],x.length<=40000000000000:=by
   intro x hx
   simp only[List.mem_cons,List.not_mem_nil,or_false]at hx
   rcases hx with h | h
   ·rw[h]; exact k
   ·rw[h]; omega
  rw[pQ [a,ao m] 1 rfl (by decide) hl]
  unfold jG
  rw[if_neg]
  ·rw[show [a,ao m].getD 1 []=ao m from rfl,aw,if_neg (by omega)]
  ·simp only[List.any_cons,List.any_nil,Bool.or_false,Bool.or_eq_true,decide_eq_true_eq,aw]
   omega
 have f:Nat.gcd (val a%m) m=1:=by rw[<-hg,<-Nat.gcd_rec,Nat.gcd_comm]
 obtain⟨x,g,o,t⟩:=Av (a:=val a%m) hm j (val a%m+m) (val a%m) m 1 0 (Nat.le_refl _) (Nat.le_of_lt (Nat.mod_lt _ (by omega))) (by omega) (Nat.le_refl _) i (by omega) (by rw[Nat.one_mul]) (by rw[Nat.zero_mul,Nat.mod_self,Nat.zero_mod]) (by rw[f])
 rw[f,Nat.mod_eq_of_lt i]at o
 rw[f]at t
 have l1:ao 1=[1]:=by rw[f7 (by decide),show 1 / 4294967296=0 by decide,bG]; rfl
 refine⟨x,g,?_,?_⟩
 ·rw[<-o,Nat.mul_comm,Nat.mul_mod_mod]
 ·have lx:=dG (Nat.le_of_lt g) j
  unfold F.Hy
  rw[z,ae,if_neg (by decide),fH a _ k (by omega) (by rw[aw]; omega),aw,ae,iI _ (by omega),aw,ae,if_pos (decide_eq_true hm)]
  have A:F.H7 (ao (val a%m)) (ao m)=some ([1],ao x):=by
   unfold F.H7
   rw[<-l1,<-bG]at *
   exact t
  rw[A,ae]
  dsimp only
  rw[eN _ _ (by decide) (by decide),s7,ae,if_neg (by decide),fH _ _ (by omega) (by omega) (by rw[aw]; omega),aw,aw,Nat.mod_eq_of_lt g,ae]
end Go.Gk.Bn
end
