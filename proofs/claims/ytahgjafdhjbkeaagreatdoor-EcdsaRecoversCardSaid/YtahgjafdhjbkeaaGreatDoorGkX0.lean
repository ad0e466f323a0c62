import Derived.Test.YtahgjafdhjbkeaaGreatDoorGkUR
import Derived.Test.YtahgjafdhjbkeaaGreatDoorGkW4
import Derived.Test.YtahgjafdhjbkeaaGreatDoorGkUW
set_option linter.unusedVariables false
set_option linter.unusedSimpArgs false
set_option linter.unusedSectionVars false

section
namespace Go.Gk.Bn
open Go Go.Gk Go.Gk.Sh Go.Gk.Ec Go.Gk.Pr
section
variable {c:Int}
end
end Go.Gk.Bn
end

section
namespace Go.Gk.Bn
open Go Go.Gk Go.Gk.Sh
theorem ut {m x y:Nat} (g:m%2=1) (h:2*x%m=2*y%m):x%m=y%m:=by
 have f:∀x:Nat,x%m=((m+1) / 2*(2*x%m))%m:=fun x=>by
  rw[Nat.mul_mod_mod,<-Nat.mul_assoc,show (m+1) / 2*2=m+1 by omega,Nat.add_mul,Nat.one_mul,Nat.mul_add_mod]
 rw[f x,f y,h]
theorem uv {m x y v:Nat} (h:(x+v)%m=(y+v)%m):x%m=y%m:=by
 rcases Nat.eq_zero_or_pos m with g | g
 ·subst g; rw[Nat.mod_zero,Nat.mod_zero]at h ⊢; omega
 ·have f:∀x:Nat,x%m=((x+v)%m+v*(m - 1))%m:=fun x=>by
   rw[Nat.mod_add_mod]
   have:x+v+v*(m - 1)=x+v*m:=by
    obtain⟨k,i⟩:∃k,m=k+1:=⟨m - 1,by omega⟩
    rw[i,Nat.add_sub_cancel,Nat.mul_add,Nat.mul_one]; omega
   rw[this,Nat.add_mul_mod_self_right]
  rw[f x,f y,h]
def jG (x m:Nat):Nat:=if x%2=1 then (x+m) / 2 else x / 2
theorem sO {x m:Nat} (f:x<m):jG x m<m:=by unfold jG; split <;> omega
theorem xc {x m:Nat} (f:m%2=1):2*jG x m%m=x%m:=by
 unfold jG
 split
 ·rw[show 2*((x+m) / 2)=x+m by omega,Nat.add_mod_right]
 ·rw[show 2*(x / 2)=x by omega]
theorem mx {m a u p:Nat} (f:m%2=1) (g:u%2=0) (h:p*a%m=u%m):jG p m*a%m=u / 2%m:=by
 refine ut f ?_
 rw[<-Nat.mul_assoc,Nat.mul_mod,xc f,<-Nat.mul_mod,h,show 2*(u / 2)=u by omega]
theorem nh {m a u v p q:Nat} (h:q<=m) (i:v<=u) (f:p*a%m=u%m) (g:q*a%m=v%m):(m - q+p)%m*a%m=(u - v)%m:=by
 refine uv (v:=v) ?_
 rw[show u - v+v=u by omega,<-f,Nat.add_mod,Nat.mod_mul_mod,<-g,<-Nat.add_mod,<-Nat.add_mul,show m - q+p+q=m+p by omega,Nat.add_mul,Nat.mul_comm m,Nat.mul_add_mod_self_right]
theorem o6 {u v:Nat} (k:u%2=0) (g:v%2=1):Nat.gcd (u / 2) v=Nat.gcd u v:=by
 apply Nat.dvd_antisymm
 ·refine Nat.dvd_gcd ?_ (Nat.gcd_dvd_right _ _)
  exact Nat.dvd_trans (Nat.gcd_dvd_left _ _) ⟨2,by omega⟩
 ·refine Nat.dvd_gcd ?_ (Nat.gcd_dvd_right _ _)
  have h:Nat.gcd u v ∣ 2*(u / 2):=by rw[show 2*(u / 2)=u by omega]; exact Nat.gcd_dvd_left _ _
  refine Nat.Coprime.dvd_of_dvd_mul_left ?_ h
  have i:Nat.gcd (Nat.gcd u v) 2 ∣ 2:=Nat.gcd_dvd_right _ _
  have j:Nat.gcd (Nat.gcd u v) 2 ∣ v:=Nat.dvd_trans (Nat.gcd_dvd_left _ _) (Nat.gcd_dvd_right _ _)
  have f:Nat.gcd (Nat.gcd u v) 2 ∣ v%2:=(Nat.dvd_mod_iff i).2 j
  rw[g]at f
  exact Nat.eq_one_of_dvd_one f
theorem qS {u v:Nat} (h:v<=u):Nat.gcd (u - v) v=Nat.gcd u v:=Nat.gcd_sub_self_left h
end Go.Gk.Bn
end

section
namespace Go.Gk.Bn
open Go Go.Gk Go.Gk.Sh Go.Gk.Ec Go.Gk.Pr
end Go.Gk.Bn
end

section
namespace Go.Gk.Bn
open Go Go.Gk Go.Gk.Sh
theorem Di (x:UInt32):((x &&& 1) == 1)=decide (x.toNat%2=1):=by
 have h:(x &&& 1).toNat=x.toNat%2:=by
  rw[UInt32.toNat_and]
  exact Nat.and_one_is_mod _
 by_cases h1:x.toNat%2=1
 ·rw[decide_eq_true h1,beq_iff_eq]
  apply UInt32.toNat_inj.1
  rw[h,h1]; rfl
 ·rw[decide_eq_false h1]
  apply Bool.eq_false_iff.2
  intro f
  rw[beq_iff_eq]at f
  rw[f]at h
  exact h1 h.symm
theorem jO (l:L0) (g:l.length<=4611686018427387904):F.ET l 0=some (decide (val l%2=1)):=by
 have w0:wI (Int.tdiv 0 32)=((0:Nat):Int):=by decide
 have f:Int.tmod 0 32=0:=by decide
 unfold F.ET
 rw[if_pos (by decide),w0,f]
 by_cases h:l.length=0
 ·rw[if_neg (by rw[decide_eq_true_eq]; omega),List.eq_nil_of_length_eq_zero h]; rfl
 ·rw[if_pos (decide_eq_true (by omega)),aP (show 0<l.length by omega) 0,ae,grd_true _ (by decide)]
  have e:bA (l.getD 0 0) (0:Int).toNat=l.getD 0 0:=by
   apply UInt32.toNat_inj.1
   unfold bA
   rw[UInt32.toNat_ofNat']
   have:=cC (l.getD 0 0)
   rw[show min (0:Int).toNat 32=0 from rfl,Nat.pow_zero,Nat.div_one]
   omega
  rw[e,Di]
  congr 2
  match l,h with
  | x :: r,_=>
   rw[dz]
   show (x.toNat%2=1)=((x.toNat+4294967296*val r)%2=1)
   rw[show (x.toNat+4294967296*val r)%2=x.toNat%2 by omega]
theorem oa (l:L0) (z:l.length<=40000000000000):F.Ew l 1=some (an (val l / 2)):=by
 obtain⟨m,i,A,j⟩:=eG l (by omega)
 have B:(an (val l)).length<=l.length:=bl (bv l)
 have w0:wI (Int.tdiv (max 1 0) 32)=((0:Nat):Int):=by decide
 have o:Int.tmod (max 1 0) 32=((1:Nat):Int):=by decide
 unfold F.Ew
 rw[i,ae,j,w0,o]
 by_cases h:(an (val l)).length=0
 ·have:val l=0:=(fc _).1 h
  rw[if_pos (decide_eq_true (by omega)),this,Nat.zero_div,bR]
 ·have f:apO 4 [] (an (val l))=some (an (val l)):=by unfold apO; rw[if_pos (by simp; omega)]; simp
  obtain⟨q,t,G,g⟩:=se (an (val l)) 1 (by decide) (by omega)
  rw[ar,Nat.pow_one]at g
  obtain⟨k,x,I,y⟩:=eZ q (by omega)
  rw[if_neg (by rw[decide_eq_true_eq]; omega),mU (by omega),ae,List.drop_zero,f,ae,t,ae,x,ae,y,g]
theorem u6 (x m:L0) (f:x.length<=1000) (g:m.length<=1000):F.Hf x m=some (an (jG (val x) (val m))):=by
 have i:(an (val x+val m)).length<=1001:=by
  have j:=fS (val x) (val m)
  have k:(an (val x)).length<=x.length:=bl (bv x)
  have o:(an (val m)).length<=m.length:=bl (bv m)
  omega
 unfold F.Hf jG
 rw[jO x (by omega),ae]
 by_cases h:val x%2=1
 ·rw[if_pos (decide_eq_true h),if_pos h,vi x m (by omega) (by omega),ae,oa _ (by omega),ae,ar]
 ·rw[if_neg (by rw[decide_eq_true_eq]; exact h),if_neg h,oa x (by omega),ae]
end Go.Gk.Bn
end

section
namespace Go.Gk.Bn
open Go Go.Gk Go.Gk.Sh
def sub3 (m u v p q:Nat):L0×L0×L0×L0:=
 if v<=u then (an (u - v),an v,an ((m - q+p)%m),an q) else (an u,an (v - u),an p,an ((m - p+q)%m))
theorem cW {n m k:Nat} (h:n<=m) (f:(an m).length<=k):(an n).length<=k:=Nat.le_trans (c6 h) f
theorem Cx {m a u p:Nat} (A:m%2=1) (j:(an m).length<=900) (t:u<=m) (k:p<m) :
  ∀v q,0<v->v<=m->q<m->q*a%m=v%m->∃f g,0<f/\f<=v/\g<m/\g*a%m=f%m/\(u%2=1->Nat.gcd u f=Nat.gcd u v) /\
   loop (F.GF (an m) (an u) (an p)) (an v,an q)=some (.inl (sub3 m u f p g)):=by
 intro v
 induction v using Nat.strongRecOn with
 | _ v ih=>
  intro q B x i h
  have N:=cW x j
  have O:=cW (Nat.le_of_lt i) j
  have R:=cW t j
  have U:=cW (Nat.le_of_lt k) j
  by_cases ho:v%2=1
  ·refine⟨v,q,B,Nat.le_refl _,i,h,fun _=>rfl,?_⟩
   refine cQ ?_
   unfold F.GF sub3
   dsimp only
   rw[jO _ (by omega),ae,ar,if_neg (by rw[decide_eq_true ho]; decide),jK _ _ (by omega) (by omega),ae,ar,ar]
   by_cases hc:v<=u
   ·have o:0<=cD u v:=by
     unfold cD
     rw[if_neg (by omega)]
     split <;> decide
    rw[if_pos (decide_eq_true o),if_pos hc,oq _ _ (by omega) (by omega),ae,ar,ar,if_neg (by omega),oR k i (by omega) (an m) (ar m) (by omega),ae]
    rfl
   ·have o:¬0<=cD u v:=by
     unfold cD
     rw[if_pos (by omega)]
     decide
    rw[if_neg (by rw[decide_eq_true_eq]; exact o),if_neg hc,oq _ _ (by omega) (by omega),ae,ar,ar,if_neg (by omega),oR i k (by omega) (an m) (ar m) (by omega),ae]
    rfl
  ·have y:v%2=0:=by omega
   obtain⟨f,g,G,V,I,J,K,M⟩:=ih (v / 2) (by omega) (jG q m) (by omega) (by omega) (sO i) (mx A y h)
   refine⟨f,g,G,by omega,I,J,fun z=>?_,?_⟩
   ·rw[K z,Nat.gcd_comm,o6 y z,Nat.gcd_comm]
   ·refine Eq.trans (bJ ?_) M
    unfold F.GF
    dsimp only
    rw[jO _ (by omega),ae,ar,if_pos (by rw[decide_eq_false ho]; decide),oa _ (by omega),ae,ar,u6 _ _ (by omega) (by omega),ae,ar,ar]
    rfl
theorem CU {m a v q:Nat} (A:m%2=1) (j:(an m).length<=900) (J:0<v) (x:v<=m) (B:q<m) (G:q*a%m=v%m) :
  ∀u p,0<u->u<=m->p<m->p*a%m=u%m->Nat.gcd u v%2=1->∃g f k i,0<g/\g<=u/\k<m/\k*a%m=g%m/\0<f/\f<=v/\i<m/\i*a%m=f%m /\
   Nat.gcd g f=Nat.gcd u v/\loop (F.HB (an m) (an v) (an q)) (an u,an p)=some (.inl (sub3 m g f k i)):=by
 intro u
 induction u using Nat.strongRecOn with
 | _ u ih=>
  intro p K y o h M
  have lv:=cW x j
  have lq:=cW (Nat.le_of_lt B) j
  have lu:=cW y j
  have lp:=cW (Nat.le_of_lt o) j
  by_cases ho:u%2=1
  ·obtain⟨f,i,N,O,R,U,V,X⟩:=Cx (a:=a) A j y o v q J x B G
   refine⟨u,f,p,i,K,Nat.le_refl _,o,h,N,O,R,U,V ho,?_⟩
   refine bL ?_ |>.trans X
   unfold F.HB
   dsimp only
   rw[jO _ (by omega),ae,ar,if_neg (by rw[decide_eq_true ho]; decide)]
  ·have t:u%2=0:=by omega
   have z:v%2=1:=by
    apply Classical.byContradiction
    intro hc
    have d1:2 ∣ Nat.gcd u v:=Nat.dvd_gcd (Nat.dvd_of_mod_eq_zero t) (Nat.dvd_of_mod_eq_zero (by omega))
    omega
   obtain⟨g,f,k,i,b1,b2,Y,Z,b5,b6,b7,b8,b9,I⟩:=ih (u / 2) (by omega) (jG p m) (by omega) (by omega) (sO o) (mx A t h) (by rw[o6 t z]; exact M)
   refine⟨g,f,k,i,b1,by omega,Y,Z,b5,b6,b7,b8,by rw[b9,o6 t z],?_⟩
   refine Eq.trans (bJ ?_) I
   unfold F.HB
   dsimp only
   rw[jO _ (by omega),ae,ar,if_pos (by rw[decide_eq_false ho]; decide),oa _ (by omega),ae,ar,u6 _ _ (by omega) (by omega),ae,ar,ar]
   rfl
theorem Cq {m a:Nat} (R:m%2=1) (J:(an m).length<=900):∀n u v p q,u+v<=n->u<=m->0<v->v<=m->p<m->q<m->p*a%m=u%m->q*a%m=v%m->Nat.gcd u v%2=1 ->
  ∃x,x<m/\x*a%m=Nat.gcd u v%m/\loop (F.FO (an m)) (an u,an v,an p,an q)=some (an (Nat.gcd u v),an x):=by
 intro n
 induction n with
 | zero=>intro u v p q h1 h2 h3; omega
 | succ n ih=>
  intro u v p q hn o U K V M N t z
  have lu:=cW o J
  by_cases hu:u=0
  ·subst hu
   rw[Nat.gcd_zero_left]
   refine⟨q,M,t,?_⟩
   refine cQ ?_
   unfold F.FO
   dsimp only
   rw[i3 _ (by omega),ae,ar,ge]
   rfl
  ·obtain⟨f,g,j,k,b1,b2,X,A,Y,b6,Z,B,G,O⟩:=CU (a:=a) R J U K M t u p (by omega) o V N z
   have hs:F.FO (an m) (an u,an v,an p,an q)=some (.inl (sub3 m f g j k)):=by
    unfold F.FO
    dsimp only
    have:=(d7 u).2 hu
    rw[i3 _ (by omega),ae,ar,if_pos (decide_eq_true (by omega)),O]
   have y:0<m:=by omega
   rw[bJ hs]
   unfold sub3
   by_cases hc:g<=f
   ·rw[if_pos hc]
    obtain⟨x,I,h,i⟩:=ih (f - g) g ((m - k+j)%m) k (by omega) (by omega) Y (by omega) (Nat.mod_lt _ y) Z (nh (by omega) hc A B) B (by rw[qS hc,G]; exact z)
    rw[qS hc,G]at h i
    exact⟨x,I,h,i⟩
   ·rw[if_neg hc]
    have e:Nat.gcd f (g - f)=Nat.gcd u v:=by rw[Nat.gcd_comm,qS (by omega),Nat.gcd_comm,G]
    obtain⟨x,I,h,i⟩:=ih f (g - f) j ((m - j+k)%m) (by omega) (by omega) (by omega) (by omega) X (Nat.mod_lt _ y) A (nh (by omega) (by omega) B A) (by rw[e]; exact z)
    rw[e]at h i
    exact⟨x,I,h,i⟩
theorem BW (a:L0) (m:Nat) (i:1<m) (j:m%2=1) (J:nb m<=4096) (k:(an m).length<=900) (K:nb (val a)<=4096) (o:a.length<=40000000000000) (z:Nat.gcd (val a) m=1) :
  ∃w,w<m/\val a*w%m=1/\F.Hp a (an m)=some (an w,0):=by
 have A:F.EK [a,an m]=some 0:=by
  have B:∀x∈[a,an m],x.length<=40000000000000:=by
   intro x q
   simp only[List.mem_cons,List.not_mem_nil,or_false]at q
   rcases q with h | h
   ·rw[h]; exact o
   ·rw[h]; omega
  rw[sR [a,an m] 1 rfl (by decide) B]
  unfold j2
  rw[if_neg]
  ·rw[show [a,an m].getD 1 []=an m from rfl,ar,if_neg (by omega)]
  ·simp only[List.any_cons,List.any_nil,Bool.or_false,Bool.or_eq_true,decide_eq_true_eq,ar]
   omega
 have f:Nat.gcd (val a%m) m=1:=by rw[<-z,<-Nat.gcd_rec,Nat.gcd_comm]
 obtain⟨x,g,t,y⟩:=Cq (a:=val a%m) j k (val a%m+m) (val a%m) m 1 0 (Nat.le_refl _) (Nat.le_of_lt (Nat.mod_lt _ (by omega))) (by omega) (Nat.le_refl _) i (by omega) (by rw[Nat.one_mul]) (by rw[Nat.zero_mul,Nat.mod_self,Nat.zero_mod]) (by rw[f])
 rw[f,Nat.mod_eq_of_lt i]at t
 rw[f]at y
 have G:an 1=[1]:=by rw[fT (by decide),show 1 / 4294967296=0 by decide,bR]; rfl
 refine⟨x,g,?_,?_⟩
 ·rw[<-t,Nat.mul_comm,Nat.mul_mod_mod]
 ·have lx:=cW (Nat.le_of_lt g) k
  unfold F.Hp
  rw[A,ae,if_neg (by decide),ka a _ o (by omega) (by rw[ar]; omega),ar,ae,jO _ (by omega),ar,ae,if_pos (decide_eq_true j)]
  have I:F.HY (an (val a%m)) (an m)=some ([1],an x):=by
   unfold F.HY
   rw[<-G,<-bR]at *
   exact y
  rw[I,ae]
  dsimp only
  rw[jK _ _ (by decide) (by decide),rE,ae,if_neg (by decide),ka _ _ (by omega) (by omega) (by rw[ar]; omega),ar,ar,Nat.mod_eq_of_lt g,ae]
end Go.Gk.Bn
end
