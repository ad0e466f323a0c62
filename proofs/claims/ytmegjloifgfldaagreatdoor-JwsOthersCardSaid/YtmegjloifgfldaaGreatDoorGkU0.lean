import Derived.Test.YtmegjloifgfldaaGreatDoorGkP0
import Derived.Test.YtmegjloifgfldaaGreatDoorGkFman
set_option linter.unusedVariables false
set_option linter.unusedSimpArgs false
set_option linter.unusedSectionVars false

section
namespace Go.Gk.Bn
open Go Go.Gk
def val:Q0->Nat
 | []=>0
 | x :: l=>x.toNat+4294967296*val l
theorem eh:val []=0:=rfl
theorem dg (x:UInt32) (l:Q0):val (x :: l)=x.toNat+4294967296*val l:=rfl
theorem cn (x:UInt32):x.toNat<4294967296:=x.toNat_lt
theorem iS:∀(a b:Q0),val (a++b)=val a+4294967296^a.length*val b
 | [],b=>by simp[val]
 | x :: a,b=>by
  rw[List.cons_append,dg,iS a b,dg,List.length_cons,Nat.pow_succ,Nat.mul_add,<-Nat.add_assoc]
  congr 1
  rw[<-Nat.mul_assoc,Nat.mul_comm 4294967296 (4294967296^a.length)]
theorem bD:∀l:Q0,val l<4294967296^l.length
 | []=>by simp[val]
 | x :: l=>by
  have f:=bD l
  have g:=cn x
  rw[dg,List.length_cons,Nat.pow_succ]
  have:val l+1<=4294967296^l.length:=f
  have:=Nat.mul_le_mul_left 4294967296 this
  omega
theorem dz (l:Q0) (k:Nat) (h:k<=l.length):val l=val (l.take k)+4294967296^k*val (l.drop k):=by
 have:=iS (l.take k) (l.drop k)
 rw[List.take_append_drop,List.length_take,Nat.min_eq_left h]at this
 exact this
theorem dn:∀k:Nat,val (List.replicate k 0)=0
 | 0=>rfl
 | k+1=>by rw[List.replicate_succ,dg,dn k]; rfl
theorem jb (l:Q0) (x:UInt32):val (l++[x])=val l+4294967296^l.length*x.toNat:=by
 rw[iS,dg,eh]; simp
theorem ef:∀(l:Q0) (i:Nat) (x:UInt32),i<l.length->val (l.set i x)+4294967296^i*(l.getD i 0).toNat=val l+4294967296^i*x.toNat
 | [],i,x,h=>by simp at h
 | y :: l,0,x,h=>by simp[val]; omega
 | y :: l,i+1,x,h=>by
  have k:=ef l i x (by simpa using h)
  have f:(y :: l).getD (i+1) 0=l.getD i 0:=by simp
  rw[f,List.set_cons_succ,dg,dg,Nat.pow_succ]
  have g:4294967296^i*4294967296*(l.getD i 0).toNat=4294967296*(4294967296^i*(l.getD i 0).toNat):=by rw[Nat.mul_right_comm,Nat.mul_comm]
  have j:4294967296^i*4294967296*x.toNat=4294967296*(4294967296^i*x.toNat):=by rw[Nat.mul_right_comm,Nat.mul_comm]
  rw[g,j]
  omega
def ao (n:Nat):Q0:=if h:n=0 then [] else UInt32.ofNat n :: ao (n / 4294967296)
termination_by n
decreasing_by exact Nat.div_lt_self (Nat.pos_of_ne_zero h) (show 1<4294967296 by decide)
theorem bG:ao 0=[]:=by rw[ao]; simp
theorem f7 {n:Nat} (h:n≠0):ao n=UInt32.ofNat n :: ao (n / 4294967296):=by rw[ao]; simp[h]
theorem aw (n:Nat):val (ao n)=n:=by
 induction n using Nat.strongRecOn with
 | ind n ih=>
  by_cases h:n=0
  ·subst h; rw[bG]; rfl
  ·rw[f7 h,dg,ih _ (Nat.div_lt_self (Nat.pos_of_ne_zero h) (show 1<4294967296 by decide)),UInt32.toNat_ofNat']
   omega
def Can (l:Q0):Prop:=l.getLast?≠some 0
theorem si:Can []:=by simp[Can]
theorem CB {x:UInt32} {l:Q0} (h:Can (x :: l)):Can l:=by
 unfold Can at h ⊢
 cases l with
 | nil=>simp
 | cons y l=>simpa using h
theorem jC:∀l:Q0,Can l->ao (val l)=l
 | [],_=>bG
 | x :: l,h=>by
  have f:=jC l (CB h)
  have hx:=cn x
  have g:val (x :: l)≠0:=by
   rw[dg]
   intro k
   have i:x.toNat=0:=by omega
   have j:val l=0:=by omega
   rw[j,bG]at f
   subst f
   have:x=0:=UInt32.toNat_inj.1 i
   subst this
   simp[Can]at h
  rw[f7 g,dg]
  congr 1
  ·apply UInt32.toNat_inj.1
   rw[UInt32.toNat_ofNat']; omega
  ·rw[show (x.toNat+4294967296*val l) / 4294967296=val l by omega,f]
theorem sX (n:Nat):Can (ao n):=by
 induction n using Nat.strongRecOn with
 | ind n ih=>
  by_cases h:n=0
  ·subst h; rw[bG]; exact si
  ·have f:=ih _ (Nat.div_lt_self (Nat.pos_of_ne_zero h) (show 1<4294967296 by decide))
   rw[f7 h]
   by_cases hd:n / 4294967296=0
   ·rw[hd,bG]
    unfold Can
    simp only[List.getLast?_singleton,ne_eq,Option.some.injEq]
    intro g
    have:=congrArg UInt32.toNat g
    rw[UInt32.toNat_ofNat']at this
    simp at this
    omega
   ·unfold Can at f ⊢
    rw[f7 hd]at f ⊢
    simpa using f
theorem EU {a b:Q0} (ha:Can a) (hb:Can b) (h:val a=val b):a=b:=by
 rw[<-jC a ha,<-jC b hb,h]
theorem sP (l:Q0) (k:Nat):val (l++List.replicate k 0)=val l:=by rw[iS,dn]; simp
theorem uw {l:Q0} {n:Nat} (h:val l=n) (hc:Can l):l=ao n:=by rw[<-h,jC l hc]
theorem ba {n k:Nat} (h:n<4294967296^k):(ao n).length<=k:=by
 induction k generalizing n with
 | zero=>simp at h; subst h; rw[bG]; simp
 | succ k ih=>
  by_cases h0:n=0
  ·subst h0; rw[bG]; simp
  ·rw[f7 h0,List.length_cons]
   have:=ih (n:=n / 4294967296) (by rw[Nat.pow_succ]at h; exact Nat.div_lt_of_lt_mul (by rwa [Nat.mul_comm]at h))
   omega
theorem oa {n k:Nat} (h:4294967296^k<=n):k<(ao n).length:=by
 have:=bD (ao n)
 rw[aw]at this
 rcases Nat.lt_or_ge k (ao n).length with f | f
 ·exact f
 ·have:=Nat.pow_le_pow_right (show 0<4294967296 by decide) f
  omega
theorem oX {a b:Q0} (hb:Can b) (h:a.length<b.length):val a<val b:=by
 have k:=bD a
 have f:b≠[]:=by rintro rfl; simp at h
 have j:b=b.dropLast++[b.getLast f]:=(List.dropLast_concat_getLast f).symm
 have hl:b.getLast f≠0:=fun g=>hb (by rw[List.getLast?_eq_some_getLast f,g])
 have i:1<=(b.getLast f).toNat:=by
  rcases Nat.eq_zero_or_pos (b.getLast f).toNat with g | g
  ·exact absurd (UInt32.toNat_inj.1 g) hl
  ·exact g
 rw[j,jb,List.length_dropLast]
 have o:=Nat.pow_le_pow_right (show 0<4294967296 by decide) (show a.length<=b.length - 1 by omega)
 have t:=Nat.mul_le_mul_left (4294967296^(b.length - 1)) i
 omega
end Go.Gk.Bn
end

section
namespace Go.Gk.Bn
theorem uk {g r f i V' h j o K:Nat} (z:h=g*f+r) (G:o<K)
  (k:4294967296<=g\/r*4294967296+j<g*i) (t:(h*4294967296+j)*K+o<4294967296*((f*4294967296+i)*K+V')) :
  (h*4294967296+j)*K+o<g*((f*4294967296+i)*K+V'):=by
 rcases k with k | k
 ·exact Nat.lt_of_lt_of_le t (Nat.mul_le_mul_right _ k)
 ·have A:h*4294967296+j+1<=g*(f*4294967296+i):=by
   subst z
   have B:g*(f*4294967296+i)=g*f*4294967296+g*i:=by rw[Nat.mul_add,<-Nat.mul_assoc]
   rw[B,Nat.add_mul]
   omega
  have F:(h*4294967296+j+1)*K<=g*(f*4294967296+i)*K:=Nat.mul_le_mul_right _ A
  rw[Nat.add_mul,Nat.one_mul]at F
  rw[Nat.mul_add,<-Nat.mul_assoc]
  omega
theorem Ap {g r f i V' h j k K:Nat} (o:h=g*f+r) (A:V'<K) (B:1<=f)
  (hg:g<4294967296) (F:g*i<=r*4294967296+j) :
  g*((f*4294967296+i)*K+V')<(h*4294967296+j)*K+k+((f*4294967296+i)*K+V'):=by
 have t:g*(f*4294967296+i)<=h*4294967296+j:=by
  subst o
  have z:g*(f*4294967296+i)=g*f*4294967296+g*i:=by rw[Nat.mul_add,<-Nat.mul_assoc]
  rw[z,Nat.add_mul]
  omega
 have G:g*(f*4294967296+i)*K<=(h*4294967296+j)*K:=Nat.mul_le_mul_right _ t
 have I:g*V'<=4294967295*V':=Nat.mul_le_mul_right _ (by omega)
 have J:4294967296*K<=(f*4294967296+i)*K:=Nat.mul_le_mul_right _ (by omega)
 rw[Nat.mul_add,<-Nat.mul_assoc]
 omega
end Go.Gk.Bn
end

section
namespace Go.Gk.Bn
open Go Go.Gk
theorem fe (c:UInt64):c.toUInt32.toNat=c.toNat%4294967296:=UInt64.toNat_toUInt32 c
theorem lL (c:UInt64):(aP c 32).toNat=c.toNat / 4294967296:=by rw[dI]; rfl
theorem x8 (c:UInt64):(aP c 32).toUInt32.toNat=c.toNat / 4294967296:=by
 rw[fe,lL,Nat.mod_eq_of_lt]
 have:=c.toNat_lt
 omega
theorem Cl (c:UInt64):(aP c 63).toNat=c.toNat / 9223372036854775808:=by rw[dI]; rfl
theorem bY (x:UInt32):x.toUInt64.toNat=x.toNat:=UInt32.toNat_toUInt64 x
theorem kl (c:UInt64):c.toNat=c.toUInt32.toNat+4294967296*(aP c 32).toNat:=by rw[fe,lL]; omega
theorem gE (a b:UInt64) (h:a.toNat+b.toNat<18446744073709551616):(a+b).toNat=a.toNat+b.toNat:=by rw[UInt64.toNat_add]; omega
theorem oB (a b:UInt64) (h:a.toNat*b.toNat<18446744073709551616):(a*b).toNat=a.toNat*b.toNat:=by rw[UInt64.toNat_mul]; omega
theorem iA (x:UInt32):x.toNat<=4294967295:=by have:=cn x; omega
def pad (x:Q0) (n:Nat):Q0:=x++List.replicate (n - x.length) 0
theorem gS {x:Q0} {n:Nat} (h:x.length<=n):(pad x n).length=n:=by simp[pad]; omega
theorem r7 (n:Nat):pad [] n=List.replicate n 0:=by simp[pad]
theorem oA {x:Q0} {n:Nat} (h:x.length<n) (v:UInt32):(pad x n).set x.length v=pad (x++[v]) n:=by
 unfold pad
 rw[List.set_append_right _ _ (Nat.le_refl _),Nat.sub_self]
 obtain⟨k,f⟩:∃k,n - x.length=k+1:=⟨n - x.length - 1,by omega⟩
 rw[f,List.replicate_succ,List.set_cons_zero,List.append_assoc]
 congr 2
 simp; omega
theorem l7 (x:Q0) (n:Nat):val (pad x n)=val x:=sP x _
theorem dY {a:Q0} {i:Nat} (h:a.length<=i):a.getD i 0=0:=by
 rw[List.getD_eq_getElem?_getD,List.getElem?_eq_none h]; rfl
theorem px {a:Q0} {i:Nat} (h:i<a.length):a.take (i+1)=a.take i++[a.getD i 0]:=by
 rw[List.take_succ_eq_append_getElem h]
 congr 2
 rw[List.getD_eq_getElem?_getD,List.getElem?_eq_getElem h]; rfl
theorem bM (a:Q0) (i:Nat):val (a.take (i+1))=val (a.take i)+4294967296^i*(a.getD i 0).toNat:=by
 by_cases h:i<a.length
 ·rw[px h,jb,List.length_take,Nat.min_eq_left (by omega)]
 ·rw[List.take_of_length_le (by omega),List.take_of_length_le (by omega),dY (by omega)]; simp
theorem k6 {a:Q0} {n:Nat} (hn:n<=a.length) (h:∀k,n<=k->a.getD k 0=0) (g:n=0\/a.getD (n - 1) 0≠0):a.take n=ao (val a):=by
 have j:a.drop n=List.replicate (a.length - n) 0:=by
  refine List.ext_getElem (by simp) fun i f o=>?_
  have:=h (n+i) (by omega)
  rw[List.getD_eq_getElem?_getD,List.getElem?_eq_getElem (by simp at f; omega)]at this
  rw[List.getElem_drop,List.getElem_replicate]
  exact this
 refine uw ?_ ?_
 ·conv=>rhs; rw[<-List.take_append_drop n a,j,sP]
 ·unfold Can
  rcases g with rfl | g
  ·simp
  ·intro f
   by_cases h0:n=0
   ·subst h0; simp at f
   ·have hl:(a.take n).length=n:=by simp; omega
    rw[List.getLast?_eq_getElem?,hl,List.getElem?_take_of_lt (by omega)]at f
    rw[List.getD_eq_getElem?_getD,f]at g
    exact g rfl
theorem zY {ρ:Type} {f:Int->Option (Int⊕ρ)} (a:Q0) (X:Int->Option ρ) (ha:a.length<=4611686018427387904)
  (j:∀n:Nat,n<=a.length->f (n:Int)=if n≠0/\a.getD (n - 1) 0=0 then some (.inl ((n - 1:Nat):Int)) else bz (X (n:Int))) :
  ∃n,n<=a.length/\a.take n=ao (val a)/\loop f (a.length:Int)=X (n:Int):=by
 have o:∀n:Nat,n<=a.length->(∀k,n<=k->a.getD k 0=0)->∃m,m<=a.length/\a.take m=ao (val a)/\loop f (n:Int)=X (m:Int):=by
  intro n
  induction n with
  | zero=>
   intro hn i
   refine⟨0,hn,k6 hn i (.inl rfl),?_⟩
   have:=j 0 hn
   rw[if_neg (by simp)]at this
   rw[mf,this]
   cases X ((0:Nat):Int) <;> rfl
  | succ n ih=>
   intro hn i
   have h:=j (n+1) hn
   rw[Nat.add_sub_cancel]at h
   by_cases h0:a.getD n 0=0
   ·rw[if_pos ⟨by omega,h0⟩]at h
    obtain⟨m,t,z,A⟩:=ih (by omega) fun k g=>by
     rcases Nat.eq_or_lt_of_le g with rfl | g
     ·exact h0
     ·exact i k g
    exact⟨m,t,z,(bB h).trans A⟩
   ·rw[if_neg (fun hc=>h0 hc.2)]at h
    refine⟨n+1,hn,k6 hn i (.inr (by simpa using h0)),?_⟩
    rw[mf,h]
    cases X ((n+1:Nat):Int) <;> rfl
 exact o a.length (Nat.le_refl _) fun k g=>dY g
end Go.Gk.Bn
end

section
namespace Go.Gk.Bn
open Go Go.Gk Go.Gk.Sh
theorem gn (a:Q0) (ha:a.length<=4611686018427387904):F.GE a=some (ao (val a)):=by
 unfold F.GE
 obtain⟨n,hn,i,hl⟩:=zY (f:=F.K1 a) a (fun g=>grd (0<=(g:Int)/\(g:Int).toNat<=a.length) <| some (a.take ((g:Int).toNat))) ha (fun n hn=>by
  unfold F.K1 F.La
  by_cases h0:n=0
  ·subst h0
   rw[if_neg (by simp),if_neg (by simp)]
   rfl
  ·have j:wI ((n:Int) - 1)=((n - 1:Nat):Int):=by rw[aI (by omega) (by omega)]; omega
   rw[if_pos (decide_eq_true (by omega)),j,aT (show n - 1<a.length by omega) 0,ae]
   by_cases hz:a.getD (n - 1) 0=0
   ·rw[if_pos (show n≠0/\a.getD (n - 1) 0=0 from⟨h0,hz⟩),if_pos (show (a.getD (n - 1) 0 == 0)=true from by rw[hz]; rfl)]; rfl
   ·rw[if_neg (show ¬(n≠0/\a.getD (n - 1) 0=0) from fun h=>hz h.2),if_neg (show ¬(a.getD (n - 1) 0 == 0)=true from fun h=>hz (eq_of_beq h))])
 rw[hl,grd_true _ ⟨by omega,by rw[Int.toNat_natCast]; exact hn⟩,Int.toNat_natCast,i]
theorem jl (x:UInt64):F.Hj x=some (ao x.toNat):=by
 unfold F.Hj
 rw[gn _ (by simp),ae,dg,dg,eh,Nat.mul_zero,Nat.add_zero,x8,<-lL,<-kl]
theorem mE {x:Q0} {n i:Nat} (hx:x.length<=n) (h:i<n):∃u,aC (pad x n) (i:Int)=some u:=⟨_,aT (by rw[gS hx]; exact h) 0⟩
def lB (a b:Q0) (x:Q0×UInt64) (i:Nat):Q0×UInt64:=
 (x.1++[(x.2+(a.getD i 0).toUInt64+(b.getD i 0).toUInt64).toUInt32],aP (x.2+(a.getD i 0).toUInt64+(b.getD i 0).toUInt64) 32)
theorem up {a b:Q0} {x:Q0×UInt64} {i:Nat} (f:x.1.length=i) (h:val x.1+4294967296^i*x.2.toNat=val (a.take i)+val (b.take i)) (j:x.2.toNat<=1) :
  (lB a b x i).1.length=i+1/\val (lB a b x i).1+4294967296^(i+1)*(lB a b x i).2.toNat=val (a.take (i+1))+val (b.take (i+1))/\(lB a b x i).2.toNat<=1:=by
 have ha:=cn (a.getD i 0); have hb:=cn (b.getD i 0)
 obtain⟨s,hs⟩:∃s,x.2+(a.getD i 0).toUInt64+(b.getD i 0).toUInt64=s:=⟨_,rfl⟩
 have g:s.toNat=x.2.toNat+(a.getD i 0).toNat+(b.getD i 0).toNat:=by
  rw[<-hs,gE _ _ (by rw[gE _ _ (by rw[bY]; omega),bY,bY]; omega),gE _ _ (by rw[bY]; omega),bY,bY]
 unfold lB
 rw[hs]
 refine⟨by simp[f],?_,by simp only[lL]; omega⟩
 have e:=kl s
 simp only
 rw[jb,f,bM,bM,Nat.pow_succ,Nat.mul_assoc]
 have:4294967296^i*s.toNat=4294967296^i*s.toUInt32.toNat+4294967296^i*(4294967296*(aP s 32).toNat):=by rw[<-Nat.mul_add,<-e]
 rw[g,Nat.mul_add,Nat.mul_add]at this
 omega
theorem Bz (a b:Q0) (o:b.length<=a.length) (ha:a.length<=70368744177663):loop (F.IC a b) (0,0,pad [] (a.length+1))=some (ao (val a+val b)):=by
 have e:=cA (f:=F.IC a b) (fun (x:Q0×UInt64) i=>(x.2,(i:Int),pad x.1 (a.length+1)))
  (fun i x=>x.1.length=i/\val x.1+4294967296^i*x.2.toNat=val (a.take i)+val (b.take i)/\x.2.toNat<=1) (lB a b) 0 a.length
  (X:=fun x=>F.GE ((pad x.1 (a.length+1)).set a.length x.2.toUInt32))
  (fun i x _ hi hx=>by
   obtain⟨g,h,j⟩:=hx
   refine⟨?_,up g h j⟩
   have A:wI ((i:Int)+1)=((i+1:Nat):Int):=by rw[aI (by omega) (by omega)]; rfl
   obtain⟨u,k⟩:=mE (x:=x.1) (n:=a.length+1) (i:=i) (by omega) (by omega)
   have t:∀s:UInt64,s=x.2+(a.getD i 0).toUInt64+(b.getD i 0).toUInt64->F.Jx (i:Int) (pad x.1 (a.length+1)) s=some (.inl ((lB a b x i).2,((i+1:Nat):Int),pad (lB a b x i).1 (a.length+1))):=by
    rintro s rfl
    unfold F.Jx
    dsimp only
    rw[k,ae,aV,A,Int.toNat_natCast]
    have:=oA (x:=x.1) (n:=a.length+1) (by omega) (x.2+(a.getD i 0).toUInt64+(b.getD i 0).toUInt64).toUInt32
    rw[g]at this
    rw[this]; rfl
   unfold F.IC
   dsimp only
   rw[if_pos (decide_eq_true (by omega)),aT hi 0,ae]
   by_cases hb:i<b.length
   ·rw[if_pos (decide_eq_true (by omega)),aT hb 0,ae,aV,t _ rfl]
   ·rw[if_neg (by simp only[decide_eq_true_eq]; omega),t _ (by rw[dY (a:=b) (i:=i) (by omega)]; exact (UInt64.add_zero _).symm)])
  (fun x hx=>by
   obtain⟨u,k⟩:=mE (x:=x.1) (n:=a.length+1) (i:=a.length) (by omega) (by omega)
   unfold F.IC
   dsimp only
   rw[if_neg (by simp),k,ae,aV,Int.toNat_natCast]
   cases F.GE ((pad x.1 (a.length+1)).set a.length x.2.toUInt32) <;> rfl)
  a.length 0 ([],0) (Nat.le_refl _) (by omega) ⟨rfl,by simp[val],by simp⟩
 refine e.trans ?_
 obtain⟨g,h,j⟩:=cQ (fun i (x:Q0×UInt64)=>x.1.length=i/\val x.1+4294967296^i*x.2.toNat=val (a.take i)+val (b.take i)/\x.2.toNat<=1) (lB a b)
  (fun i x hx=>up hx.1 hx.2.1 hx.2.2) a.length 0 ([],0) ⟨rfl,by simp[val],by simp⟩
 obtain⟨y,hy⟩:∃y,(List.range' 0 a.length).foldl (lB a b) ([],0)=y:=⟨_,rfl⟩
 rw[hy]at g h j ⊢
 rw[Nat.zero_add]at g h
 rw[List.take_length,List.take_of_length_le o]at h
 have z:=oA (x:=y.1) (n:=a.length+1) (by omega) y.2.toUInt32
 rw[g]at z
 rw[z,gn _ (by rw[gS (by simp; omega)]; omega),l7,jb,g,fe,Nat.mod_eq_of_lt (by omega),h]
theorem qM (a b:Q0) (ha:a.length<=70368744177663) (hb:b.length<=70368744177663):F.IA a b=some (ao (val a+val b)):=by
 have f:∀a b:Q0,b.length<=a.length->a.length<=70368744177663->F.JA (a,b)=some (ao (val a+val b)):=by
  intro a b g i
  unfold F.JA
  dsimp only
  rw[aI (by omega) (by omega),dv (by omega),ae]
  have:(((a.length:Int)+1).toNat)=a.length+1:=by omega
  rw[this,<-r7,Bz a b g i]
 unfold F.IA
 by_cases h:a.length<b.length
 ·rw[if_pos (decide_eq_true (by omega)),f b a (by omega) hb,Nat.add_comm]
 ·rw[if_neg (by simp only[decide_eq_true_eq]; omega),f a b (by omega) ha]
end Go.Gk.Bn
end

section
namespace Go.Gk.Bn
open Go Go.Gk Go.Gk.Sh
theorem Bt (u v:UInt32) (c:UInt64) (hc:c.toNat<=1):((u.toUInt64 - c) - v.toUInt64).toUInt32.toNat+c.toNat+v.toNat=u.toNat+4294967296*(aP ((u.toUInt64 - c) - v.toUInt64) 63).toNat/\(aP ((u.toUInt64 - c) - v.toUInt64) 63).toNat<=1:=by
 have f:=cn u; have g:=cn v
 rw[fe,Cl,UInt64.toNat_sub,UInt64.toNat_sub,bY,bY]
 omega
def gB (a b:Q0) (x:Q0×UInt64) (i:Nat):Q0×UInt64:=
 (x.1++[((a.getD i 0).toUInt64 - x.2 - (b.getD i 0).toUInt64).toUInt32],aP ((a.getD i 0).toUInt64 - x.2 - (b.getD i 0).toUInt64) 63)
theorem uL {a b:Q0} {x:Q0×UInt64} {i:Nat} (f:x.1.length=i) (k:val x.1+val (b.take i)=val (a.take i)+4294967296^i*x.2.toNat) (j:x.2.toNat<=1) :
  (gB a b x i).1.length=i+1/\val (gB a b x i).1+val (b.take (i+1))=val (a.take (i+1))+4294967296^(i+1)*(gB a b x i).2.toNat/\(gB a b x i).2.toNat<=1:=by
 obtain⟨g,h⟩:=Bt (a.getD i 0) (b.getD i 0) x.2 j
 unfold gB
 obtain⟨s,hs⟩:∃s,(a.getD i 0).toUInt64 - x.2 - (b.getD i 0).toUInt64=s:=⟨_,rfl⟩
 rw[hs]at g h ⊢
 refine⟨by simp[f],?_,h⟩
 simp only
 rw[jb,f,bM,bM,Nat.pow_succ,Nat.mul_assoc]
 have:4294967296^i*(s.toUInt32.toNat+x.2.toNat+(b.getD i 0).toNat)=4294967296^i*((a.getD i 0).toNat+4294967296*(aP s 63).toNat):=by rw[g]
 rw[Nat.mul_add,Nat.mul_add,Nat.mul_add]at this
 omega
theorem wa (a b:Q0) (o:b.length<=a.length) (G:val b<=val a) (ha:a.length<=70368744177664):F.Iy a b=some (ao (val a - val b)):=by
 unfold F.Iy
 rw[dv (by omega),ae,Int.toNat_natCast,<-r7]
 have e:=cA (f:=F.Kt a b) (fun (x:Q0×UInt64) i=>(x.2,(i:Int),pad x.1 a.length))
  (fun i x=>x.1.length=i/\val x.1+val (b.take i)=val (a.take i)+4294967296^i*x.2.toNat/\x.2.toNat<=1) (gB a b) 0 a.length
  (X:=fun x=>F.GE (pad x.1 a.length))
  (fun i x _ hi hx=>by
   obtain⟨j,g,k⟩:=hx
   refine⟨?_,uL j g k⟩
   have A:wI ((i:Int)+1)=((i+1:Nat):Int):=by rw[aI (by omega) (by omega)]; rfl
   obtain⟨u,B⟩:=mE (x:=x.1) (n:=a.length) (i:=i) (by omega) (by omega)
   have t:∀s:UInt64,s=(a.getD i 0).toUInt64 - x.2 - (b.getD i 0).toUInt64->F.Jh (i:Int) (pad x.1 a.length) s=some (.inl ((gB a b x i).2,((i+1:Nat):Int),pad (gB a b x i).1 a.length)):=by
    rintro s rfl
    unfold F.Jh
    dsimp only
    rw[B,ae,aV,A,Int.toNat_natCast]
    have:=oA (x:=x.1) (n:=a.length) (by omega) ((a.getD i 0).toUInt64 - x.2 - (b.getD i 0).toUInt64).toUInt32
    rw[j]at this
    rw[this]; rfl
   unfold F.Kt
   dsimp only
   rw[if_pos (decide_eq_true (by omega)),aT hi 0,ae]
   by_cases hb:i<b.length
   ·rw[if_pos (decide_eq_true (by omega)),aT hb 0,ae,aV,t _ rfl]
   ·rw[if_neg (by simp only[decide_eq_true_eq]; omega),t _ (by rw[dY (a:=b) (i:=i) (by omega)]; exact (UInt64.sub_zero _).symm)])
  (fun x hx=>by
   unfold F.Kt
   dsimp only
   rw[if_neg (by simp)]
   cases F.GE (pad x.1 a.length) <;> rfl)
  a.length 0 ([],0) (Nat.le_refl _) (by omega) ⟨rfl,by simp[val],by simp⟩
 refine e.trans ?_
 obtain⟨j,g,k⟩:=cQ (fun i (x:Q0×UInt64)=>x.1.length=i/\val x.1+val (b.take i)=val (a.take i)+4294967296^i*x.2.toNat/\x.2.toNat<=1) (gB a b)
  (fun i x hx=>uL hx.1 hx.2.1 hx.2.2) a.length 0 ([],0) ⟨rfl,by simp[val],by simp⟩
 obtain⟨y,hy⟩:∃y,(List.range' 0 a.length).foldl (gB a b) ([],0)=y:=⟨_,rfl⟩
 rw[hy]at j g k ⊢
 rw[Nat.zero_add]at j g
 rw[List.take_length,List.take_of_length_le o]at g
 have z:=bD y.1
 rw[j]at z
 have hc:y.2.toNat=0:=by
  rcases Nat.eq_zero_or_pos y.2.toNat with h | h
  ·exact h
  ·have:y.2.toNat=1:=by omega
   rw[this,Nat.mul_one]at g
   omega
 rw[hc,Nat.mul_zero,Nat.add_zero]at g
 rw[gn _ (by rw[gS (by omega)]; omega),l7,show val y.1=val a - val b by omega]
theorem z6 (a b:UInt32):a.toNat*b.toNat<=4294967295*4294967295:=Nat.mul_le_mul (iA a) (iA b)
theorem Br (c:UInt64) (u v r:UInt32) (hc:c.toNat<=4294967295):(c+(u.toUInt64*v.toUInt64+r.toUInt64)).toNat=c.toNat+(u.toNat*v.toNat+r.toNat):=by
 have h:=z6 u v; have i:=iA r
 have f:(u.toUInt64*v.toUInt64).toNat=u.toNat*v.toNat:=by rw[oB _ _ (by rw[bY,bY]; omega),bY,bY]
 have g:(u.toUInt64*v.toUInt64+r.toUInt64).toNat=u.toNat*v.toNat+r.toNat:=by rw[gE _ _ (by rw[f,bY]; omega),f,bY]
 rw[gE _ _ (by rw[g]; omega),g]
theorem dB {l:Q0} {i k:Nat} {x:UInt32} (h:i≠k):(l.set i x).getD k 0=l.getD k 0:=by
 rw[List.getD_eq_getElem?_getD,List.getElem?_set_ne h,List.getD_eq_getElem?_getD]
def vd (u:UInt32) (b:Q0) (i:Nat) (x:UInt64×Q0) (j:Nat):UInt64×Q0:=
 (aP (x.1+(u.toUInt64*(b.getD j 0).toUInt64+(x.2.getD (i+j) 0).toUInt64)) 32,x.2.set (i+j) (x.1+(u.toUInt64*(b.getD j 0).toUInt64+(x.2.getD (i+j) 0).toUInt64)).toUInt32)
def tQ (u:UInt32) (b:Q0) (i N:Nat) (r0:Q0) (j:Nat) (x:UInt64×Q0):Prop:=
 x.2.length=N/\(∀k,i+b.length<=k->x.2.getD k 0=0)/\val x.2+4294967296^(i+j)*x.1.toNat=val r0+4294967296^i*(u.toNat*val (b.take j))/\x.1.toNat<=4294967295
theorem uv {u:UInt32} {b:Q0} {i N:Nat} {f:Q0} {j:Nat} {x:UInt64×Q0} (G:i+b.length<N) (I:j<b.length) (h:tQ u b i N f j x):tQ u b i N f (j+1) (vd u b i x j):=by
 obtain⟨o,t,J,z⟩:=h
 have e:=Br x.1 u (b.getD j 0) (x.2.getD (i+j) 0) z
 unfold vd
 obtain⟨s,hs⟩:∃s,x.1+(u.toUInt64*(b.getD j 0).toUInt64+(x.2.getD (i+j) 0).toUInt64)=s:=⟨_,rfl⟩
 rw[hs]at e ⊢
 have g:=kl s
 have hb:=z6 u (b.getD j 0); have K:=iA (x.2.getD (i+j) 0)
 refine⟨by simpa using o,fun k A=>?_,?_,by simp only[lL]; omega⟩
 ·simp only
  rw[dB (by omega)]; exact t k A
 ·simp only
  have M:=ef x.2 (i+j) s.toUInt32 (by omega)
  rw[bM,Nat.mul_add,Nat.mul_add]
  have B:4294967296^i*(u.toNat*(4294967296^j*(b.getD j 0).toNat))=4294967296^(i+j)*(u.toNat*(b.getD j 0).toNat):=by
   rw[Nat.pow_add,Nat.mul_assoc,Nat.mul_left_comm u.toNat]
  have F:4294967296^(i+j)*s.toNat=4294967296^(i+j)*s.toUInt32.toNat+4294967296^(i+(j+1))*(aP s 32).toNat:=by
   rw[<-Nat.add_assoc,Nat.pow_succ,Nat.mul_assoc,<-Nat.mul_add,<-g]
  rw[e,Nat.mul_add,Nat.mul_add]at F
  rw[B]
  omega
theorem Ag (a b:Q0) (i:Nat) (r:Q0) (hi:i<a.length) (hl:r.length=a.length+b.length) (M:∀k,i+b.length<=k->r.getD k 0=0) (hs:a.length+b.length<=70368744177664) :
  ∃g,loop (F.Ij a b (i:Int)) (0,0,r)=some (.inl (((i+1:Nat):Int),g))/\g.length=a.length+b.length/\(∀k,i+1+b.length<=k->g.getD k 0=0)/\val g=val r+4294967296^i*((a.getD i 0).toNat*val b):=by
 have J:tQ (a.getD i 0) b i (a.length+b.length) r 0 (0,r):=⟨hl,M,by simp[val],by simp⟩
 have e:=cA (f:=F.Ij a b (i:Int)) (fun (x:UInt64×Q0) j=>(x.1,(j:Int),x.2)) (fun j x=>j<=b.length->tQ (a.getD i 0) b i (a.length+b.length) r j x) (vd (a.getD i 0) b i) 0 b.length
  (X:=fun x=>some (.inl (((i+1:Nat):Int),x.2.set (i+b.length) x.1.toUInt32)))
  (fun j x _ t hx=>by
   have hx:=hx (by omega)
   refine⟨?_,fun _=>uv (by omega) t hx⟩
   obtain⟨z,h,o,K⟩:=hx
   have A:wI ((i:Int)+(j:Int))=((i+j:Nat):Int):=by rw[aI (by omega) (by omega)]; rfl
   have B:wI ((j:Int)+1)=((j+1:Nat):Int):=by rw[aI (by omega) (by omega)]; rfl
   unfold F.Ij
   dsimp only
   rw[if_pos (decide_eq_true (by omega)),aT hi 0,ae,aT t 0,ae,A,aT (show i+j<x.2.length by omega) 0,ae,aV,ae,aV,Int.toNat_natCast,B]
   rfl)
  (fun x hx=>by
   obtain⟨z,h,o,K⟩:=hx (Nat.le_refl _)
   have A:wI ((i:Int)+(b.length:Int))=((i+b.length:Nat):Int):=by rw[aI (by omega) (by omega)]; rfl
   have B:wI ((i:Int)+1)=((i+1:Nat):Int):=by rw[aI (by omega) (by omega)]; rfl
   unfold F.Ij
   dsimp only
   rw[if_neg (by simp),A,aT (show i+b.length<x.2.length by omega) 0,ae,aV,Int.toNat_natCast,B]
   rfl)
  b.length 0 (0,r) (Nat.le_refl _) (by omega) (fun _=>J)
 have G:=cQ (fun j (x:UInt64×Q0)=>j<=b.length->tQ (a.getD i 0) b i (a.length+b.length) r j x) (vd (a.getD i 0) b i) (fun j x hx=>fun t=>uv (by omega) (by omega) (hx (by omega))) b.length 0 (0,r) (fun _=>J)
 obtain⟨y,hy⟩:∃y,(List.range' 0 b.length).foldl (vd (a.getD i 0) b i) (0,r)=y:=⟨_,rfl⟩
 rw[hy]at G e
 rw[Nat.zero_add]at G
 obtain⟨z,h,o,K⟩:=G (Nat.le_refl _)
 refine⟨_,e,by simpa using z,fun k N=>?_,?_⟩
 ·rw[dB (by omega)]; exact h k (by omega)
 ·have I:=ef y.2 (i+b.length) y.1.toUInt32 (by omega)
  rw[h _ (Nat.le_refl _)]at I
  have:(0:UInt32).toNat=0:=rfl
  rw[this,Nat.mul_zero,Nat.add_zero]at I
  rw[List.take_length]at o
  rw[I,fe,Nat.mod_eq_of_lt (by omega),o]
theorem A1 (a b:Q0) (hs:a.length+b.length<=70368744177664):F.JN a b=some (ao (val a*val b)):=by
 unfold F.JN
 have f:F.ID a b true=some []:=by unfold F.ID; rw[if_pos rfl]
 by_cases ha:a.length=0
 ·rw[if_pos (by simp[ha]),f,List.eq_nil_of_length_eq_zero ha,eh,Nat.zero_mul,bG]
 ·rw[if_neg (by simpa using fun h=>ha (by rw[h]; rfl))]
  by_cases hb:b.length=0
  ·rw[show ((b.length:Int) == 0)=true by simp[hb],f,List.eq_nil_of_length_eq_zero hb,eh,Nat.mul_zero,bG]
  ·rw[show ((b.length:Int) == 0)=false by simpa using fun h=>hb (by rw[h]; rfl)]
   unfold F.ID
   rw[if_neg (by decide),aI (by omega) (by omega),dv (by omega),ae,show ((a.length:Int)+(b.length:Int)).toNat=a.length+b.length by omega]
   have j:∀(k i:Nat) (r:Q0),i+k=a.length->r.length=a.length+b.length->(∀k,i+b.length<=k->r.getD k 0=0)->val r=val (a.take i)*val b->loop (F.Ik a b) ((i:Int),r)=some (ao (val a*val b)):=by
    intro k
    induction k with
    | zero=>
     intro i r h o t g
     have:i=a.length:=by omega
     subst this
     refine cK ?_
     unfold F.Ik
     dsimp only
     rw[if_neg (by simp),gn _ (by omega),ae,g,List.take_length]; rfl
    | succ k ih=>
     intro i r h o t g
     obtain⟨z,B,G,I,J⟩:=Ag a b i r (by omega) o t hs
     have A:F.Ik a b ((i:Int),r)=some (.inl (((i+1:Nat):Int),z)):=by
      unfold F.Ik
      dsimp only
      rw[if_pos (decide_eq_true (by omega)),B]
     rw[bB A]
     refine ih (i+1) z (by omega) G (fun k K=>I k (by omega)) ?_
     rw[J,g,bM,Nat.add_mul,Nat.mul_assoc]
   exact j a.length 0 _ (by omega) (by simp) (fun k _=>by
    rw[List.getD_eq_getElem?_getD,List.getElem?_replicate]; split <;> rfl) (by rw[dn]; simp[val])
end Go.Gk.Bn
end

section
namespace Go.Gk.Bn
open Go Go.Gk Go.Gk.Sh
def cD (a b:Nat):Int:=if a<b then -1 else if a=b then 0 else 1
theorem nt (a:Q0) (k:Nat) (h:k<a.length):val a=val (a.take k)+4294967296^k*((a.getD k 0).toNat+4294967296*val (a.drop (k+1))):=by
 rw[dz a k (by omega),List.drop_eq_getElem_cons h,dg]
 congr 4
 rw[List.getD_eq_getElem?_getD,List.getElem?_eq_getElem h]; rfl
theorem sG {a b:Q0} {k:Nat} (ha:k<a.length) (hb:k<b.length) (f:a.drop (k+1)=b.drop (k+1)) (i:(a.getD k 0).toNat<(b.getD k 0).toNat):val a<val b:=by
 rw[nt a k ha,nt b k hb,f]
 have g:=bD (a.take k)
 rw[List.length_take,Nat.min_eq_left (by omega)]at g
 have h:4294967296^k*((a.getD k 0).toNat+4294967296*val (b.drop (k+1))+1)<=4294967296^k*((b.getD k 0).toNat+4294967296*val (b.drop (k+1))):=Nat.mul_le_mul_left _ (by omega)
 rw[Nat.mul_add,Nat.mul_one]at h
 omega
theorem qt (a b:Q0) (ha:Can a) (hb:Can b) (hl:a.length<=4611686018427387904) (A:b.length<=4611686018427387904):F.H6 a b=some (cD (val a) (val b)):=by
 unfold F.H6 cD
 by_cases h:a.length=b.length
 ·rw[if_neg (by simp[h]),aV]
  have i:∀k,k<=a.length->a.drop k=b.drop k->loop (F.HY a b) ((k:Int) - 1)=some (if val a<val b then -1 else if val a=val b then 0 else 1):=by
   intro k
   induction k with
   | zero=>
    intro _ g
    have:a=b:=by simpa using g
    subst this
    rw[if_neg (by omega),if_pos rfl]
    exact cK rfl
   | succ k ih=>
    intro B g
    have f:k<b.length:=by omega
    have o:(((k+1:Nat):Int)) - 1=(k:Int):=by omega
    have t:wI ((k:Int) - 1)=(k:Int) - 1:=aI (by omega) (by omega)
    rw[o]
    by_cases he:a.getD k 0=b.getD k 0
    ·have hs:F.HY a b (k:Int)=some (.inl ((k:Int) - 1)):=by
      unfold F.HY
      rw[if_pos (decide_eq_true (by omega)),aT (show k<a.length by omega) 0,ae,aT f 0,ae,if_neg (by simp only[he,bne_self_eq_false]; simp),t]; rfl
     rw[bB hs]
     refine ih (by omega) ?_
     rw[List.drop_eq_getElem_cons (show k<a.length by omega),List.drop_eq_getElem_cons f,g]
     congr 1
     rw[List.getD_eq_getElem?_getD,List.getD_eq_getElem?_getD,List.getElem?_eq_getElem (show k<a.length by omega),List.getElem?_eq_getElem f]at he
     exact he
    ·have hs:F.HY a b (k:Int)=if decide (a.getD k 0<b.getD k 0)=true then some (.inr (-1)) else some (.inr 1):=by
      unfold F.HY
      rw[if_pos (decide_eq_true (by omega)),aT (show k<a.length by omega) 0,ae,aT f 0,ae,if_pos (by simpa using he),ae,ae]
      split <;> rfl
     by_cases hlt:a.getD k 0<b.getD k 0
     ·rw[if_pos (decide_eq_true hlt)]at hs
      rw[cK hs,if_pos (sG (by omega) f g (UInt32.lt_iff_toNat_lt.1 hlt))]
     ·rw[if_neg (by simpa using hlt)]at hs
      have j:(b.getD k 0).toNat<(a.getD k 0).toNat:=by
       have G:¬(a.getD k 0).toNat<(b.getD k 0).toNat:=fun h=>hlt (UInt32.lt_iff_toNat_lt.2 h)
       have z:(a.getD k 0).toNat≠(b.getD k 0).toNat:=fun h=>he (UInt32.toNat_inj.1 h)
       omega
      have:=sG f (show k<a.length by omega) g.symm j
      rw[cK hs,if_neg (by omega),if_neg (by omega)]
  have w0:wI ((a.length:Int) - 1)=(a.length:Int) - 1:=aI (by omega) (by omega)
  rw[w0]
  exact i a.length (Nat.le_refl _) (by rw[List.drop_length,List.drop_of_length_le (by omega)])
 ·rw[if_pos (by simpa using fun z=>h (by omega))]
  by_cases hlt:a.length<b.length
  ·rw[if_pos (decide_eq_true (by omega)),if_pos (oX hb hlt)]
  ·have:=oX ha (show b.length<a.length by omega)
   rw[if_neg (by simp only[decide_eq_true_eq]; omega),if_neg (by omega),if_neg (by omega)]
theorem vt (x:UInt64) (y:UInt32) (hx:x.toNat<=4294967295):((aF x 32) ||| y.toUInt64).toNat=4294967296*x.toNat+y.toNat:=by
 have hy:=cn y
 have f:(aF x 32).toNat=x.toNat*4294967296:=by
  rw[dX,show min 32 64=32 from rfl,Nat.mod_eq_of_lt (by omega)]
 rw[UInt64.toNat_or,f,bY,gA 32 (by omega) hy]
 omega
theorem qG (x:UInt32) (y:UInt32):(x.toUInt64 ||| (aF y.toUInt64 32)).toNat=x.toNat+4294967296*y.toNat:=by
 have hx:=cn x; have hy:=cn y
 rw[UInt64.or_comm,vt _ _ (by rw[bY]; omega),bY]; omega
theorem uU (a:Q0) (h:a.length<=2):∃x,F.Jb a=some x/\x.toNat=val a:=by
 unfold F.Jb
 match a,h with
 | [],_=>exact⟨0,rfl,rfl⟩
 | [u],_=>exact⟨u.toUInt64,rfl,by rw[bY]; simp[val]⟩
 | [u,v],_=>exact⟨u.toUInt64 ||| (aF v.toUInt64 32),rfl,by rw[qG]; simp[val]⟩
theorem B4 (a:Q0) (d:UInt32) (N:d≠0) (hl:a.length<=70368744177664):∃r,F.K7 a d=some (ao (val a / d.toNat),r)/\r.toNat=val a%d.toNat:=by
 have f:0<d.toNat:=by
  rcases Nat.eq_zero_or_pos d.toNat with h | h
  ·exact absurd (UInt32.toNat_inj.1 h) N
  ·exact h
 have U:=cn d
 have i:¬d.toUInt64=0:=by
  intro h
  have:=congrArg UInt64.toNat h
  rw[bY]at this
  simp at this
  omega
 have t:∀(k:Nat) (q:Q0) (r:UInt64),k<=a.length->q.length=a.length->r.toNat<d.toNat->val (a.drop k)=d.toNat*val (q.drop k)+r.toNat ->
   ∃z,loop (F.IO a d) (r,(k:Int) - 1,q)=some (ao (val a / d.toNat),z)/\z.toNat=val a%d.toNat:=by
  intro k
  induction k with
  | zero=>
   intro q r _ A o g
   refine⟨r.toUInt32,cK ?_,?_⟩
   ·unfold F.IO
    dsimp only
    rw[if_neg (by decide),gn _ (by omega),ae]
    simp only[List.drop_zero]at g
    have:val q=val a / d.toNat:=by
     rw[g,Nat.add_comm,Nat.add_mul_div_left _ _ f,Nat.div_eq_of_lt o,Nat.zero_add]
    rw[this]; rfl
   ·simp only[List.drop_zero]at g
    rw[fe,Nat.mod_eq_of_lt (by omega),g,Nat.mul_add_mod,Nat.mod_eq_of_lt o]
  | succ k ih=>
   intro q r X A o g
   have O:(((k+1:Nat):Int)) - 1=(k:Int):=by omega
   have R:wI ((k:Int) - 1)=(k:Int) - 1:=aI (by omega) (by omega)
   have B:r.toNat<=4294967295:=by omega
   obtain⟨x,hx⟩:∃x,(aF r 32) ||| (a.getD k 0).toUInt64=x:=⟨_,rfl⟩
   have G:x.toNat=4294967296*r.toNat+(a.getD k 0).toNat:=by rw[<-hx,vt _ _ B]
   have I:(x / d.toUInt64).toNat=x.toNat / d.toNat:=by rw[UInt64.toNat_div,bY]
   have j:(x%d.toUInt64).toNat=x.toNat%d.toNat:=by rw[UInt64.toNat_mod,bY]
   have V:=cn (a.getD k 0)
   have J:x.toNat / d.toNat<4294967296:=by
    rw[Nat.div_lt_iff_lt_mul f,G]
    have:=Nat.mul_le_mul_left 4294967296 (show r.toNat+1<=d.toNat by omega)
    omega
   have hs:F.IO a d (r,(k:Int),q)=some (.inl (x%d.toUInt64,(k:Int) - 1,q.set k (x / d.toUInt64).toUInt32)):=by
    unfold F.IO
    dsimp only
    rw[if_pos (decide_eq_true (by omega)),aT (show k<a.length by omega) 0,ae,hx,aV,grd_true _ i,aT (show k<q.length by omega) 0,ae,aV,grd_true _ i,R]; rfl
   rw[O,bB hs]
   refine ih _ _ (by omega) (by simpa using A) (by rw[j]; exact Nat.mod_lt _ f) ?_
   have K:a.drop k=a.getD k 0 :: a.drop (k+1):=by
    rw[List.drop_eq_getElem_cons (show k<a.length by omega)]
    congr 1
    rw[List.getD_eq_getElem?_getD,List.getElem?_eq_getElem (show k<a.length by omega)]; rfl
   have M:(q.set k (x / d.toUInt64).toUInt32).drop k=(x / d.toUInt64).toUInt32 :: q.drop (k+1):=by
    rw[List.drop_eq_getElem_cons (by simp; omega)]
    congr 1
    ·simp
    ·rw[List.drop_set_of_lt (by omega)]
   rw[K,M,dg,dg,g,fe,I,j,Nat.mod_eq_of_lt J]
   have:=Nat.div_add_mod x.toNat d.toNat
   rw[Nat.mul_add,Nat.mul_add,Nat.mul_left_comm d.toNat 4294967296]
   omega
 unfold F.K7
 have w0:wI ((a.length:Int) - 1)=(a.length:Int) - 1:=aI (by omega) (by omega)
 rw[dv (by omega),ae,aV,w0]
 refine t a.length _ 0 (Nat.le_refl _) (by simp) (by simpa using f) ?_
 rw[List.drop_length,List.drop_of_length_le (by simp)]
 simp[val]
end Go.Gk.Bn
end
