import Derived.Test.YtahgjafdhjbkeaaGreatDoorGkP0
import Derived.Test.YtahgjafdhjbkeaaGreatDoorGkFman
set_option linter.unusedVariables false
set_option linter.unusedSimpArgs false
set_option linter.unusedSectionVars false

section
namespace Go.Gk.Bn
open Go Go.Gk
def val:L0->Nat
 | []=>0
 | x :: l=>x.toNat+4294967296*val l
theorem d8:val []=0:=rfl
theorem dz (x:UInt32) (l:L0):val (x :: l)=x.toNat+4294967296*val l:=rfl
theorem cC (x:UInt32):x.toNat<4294967296:=x.toNat_lt
theorem iE:∀(a b:L0),val (a++b)=val a+4294967296^a.length*val b
 | [],b=>by simp[val]
 | x :: a,b=>by
  rw[List.cons_append,dz,iE a b,dz,List.length_cons,Nat.pow_succ,Nat.mul_add,<-Nat.add_assoc]
  congr 1
  rw[<-Nat.mul_assoc,Nat.mul_comm 4294967296 (4294967296^a.length)]
theorem bv:∀l:L0,val l<4294967296^l.length
 | []=>by simp[val]
 | x :: l=>by
  have f:=bv l
  have g:=cC x
  rw[dz,List.length_cons,Nat.pow_succ]
  have:val l+1<=4294967296^l.length:=f
  have:=Nat.mul_le_mul_left 4294967296 this
  omega
theorem dg (l:L0) (k:Nat) (h:k<=l.length):val l=val (l.take k)+4294967296^k*val (l.drop k):=by
 have:=iE (l.take k) (l.drop k)
 rw[List.take_append_drop,List.length_take,Nat.min_eq_left h]at this
 exact this
theorem cn:∀k:Nat,val (List.replicate k 0)=0
 | 0=>rfl
 | k+1=>by rw[List.replicate_succ,dz,cn k]; rfl
theorem fX (l:L0) (x:UInt32):val (l++[x])=val l+4294967296^l.length*x.toNat:=by
 rw[iE,dz,d8]; simp
theorem dB:∀(l:L0) (i:Nat) (x:UInt32),i<l.length->val (l.set i x)+4294967296^i*(l.getD i 0).toNat=val l+4294967296^i*x.toNat
 | [],i,x,h=>by simp at h
 | y :: l,0,x,h=>by simp[val]; omega
 | y :: l,i+1,x,h=>by
  have k:=dB l i x (by simpa using h)
  have f:(y :: l).getD (i+1) 0=l.getD i 0:=by simp
  rw[f,List.set_cons_succ,dz,dz,Nat.pow_succ]
  have g:4294967296^i*4294967296*(l.getD i 0).toNat=4294967296*(4294967296^i*(l.getD i 0).toNat):=by rw[Nat.mul_right_comm,Nat.mul_comm]
  have j:4294967296^i*4294967296*x.toNat=4294967296*(4294967296^i*x.toNat):=by rw[Nat.mul_right_comm,Nat.mul_comm]
  rw[g,j]
  omega
def an (n:Nat):L0:=if h:n=0 then [] else UInt32.ofNat n :: an (n / 4294967296)
termination_by n
decreasing_by exact Nat.div_lt_self (Nat.pos_of_ne_zero h) (show 1<4294967296 by decide)
theorem bR:an 0=[]:=by rw[an]; simp
theorem fT {n:Nat} (h:n≠0):an n=UInt32.ofNat n :: an (n / 4294967296):=by rw[an]; simp[h]
theorem ar (n:Nat):val (an n)=n:=by
 induction n using Nat.strongRecOn with
 | ind n ih=>
  by_cases h:n=0
  ·subst h; rw[bR]; rfl
  ·rw[fT h,dz,ih _ (Nat.div_lt_self (Nat.pos_of_ne_zero h) (show 1<4294967296 by decide)),UInt32.toNat_ofNat']
   omega
def Can (l:L0):Prop:=l.getLast?≠some 0
theorem qV:Can []:=by simp[Can]
theorem z8 {x:UInt32} {l:L0} (h:Can (x :: l)):Can l:=by
 unfold Can at h ⊢
 cases l with
 | nil=>simp
 | cons y l=>simpa using h
theorem jh:∀l:L0,Can l->an (val l)=l
 | [],_=>bR
 | x :: l,h=>by
  have f:=jh l (z8 h)
  have k:=cC x
  have g:val (x :: l)≠0:=by
   rw[dz]
   intro m
   have i:x.toNat=0:=by omega
   have j:val l=0:=by omega
   rw[j,bR]at f
   subst f
   have:x=0:=UInt32.toNat_inj.1 i
   subst this
   simp[Can]at h
  rw[fT g,dz]
  congr 1
  ·apply UInt32.toNat_inj.1
   rw[UInt32.toNat_ofNat']; omega
  ·rw[show (x.toNat+4294967296*val l) / 4294967296=val l by omega,f]
theorem rC (n:Nat):Can (an n):=by
 induction n using Nat.strongRecOn with
 | ind n ih=>
  by_cases h:n=0
  ·subst h; rw[bR]; exact qV
  ·have f:=ih _ (Nat.div_lt_self (Nat.pos_of_ne_zero h) (show 1<4294967296 by decide))
   rw[fT h]
   by_cases hd:n / 4294967296=0
   ·rw[hd,bR]
    unfold Can
    simp only[List.getLast?_singleton,ne_eq,Option.some.injEq]
    intro g
    have:=congrArg UInt32.toNat g
    rw[UInt32.toNat_ofNat']at this
    simp at this
    omega
   ·unfold Can at f ⊢
    rw[fT hd]at f ⊢
    simpa using f
theorem Cd {a b:L0} (f:Can a) (g:Can b) (h:val a=val b):a=b:=by
 rw[<-jh a f,<-jh b g,h]
theorem rv (l:L0) (k:Nat):val (l++List.replicate k 0)=val l:=by rw[iE,cn]; simp
theorem sN {l:L0} {n:Nat} (h:val l=n) (hc:Can l):l=an n:=by rw[<-h,jh l hc]
theorem bl {n k:Nat} (h:n<4294967296^k):(an n).length<=k:=by
 induction k generalizing n with
 | zero=>simp at h; subst h; rw[bR]; simp
 | succ k ih=>
  by_cases h0:n=0
  ·subst h0; rw[bR]; simp
  ·rw[fT h0,List.length_cons]
   have:=ih (n:=n / 4294967296) (by rw[Nat.pow_succ]at h; exact Nat.div_lt_of_lt_mul (by rwa [Nat.mul_comm]at h))
   omega
theorem nB {n k:Nat} (h:4294967296^k<=n):k<(an n).length:=by
 have:=bv (an n)
 rw[ar]at this
 rcases Nat.lt_or_ge k (an n).length with f | f
 ·exact f
 ·have:=Nat.pow_le_pow_right (show 0<4294967296 by decide) f
  omega
theorem oo {a b:L0} (j:Can b) (h:a.length<b.length):val a<val b:=by
 have o:=bv a
 have f:b≠[]:=by rintro rfl; simp at h
 have k:b=b.dropLast++[b.getLast f]:=(List.dropLast_concat_getLast f).symm
 have m:b.getLast f≠0:=fun g=>j (by rw[List.getLast?_eq_some_getLast f,g])
 have i:1<=(b.getLast f).toNat:=by
  rcases Nat.eq_zero_or_pos (b.getLast f).toNat with g | g
  ·exact absurd (UInt32.toNat_inj.1 g) m
  ·exact g
 rw[k,fX,List.length_dropLast]
 have q:=Nat.pow_le_pow_right (show 0<4294967296 by decide) (show a.length<=b.length - 1 by omega)
 have t:=Nat.mul_le_mul_left (4294967296^(b.length - 1)) i
 omega
end Go.Gk.Bn
end

section
namespace Go.Gk.Bn
theorem sB {g r f i V' h j m K:Nat} (q:h=g*f+r) (z:m<K)
  (k:4294967296<=g\/r*4294967296+j<g*i) (o:(h*4294967296+j)*K+m<4294967296*((f*4294967296+i)*K+V')) :
  (h*4294967296+j)*K+m<g*((f*4294967296+i)*K+V'):=by
 rcases k with k | k
 ·exact Nat.lt_of_lt_of_le o (Nat.mul_le_mul_right _ k)
 ·have t:h*4294967296+j+1<=g*(f*4294967296+i):=by
   subst q
   have x:g*(f*4294967296+i)=g*f*4294967296+g*i:=by rw[Nat.mul_add,<-Nat.mul_assoc]
   rw[x,Nat.add_mul]
   omega
  have y:(h*4294967296+j+1)*K<=g*(f*4294967296+i)*K:=Nat.mul_le_mul_right _ t
  rw[Nat.add_mul,Nat.one_mul]at y
  rw[Nat.mul_add,<-Nat.mul_assoc]
  omega
theorem xY {g r f i V' h j k K:Nat} (m:h=g*f+r) (t:V'<K) (x:1<=f)
  (y:g<4294967296) (z:g*i<=r*4294967296+j) :
  g*((f*4294967296+i)*K+V')<(h*4294967296+j)*K+k+((f*4294967296+i)*K+V'):=by
 have o:g*(f*4294967296+i)<=h*4294967296+j:=by
  subst m
  have q:g*(f*4294967296+i)=g*f*4294967296+g*i:=by rw[Nat.mul_add,<-Nat.mul_assoc]
  rw[q,Nat.add_mul]
  omega
 have A:g*(f*4294967296+i)*K<=(h*4294967296+j)*K:=Nat.mul_le_mul_right _ o
 have B:g*V'<=4294967295*V':=Nat.mul_le_mul_right _ (by omega)
 have F:4294967296*K<=(f*4294967296+i)*K:=Nat.mul_le_mul_right _ (by omega)
 rw[Nat.mul_add,<-Nat.mul_assoc]
 omega
end Go.Gk.Bn
end

section
namespace Go.Gk.Bn
open Go Go.Gk
theorem ez (c:UInt64):c.toUInt32.toNat=c.toNat%4294967296:=UInt64.toNat_toUInt32 c
theorem kW (c:UInt64):(aO c 32).toNat=c.toNat / 4294967296:=by rw[ea]; rfl
theorem vV (c:UInt64):(aO c 32).toUInt32.toNat=c.toNat / 4294967296:=by
 rw[ez,kW,Nat.mod_eq_of_lt]
 have:=c.toNat_lt
 omega
theorem zR (c:UInt64):(aO c 63).toNat=c.toNat / 9223372036854775808:=by rw[ea]; rfl
theorem bV (x:UInt32):x.toUInt64.toNat=x.toNat:=UInt32.toNat_toUInt64 x
theorem jM (c:UInt64):c.toNat=c.toUInt32.toNat+4294967296*(aO c 32).toNat:=by rw[ez,kW]; omega
theorem fW (a b:UInt64) (h:a.toNat+b.toNat<18446744073709551616):(a+b).toNat=a.toNat+b.toNat:=by rw[UInt64.toNat_add]; omega
theorem nQ (a b:UInt64) (h:a.toNat*b.toNat<18446744073709551616):(a*b).toNat=a.toNat*b.toNat:=by rw[UInt64.toNat_mul]; omega
theorem iS (x:UInt32):x.toNat<=4294967295:=by have:=cC x; omega
def pad (x:L0) (n:Nat):L0:=x++List.replicate (n - x.length) 0
theorem gC {x:L0} {n:Nat} (h:x.length<=n):(pad x n).length=n:=by simp[pad]; omega
theorem qL (n:Nat):pad [] n=List.replicate n 0:=by simp[pad]
theorem nP {x:L0} {n:Nat} (h:x.length<n) (v:UInt32):(pad x n).set x.length v=pad (x++[v]) n:=by
 unfold pad
 rw[List.set_append_right _ _ (Nat.le_refl _),Nat.sub_self]
 obtain⟨k,f⟩:∃k,n - x.length=k+1:=⟨n - x.length - 1,by omega⟩
 rw[f,List.replicate_succ,List.set_cons_zero,List.append_assoc]
 congr 2
 simp; omega
theorem ld (x:L0) (n:Nat):val (pad x n)=val x:=rv x _
theorem dU {a:L0} {i:Nat} (h:a.length<=i):a.getD i 0=0:=by
 rw[List.getD_eq_getElem?_getD,List.getElem?_eq_none h]; rfl
theorem je {a:L0} {i:Nat} (h:i<a.length):a.take (i+1)=a.take i++[a.getD i 0]:=by
 rw[List.take_succ_eq_append_getElem h]
 congr 2
 rw[List.getD_eq_getElem?_getD,List.getElem?_eq_getElem h]; rfl
theorem bO (a:L0) (i:Nat):val (a.take (i+1))=val (a.take i)+4294967296^i*(a.getD i 0).toNat:=by
 by_cases h:i<a.length
 ·rw[je h,fX,List.length_take,Nat.min_eq_left (by omega)]
 ·rw[List.take_of_length_le (by omega),List.take_of_length_le (by omega),dU (by omega)]; simp
theorem kx {a:L0} {n:Nat} (o:n<=a.length) (h:∀k,n<=k->a.getD k 0=0) (g:n=0\/a.getD (n - 1) 0≠0):a.take n=an (val a):=by
 have j:a.drop n=List.replicate (a.length - n) 0:=by
  refine List.ext_getElem (by simp) fun i f q=>?_
  have:=h (n+i) (by omega)
  rw[List.getD_eq_getElem?_getD,List.getElem?_eq_getElem (by simp at f; omega)]at this
  rw[List.getElem_drop,List.getElem_replicate]
  exact this
 refine sN ?_ ?_
 ·conv=>rhs; rw[<-List.take_append_drop n a,j,rv]
 ·unfold Can
  rcases g with rfl | g
  ·simp
  ·intro f
   by_cases h0:n=0
   ·subst h0; simp at f
   ·have m:(a.take n).length=n:=by simp; omega
    rw[List.getLast?_eq_getElem?,m,List.getElem?_take_of_lt (by omega)]at f
    rw[List.getD_eq_getElem?_getD,f]at g
    exact g rfl
theorem nf {ρ:Type} {f:Int->Option (Int⊕ρ)} (a:L0) (X:Int->Option ρ) (z:a.length<=4611686018427387904)
  (o:∀n:Nat,n<=a.length->f (n:Int)=if n≠0/\a.getD (n - 1) 0=0 then some (.inl ((n - 1:Nat):Int)) else bn (X (n:Int))) :
  ∃n,n<=a.length/\a.take n=an (val a)/\loop f (a.length:Int)=X (n:Int):=by
 have q:∀n:Nat,n<=a.length->(∀k,n<=k->a.getD k 0=0)->∃m,m<=a.length/\a.take m=an (val a)/\loop f (n:Int)=X (m:Int):=by
  intro n
  induction n with
  | zero=>
   intro g j
   refine⟨0,g,kx g j (.inl rfl),?_⟩
   have:=o 0 g
   rw[if_neg (by simp)]at this
   rw[lh,this]
   cases X ((0:Nat):Int) <;> rfl
  | succ n ih=>
   intro g j
   have h:=o (n+1) g
   rw[Nat.add_sub_cancel]at h
   by_cases h0:a.getD n 0=0
   ·rw[if_pos ⟨by omega,h0⟩]at h
    obtain⟨m,t,x,y⟩:=ih (by omega) fun k i=>by
     rcases Nat.eq_or_lt_of_le i with rfl | i
     ·exact h0
     ·exact j k i
    exact⟨m,t,x,(bJ h).trans y⟩
   ·rw[if_neg (fun hc=>h0 hc.2)]at h
    refine⟨n+1,g,kx g j (.inr (by simpa using h0)),?_⟩
    rw[lh,h]
    cases X ((n+1:Nat):Int) <;> rfl
 exact q a.length (Nat.le_refl _) fun k i=>dU i
end Go.Gk.Bn
end

section
namespace Go.Gk.Bn
open Go Go.Gk Go.Gk.Sh
theorem gg (a:L0) (j:a.length<=4611686018427387904):F.Dz a=some (an (val a)):=by
 unfold F.Dz
 obtain⟨n,i,k,m⟩:=nf (f:=F.Im a) a (fun g=>grd (0<=(g:Int)/\(g:Int).toNat<=a.length) <| some (a.take ((g:Int).toNat))) j (fun n i=>by
  unfold F.Im F.ID
  by_cases h0:n=0
  ·subst h0
   rw[if_neg (by simp),if_neg (by simp)]
   rfl
  ·have o:wI ((n:Int) - 1)=((n - 1:Nat):Int):=by rw[aJ (by omega) (by omega)]; omega
   rw[if_pos (decide_eq_true (by omega)),o,aP (show n - 1<a.length by omega) 0,ae]
   by_cases hz:a.getD (n - 1) 0=0
   ·rw[if_pos (show n≠0/\a.getD (n - 1) 0=0 from⟨h0,hz⟩),if_pos (show (a.getD (n - 1) 0 == 0)=true from by rw[hz]; rfl)]; rfl
   ·rw[if_neg (show ¬(n≠0/\a.getD (n - 1) 0=0) from fun h=>hz h.2),if_neg (show ¬(a.getD (n - 1) 0 == 0)=true from fun h=>hz (eq_of_beq h))])
 rw[m,grd_true _ ⟨by omega,by rw[Int.toNat_natCast]; exact i⟩,Int.toNat_natCast,k]
theorem iW (x:UInt64):F.D9 x=some (an x.toNat):=by
 unfold F.D9
 rw[gg _ (by simp),ae,dz,dz,d8,Nat.mul_zero,Nat.add_zero,vV,<-kW,<-jM]
theorem lV {x:L0} {n i:Nat} (f:x.length<=n) (h:i<n):∃u,aA (pad x n) (i:Int)=some u:=⟨_,aP (by rw[gC f]; exact h) 0⟩
def iR (a b:L0) (x:L0×UInt64) (i:Nat):L0×UInt64:=
 (x.1++[(x.2+(a.getD i 0).toUInt64+(b.getD i 0).toUInt64).toUInt32],aO (x.2+(a.getD i 0).toUInt64+(b.getD i 0).toUInt64) 32)
theorem lP {a b:L0} {x:L0×UInt64} {i:Nat} (f:x.1.length=i) (j:val x.1+4294967296^i*x.2.toNat=val (a.take i)+val (b.take i)) (k:x.2.toNat<=1) :
  (iR a b x i).1.length=i+1/\val (iR a b x i).1+4294967296^(i+1)*(iR a b x i).2.toNat=val (a.take (i+1))+val (b.take (i+1))/\(iR a b x i).2.toNat<=1:=by
 have m:=cC (a.getD i 0); have o:=cC (b.getD i 0)
 obtain⟨s,g⟩:∃s,x.2+(a.getD i 0).toUInt64+(b.getD i 0).toUInt64=s:=⟨_,rfl⟩
 have h:s.toNat=x.2.toNat+(a.getD i 0).toNat+(b.getD i 0).toNat:=by
  rw[<-g,fW _ _ (by rw[fW _ _ (by rw[bV]; omega),bV,bV]; omega),fW _ _ (by rw[bV]; omega),bV,bV]
 unfold iR
 rw[g]
 refine⟨by simp[f],?_,by simp only[kW]; omega⟩
 have e:=jM s
 simp only
 rw[fX,f,bO,bO,Nat.pow_succ,Nat.mul_assoc]
 have:4294967296^i*s.toNat=4294967296^i*s.toUInt32.toNat+4294967296^i*(4294967296*(aO s 32).toNat):=by rw[<-Nat.mul_add,<-e]
 rw[h,Nat.mul_add,Nat.mul_add]at this
 omega
theorem ze (a b:L0) (o:b.length<=a.length) (B:a.length<=70368744177663):loop (F.FE a b) (0,0,pad [] (a.length+1))=some (an (val a+val b)):=by
 have e:=ca (f:=F.FE a b) (fun (x:L0×UInt64) i=>(x.2,(i:Int),pad x.1 (a.length+1)))
  (fun i x=>x.1.length=i/\val x.1+4294967296^i*x.2.toNat=val (a.take i)+val (b.take i)/\x.2.toNat<=1) (iR a b) 0 a.length
  (X:=fun x=>F.Dz ((pad x.1 (a.length+1)).set a.length x.2.toUInt32))
  (fun i x _ hi h=>by
   obtain⟨g,j,k⟩:=h
   refine⟨?_,lP g j k⟩
   have z:wI ((i:Int)+1)=((i+1:Nat):Int):=by rw[aJ (by omega) (by omega)]; rfl
   obtain⟨u,m⟩:=lV (x:=x.1) (n:=a.length+1) (i:=i) (by omega) (by omega)
   have q:∀s:UInt64,s=x.2+(a.getD i 0).toUInt64+(b.getD i 0).toUInt64->F.GI (i:Int) (pad x.1 (a.length+1)) s=some (.inl ((iR a b x i).2,((i+1:Nat):Int),pad (iR a b x i).1 (a.length+1))):=by
    rintro s rfl
    unfold F.GI
    dsimp only
    rw[m,ae,aS,z,Int.toNat_natCast]
    have:=nP (x:=x.1) (n:=a.length+1) (by omega) (x.2+(a.getD i 0).toUInt64+(b.getD i 0).toUInt64).toUInt32
    rw[g]at this
    rw[this]; rfl
   unfold F.FE
   dsimp only
   rw[if_pos (decide_eq_true (by omega)),aP hi 0,ae]
   by_cases hb:i<b.length
   ·rw[if_pos (decide_eq_true (by omega)),aP hb 0,ae,aS,q _ rfl]
   ·rw[if_neg (by simp only[decide_eq_true_eq]; omega),q _ (by rw[dU (a:=b) (i:=i) (by omega)]; exact (UInt64.add_zero _).symm)])
  (fun x h=>by
   obtain⟨u,m⟩:=lV (x:=x.1) (n:=a.length+1) (i:=a.length) (by omega) (by omega)
   unfold F.FE
   dsimp only
   rw[if_neg (by simp),m,ae,aS,Int.toNat_natCast]
   cases F.Dz ((pad x.1 (a.length+1)).set a.length x.2.toUInt32) <;> rfl)
  a.length 0 ([],0) (Nat.le_refl _) (by omega) ⟨rfl,by simp[val],by simp⟩
 refine e.trans ?_
 obtain⟨g,j,k⟩:=cG (fun i (x:L0×UInt64)=>x.1.length=i/\val x.1+4294967296^i*x.2.toNat=val (a.take i)+val (b.take i)/\x.2.toNat<=1) (iR a b)
  (fun i x h=>lP h.1 h.2.1 h.2.2) a.length 0 ([],0) ⟨rfl,by simp[val],by simp⟩
 obtain⟨y,A⟩:∃y,(List.range' 0 a.length).foldl (iR a b) ([],0)=y:=⟨_,rfl⟩
 rw[A]at g j k ⊢
 rw[Nat.zero_add]at g j
 rw[List.take_length,List.take_of_length_le o]at j
 have t:=nP (x:=y.1) (n:=a.length+1) (by omega) y.2.toUInt32
 rw[g]at t
 rw[t,gg _ (by rw[gC (by simp; omega)]; omega),ld,fX,g,ez,Nat.mod_eq_of_lt (by omega),j]
theorem pR (a b:L0) (g:a.length<=70368744177663) (i:b.length<=70368744177663):F.FB a b=some (an (val a+val b)):=by
 have f:∀a b:L0,b.length<=a.length->a.length<=70368744177663->F.GP (a,b)=some (an (val a+val b)):=by
  intro a b j k
  unfold F.GP
  dsimp only
  rw[aJ (by omega) (by omega),dK (by omega),ae]
  have:(((a.length:Int)+1).toNat)=a.length+1:=by omega
  rw[this,<-qL,ze a b j k]
 unfold F.FB
 by_cases h:a.length<b.length
 ·rw[if_pos (decide_eq_true (by omega)),f b a (by omega) i,Nat.add_comm]
 ·rw[if_neg (by simp only[decide_eq_true_eq]; omega),f a b (by omega) g]
end Go.Gk.Bn
end

section
namespace Go.Gk.Bn
open Go Go.Gk Go.Gk.Sh
theorem y5 (u v:UInt32) (c:UInt64) (hc:c.toNat<=1):((u.toUInt64 - c) - v.toUInt64).toUInt32.toNat+c.toNat+v.toNat=u.toNat+4294967296*(aO ((u.toUInt64 - c) - v.toUInt64) 63).toNat/\(aO ((u.toUInt64 - c) - v.toUInt64) 63).toNat<=1:=by
 have f:=cC u; have g:=cC v
 rw[ez,zR,UInt64.toNat_sub,UInt64.toNat_sub,bV,bV]
 omega
def g8 (a b:L0) (x:L0×UInt64) (i:Nat):L0×UInt64:=
 (x.1++[((a.getD i 0).toUInt64 - x.2 - (b.getD i 0).toUInt64).toUInt32],aO ((a.getD i 0).toUInt64 - x.2 - (b.getD i 0).toUInt64) 63)
theorem tc {a b:L0} {x:L0×UInt64} {i:Nat} (f:x.1.length=i) (m:val x.1+val (b.take i)=val (a.take i)+4294967296^i*x.2.toNat) (j:x.2.toNat<=1) :
  (g8 a b x i).1.length=i+1/\val (g8 a b x i).1+val (b.take (i+1))=val (a.take (i+1))+4294967296^(i+1)*(g8 a b x i).2.toNat/\(g8 a b x i).2.toNat<=1:=by
 obtain⟨g,h⟩:=y5 (a.getD i 0) (b.getD i 0) x.2 j
 unfold g8
 obtain⟨s,k⟩:∃s,(a.getD i 0).toUInt64 - x.2 - (b.getD i 0).toUInt64=s:=⟨_,rfl⟩
 rw[k]at g h ⊢
 refine⟨by simp[f],?_,h⟩
 simp only
 rw[fX,f,bO,bO,Nat.pow_succ,Nat.mul_assoc]
 have:4294967296^i*(s.toUInt32.toNat+x.2.toNat+(b.getD i 0).toNat)=4294967296^i*((a.getD i 0).toNat+4294967296*(aO s 63).toNat):=by rw[g]
 rw[Nat.mul_add,Nat.mul_add,Nat.mul_add]at this
 omega
theorem uj (a b:L0) (o:b.length<=a.length) (G:val b<=val a) (I:a.length<=70368744177664):F.Fy a b=some (an (val a - val b)):=by
 unfold F.Fy
 rw[dK (by omega),ae,Int.toNat_natCast,<-qL]
 have e:=ca (f:=F.HJ a b) (fun (x:L0×UInt64) i=>(x.2,(i:Int),pad x.1 a.length))
  (fun i x=>x.1.length=i/\val x.1+val (b.take i)=val (a.take i)+4294967296^i*x.2.toNat/\x.2.toNat<=1) (g8 a b) 0 a.length
  (X:=fun x=>F.Dz (pad x.1 a.length))
  (fun i x _ hi j=>by
   obtain⟨k,g,m⟩:=j
   refine⟨?_,tc k g m⟩
   have z:wI ((i:Int)+1)=((i+1:Nat):Int):=by rw[aJ (by omega) (by omega)]; rfl
   obtain⟨u,A⟩:=lV (x:=x.1) (n:=a.length) (i:=i) (by omega) (by omega)
   have q:∀s:UInt64,s=(a.getD i 0).toUInt64 - x.2 - (b.getD i 0).toUInt64->F.Gq (i:Int) (pad x.1 a.length) s=some (.inl ((g8 a b x i).2,((i+1:Nat):Int),pad (g8 a b x i).1 a.length)):=by
    rintro s rfl
    unfold F.Gq
    dsimp only
    rw[A,ae,aS,z,Int.toNat_natCast]
    have:=nP (x:=x.1) (n:=a.length) (by omega) ((a.getD i 0).toUInt64 - x.2 - (b.getD i 0).toUInt64).toUInt32
    rw[k]at this
    rw[this]; rfl
   unfold F.HJ
   dsimp only
   rw[if_pos (decide_eq_true (by omega)),aP hi 0,ae]
   by_cases hb:i<b.length
   ·rw[if_pos (decide_eq_true (by omega)),aP hb 0,ae,aS,q _ rfl]
   ·rw[if_neg (by simp only[decide_eq_true_eq]; omega),q _ (by rw[dU (a:=b) (i:=i) (by omega)]; exact (UInt64.sub_zero _).symm)])
  (fun x j=>by
   unfold F.HJ
   dsimp only
   rw[if_neg (by simp)]
   cases F.Dz (pad x.1 a.length) <;> rfl)
  a.length 0 ([],0) (Nat.le_refl _) (by omega) ⟨rfl,by simp[val],by simp⟩
 refine e.trans ?_
 obtain⟨k,g,m⟩:=cG (fun i (x:L0×UInt64)=>x.1.length=i/\val x.1+val (b.take i)=val (a.take i)+4294967296^i*x.2.toNat/\x.2.toNat<=1) (g8 a b)
  (fun i x j=>tc j.1 j.2.1 j.2.2) a.length 0 ([],0) ⟨rfl,by simp[val],by simp⟩
 obtain⟨y,B⟩:∃y,(List.range' 0 a.length).foldl (g8 a b) ([],0)=y:=⟨_,rfl⟩
 rw[B]at k g m ⊢
 rw[Nat.zero_add]at k g
 rw[List.take_length,List.take_of_length_le o]at g
 have t:=bv y.1
 rw[k]at t
 have hc:y.2.toNat=0:=by
  rcases Nat.eq_zero_or_pos y.2.toNat with h | h
  ·exact h
  ·have:y.2.toNat=1:=by omega
   rw[this,Nat.mul_one]at g
   omega
 rw[hc,Nat.mul_zero,Nat.add_zero]at g
 rw[gg _ (by rw[gC (by omega)]; omega),ld,show val y.1=val a - val b by omega]
theorem xz (a b:UInt32):a.toNat*b.toNat<=4294967295*4294967295:=Nat.mul_le_mul (iS a) (iS b)
theorem y4 (c:UInt64) (u v r:UInt32) (hc:c.toNat<=4294967295):(c+(u.toUInt64*v.toUInt64+r.toUInt64)).toNat=c.toNat+(u.toNat*v.toNat+r.toNat):=by
 have h:=xz u v; have i:=iS r
 have f:(u.toUInt64*v.toUInt64).toNat=u.toNat*v.toNat:=by rw[nQ _ _ (by rw[bV,bV]; omega),bV,bV]
 have g:(u.toUInt64*v.toUInt64+r.toUInt64).toNat=u.toNat*v.toNat+r.toNat:=by rw[fW _ _ (by rw[f,bV]; omega),f,bV]
 rw[fW _ _ (by rw[g]; omega),g]
theorem dw {l:L0} {i k:Nat} {x:UInt32} (h:i≠k):(l.set i x).getD k 0=l.getD k 0:=by
 rw[List.getD_eq_getElem?_getD,List.getElem?_set_ne h,List.getD_eq_getElem?_getD]
def nE (u:UInt32) (b:L0) (i:Nat) (x:UInt64×L0) (j:Nat):UInt64×L0:=
 (aO (x.1+(u.toUInt64*(b.getD j 0).toUInt64+(x.2.getD (i+j) 0).toUInt64)) 32,x.2.set (i+j) (x.1+(u.toUInt64*(b.getD j 0).toUInt64+(x.2.getD (i+j) 0).toUInt64)).toUInt32)
def mG (u:UInt32) (b:L0) (i N:Nat) (r0:L0) (j:Nat) (x:UInt64×L0):Prop:=
 x.2.length=N/\(∀k,i+b.length<=k->x.2.getD k 0=0)/\val x.2+4294967296^(i+j)*x.1.toNat=val r0+4294967296^i*(u.toNat*val (b.take j))/\x.1.toNat<=4294967295
theorem lQ {u:UInt32} {b:L0} {i N:Nat} {f:L0} {j:Nat} {x:UInt64×L0} (B:i+b.length<N) (F:j<b.length) (h:mG u b i N f j x):mG u b i N f (j+1) (nE u b i x j):=by
 obtain⟨m,o,G,q⟩:=h
 have e:=y4 x.1 u (b.getD j 0) (x.2.getD (i+j) 0) q
 unfold nE
 obtain⟨s,t⟩:∃s,x.1+(u.toUInt64*(b.getD j 0).toUInt64+(x.2.getD (i+j) 0).toUInt64)=s:=⟨_,rfl⟩
 rw[t]at e ⊢
 have g:=jM s
 have I:=xz u (b.getD j 0); have J:=iS (x.2.getD (i+j) 0)
 refine⟨by simpa using m,fun k y=>?_,?_,by simp only[kW]; omega⟩
 ·simp only
  rw[dw (by omega)]; exact o k y
 ·simp only
  have K:=dB x.2 (i+j) s.toUInt32 (by omega)
  rw[bO,Nat.mul_add,Nat.mul_add]
  have z:4294967296^i*(u.toNat*(4294967296^j*(b.getD j 0).toNat))=4294967296^(i+j)*(u.toNat*(b.getD j 0).toNat):=by
   rw[Nat.pow_add,Nat.mul_assoc,Nat.mul_left_comm u.toNat]
  have A:4294967296^(i+j)*s.toNat=4294967296^(i+j)*s.toUInt32.toNat+4294967296^(i+(j+1))*(aO s 32).toNat:=by
   rw[<-Nat.add_assoc,Nat.pow_succ,Nat.mul_assoc,<-Nat.mul_add,<-g]
  rw[e,Nat.mul_add,Nat.mul_add]at A
  rw[z]
  omega
theorem xM (a b:L0) (i:Nat) (r:L0) (hi:i<a.length) (K:r.length=a.length+b.length) (M:∀k,i+b.length<=k->r.getD k 0=0) (O:a.length+b.length<=70368744177664) :
  ∃h,loop (F.Ff a b (i:Int)) (0,0,r)=some (.inl (((i+1:Nat):Int),h))/\h.length=a.length+b.length/\(∀k,i+1+b.length<=k->h.getD k 0=0)/\val h=val r+4294967296^i*((a.getD i 0).toNat*val b):=by
 have I:mG (a.getD i 0) b i (a.length+b.length) r 0 (0,r):=⟨K,M,by simp[val],by simp⟩
 have e:=ca (f:=F.Ff a b (i:Int)) (fun (x:UInt64×L0) j=>(x.1,(j:Int),x.2)) (fun j x=>j<=b.length->mG (a.getD i 0) b i (a.length+b.length) r j x) (nE (a.getD i 0) b i) 0 b.length
  (X:=fun x=>some (.inl (((i+1:Nat):Int),x.2.set (i+b.length) x.1.toUInt32)))
  (fun j x _ q g=>by
   have g:=g (by omega)
   refine⟨?_,fun _=>lQ (by omega) q g⟩
   obtain⟨t,m,o,J⟩:=g
   have z:wI ((i:Int)+(j:Int))=((i+j:Nat):Int):=by rw[aJ (by omega) (by omega)]; rfl
   have A:wI ((j:Int)+1)=((j+1:Nat):Int):=by rw[aJ (by omega) (by omega)]; rfl
   unfold F.Ff
   dsimp only
   rw[if_pos (decide_eq_true (by omega)),aP hi 0,ae,aP q 0,ae,z,aP (show i+j<x.2.length by omega) 0,ae,aS,ae,aS,Int.toNat_natCast,A]
   rfl)
  (fun x g=>by
   obtain⟨t,m,o,J⟩:=g (Nat.le_refl _)
   have z:wI ((i:Int)+(b.length:Int))=((i+b.length:Nat):Int):=by rw[aJ (by omega) (by omega)]; rfl
   have A:wI ((i:Int)+1)=((i+1:Nat):Int):=by rw[aJ (by omega) (by omega)]; rfl
   unfold F.Ff
   dsimp only
   rw[if_neg (by simp),z,aP (show i+b.length<x.2.length by omega) 0,ae,aS,Int.toNat_natCast,A]
   rfl)
  b.length 0 (0,r) (Nat.le_refl _) (by omega) (fun _=>I)
 have B:=cG (fun j (x:UInt64×L0)=>j<=b.length->mG (a.getD i 0) b i (a.length+b.length) r j x) (nE (a.getD i 0) b i) (fun j x g=>fun q=>lQ (by omega) (by omega) (g (by omega))) b.length 0 (0,r) (fun _=>I)
 obtain⟨y,N⟩:∃y,(List.range' 0 b.length).foldl (nE (a.getD i 0) b i) (0,r)=y:=⟨_,rfl⟩
 rw[N]at B e
 rw[Nat.zero_add]at B
 obtain⟨t,m,o,J⟩:=B (Nat.le_refl _)
 refine⟨_,e,by simpa using t,fun k R=>?_,?_⟩
 ·rw[dw (by omega)]; exact m k (by omega)
 ·have G:=dB y.2 (i+b.length) y.1.toUInt32 (by omega)
  rw[m _ (Nat.le_refl _)]at G
  have:(0:UInt32).toNat=0:=rfl
  rw[this,Nat.mul_zero,Nat.add_zero]at G
  rw[List.take_length]at o
  rw[G,ez,Nat.mod_eq_of_lt (by omega),o]
theorem yG (a b:L0) (x:a.length+b.length<=70368744177664):F.G8 a b=some (an (val a*val b)):=by
 unfold F.G8
 have f:F.FF a b true=some []:=by unfold F.FF; rw[if_pos rfl]
 by_cases ha:a.length=0
 ·rw[if_pos (by simp[ha]),f,List.eq_nil_of_length_eq_zero ha,d8,Nat.zero_mul,bR]
 ·rw[if_neg (by simpa using fun h=>ha (by rw[h]; rfl))]
  by_cases hb:b.length=0
  ·rw[show ((b.length:Int) == 0)=true by simp[hb],f,List.eq_nil_of_length_eq_zero hb,d8,Nat.mul_zero,bR]
  ·rw[show ((b.length:Int) == 0)=false by simpa using fun h=>hb (by rw[h]; rfl)]
   unfold F.FF
   rw[if_neg (by decide),aJ (by omega) (by omega),dK (by omega),ae,show ((a.length:Int)+(b.length:Int)).toNat=a.length+b.length by omega]
   have j:∀(k i:Nat) (r:L0),i+k=a.length->r.length=a.length+b.length->(∀k,i+b.length<=k->r.getD k 0=0)->val r=val (a.take i)*val b->loop (F.Fg a b) ((i:Int),r)=some (an (val a*val b)):=by
    intro k
    induction k with
    | zero=>
     intro i r h m o g
     have:i=a.length:=by omega
     subst this
     refine cQ ?_
     unfold F.Fg
     dsimp only
     rw[if_neg (by simp),gg _ (by omega),ae,g,List.take_length]; rfl
    | succ k ih=>
     intro i r h m o g
     obtain⟨q,y,z,A,B⟩:=xM a b i r (by omega) m o x
     have t:F.Fg a b ((i:Int),r)=some (.inl (((i+1:Nat):Int),q)):=by
      unfold F.Fg
      dsimp only
      rw[if_pos (decide_eq_true (by omega)),y]
     rw[bJ t]
     refine ih (i+1) q (by omega) z (fun k G=>A k (by omega)) ?_
     rw[B,g,bO,Nat.add_mul,Nat.mul_assoc]
   exact j a.length 0 _ (by omega) (by simp) (fun k _=>by
    rw[List.getD_eq_getElem?_getD,List.getElem?_replicate]; split <;> rfl) (by rw[cn]; simp[val])
end Go.Gk.Bn
end

section
namespace Go.Gk.Bn
open Go Go.Gk Go.Gk.Sh
def cD (a b:Nat):Int:=if a<b then -1 else if a=b then 0 else 1
theorem mH (a:L0) (k:Nat) (h:k<a.length):val a=val (a.take k)+4294967296^k*((a.getD k 0).toNat+4294967296*val (a.drop (k+1))):=by
 rw[dg a k (by omega),List.drop_eq_getElem_cons h,dz]
 congr 4
 rw[List.getD_eq_getElem?_getD,List.getElem?_eq_getElem h]; rfl
theorem rm {a b:L0} {k:Nat} (f:k<a.length) (g:k<b.length) (h:a.drop (k+1)=b.drop (k+1)) (m:(a.getD k 0).toNat<(b.getD k 0).toNat):val a<val b:=by
 rw[mH a k f,mH b k g,h]
 have i:=bv (a.take k)
 rw[List.length_take,Nat.min_eq_left (by omega)]at i
 have j:4294967296^k*((a.getD k 0).toNat+4294967296*val (b.drop (k+1))+1)<=4294967296^k*((b.getD k 0).toNat+4294967296*val (b.drop (k+1))):=Nat.mul_le_mul_left _ (by omega)
 rw[Nat.mul_add,Nat.mul_one]at j
 omega
theorem pn (a b:L0) (o:Can a) (q:Can b) (A:a.length<=4611686018427387904) (z:b.length<=4611686018427387904):F.E5 a b=some (cD (val a) (val b)):=by
 unfold F.E5 cD
 by_cases h:a.length=b.length
 ·rw[if_neg (by simp[h]),aS]
  have j:∀k,k<=a.length->a.drop k=b.drop k->loop (F.EW a b) ((k:Int) - 1)=some (if val a<val b then -1 else if val a=val b then 0 else 1):=by
   intro k
   induction k with
   | zero=>
    intro _ i
    have:a=b:=by simpa using i
    subst this
    rw[if_neg (by omega),if_pos rfl]
    exact cQ rfl
   | succ k ih=>
    intro B i
    have f:k<b.length:=by omega
    have t:(((k+1:Nat):Int)) - 1=(k:Int):=by omega
    have x:wI ((k:Int) - 1)=(k:Int) - 1:=aJ (by omega) (by omega)
    rw[t]
    by_cases he:a.getD k 0=b.getD k 0
    ·have g:F.EW a b (k:Int)=some (.inl ((k:Int) - 1)):=by
      unfold F.EW
      rw[if_pos (decide_eq_true (by omega)),aP (show k<a.length by omega) 0,ae,aP f 0,ae,if_neg (by simp only[he,bne_self_eq_false]; simp),x]; rfl
     rw[bJ g]
     refine ih (by omega) ?_
     rw[List.drop_eq_getElem_cons (show k<a.length by omega),List.drop_eq_getElem_cons f,i]
     congr 1
     rw[List.getD_eq_getElem?_getD,List.getD_eq_getElem?_getD,List.getElem?_eq_getElem (show k<a.length by omega),List.getElem?_eq_getElem f]at he
     exact he
    ·have g:F.EW a b (k:Int)=if decide (a.getD k 0<b.getD k 0)=true then some (.inr (-1)) else some (.inr 1):=by
      unfold F.EW
      rw[if_pos (decide_eq_true (by omega)),aP (show k<a.length by omega) 0,ae,aP f 0,ae,if_pos (by simpa using he),ae,ae]
      split <;> rfl
     by_cases hlt:a.getD k 0<b.getD k 0
     ·rw[if_pos (decide_eq_true hlt)]at g
      rw[cQ g,if_pos (rm (by omega) f i (UInt32.lt_iff_toNat_lt.1 hlt))]
     ·rw[if_neg (by simpa using hlt)]at g
      have m:(b.getD k 0).toNat<(a.getD k 0).toNat:=by
       have G:¬(a.getD k 0).toNat<(b.getD k 0).toNat:=fun h=>hlt (UInt32.lt_iff_toNat_lt.2 h)
       have y:(a.getD k 0).toNat≠(b.getD k 0).toNat:=fun h=>he (UInt32.toNat_inj.1 h)
       omega
      have:=rm f (show k<a.length by omega) i.symm m
      rw[cQ g,if_neg (by omega),if_neg (by omega)]
  have w0:wI ((a.length:Int) - 1)=(a.length:Int) - 1:=aJ (by omega) (by omega)
  rw[w0]
  exact j a.length (Nat.le_refl _) (by rw[List.drop_length,List.drop_of_length_le (by omega)])
 ·rw[if_pos (by simpa using fun y=>h (by omega))]
  by_cases hlt:a.length<b.length
  ·rw[if_pos (decide_eq_true (by omega)),if_pos (oo q hlt)]
  ·have:=oo o (show b.length<a.length by omega)
   rw[if_neg (by simp only[decide_eq_true_eq]; omega),if_neg (by omega),if_neg (by omega)]
theorem tK (x:UInt64) (y:UInt32) (h:x.toNat<=4294967295):((bH x 32) ||| y.toUInt64).toNat=4294967296*x.toNat+y.toNat:=by
 have f:=cC y
 have g:(bH x 32).toNat=x.toNat*4294967296:=by
  rw[jg,show min 32 64=32 from rfl,Nat.mod_eq_of_lt (by omega)]
 rw[UInt64.toNat_or,g,bV,nD 32 (by omega) f]
 omega
theorem pK (x:UInt32) (y:UInt32):(x.toUInt64 ||| (bH y.toUInt64 32)).toNat=x.toNat+4294967296*y.toNat:=by
 have f:=cC x; have g:=cC y
 rw[UInt64.or_comm,tK _ _ (by rw[bV]; omega),bV]; omega
theorem tm (a:L0) (h:a.length<=2):∃x,F.Gf a=some x/\x.toNat=val a:=by
 unfold F.Gf
 match a,h with
 | [],_=>exact⟨0,rfl,rfl⟩
 | [u],_=>exact⟨u.toUInt64,rfl,by rw[bV]; simp[val]⟩
 | [u,v],_=>exact⟨u.toUInt64 ||| (bH v.toUInt64 32),rfl,by rw[pK]; simp[val]⟩
theorem zB (a:L0) (d:UInt32) (M:d≠0) (X:a.length<=70368744177664):∃r,F.Iw a d=some (an (val a / d.toNat),r)/\r.toNat=val a%d.toNat:=by
 have f:0<d.toNat:=by
  rcases Nat.eq_zero_or_pos d.toNat with h | h
  ·exact absurd (UInt32.toNat_inj.1 h) M
  ·exact h
 have U:=cC d
 have i:¬d.toUInt64=0:=by
  intro h
  have:=congrArg UInt64.toNat h
  rw[bV]at this
  simp at this
  omega
 have o:∀(k:Nat) (q:L0) (r:UInt64),k<=a.length->q.length=a.length->r.toNat<d.toNat->val (a.drop k)=d.toNat*val (q.drop k)+r.toNat ->
   ∃t,loop (F.FP a d) (r,(k:Int) - 1,q)=some (an (val a / d.toNat),t)/\t.toNat=val a%d.toNat:=by
  intro k
  induction k with
  | zero=>
   intro q r _ y m g
   refine⟨r.toUInt32,cQ ?_,?_⟩
   ·unfold F.FP
    dsimp only
    rw[if_neg (by decide),gg _ (by omega),ae]
    simp only[List.drop_zero]at g
    have:val q=val a / d.toNat:=by
     rw[g,Nat.add_comm,Nat.add_mul_div_left _ _ f,Nat.div_eq_of_lt m,Nat.zero_add]
    rw[this]; rfl
   ·simp only[List.drop_zero]at g
    rw[ez,Nat.mod_eq_of_lt (by omega),g,Nat.mul_add_mod,Nat.mod_eq_of_lt m]
  | succ k ih=>
   intro q r Y y m g
   have N:(((k+1:Nat):Int)) - 1=(k:Int):=by omega
   have O:wI ((k:Int) - 1)=(k:Int) - 1:=aJ (by omega) (by omega)
   have z:r.toNat<=4294967295:=by omega
   obtain⟨x,A⟩:∃x,(bH r 32) ||| (a.getD k 0).toUInt64=x:=⟨_,rfl⟩
   have B:x.toNat=4294967296*r.toNat+(a.getD k 0).toNat:=by rw[<-A,tK _ _ z]
   have G:(x / d.toUInt64).toNat=x.toNat / d.toNat:=by rw[UInt64.toNat_div,bV]
   have j:(x%d.toUInt64).toNat=x.toNat%d.toNat:=by rw[UInt64.toNat_mod,bV]
   have V:=cC (a.getD k 0)
   have I:x.toNat / d.toNat<4294967296:=by
    rw[Nat.div_lt_iff_lt_mul f,B]
    have:=Nat.mul_le_mul_left 4294967296 (show r.toNat+1<=d.toNat by omega)
    omega
   have R:F.FP a d (r,(k:Int),q)=some (.inl (x%d.toUInt64,(k:Int) - 1,q.set k (x / d.toUInt64).toUInt32)):=by
    unfold F.FP
    dsimp only
    rw[if_pos (decide_eq_true (by omega)),aP (show k<a.length by omega) 0,ae,A,aS,grd_true _ i,aP (show k<q.length by omega) 0,ae,aS,grd_true _ i,O]; rfl
   rw[N,bJ R]
   refine ih _ _ (by omega) (by simpa using y) (by rw[j]; exact Nat.mod_lt _ f) ?_
   have J:a.drop k=a.getD k 0 :: a.drop (k+1):=by
    rw[List.drop_eq_getElem_cons (show k<a.length by omega)]
    congr 1
    rw[List.getD_eq_getElem?_getD,List.getElem?_eq_getElem (show k<a.length by omega)]; rfl
   have K:(q.set k (x / d.toUInt64).toUInt32).drop k=(x / d.toUInt64).toUInt32 :: q.drop (k+1):=by
    rw[List.drop_eq_getElem_cons (by simp; omega)]
    congr 1
    ·simp
    ·rw[List.drop_set_of_lt (by omega)]
   rw[J,K,dz,dz,g,ez,G,j,Nat.mod_eq_of_lt I]
   have:=Nat.div_add_mod x.toNat d.toNat
   rw[Nat.mul_add,Nat.mul_add,Nat.mul_left_comm d.toNat 4294967296]
   omega
 unfold F.Iw
 have w0:wI ((a.length:Int) - 1)=(a.length:Int) - 1:=aJ (by omega) (by omega)
 rw[dK (by omega),ae,aS,w0]
 refine o a.length _ 0 (Nat.le_refl _) (by simp) (by simpa using f) ?_
 rw[List.drop_length,List.drop_of_length_le (by simp)]
 simp[val]
end Go.Gk.Bn
end
