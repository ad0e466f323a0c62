import Derived.Test.YtkickcbphbgldaaGreatDoorGkP0
import Derived.Test.YtkickcbphbgldaaGreatDoorGkFman
set_option linter.unusedVariables false
set_option linter.unusedSimpArgs false
set_option linter.unusedSectionVars false

section
namespace Go.Gk.Bn
open Go Go.Gk
def val:List UInt32→Nat
 | []=>0
 | x :: l=>x.toNat+4294967296*val l
theorem dp:val []=0:=rfl
theorem cJ (x:UInt32) (l:List UInt32):val (x :: l)=x.toNat+4294967296*val l:=rfl
theorem ce (x:UInt32):x.toNat<4294967296:=x.toNat_lt
theorem gD:∀(a b:List UInt32),val (a++b)=val a+4294967296^a.length*val b
 | [],b=>by simp [val]
 | x :: a,b=>by
  rw [List.cons_append,cJ,gD a b,cJ,List.length_cons,Nat.pow_succ,Nat.mul_add,←Nat.add_assoc]
  congr 1
  rw [←Nat.mul_assoc,Nat.mul_comm 4294967296 (4294967296^a.length)]
theorem bA:∀l:List UInt32,val l<4294967296^l.length
 | []=>by simp [val]
 | x :: l=>by
  have h1:=bA l
  have h2:=ce x
  rw [cJ,List.length_cons,Nat.pow_succ]
  have:val l+1≤4294967296^l.length:=h1
  have:=Nat.mul_le_mul_left 4294967296 this
  omega
theorem c7 (l:List UInt32) (k:Nat) (h:k≤l.length):val l=val (l.take k)+4294967296^k*val (l.drop k):=by
 have:=gD (l.take k) (l.drop k)
 rw [List.take_append_drop,List.length_take,Nat.min_eq_left h]at this
 exact this
theorem cO:∀k:Nat,val (List.replicate k 0)=0
 | 0=>rfl
 | k+1=>by rw [List.replicate_succ,cJ,cO k]; rfl
theorem gU (l:List UInt32) (x:UInt32):val (l++[x])=val l+4294967296^l.length*x.toNat:=by
 rw [gD,cJ,dp]; simp
theorem dI:∀(l:List UInt32) (i:Nat) (x:UInt32),i<l.length→val (l.set i x)+4294967296^i*(l.getD i 0).toNat=val l+4294967296^i*x.toNat
 | [],i,x,h=>by simp at h
 | y :: l,0,x,h=>by simp [val]; omega
 | y :: l,i+1,x,h=>by
  have ih:=dI l i x (by simpa using h)
  have e0:(y :: l).getD (i+1) 0=l.getD i 0:=by simp
  rw [e0,List.set_cons_succ,cJ,cJ,Nat.pow_succ]
  have e1:4294967296^i*4294967296*(l.getD i 0).toNat=4294967296*(4294967296^i*(l.getD i 0).toNat):=by rw [Nat.mul_right_comm,Nat.mul_comm]
  have e2:4294967296^i*4294967296*x.toNat=4294967296*(4294967296^i*x.toNat):=by rw [Nat.mul_right_comm,Nat.mul_comm]
  rw [e1,e2]
  omega
def ay (n:Nat):List UInt32:=if h:n=0 then [] else UInt32.ofNat n :: ay (n / 4294967296)
termination_by n
decreasing_by exact Nat.div_lt_self (Nat.pos_of_ne_zero h) (show 1<4294967296 by decide)
theorem bG:ay 0=[]:=by rw [ay]; simp
theorem gk {n:Nat} (h:n≠0):ay n=UInt32.ofNat n :: ay (n / 4294967296):=by rw [ay]; simp [h]
theorem aA (n:Nat):val (ay n)=n:=by
 induction n using Nat.strongRecOn with
 | ind n ih=>
  by_cases h:n=0
  ·subst h; rw [bG]; rfl
  ·rw [gk h,cJ,ih _ (Nat.div_lt_self (Nat.pos_of_ne_zero h) (show 1<4294967296 by decide)),UInt32.toNat_ofNat']
   omega
def Can (l:List UInt32):Prop:=l.getLast?≠some 0
theorem pm:Can []:=by simp [Can]
theorem xD {x:UInt32} {l:List UInt32} (h:Can (x :: l)):Can l:=by
 unfold Can at h ⊢
 cases l with
 | nil=>simp
 | cons y l=>simpa using h
theorem ik:∀l:List UInt32,Can l→ay (val l)=l
 | [],_=>bG
 | x :: l,h=>by
  have ih:=ik l (xD h)
  have hx:=ce x
  have hne:val (x :: l)≠0:=by
   rw [cJ]
   intro h0
   have h1:x.toNat=0:=by omega
   have h2:val l=0:=by omega
   rw [h2,bG]at ih
   subst ih
   have:x=0:=UInt32.toNat_inj.1 h1
   subst this
   simp [Can]at h
  rw [gk hne,cJ]
  congr 1
  ·apply UInt32.toNat_inj.1
   rw [UInt32.toNat_ofNat']; omega
  ·rw [show (x.toNat+4294967296*val l) / 4294967296=val l by omega,ih]
theorem pG (n:Nat):Can (ay n):=by
 induction n using Nat.strongRecOn with
 | ind n ih=>
  by_cases h:n=0
  ·subst h; rw [bG]; exact pm
  ·have h2:=ih _ (Nat.div_lt_self (Nat.pos_of_ne_zero h) (show 1<4294967296 by decide))
   rw [gk h]
   by_cases hd:n / 4294967296=0
   ·rw [hd,bG]
    unfold Can
    simp only [List.getLast?_singleton,ne_eq,Option.some.injEq]
    intro h0
    have:=congrArg UInt32.toNat h0
    rw [UInt32.toNat_ofNat']at this
    simp at this
    omega
   ·unfold Can at h2 ⊢
    rw [gk hd]at h2 ⊢
    simpa using h2
theorem AX {a b:List UInt32} (ha:Can a) (hb:Can b) (h:val a=val b):a=b:=by
 rw [←ik a ha,←ik b hb,h]
theorem pX (l:List UInt32) (k:Nat):val (l++List.replicate k 0)=val l:=by rw [gD,cO]; simp
theorem xf {l:List UInt32} {n:Nat} (h:val l=n) (hc:Can l):l=ay n:=by rw [←h,ik l hc]
theorem bl {n k:Nat} (h:n<4294967296^k):(ay n).length≤k:=by
 induction k generalizing n with
 | zero=>simp at h; subst h; rw [bG]; simp
 | succ k ih=>
  by_cases h0:n=0
  ·subst h0; rw [bG]; simp
  ·rw [gk h0,List.length_cons]
   have:=ih (n:=n / 4294967296) (by rw [Nat.pow_succ]at h; exact Nat.div_lt_of_lt_mul (by rwa [Nat.mul_comm]at h))
   omega
theorem me {n k:Nat} (h:4294967296^k≤n):k<(ay n).length:=by
 have:=bA (ay n)
 rw [aA]at this
 rcases Nat.lt_or_ge k (ay n).length with h1 | h1
 ·exact h1
 ·have:=Nat.pow_le_pow_right (show 0<4294967296 by decide) h1
  omega
theorem mA {a b:List UInt32} (hb:Can b) (h:a.length<b.length):val a<val b:=by
 have h1:=bA a
 have hne:b≠[]:=by rintro rfl; simp at h
 have hd:b=b.dropLast++[b.getLast hne]:=(List.dropLast_concat_getLast hne).symm
 have hl:b.getLast hne≠0:=fun h0=>hb (by rw [List.getLast?_eq_some_getLast hne,h0])
 have hl1:1≤(b.getLast hne).toNat:=by
  rcases Nat.eq_zero_or_pos (b.getLast hne).toNat with h0 | h0
  ·exact absurd (UInt32.toNat_inj.1 h0) hl
  ·exact h0
 rw [hd,gU,List.length_dropLast]
 have h2:=Nat.pow_le_pow_right (show 0<4294967296 by decide) (show a.length≤b.length - 1 by omega)
 have h3:=Nat.mul_le_mul_left (4294967296^(b.length - 1)) hl1
 omega
end Go.Gk.Bn
end

section
namespace Go.Gk.Bn
theorem rM {g r v1 v2 V' h u2 U' K:Nat} (hh:h=g*v1+r) (hU':U'<K)
  (ht:4294967296≤g∨r*4294967296+u2<g*v2) (hlt:(h*4294967296+u2)*K+U'<4294967296*((v1*4294967296+v2)*K+V')) :
  (h*4294967296+u2)*K+U'<g*((v1*4294967296+v2)*K+V'):=by
 rcases ht with ht | ht
 ·exact Nat.lt_of_lt_of_le hlt (Nat.mul_le_mul_right _ ht)
 ·have h1:h*4294967296+u2+1≤g*(v1*4294967296+v2):=by
   subst hh
   have e1:g*(v1*4294967296+v2)=g*v1*4294967296+g*v2:=by rw [Nat.mul_add,←Nat.mul_assoc]
   rw [e1,Nat.add_mul]
   omega
  have h2:(h*4294967296+u2+1)*K≤g*(v1*4294967296+v2)*K:=Nat.mul_le_mul_right _ h1
  rw [Nat.add_mul,Nat.one_mul]at h2
  rw [Nat.mul_add,←Nat.mul_assoc]
  omega
theorem wz {g r v1 v2 V' h u2 U' K:Nat} (hh:h=g*v1+r) (hV':V'<K) (hv:1≤v1)
  (hg:g<4294967296) (ht:g*v2≤r*4294967296+u2) :
  g*((v1*4294967296+v2)*K+V')<(h*4294967296+u2)*K+U'+((v1*4294967296+v2)*K+V'):=by
 have h1:g*(v1*4294967296+v2)≤h*4294967296+u2:=by
  subst hh
  have e1:g*(v1*4294967296+v2)=g*v1*4294967296+g*v2:=by rw [Nat.mul_add,←Nat.mul_assoc]
  rw [e1,Nat.add_mul]
  omega
 have h2:g*(v1*4294967296+v2)*K≤(h*4294967296+u2)*K:=Nat.mul_le_mul_right _ h1
 have h3:g*V'≤4294967295*V':=Nat.mul_le_mul_right _ (by omega)
 have h4:4294967296*K≤(v1*4294967296+v2)*K:=Nat.mul_le_mul_right _ (by omega)
 rw [Nat.mul_add,←Nat.mul_assoc]
 omega
end Go.Gk.Bn
end

section
namespace Go.Gk.Bn
open Go Go.Gk
theorem ep (c:UInt64):c.toUInt32.toNat=c.toNat%4294967296:=UInt64.toNat_toUInt32 c
theorem jV (c:UInt64):(aQ c 32).toNat=c.toNat / 4294967296:=by rw [dM]; rfl
theorem uZ (c:UInt64):(aQ c 32).toUInt32.toNat=c.toNat / 4294967296:=by
 rw [ep,jV,Nat.mod_eq_of_lt]
 have:=c.toNat_lt
 omega
theorem yh (c:UInt64):(aQ c 63).toNat=c.toNat / 9223372036854775808:=by rw [dM]; rfl
theorem bP (x:UInt32):x.toUInt64.toNat=x.toNat:=UInt32.toNat_toUInt64 x
theorem iY (c:UInt64):c.toNat=c.toUInt32.toNat+4294967296*(aQ c 32).toNat:=by rw [ep,jV]; omega
theorem fJ (a b:UInt64) (h:a.toNat+b.toNat<18446744073709551616):(a+b).toNat=a.toNat+b.toNat:=by rw [UInt64.toNat_add]; omega
theorem mz (a b:UInt64) (h:a.toNat*b.toNat<18446744073709551616):(a*b).toNat=a.toNat*b.toNat:=by rw [UInt64.toNat_mul]; omega
theorem hU (x:UInt32):x.toNat≤4294967295:=by have:=ce x; omega
def pad (x:List UInt32) (n:Nat):List UInt32:=x++List.replicate (n - x.length) 0
theorem fL {x:List UInt32} {n:Nat} (h:x.length≤n):(pad x n).length=n:=by simp [pad]; omega
theorem o8 (n:Nat):pad [] n=List.replicate n 0:=by simp [pad]
theorem mH {x:List UInt32} {n:Nat} (h:x.length<n) (v:UInt32):(pad x n).set x.length v=pad (x++[v]) n:=by
 unfold pad
 rw [List.set_append_right _ _ (Nat.le_refl _),Nat.sub_self]
 obtain ⟨k,hk⟩:∃k,n - x.length=k+1:=⟨n - x.length - 1,by omega⟩
 rw [hk,List.replicate_succ,List.set_cons_zero,List.append_assoc]
 congr 2
 simp; omega
theorem kg (x:List UInt32) (n:Nat):val (pad x n)=val x:=pX x _
theorem dr {a:List UInt32} {i:Nat} (h:a.length≤i):a.getD i 0=0:=by
 rw [List.getD_eq_getElem?_getD,List.getElem?_eq_none h]; rfl
theorem mX {a:List UInt32} {i:Nat} (h:i<a.length):a.take (i+1)=a.take i++[a.getD i 0]:=by
 rw [List.take_succ_eq_append_getElem h]
 congr 2
 rw [List.getD_eq_getElem?_getD,List.getElem?_eq_getElem h]; rfl
theorem bE (a:List UInt32) (i:Nat):val (a.take (i+1))=val (a.take i)+4294967296^i*(a.getD i 0).toNat:=by
 by_cases h:i<a.length
 ·rw [mX h,gU,List.length_take,Nat.min_eq_left (by omega)]
 ·rw [List.take_of_length_le (by omega),List.take_of_length_le (by omega),dr (by omega)]; simp
theorem jN {a:List UInt32} {n:Nat} (hn:n≤a.length) (h1:∀k,n≤k→a.getD k 0=0) (h2:n=0∨a.getD (n - 1) 0≠0):a.take n=ay (val a):=by
 have hd:a.drop n=List.replicate (a.length - n) 0:=by
  refine List.ext_getElem (by simp) fun i h3 h4=>?_
  have:=h1 (n+i) (by omega)
  rw [List.getD_eq_getElem?_getD,List.getElem?_eq_getElem (by simp at h3; omega)]at this
  rw [List.getElem_drop,List.getElem_replicate]
  exact this
 refine xf ?_ ?_
 ·conv=>rhs; rw [←List.take_append_drop n a,hd,pX]
 ·unfold Can
  rcases h2 with rfl | h2
  ·simp
  ·intro h3
   by_cases h0:n=0
   ·subst h0; simp at h3
   ·have hl:(a.take n).length=n:=by simp; omega
    rw [List.getLast?_eq_getElem?,hl,List.getElem?_take_of_lt (by omega)]at h3
    rw [List.getD_eq_getElem?_getD,h3]at h2
    exact h2 rfl
theorem vb {ρ:Type} {f:Int→Option (Int⊕ρ)} (a:List UInt32) (X:Int→Option ρ) (ha:a.length≤4611686018427387904)
  (hf:∀n:Nat,n≤a.length→f (n:Int)=if n≠0∧a.getD (n - 1) 0=0 then some (.inl ((n - 1:Nat):Int)) else bJ (X (n:Int))) :
  ∃n,n≤a.length∧a.take n=ay (val a)∧loop f (a.length:Int)=X (n:Int):=by
 have key:∀n:Nat,n≤a.length→(∀k,n≤k→a.getD k 0=0)→∃m,m≤a.length∧a.take m=ay (val a)∧loop f (n:Int)=X (m:Int):=by
  intro n
  induction n with
  | zero=>
   intro hn hz
   refine ⟨0,hn,jN hn hz (.inl rfl),?_⟩
   have:=hf 0 hn
   rw [if_neg (by simp)]at this
   rw [j0,this]
   cases X ((0:Nat):Int) <;> rfl
  | succ n ih=>
   intro hn hz
   have h:=hf (n+1) hn
   rw [Nat.add_sub_cancel]at h
   by_cases h0:a.getD n 0=0
   ·rw [if_pos ⟨by omega,h0⟩]at h
    obtain ⟨m,h1,h2,h3⟩:=ih (by omega) fun k hk=>by
     rcases Nat.eq_or_lt_of_le hk with rfl | hk
     ·exact h0
     ·exact hz k hk
    exact ⟨m,h1,h2,(bM h).trans h3⟩
   ·rw [if_neg (fun hc=>h0 hc.2)]at h
    refine ⟨n+1,hn,jN hn hz (.inr (by simpa using h0)),?_⟩
    rw [j0,h]
    cases X ((n+1:Nat):Int) <;> rfl
 exact key a.length (Nat.le_refl _) fun k hk=>dr hk
end Go.Gk.Bn
end

section
namespace Go.Gk.Bn
open Go Go.Gk Go.Gk.Sh
theorem fk (a:List UInt32) (ha:a.length≤4611686018427387904):F.BO a=some (ay (val a)):=by
 unfold F.BO
 obtain ⟨n,hn,ht,hl⟩:=vb (f:=F.E3 a) a (fun x_2=>grd (0≤(x_2:Int)∧(x_2:Int).toNat≤a.length) <| some (a.take ((x_2:Int).toNat))) ha (fun n hn=>by
  unfold F.E3 F.Fe
  by_cases h0:n=0
  ·subst h0
   rw [if_neg (by simp),if_neg (by simp)]
   rfl
  ·have w1:wI ((n:Int) - 1)=((n - 1:Nat):Int):=by rw [aR (by omega) (by omega)]; omega
   rw [if_pos (decide_eq_true (by omega)),w1,aV (show n - 1<a.length by omega) 0,ak]
   by_cases hz:a.getD (n - 1) 0=0
   ·rw [if_pos (show n≠0∧a.getD (n - 1) 0=0 from ⟨h0,hz⟩),if_pos (show (a.getD (n - 1) 0 == 0)=true from by rw [hz]; rfl)]; rfl
   ·rw [if_neg (show ¬(n≠0∧a.getD (n - 1) 0=0) from fun h=>hz h.2),if_neg (show ¬(a.getD (n - 1) 0 == 0)=true from fun h=>hz (eq_of_beq h))])
 rw [hl,grd_true _ ⟨by omega,by rw [Int.toNat_natCast]; exact hn⟩,Int.toNat_natCast,ht]
theorem gW (x:UInt64):F.Ce x=some (ay x.toNat):=by
 unfold F.Ce
 rw [fk _ (by simp),ak,cJ,cJ,dp,Nat.mul_zero,Nat.add_zero,uZ,←jV,←iY]
theorem kE {x:List UInt32} {n i:Nat} (hx:x.length≤n) (h:i<n):∃u,aL (pad x n) (i:Int)=some u:=⟨_,aV (by rw [fL hx]; exact h) 0⟩
def jW (a b:List UInt32) (x:List UInt32×UInt64) (i:Nat):List UInt32×UInt64:=
 (x.1++[(x.2+(a.getD i 0).toUInt64+(b.getD i 0).toUInt64).toUInt32],aQ (x.2+(a.getD i 0).toUInt64+(b.getD i 0).toUInt64) 32)
theorem r7 {a b:List UInt32} {x:List UInt32×UInt64} {i:Nat} (h1:x.1.length=i) (h2:val x.1+4294967296^i*x.2.toNat=val (a.take i)+val (b.take i)) (h3:x.2.toNat≤1) :
  (jW a b x i).1.length=i+1∧val (jW a b x i).1+4294967296^(i+1)*(jW a b x i).2.toNat=val (a.take (i+1))+val (b.take (i+1))∧(jW a b x i).2.toNat≤1:=by
 have ha:=ce (a.getD i 0); have hb:=ce (b.getD i 0)
 obtain ⟨s,hs⟩:∃s,x.2+(a.getD i 0).toUInt64+(b.getD i 0).toUInt64=s:=⟨_,rfl⟩
 have hsn:s.toNat=x.2.toNat+(a.getD i 0).toNat+(b.getD i 0).toNat:=by
  rw [←hs,fJ _ _ (by rw [fJ _ _ (by rw [bP]; omega),bP,bP]; omega),fJ _ _ (by rw [bP]; omega),bP,bP]
 unfold jW
 rw [hs]
 refine ⟨by simp [h1],?_,by simp only [jV]; omega⟩
 have e:=iY s
 simp only
 rw [gU,h1,bE,bE,Nat.pow_succ,Nat.mul_assoc]
 have:4294967296^i*s.toNat=4294967296^i*s.toUInt32.toNat+4294967296^i*(4294967296*(aQ s 32).toNat):=by rw [←Nat.mul_add,←e]
 rw [hsn,Nat.mul_add,Nat.mul_add]at this
 omega
theorem x6 (a b:List UInt32) (hba:b.length≤a.length) (ha:a.length≤70368744177663):loop (F.Dr a b) (0,0,pad [] (a.length+1))=some (ay (val a+val b)):=by
 have e:=cq (f:=F.Dr a b) (fun (x:List UInt32×UInt64) i=>(x.2,(i:Int),pad x.1 (a.length+1)))
  (fun i x=>x.1.length=i∧val x.1+4294967296^i*x.2.toNat=val (a.take i)+val (b.take i)∧x.2.toNat≤1) (jW a b) 0 a.length
  (X:=fun x=>F.BO ((pad x.1 (a.length+1)).set a.length x.2.toUInt32))
  (fun i x _ hi hx=>by
   obtain ⟨h1,h2,h3⟩:=hx
   refine ⟨?_,r7 h1 h2 h3⟩
   have w1:wI ((i:Int)+1)=((i+1:Nat):Int):=by rw [aR (by omega) (by omega)]; rfl
   obtain ⟨u,hu⟩:=kE (x:=x.1) (n:=a.length+1) (i:=i) (by omega) (by omega)
   have hK:∀s:UInt64,s=x.2+(a.getD i 0).toUInt64+(b.getD i 0).toUInt64→F.EG (i:Int) (pad x.1 (a.length+1)) s=some (.inl ((jW a b x i).2,((i+1:Nat):Int),pad (jW a b x i).1 (a.length+1))):=by
    rintro s rfl
    unfold F.EG
    dsimp only
    rw [hu,ak,aY,w1,Int.toNat_natCast]
    have:=mH (x:=x.1) (n:=a.length+1) (by omega) (x.2+(a.getD i 0).toUInt64+(b.getD i 0).toUInt64).toUInt32
    rw [h1]at this
    rw [this]; rfl
   unfold F.Dr
   dsimp only
   rw [if_pos (decide_eq_true (by omega)),aV hi 0,ak]
   by_cases hb:i<b.length
   ·rw [if_pos (decide_eq_true (by omega)),aV hb 0,ak,aY,hK _ rfl]
   ·rw [if_neg (by simp only [decide_eq_true_eq]; omega),hK _ (by rw [dr (a:=b) (i:=i) (by omega)]; exact (UInt64.add_zero _).symm)])
  (fun x hx=>by
   obtain ⟨u,hu⟩:=kE (x:=x.1) (n:=a.length+1) (i:=a.length) (by omega) (by omega)
   unfold F.Dr
   dsimp only
   rw [if_neg (by simp),hu,ak,aY,Int.toNat_natCast]
   cases F.BO ((pad x.1 (a.length+1)).set a.length x.2.toUInt32) <;> rfl)
  a.length 0 ([],0) (Nat.le_refl _) (by omega) ⟨rfl,by simp [val],by simp⟩
 refine e.trans ?_
 obtain ⟨h1,h2,h3⟩:=cH (fun i (x:List UInt32×UInt64)=>x.1.length=i∧val x.1+4294967296^i*x.2.toNat=val (a.take i)+val (b.take i)∧x.2.toNat≤1) (jW a b)
  (fun i x hx=>r7 hx.1 hx.2.1 hx.2.2) a.length 0 ([],0) ⟨rfl,by simp [val],by simp⟩
 obtain ⟨y,hy⟩:∃y,(List.range' 0 a.length).foldl (jW a b) ([],0)=y:=⟨_,rfl⟩
 rw [hy]at h1 h2 h3 ⊢
 rw [Nat.zero_add]at h1 h2
 rw [List.take_length,List.take_of_length_le hba]at h2
 have hp:=mH (x:=y.1) (n:=a.length+1) (by omega) y.2.toUInt32
 rw [h1]at hp
 rw [hp,fk _ (by rw [fL (by simp; omega)]; omega),kg,gU,h1,ep,Nat.mod_eq_of_lt (by omega),h2]
theorem oz (a b:List UInt32) (ha:a.length≤70368744177663) (hb:b.length≤70368744177663):F.C6 a b=some (ay (val a+val b)):=by
 have hK:∀a b:List UInt32,b.length≤a.length→a.length≤70368744177663→F.D6 (a,b)=some (ay (val a+val b)):=by
  intro a b h1 h2
  unfold F.D6
  dsimp only
  rw [aR (by omega) (by omega),dA (by omega),ak]
  have:(((a.length:Int)+1).toNat)=a.length+1:=by omega
  rw [this,←o8,x6 a b h1 h2]
 unfold F.C6
 by_cases h:a.length<b.length
 ·rw [if_pos (decide_eq_true (by omega)),hK b a (by omega) hb,Nat.add_comm]
 ·rw [if_neg (by simp only [decide_eq_true_eq]; omega),hK a b (by omega) ha]
end Go.Gk.Bn
end

section
namespace Go.Gk.Bn
open Go Go.Gk Go.Gk.Sh
theorem yo (u v:UInt32) (c:UInt64) (hc:c.toNat≤1):((u.toUInt64 - c) - v.toUInt64).toUInt32.toNat+c.toNat+v.toNat=u.toNat+4294967296*(aQ ((u.toUInt64 - c) - v.toUInt64) 63).toNat∧(aQ ((u.toUInt64 - c) - v.toUInt64) 63).toNat≤1:=by
 have hu:=ce u; have hv:=ce v
 rw [ep,yh,UInt64.toNat_sub,UInt64.toNat_sub,bP,bP]
 omega
def gf (a b:List UInt32) (x:List UInt32×UInt64) (i:Nat):List UInt32×UInt64:=
 (x.1++[((a.getD i 0).toUInt64 - x.2 - (b.getD i 0).toUInt64).toUInt32],aQ ((a.getD i 0).toUInt64 - x.2 - (b.getD i 0).toUInt64) 63)
theorem qS {a b:List UInt32} {x:List UInt32×UInt64} {i:Nat} (h1:x.1.length=i) (h2:val x.1+val (b.take i)=val (a.take i)+4294967296^i*x.2.toNat) (h3:x.2.toNat≤1) :
  (gf a b x i).1.length=i+1∧val (gf a b x i).1+val (b.take (i+1))=val (a.take (i+1))+4294967296^(i+1)*(gf a b x i).2.toNat∧(gf a b x i).2.toNat≤1:=by
 obtain ⟨e1,e2⟩:=yo (a.getD i 0) (b.getD i 0) x.2 h3
 unfold gf
 obtain ⟨s,hs⟩:∃s,(a.getD i 0).toUInt64 - x.2 - (b.getD i 0).toUInt64=s:=⟨_,rfl⟩
 rw [hs]at e1 e2 ⊢
 refine ⟨by simp [h1],?_,e2⟩
 simp only
 rw [gU,h1,bE,bE,Nat.pow_succ,Nat.mul_assoc]
 have:4294967296^i*(s.toUInt32.toNat+x.2.toNat+(b.getD i 0).toNat)=4294967296^i*((a.getD i 0).toNat+4294967296*(aQ s 63).toNat):=by rw [e1]
 rw [Nat.mul_add,Nat.mul_add,Nat.mul_add]at this
 omega
theorem rD (a b:List UInt32) (hba:b.length≤a.length) (hv:val b≤val a) (ha:a.length≤70368744177664):F.DB a b=some (ay (val a - val b)):=by
 unfold F.DB
 rw [dA (by omega),ak,Int.toNat_natCast,←o8]
 have e:=cq (f:=F.EU a b) (fun (x:List UInt32×UInt64) i=>(x.2,(i:Int),pad x.1 a.length))
  (fun i x=>x.1.length=i∧val x.1+val (b.take i)=val (a.take i)+4294967296^i*x.2.toNat∧x.2.toNat≤1) (gf a b) 0 a.length
  (X:=fun x=>F.BO (pad x.1 a.length))
  (fun i x _ hi hx=>by
   obtain ⟨h1,h2,h3⟩:=hx
   refine ⟨?_,qS h1 h2 h3⟩
   have w1:wI ((i:Int)+1)=((i+1:Nat):Int):=by rw [aR (by omega) (by omega)]; rfl
   obtain ⟨u,hu⟩:=kE (x:=x.1) (n:=a.length) (i:=i) (by omega) (by omega)
   have hK:∀s:UInt64,s=(a.getD i 0).toUInt64 - x.2 - (b.getD i 0).toUInt64→F.ER (i:Int) (pad x.1 a.length) s=some (.inl ((gf a b x i).2,((i+1:Nat):Int),pad (gf a b x i).1 a.length)):=by
    rintro s rfl
    unfold F.ER
    dsimp only
    rw [hu,ak,aY,w1,Int.toNat_natCast]
    have:=mH (x:=x.1) (n:=a.length) (by omega) ((a.getD i 0).toUInt64 - x.2 - (b.getD i 0).toUInt64).toUInt32
    rw [h1]at this
    rw [this]; rfl
   unfold F.EU
   dsimp only
   rw [if_pos (decide_eq_true (by omega)),aV hi 0,ak]
   by_cases hb:i<b.length
   ·rw [if_pos (decide_eq_true (by omega)),aV hb 0,ak,aY,hK _ rfl]
   ·rw [if_neg (by simp only [decide_eq_true_eq]; omega),hK _ (by rw [dr (a:=b) (i:=i) (by omega)]; exact (UInt64.sub_zero _).symm)])
  (fun x hx=>by
   unfold F.EU
   dsimp only
   rw [if_neg (by simp)]
   cases F.BO (pad x.1 a.length) <;> rfl)
  a.length 0 ([],0) (Nat.le_refl _) (by omega) ⟨rfl,by simp [val],by simp⟩
 refine e.trans ?_
 obtain ⟨h1,h2,h3⟩:=cH (fun i (x:List UInt32×UInt64)=>x.1.length=i∧val x.1+val (b.take i)=val (a.take i)+4294967296^i*x.2.toNat∧x.2.toNat≤1) (gf a b)
  (fun i x hx=>qS hx.1 hx.2.1 hx.2.2) a.length 0 ([],0) ⟨rfl,by simp [val],by simp⟩
 obtain ⟨y,hy⟩:∃y,(List.range' 0 a.length).foldl (gf a b) ([],0)=y:=⟨_,rfl⟩
 rw [hy]at h1 h2 h3 ⊢
 rw [Nat.zero_add]at h1 h2
 rw [List.take_length,List.take_of_length_le hba]at h2
 have hlt:=bA y.1
 rw [h1]at hlt
 have hc:y.2.toNat=0:=by
  rcases Nat.eq_zero_or_pos y.2.toNat with h | h
  ·exact h
  ·have:y.2.toNat=1:=by omega
   rw [this,Nat.mul_one]at h2
   omega
 rw [hc,Nat.mul_zero,Nat.add_zero]at h2
 rw [fk _ (by rw [fL (by omega)]; omega),kg,show val y.1=val a - val b by omega]
theorem wD (a b:UInt32):a.toNat*b.toNat≤4294967295*4294967295:=Nat.mul_le_mul (hU a) (hU b)
theorem xq (c:UInt64) (u v r:UInt32) (hc:c.toNat≤4294967295):(c+(u.toUInt64*v.toUInt64+r.toUInt64)).toNat=c.toNat+(u.toNat*v.toNat+r.toNat):=by
 have h1:=wD u v; have h2:=hU r
 have e1:(u.toUInt64*v.toUInt64).toNat=u.toNat*v.toNat:=by rw [mz _ _ (by rw [bP,bP]; omega),bP,bP]
 have e2:(u.toUInt64*v.toUInt64+r.toUInt64).toNat=u.toNat*v.toNat+r.toNat:=by rw [fJ _ _ (by rw [e1,bP]; omega),e1,bP]
 rw [fJ _ _ (by rw [e2]; omega),e2]
theorem dg {l:List UInt32} {i k:Nat} {x:UInt32} (h:i≠k):(l.set i x).getD k 0=l.getD k 0:=by
 rw [List.getD_eq_getElem?_getD,List.getElem?_set_ne h,List.getD_eq_getElem?_getD]
def rt (u:UInt32) (b:List UInt32) (i:Nat) (x:UInt64×List UInt32) (j:Nat):UInt64×List UInt32:=
 (aQ (x.1+(u.toUInt64*(b.getD j 0).toUInt64+(x.2.getD (i+j) 0).toUInt64)) 32,x.2.set (i+j) (x.1+(u.toUInt64*(b.getD j 0).toUInt64+(x.2.getD (i+j) 0).toUInt64)).toUInt32)
def rs (u:UInt32) (b:List UInt32) (i N:Nat) (r0:List UInt32) (j:Nat) (x:UInt64×List UInt32):Prop:=
 x.2.length=N∧(∀k,i+b.length≤k→x.2.getD k 0=0)∧val x.2+4294967296^(i+j)*x.1.toNat=val r0+4294967296^i*(u.toNat*val (b.take j))∧x.1.toNat≤4294967295
theorem rI {u:UInt32} {b:List UInt32} {i N:Nat} {r0:List UInt32} {j:Nat} {x:UInt64×List UInt32} (hN:i+b.length<N) (hj:j<b.length) (h:rs u b i N r0 j x):rs u b i N r0 (j+1) (rt u b i x j):=by
 obtain ⟨h1,h2,h3,h4⟩:=h
 have e:=xq x.1 u (b.getD j 0) (x.2.getD (i+j) 0) h4
 unfold rt
 obtain ⟨s,hs⟩:∃s,x.1+(u.toUInt64*(b.getD j 0).toUInt64+(x.2.getD (i+j) 0).toUInt64)=s:=⟨_,rfl⟩
 rw [hs]at e ⊢
 have hsp:=iY s
 have hb:=wD u (b.getD j 0); have hr:=hU (x.2.getD (i+j) 0)
 refine ⟨by simpa using h1,fun k hk=>?_,?_,by simp only [jV]; omega⟩
 ·simp only
  rw [dg (by omega)]; exact h2 k hk
 ·simp only
  have hv:=dI x.2 (i+j) s.toUInt32 (by omega)
  rw [bE,Nat.mul_add,Nat.mul_add]
  have e1:4294967296^i*(u.toNat*(4294967296^j*(b.getD j 0).toNat))=4294967296^(i+j)*(u.toNat*(b.getD j 0).toNat):=by
   rw [Nat.pow_add,Nat.mul_assoc,Nat.mul_left_comm u.toNat]
  have e2:4294967296^(i+j)*s.toNat=4294967296^(i+j)*s.toUInt32.toNat+4294967296^(i+(j+1))*(aQ s 32).toNat:=by
   rw [←Nat.add_assoc,Nat.pow_succ,Nat.mul_assoc,←Nat.mul_add,←hsp]
  rw [e,Nat.mul_add,Nat.mul_add]at e2
  rw [e1]
  omega
theorem wo (a b:List UInt32) (i:Nat) (r:List UInt32) (hi:i<a.length) (hl:r.length=a.length+b.length) (hz:∀k,i+b.length≤k→r.getD k 0=0) (hs:a.length+b.length≤70368744177664) :
  ∃r',loop (F.Du a b (i:Int)) (0,0,r)=some (.inl (((i+1:Nat):Int),r'))∧r'.length=a.length+b.length∧(∀k,i+1+b.length≤k→r'.getD k 0=0)∧val r'=val r+4294967296^i*((a.getD i 0).toNat*val b):=by
 have h0:rs (a.getD i 0) b i (a.length+b.length) r 0 (0,r):=⟨hl,hz,by simp [val],by simp⟩
 have e:=cq (f:=F.Du a b (i:Int)) (fun (x:UInt64×List UInt32) j=>(x.1,(j:Int),x.2)) (fun j x=>j≤b.length→rs (a.getD i 0) b i (a.length+b.length) r j x) (rt (a.getD i 0) b i) 0 b.length
  (X:=fun x=>some (.inl (((i+1:Nat):Int),x.2.set (i+b.length) x.1.toUInt32)))
  (fun j x _ hj hx=>by
   have hx:=hx (by omega)
   refine ⟨?_,fun _=>rI (by omega) hj hx⟩
   obtain ⟨h1,h2,h3,h4⟩:=hx
   have w1:wI ((i:Int)+(j:Int))=((i+j:Nat):Int):=by rw [aR (by omega) (by omega)]; rfl
   have w2:wI ((j:Int)+1)=((j+1:Nat):Int):=by rw [aR (by omega) (by omega)]; rfl
   unfold F.Du
   dsimp only
   rw [if_pos (decide_eq_true (by omega)),aV hi 0,ak,aV hj 0,ak,w1,aV (show i+j<x.2.length by omega) 0,ak,aY,ak,aY,Int.toNat_natCast,w2]
   rfl)
  (fun x hx=>by
   obtain ⟨h1,h2,h3,h4⟩:=hx (Nat.le_refl _)
   have w1:wI ((i:Int)+(b.length:Int))=((i+b.length:Nat):Int):=by rw [aR (by omega) (by omega)]; rfl
   have w2:wI ((i:Int)+1)=((i+1:Nat):Int):=by rw [aR (by omega) (by omega)]; rfl
   unfold F.Du
   dsimp only
   rw [if_neg (by simp),w1,aV (show i+b.length<x.2.length by omega) 0,ak,aY,Int.toNat_natCast,w2]
   rfl)
  b.length 0 (0,r) (Nat.le_refl _) (by omega) (fun _=>h0)
 have hI:=cH (fun j (x:UInt64×List UInt32)=>j≤b.length→rs (a.getD i 0) b i (a.length+b.length) r j x) (rt (a.getD i 0) b i) (fun j x hx=>fun hj=>rI (by omega) (by omega) (hx (by omega))) b.length 0 (0,r) (fun _=>h0)
 obtain ⟨y,hy⟩:∃y,(List.range' 0 b.length).foldl (rt (a.getD i 0) b i) (0,r)=y:=⟨_,rfl⟩
 rw [hy]at hI e
 rw [Nat.zero_add]at hI
 obtain ⟨h1,h2,h3,h4⟩:=hI (Nat.le_refl _)
 refine ⟨_,e,by simpa using h1,fun k hk=>?_,?_⟩
 ·rw [dg (by omega)]; exact h2 k (by omega)
 ·have hv:=dI y.2 (i+b.length) y.1.toUInt32 (by omega)
  rw [h2 _ (Nat.le_refl _)]at hv
  have:(0:UInt32).toNat=0:=rfl
  rw [this,Nat.mul_zero,Nat.add_zero]at hv
  rw [List.take_length]at h3
  rw [hv,ep,Nat.mod_eq_of_lt (by omega),h3]
theorem vU (a b:List UInt32) (hs:a.length+b.length≤70368744177664):F.Ew a b=some (ay (val a*val b)):=by
 unfold F.Ew
 have hnil:F.CX a b true=some []:=by unfold F.CX; rw [if_pos rfl]
 by_cases ha:a.length=0
 ·rw [if_pos (by simp [ha]),hnil,List.eq_nil_of_length_eq_zero ha,dp,Nat.zero_mul,bG]
 ·rw [if_neg (by simpa using fun h=>ha (by rw [h]; rfl))]
  by_cases hb:b.length=0
  ·rw [show ((b.length:Int) == 0)=true by simp [hb],hnil,List.eq_nil_of_length_eq_zero hb,dp,Nat.mul_zero,bG]
  ·rw [show ((b.length:Int) == 0)=false by simpa using fun h=>hb (by rw [h]; rfl)]
   unfold F.CX
   rw [if_neg (by decide),aR (by omega) (by omega),dA (by omega),ak,show ((a.length:Int)+(b.length:Int)).toNat=a.length+b.length by omega]
   have key:∀(k i:Nat) (r:List UInt32),i+k=a.length→r.length=a.length+b.length→(∀k,i+b.length≤k→r.getD k 0=0)→val r=val (a.take i)*val b→loop (F.DS a b) ((i:Int),r)=some (ay (val a*val b)):=by
    intro k
    induction k with
    | zero=>
     intro i r h h1 h2 h3
     have:i=a.length:=by omega
     subst this
     refine em ?_
     unfold F.DS
     dsimp only
     rw [if_neg (by simp),fk _ (by omega),ak,h3,List.take_length]; rfl
    | succ k ih=>
     intro i r h h1 h2 h3
     obtain ⟨r',e1,e2,e3,e4⟩:=wo a b i r (by omega) h1 h2 hs
     have hst:F.DS a b ((i:Int),r)=some (.inl (((i+1:Nat):Int),r')):=by
      unfold F.DS
      dsimp only
      rw [if_pos (decide_eq_true (by omega)),e1]
     rw [bM hst]
     refine ih (i+1) r' (by omega) e2 (fun k hk=>e3 k (by omega)) ?_
     rw [e4,h3,bE,Nat.add_mul,Nat.mul_assoc]
   exact key a.length 0 _ (by omega) (by simp) (fun k _=>by
    rw [List.getD_eq_getElem?_getD,List.getElem?_replicate]; split <;> rfl) (by rw [cO]; simp [val])
end Go.Gk.Bn
end

section
namespace Go.Gk.Bn
open Go Go.Gk Go.Gk.Sh
def da (a b:Nat):Int:=if a<b then -1 else if a=b then 0 else 1
theorem lH (a:List UInt32) (k:Nat) (h:k<a.length):val a=val (a.take k)+4294967296^k*((a.getD k 0).toNat+4294967296*val (a.drop (k+1))):=by
 rw [c7 a k (by omega),List.drop_eq_getElem_cons h,cJ]
 congr 4
 rw [List.getD_eq_getElem?_getD,List.getElem?_eq_getElem h]; rfl
theorem pN {a b:List UInt32} {k:Nat} (ha:k<a.length) (hb:k<b.length) (hd:a.drop (k+1)=b.drop (k+1)) (hlt:(a.getD k 0).toNat<(b.getD k 0).toNat):val a<val b:=by
 rw [lH a k ha,lH b k hb,hd]
 have h1:=bA (a.take k)
 rw [List.length_take,Nat.min_eq_left (by omega)]at h1
 have h2:4294967296^k*((a.getD k 0).toNat+4294967296*val (b.drop (k+1))+1)≤4294967296^k*((b.getD k 0).toNat+4294967296*val (b.drop (k+1))):=Nat.mul_le_mul_left _ (by omega)
 rw [Nat.mul_add,Nat.mul_one]at h2
 omega
theorem oD (a b:List UInt32) (ha:Can a) (hb:Can b) (hl:a.length≤4611686018427387904) (hl2:b.length≤4611686018427387904):F.DC a b=some (da (val a) (val b)):=by
 unfold F.DC da
 by_cases h:a.length=b.length
 ·rw [if_neg (by simp [h]),aY]
  have key:∀k,k≤a.length→a.drop k=b.drop k→loop (F.CH a b) ((k:Int) - 1)=some (if val a<val b then -1 else if val a=val b then 0 else 1):=by
   intro k
   induction k with
   | zero=>
    intro _ hd
    have:a=b:=by simpa using hd
    subst this
    rw [if_neg (by omega),if_pos rfl]
    exact em rfl
   | succ k ih=>
    intro hk hd
    have hk2:k<b.length:=by omega
    have e1:(((k+1:Nat):Int)) - 1=(k:Int):=by omega
    have w1:wI ((k:Int) - 1)=(k:Int) - 1:=aR (by omega) (by omega)
    rw [e1]
    by_cases he:a.getD k 0=b.getD k 0
    ·have hs:F.CH a b (k:Int)=some (.inl ((k:Int) - 1)):=by
      unfold F.CH
      rw [if_pos (decide_eq_true (by omega)),aV (show k<a.length by omega) 0,ak,aV hk2 0,ak,if_neg (by simp only [he,bne_self_eq_false]; simp),w1]; rfl
     rw [bM hs]
     refine ih (by omega) ?_
     rw [List.drop_eq_getElem_cons (show k<a.length by omega),List.drop_eq_getElem_cons hk2,hd]
     congr 1
     rw [List.getD_eq_getElem?_getD,List.getD_eq_getElem?_getD,List.getElem?_eq_getElem (show k<a.length by omega),List.getElem?_eq_getElem hk2]at he
     exact he
    ·have hs:F.CH a b (k:Int)=if decide (a.getD k 0<b.getD k 0)=true then some (.inr (-1)) else some (.inr 1):=by
      unfold F.CH
      rw [if_pos (decide_eq_true (by omega)),aV (show k<a.length by omega) 0,ak,aV hk2 0,ak,if_pos (by simpa using he),ak,ak]
      split <;> rfl
     by_cases hlt:a.getD k 0<b.getD k 0
     ·rw [if_pos (decide_eq_true hlt)]at hs
      rw [em hs,if_pos (pN (by omega) hk2 hd (UInt32.lt_iff_toNat_lt.1 hlt))]
     ·rw [if_neg (by simpa using hlt)]at hs
      have hgt:(b.getD k 0).toNat<(a.getD k 0).toNat:=by
       have h1:¬(a.getD k 0).toNat<(b.getD k 0).toNat:=fun h=>hlt (UInt32.lt_iff_toNat_lt.2 h)
       have h2:(a.getD k 0).toNat≠(b.getD k 0).toNat:=fun h=>he (UInt32.toNat_inj.1 h)
       omega
      have:=pN hk2 (show k<a.length by omega) hd.symm hgt
      rw [em hs,if_neg (by omega),if_neg (by omega)]
  have w0:wI ((a.length:Int) - 1)=(a.length:Int) - 1:=aR (by omega) (by omega)
  rw [w0]
  exact key a.length (Nat.le_refl _) (by rw [List.drop_length,List.drop_of_length_le (by omega)])
 ·rw [if_pos (by simpa using fun h2=>h (by omega))]
  by_cases hlt:a.length<b.length
  ·rw [if_pos (decide_eq_true (by omega)),if_pos (mA hb hlt)]
  ·have:=mA ha (show b.length<a.length by omega)
   rw [if_neg (by simp only [decide_eq_true_eq]; omega),if_neg (by omega),if_neg (by omega)]
theorem sJ (x:UInt64) (y:UInt32) (hx:x.toNat≤4294967295):((bp x 32) ||| y.toUInt64).toNat=4294967296*x.toNat+y.toNat:=by
 have hy:=ce y
 have e1:(bp x 32).toNat=x.toNat*4294967296:=by
  rw [jP,show min 32 64=32 from rfl,Nat.mod_eq_of_lt (by omega)]
 rw [UInt64.toNat_or,e1,bP,sf 32 (by omega) hy]
 omega
theorem n8 (x:UInt32) (y:UInt32):(x.toUInt64 ||| (bp y.toUInt64 32)).toNat=x.toNat+4294967296*y.toNat:=by
 have hx:=ce x; have hy:=ce y
 rw [UInt64.or_comm,sJ _ _ (by rw [bP]; omega),bP]; omega
theorem qV (a:List UInt32) (h:a.length≤2):∃x,F.Er a=some x∧x.toNat=val a:=by
 unfold F.Er
 match a,h with
 | [],_=>exact ⟨0,rfl,rfl⟩
 | [u],_=>exact ⟨u.toUInt64,rfl,by rw [bP]; simp [val]⟩
 | [u,v],_=>exact ⟨u.toUInt64 ||| (bp v.toUInt64 32),rfl,by rw [n8]; simp [val]⟩
theorem wV (a:List UInt32) (d:UInt32) (hd:d≠0) (hl:a.length≤70368744177664):∃r,F.E6 a d=some (ay (val a / d.toNat),r)∧r.toNat=val a%d.toNat:=by
 have hd0:0<d.toNat:=by
  rcases Nat.eq_zero_or_pos d.toNat with h | h
  ·exact absurd (UInt32.toNat_inj.1 h) hd
  ·exact h
 have hdl:=ce d
 have hne:¬d.toUInt64=0:=by
  intro h
  have:=congrArg UInt64.toNat h
  rw [bP]at this
  simp at this
  omega
 have key:∀(k:Nat) (q:List UInt32) (r:UInt64),k≤a.length→q.length=a.length→r.toNat<d.toNat→val (a.drop k)=d.toNat*val (q.drop k)+r.toNat →
   ∃r',loop (F.DE a d) (r,(k:Int) - 1,q)=some (ay (val a / d.toNat),r')∧r'.toNat=val a%d.toNat:=by
  intro k
  induction k with
  | zero=>
   intro q r _ hq hr hv
   refine ⟨r.toUInt32,em ?_,?_⟩
   ·unfold F.DE
    dsimp only
    rw [if_neg (by decide),fk _ (by omega),ak]
    simp only [List.drop_zero]at hv
    have:val q=val a / d.toNat:=by
     rw [hv,Nat.add_comm,Nat.add_mul_div_left _ _ hd0,Nat.div_eq_of_lt hr,Nat.zero_add]
    rw [this]; rfl
   ·simp only [List.drop_zero]at hv
    rw [ep,Nat.mod_eq_of_lt (by omega),hv,Nat.mul_add_mod,Nat.mod_eq_of_lt hr]
  | succ k ih=>
   intro q r hk hq hr hv
   have e1:(((k+1:Nat):Int)) - 1=(k:Int):=by omega
   have w1:wI ((k:Int) - 1)=(k:Int) - 1:=aR (by omega) (by omega)
   have hrl:r.toNat≤4294967295:=by omega
   obtain ⟨x,hx⟩:∃x,(bp r 32) ||| (a.getD k 0).toUInt64=x:=⟨_,rfl⟩
   have hxn:x.toNat=4294967296*r.toNat+(a.getD k 0).toNat:=by rw [←hx,sJ _ _ hrl]
   have hdv:(x / d.toUInt64).toNat=x.toNat / d.toNat:=by rw [UInt64.toNat_div,bP]
   have hmd:(x%d.toUInt64).toNat=x.toNat%d.toNat:=by rw [UInt64.toNat_mod,bP]
   have hak:=ce (a.getD k 0)
   have hqd:x.toNat / d.toNat<4294967296:=by
    rw [Nat.div_lt_iff_lt_mul hd0,hxn]
    have:=Nat.mul_le_mul_left 4294967296 (show r.toNat+1≤d.toNat by omega)
    omega
   have hs:F.DE a d (r,(k:Int),q)=some (.inl (x%d.toUInt64,(k:Int) - 1,q.set k (x / d.toUInt64).toUInt32)):=by
    unfold F.DE
    dsimp only
    rw [if_pos (decide_eq_true (by omega)),aV (show k<a.length by omega) 0,ak,hx,aY,grd_true _ hne,aV (show k<q.length by omega) 0,ak,aY,grd_true _ hne,w1]; rfl
   rw [e1,bM hs]
   refine ih _ _ (by omega) (by simpa using hq) (by rw [hmd]; exact Nat.mod_lt _ hd0) ?_
   have hda:a.drop k=a.getD k 0 :: a.drop (k+1):=by
    rw [List.drop_eq_getElem_cons (show k<a.length by omega)]
    congr 1
    rw [List.getD_eq_getElem?_getD,List.getElem?_eq_getElem (show k<a.length by omega)]; rfl
   have hdq:(q.set k (x / d.toUInt64).toUInt32).drop k=(x / d.toUInt64).toUInt32 :: q.drop (k+1):=by
    rw [List.drop_eq_getElem_cons (by simp; omega)]
    congr 1
    ·simp
    ·rw [List.drop_set_of_lt (by omega)]
   rw [hda,hdq,cJ,cJ,hv,ep,hdv,hmd,Nat.mod_eq_of_lt hqd]
   have:=Nat.div_add_mod x.toNat d.toNat
   rw [Nat.mul_add,Nat.mul_add,Nat.mul_left_comm d.toNat 4294967296]
   omega
 unfold F.E6
 have w0:wI ((a.length:Int) - 1)=(a.length:Int) - 1:=aR (by omega) (by omega)
 rw [dA (by omega),ak,aY,w0]
 refine key a.length _ 0 (Nat.le_refl _) (by simp) (by simpa using hd0) ?_
 rw [List.drop_length,List.drop_of_length_le (by simp)]
 simp [val]
end Go.Gk.Bn
end
