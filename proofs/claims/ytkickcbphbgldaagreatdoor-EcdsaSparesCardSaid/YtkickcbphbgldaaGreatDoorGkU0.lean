import Derived.Test.YtkickcbphbgldaaGreatDoorGkP0
import Derived.Test.YtkickcbphbgldaaGreatDoorGkFman
set_option linter.unusedVariables false
set_option linter.unusedSimpArgs false
set_option linter.unusedSectionVars false

section
namespace Go.Gk.Bn
open Go Go.Gk
def val:List UInt32→Nat
 | []=>0
 | x :: l=>x.toNat+4294967296*val l
theorem dl:val []=0:=rfl
theorem cM (x:UInt32) (l:List UInt32):val (x :: l)=x.toNat+4294967296*val l:=rfl
theorem ce (x:UInt32):x.toNat<4294967296:=x.toNat_lt
theorem gw:∀(a b:List UInt32),val (a++b)=val a+4294967296^a.length*val b
 | [],b=>by simp [val]
 | x :: a,b=>by
  rw [List.cons_append,cM,gw a b,cM,List.length_cons,Nat.pow_succ,Nat.mul_add,←Nat.add_assoc]
  congr 1
  rw [←Nat.mul_assoc,Nat.mul_comm 4294967296 (4294967296^a.length)]
theorem bB:∀l:List UInt32,val l<4294967296^l.length
 | []=>by simp [val]
 | x :: l=>by
  have h1:=bB l
  have h2:=ce x
  rw [cM,List.length_cons,Nat.pow_succ]
  have:val l+1≤4294967296^l.length:=h1
  have:=Nat.mul_le_mul_left 4294967296 this
  omega
theorem c8 (l:List UInt32) (k:Nat) (h:k≤l.length):val l=val (l.take k)+4294967296^k*val (l.drop k):=by
 have:=gw (l.take k) (l.drop k)
 rw [List.take_append_drop,List.length_take,Nat.min_eq_left h]at this
 exact this
theorem cT:∀k:Nat,val (List.replicate k 0)=0
 | 0=>rfl
 | k+1=>by rw [List.replicate_succ,cM,cT k]; rfl
theorem gL (l:List UInt32) (x:UInt32):val (l++[x])=val l+4294967296^l.length*x.toNat:=by
 rw [gw,cM,dl]; simp
theorem dB:∀(l:List UInt32) (i:Nat) (x:UInt32),i<l.length→val (l.set i x)+4294967296^i*(l.getD i 0).toNat=val l+4294967296^i*x.toNat
 | [],i,x,h=>by simp at h
 | y :: l,0,x,h=>by simp [val]; omega
 | y :: l,i+1,x,h=>by
  have ih:=dB l i x (by simpa using h)
  have e0:(y :: l).getD (i+1) 0=l.getD i 0:=by simp
  rw [e0,List.set_cons_succ,cM,cM,Nat.pow_succ]
  have e1:4294967296^i*4294967296*(l.getD i 0).toNat=4294967296*(4294967296^i*(l.getD i 0).toNat):=by rw [Nat.mul_right_comm,Nat.mul_comm]
  have e2:4294967296^i*4294967296*x.toNat=4294967296*(4294967296^i*x.toNat):=by rw [Nat.mul_right_comm,Nat.mul_comm]
  rw [e1,e2]
  omega
def aA (n:Nat):List UInt32:=if h:n=0 then [] else UInt32.ofNat n :: aA (n / 4294967296)
termination_by n
decreasing_by exact Nat.div_lt_self (Nat.pos_of_ne_zero h) (show 1<4294967296 by decide)
theorem bG:aA 0=[]:=by rw [aA]; simp
theorem gf {n:Nat} (h:n≠0):aA n=UInt32.ofNat n :: aA (n / 4294967296):=by rw [aA]; simp [h]
theorem aE (n:Nat):val (aA n)=n:=by
 induction n using Nat.strongRecOn with
 | ind n ih=>
  by_cases h:n=0
  ·subst h; rw [bG]; rfl
  ·rw [gf h,cM,ih _ (Nat.div_lt_self (Nat.pos_of_ne_zero h) (show 1<4294967296 by decide)),UInt32.toNat_ofNat']
   omega
def Can (l:List UInt32):Prop:=l.getLast?≠some 0
theorem oF:Can []:=by simp [Can]
theorem ym {x:UInt32} {l:List UInt32} (h:Can (x :: l)):Can l:=by
 unfold Can at h ⊢
 cases l with
 | nil=>simp
 | cons y l=>simpa using h
theorem ik:∀l:List UInt32,Can l→aA (val l)=l
 | [],_=>bG
 | x :: l,h=>by
  have ih:=ik l (ym h)
  have hx:=ce x
  have hne:val (x :: l)≠0:=by
   rw [cM]
   intro h0
   have h1:x.toNat=0:=by omega
   have h2:val l=0:=by omega
   rw [h2,bG]at ih
   subst ih
   have:x=0:=UInt32.toNat_inj.1 h1
   subst this
   simp [Can]at h
  rw [gf hne,cM]
  congr 1
  ·apply UInt32.toNat_inj.1
   rw [UInt32.toNat_ofNat']; omega
  ·rw [show (x.toNat+4294967296*val l) / 4294967296=val l by omega,ih]
theorem pn (n:Nat):Can (aA n):=by
 induction n using Nat.strongRecOn with
 | ind n ih=>
  by_cases h:n=0
  ·subst h; rw [bG]; exact oF
  ·have h2:=ih _ (Nat.div_lt_self (Nat.pos_of_ne_zero h) (show 1<4294967296 by decide))
   rw [gf h]
   by_cases hd:n / 4294967296=0
   ·rw [hd,bG]
    unfold Can
    simp only [List.getLast?_singleton,ne_eq,Option.some.injEq]
    intro h0
    have:=congrArg UInt32.toNat h0
    rw [UInt32.toNat_ofNat']at this
    simp at this
    omega
   ·unfold Can at h2 ⊢
    rw [gf hd]at h2 ⊢
    simpa using h2
theorem Ag {a b:List UInt32} (ha:Can a) (hb:Can b) (h:val a=val b):a=b:=by
 rw [←ik a ha,←ik b hb,h]
theorem pH (l:List UInt32) (k:Nat):val (l++List.replicate k 0)=val l:=by rw [gw,cT]; simp
theorem xt {l:List UInt32} {n:Nat} (h:val l=n) (hc:Can l):l=aA n:=by rw [←h,ik l hc]
theorem bm {n k:Nat} (h:n<4294967296^k):(aA n).length≤k:=by
 induction k generalizing n with
 | zero=>simp at h; subst h; rw [bG]; simp
 | succ k ih=>
  by_cases h0:n=0
  ·subst h0; rw [bG]; simp
  ·rw [gf h0,List.length_cons]
   have:=ih (n:=n / 4294967296) (by rw [Nat.pow_succ]at h; exact Nat.div_lt_of_lt_mul (by rwa [Nat.mul_comm]at h))
   omega
theorem lD {n k:Nat} (h:4294967296^k≤n):k<(aA n).length:=by
 have:=bB (aA n)
 rw [aE]at this
 rcases Nat.lt_or_ge k (aA n).length with h1 | h1
 ·exact h1
 ·have:=Nat.pow_le_pow_right (show 0<4294967296 by decide) h1
  omega
theorem ms {a b:List UInt32} (hb:Can b) (h:a.length<b.length):val a<val b:=by
 have h1:=bB a
 have hne:b≠[]:=by rintro rfl; simp at h
 have hd:b=b.dropLast++[b.getLast hne]:=(List.dropLast_concat_getLast hne).symm
 have hl:b.getLast hne≠0:=fun h0=>hb (by rw [List.getLast?_eq_some_getLast hne,h0])
 have hl1:1≤(b.getLast hne).toNat:=by
  rcases Nat.eq_zero_or_pos (b.getLast hne).toNat with h0 | h0
  ·exact absurd (UInt32.toNat_inj.1 h0) hl
  ·exact h0
 rw [hd,gL,List.length_dropLast]
 have h2:=Nat.pow_le_pow_right (show 0<4294967296 by decide) (show a.length≤b.length - 1 by omega)
 have h3:=Nat.mul_le_mul_left (4294967296^(b.length - 1)) hl1
 omega
end Go.Gk.Bn
end

section
namespace Go.Gk.Bn
theorem q8 {g r v1 v2 V' h u2 U' K:Nat} (hh:h=g*v1+r) (hU':U'<K)
  (ht:4294967296≤g∨r*4294967296+u2<g*v2) (hlt:(h*4294967296+u2)*K+U'<4294967296*((v1*4294967296+v2)*K+V')) :
  (h*4294967296+u2)*K+U'<g*((v1*4294967296+v2)*K+V'):=by
 rcases ht with ht | ht
 ·exact Nat.lt_of_lt_of_le hlt (Nat.mul_le_mul_right _ ht)
 ·have h1:h*4294967296+u2+1≤g*(v1*4294967296+v2):=by
   subst hh
   have e1:g*(v1*4294967296+v2)=g*v1*4294967296+g*v2:=by rw [Nat.mul_add,←Nat.mul_assoc]
   rw [e1,Nat.add_mul]
   omega
  have h2:(h*4294967296+u2+1)*K≤g*(v1*4294967296+v2)*K:=Nat.mul_le_mul_right _ h1
  rw [Nat.add_mul,Nat.one_mul]at h2
  rw [Nat.mul_add,←Nat.mul_assoc]
  omega
theorem u6 {g r v1 v2 V' h u2 U' K:Nat} (hh:h=g*v1+r) (hV':V'<K) (hv:1≤v1)
  (hg:g<4294967296) (ht:g*v2≤r*4294967296+u2) :
  g*((v1*4294967296+v2)*K+V')<(h*4294967296+u2)*K+U'+((v1*4294967296+v2)*K+V'):=by
 have h1:g*(v1*4294967296+v2)≤h*4294967296+u2:=by
  subst hh
  have e1:g*(v1*4294967296+v2)=g*v1*4294967296+g*v2:=by rw [Nat.mul_add,←Nat.mul_assoc]
  rw [e1,Nat.add_mul]
  omega
 have h2:g*(v1*4294967296+v2)*K≤(h*4294967296+u2)*K:=Nat.mul_le_mul_right _ h1
 have h3:g*V'≤4294967295*V':=Nat.mul_le_mul_right _ (by omega)
 have h4:4294967296*K≤(v1*4294967296+v2)*K:=Nat.mul_le_mul_right _ (by omega)
 rw [Nat.mul_add,←Nat.mul_assoc]
 omega
end Go.Gk.Bn
end

section
namespace Go.Gk.Bn
open Go Go.Gk
theorem d7 (c:UInt64):c.toUInt32.toNat=c.toNat%4294967296:=UInt64.toNat_toUInt32 c
theorem jU (c:UInt64):(aX c 32).toNat=c.toNat / 4294967296:=by rw [dE]; rfl
theorem uz (c:UInt64):(aX c 32).toUInt32.toNat=c.toNat / 4294967296:=by
 rw [d7,jU,Nat.mod_eq_of_lt]
 have:=c.toNat_lt
 omega
theorem xu (c:UInt64):(aX c 63).toNat=c.toNat / 9223372036854775808:=by rw [dE]; rfl
theorem bK (x:UInt32):x.toUInt64.toNat=x.toNat:=UInt32.toNat_toUInt64 x
theorem iW (c:UInt64):c.toNat=c.toUInt32.toNat+4294967296*(aX c 32).toNat:=by rw [d7,jU]; omega
theorem fF (a b:UInt64) (h:a.toNat+b.toNat<18446744073709551616):(a+b).toNat=a.toNat+b.toNat:=by rw [UInt64.toNat_add]; omega
theorem mb (a b:UInt64) (h:a.toNat*b.toNat<18446744073709551616):(a*b).toNat=a.toNat*b.toNat:=by rw [UInt64.toNat_mul]; omega
theorem gR (x:UInt32):x.toNat≤4294967295:=by have:=ce x; omega
def pad (x:List UInt32) (n:Nat):List UInt32:=x++List.replicate (n - x.length) 0
theorem fE {x:List UInt32} {n:Nat} (h:x.length≤n):(pad x n).length=n:=by simp [pad]; omega
theorem ov (n:Nat):pad [] n=List.replicate n 0:=by simp [pad]
theorem mj {x:List UInt32} {n:Nat} (h:x.length<n) (v:UInt32):(pad x n).set x.length v=pad (x++[v]) n:=by
 unfold pad
 rw [List.set_append_right _ _ (Nat.le_refl _),Nat.sub_self]
 obtain ⟨k,hk⟩:∃k,n - x.length=k+1:=⟨n - x.length - 1,by omega⟩
 rw [hk,List.replicate_succ,List.set_cons_zero,List.append_assoc]
 congr 2
 simp; omega
theorem kk (x:List UInt32) (n:Nat):val (pad x n)=val x:=pH x _
theorem dn {a:List UInt32} {i:Nat} (h:a.length≤i):a.getD i 0=0:=by
 rw [List.getD_eq_getElem?_getD,List.getElem?_eq_none h]; rfl
theorem mN {a:List UInt32} {i:Nat} (h:i<a.length):a.take (i+1)=a.take i++[a.getD i 0]:=by
 rw [List.take_succ_eq_append_getElem h]
 congr 2
 rw [List.getD_eq_getElem?_getD,List.getElem?_eq_getElem h]; rfl
theorem bD (a:List UInt32) (i:Nat):val (a.take (i+1))=val (a.take i)+4294967296^i*(a.getD i 0).toNat:=by
 by_cases h:i<a.length
 ·rw [mN h,gL,List.length_take,Nat.min_eq_left (by omega)]
 ·rw [List.take_of_length_le (by omega),List.take_of_length_le (by omega),dn (by omega)]; simp
theorem jA {a:List UInt32} {n:Nat} (hn:n≤a.length) (h1:∀k,n≤k→a.getD k 0=0) (h2:n=0∨a.getD (n - 1) 0≠0):a.take n=aA (val a):=by
 have hd:a.drop n=List.replicate (a.length - n) 0:=by
  refine List.ext_getElem (by simp) fun i h3 h4=>?_
  have:=h1 (n+i) (by omega)
  rw [List.getD_eq_getElem?_getD,List.getElem?_eq_getElem (by simp at h3; omega)]at this
  rw [List.getElem_drop,List.getElem_replicate]
  exact this
 refine xt ?_ ?_
 ·conv=>rhs; rw [←List.take_append_drop n a,hd,pH]
 ·unfold Can
  rcases h2 with rfl | h2
  ·simp
  ·intro h3
   by_cases h0:n=0
   ·subst h0; simp at h3
   ·have hl:(a.take n).length=n:=by simp; omega
    rw [List.getLast?_eq_getElem?,hl,List.getElem?_take_of_lt (by omega)]at h3
    rw [List.getD_eq_getElem?_getD,h3]at h2
    exact h2 rfl
theorem vi {ρ:Type} {f:Int→Option (Int⊕ρ)} (a:List UInt32) (X:Int→Option ρ) (ha:a.length≤4611686018427387904)
  (hf:∀n:Nat,n≤a.length→f (n:Int)=if n≠0∧a.getD (n - 1) 0=0 then some (.inl ((n - 1:Nat):Int)) else bl (X (n:Int))) :
  ∃n,n≤a.length∧a.take n=aA (val a)∧loop f (a.length:Int)=X (n:Int):=by
 have key:∀n:Nat,n≤a.length→(∀k,n≤k→a.getD k 0=0)→∃m,m≤a.length∧a.take m=aA (val a)∧loop f (n:Int)=X (m:Int):=by
  intro n
  induction n with
  | zero=>
   intro hn hz
   refine ⟨0,hn,jA hn hz (.inl rfl),?_⟩
   have:=hf 0 hn
   rw [if_neg (by simp)]at this
   rw [jZ,this]
   cases X ((0:Nat):Int) <;> rfl
  | succ n ih=>
   intro hn hz
   have h:=hf (n+1) hn
   rw [Nat.add_sub_cancel]at h
   by_cases h0:a.getD n 0=0
   ·rw [if_pos ⟨by omega,h0⟩]at h
    obtain ⟨m,h1,h2,h3⟩:=ih (by omega) fun k hk=>by
     rcases Nat.eq_or_lt_of_le hk with rfl | hk
     ·exact h0
     ·exact hz k hk
    exact ⟨m,h1,h2,(bI h).trans h3⟩
   ·rw [if_neg (fun hc=>h0 hc.2)]at h
    refine ⟨n+1,hn,jA hn hz (.inr (by simpa using h0)),?_⟩
    rw [jZ,h]
    cases X ((n+1:Nat):Int) <;> rfl
 exact key a.length (Nat.le_refl _) fun k hk=>dn hk
end Go.Gk.Bn
end

section
namespace Go.Gk.Bn
open Go Go.Gk Go.Gk.Sh
theorem fb (a:List UInt32) (ha:a.length≤4611686018427387904):F.BP a=some (aA (val a)):=by
 unfold F.BP
 obtain ⟨n,hn,ht,hl⟩:=vi (f:=F.Fy a) a (fun x_2=>grd (0≤(x_2:Int)∧(x_2:Int).toNat≤a.length) <| some (a.take ((x_2:Int).toNat))) ha (fun n hn=>by
  unfold F.Fy F.Fg
  by_cases h0:n=0
  ·subst h0
   rw [if_neg (by simp),if_neg (by simp)]
   rfl
  ·have w1:wI ((n:Int) - 1)=((n - 1:Nat):Int):=by rw [aV (by omega) (by omega)]; omega
   rw [if_pos (decide_eq_true (by omega)),w1,a7 (show n - 1<a.length by omega) 0,ak]
   by_cases hz:a.getD (n - 1) 0=0
   ·rw [if_pos (show n≠0∧a.getD (n - 1) 0=0 from ⟨h0,hz⟩),if_pos (show (a.getD (n - 1) 0 == 0)=true from by rw [hz]; rfl)]; rfl
   ·rw [if_neg (show ¬(n≠0∧a.getD (n - 1) 0=0) from fun h=>hz h.2),if_neg (show ¬(a.getD (n - 1) 0 == 0)=true from fun h=>hz (eq_of_beq h))])
 rw [hl,grd_true _ ⟨by omega,by rw [Int.toNat_natCast]; exact hn⟩,Int.toNat_natCast,ht]
theorem gM (x:UInt64):F.B3 x=some (aA x.toNat):=by
 unfold F.B3
 rw [fb _ (by simp),ak,cM,cM,dl,Nat.mul_zero,Nat.add_zero,uz,←jU,←iW]
theorem kJ {x:List UInt32} {n i:Nat} (hx:x.length≤n) (h:i<n):∃u,aB (pad x n) (i:Int)=some u:=⟨_,a7 (by rw [fE hx]; exact h) 0⟩
def jO (a b:List UInt32) (x:List UInt32×UInt64) (i:Nat):List UInt32×UInt64:=
 (x.1++[(x.2+(a.getD i 0).toUInt64+(b.getD i 0).toUInt64).toUInt32],aX (x.2+(a.getD i 0).toUInt64+(b.getD i 0).toUInt64) 32)
theorem rz {a b:List UInt32} {x:List UInt32×UInt64} {i:Nat} (h1:x.1.length=i) (h2:val x.1+4294967296^i*x.2.toNat=val (a.take i)+val (b.take i)) (h3:x.2.toNat≤1) :
  (jO a b x i).1.length=i+1∧val (jO a b x i).1+4294967296^(i+1)*(jO a b x i).2.toNat=val (a.take (i+1))+val (b.take (i+1))∧(jO a b x i).2.toNat≤1:=by
 have ha:=ce (a.getD i 0); have hb:=ce (b.getD i 0)
 obtain ⟨s,hs⟩:∃s,x.2+(a.getD i 0).toUInt64+(b.getD i 0).toUInt64=s:=⟨_,rfl⟩
 have hsn:s.toNat=x.2.toNat+(a.getD i 0).toNat+(b.getD i 0).toNat:=by
  rw [←hs,fF _ _ (by rw [fF _ _ (by rw [bK]; omega),bK,bK]; omega),fF _ _ (by rw [bK]; omega),bK,bK]
 unfold jO
 rw [hs]
 refine ⟨by simp [h1],?_,by simp only [jU]; omega⟩
 have e:=iW s
 simp only
 rw [gL,h1,bD,bD,Nat.pow_succ,Nat.mul_assoc]
 have:4294967296^i*s.toNat=4294967296^i*s.toUInt32.toNat+4294967296^i*(4294967296*(aX s 32).toNat):=by rw [←Nat.mul_add,←e]
 rw [hsn,Nat.mul_add,Nat.mul_add]at this
 omega
theorem wX (a b:List UInt32) (hba:b.length≤a.length) (ha:a.length≤70368744177663):loop (F.Dc a b) (0,0,pad [] (a.length+1))=some (aA (val a+val b)):=by
 have e:=cu (f:=F.Dc a b) (fun (x:List UInt32×UInt64) i=>(x.2,(i:Int),pad x.1 (a.length+1)))
  (fun i x=>x.1.length=i∧val x.1+4294967296^i*x.2.toNat=val (a.take i)+val (b.take i)∧x.2.toNat≤1) (jO a b) 0 a.length
  (X:=fun x=>F.BP ((pad x.1 (a.length+1)).set a.length x.2.toUInt32))
  (fun i x _ hi hx=>by
   obtain ⟨h1,h2,h3⟩:=hx
   refine ⟨?_,rz h1 h2 h3⟩
   have w1:wI ((i:Int)+1)=((i+1:Nat):Int):=by rw [aV (by omega) (by omega)]; rfl
   obtain ⟨u,hu⟩:=kJ (x:=x.1) (n:=a.length+1) (i:=i) (by omega) (by omega)
   have hK:∀s:UInt64,s=x.2+(a.getD i 0).toUInt64+(b.getD i 0).toUInt64→F.DV (i:Int) (pad x.1 (a.length+1)) s=some (.inl ((jO a b x i).2,((i+1:Nat):Int),pad (jO a b x i).1 (a.length+1))):=by
    rintro s rfl
    unfold F.DV
    dsimp only
    rw [hu,ak,a8,w1,Int.toNat_natCast]
    have:=mj (x:=x.1) (n:=a.length+1) (by omega) (x.2+(a.getD i 0).toUInt64+(b.getD i 0).toUInt64).toUInt32
    rw [h1]at this
    rw [this]; rfl
   unfold F.Dc
   dsimp only
   rw [if_pos (decide_eq_true (by omega)),a7 hi 0,ak]
   by_cases hb:i<b.length
   ·rw [if_pos (decide_eq_true (by omega)),a7 hb 0,ak,a8,hK _ rfl]
   ·rw [if_neg (by simp only [decide_eq_true_eq]; omega),hK _ (by rw [dn (a:=b) (i:=i) (by omega)]; exact (UInt64.add_zero _).symm)])
  (fun x hx=>by
   obtain ⟨u,hu⟩:=kJ (x:=x.1) (n:=a.length+1) (i:=a.length) (by omega) (by omega)
   unfold F.Dc
   dsimp only
   rw [if_neg (by simp),hu,ak,a8,Int.toNat_natCast]
   cases F.BP ((pad x.1 (a.length+1)).set a.length x.2.toUInt32) <;> rfl)
  a.length 0 ([],0) (Nat.le_refl _) (by omega) ⟨rfl,by simp [val],by simp⟩
 refine e.trans ?_
 obtain ⟨h1,h2,h3⟩:=cK (fun i (x:List UInt32×UInt64)=>x.1.length=i∧val x.1+4294967296^i*x.2.toNat=val (a.take i)+val (b.take i)∧x.2.toNat≤1) (jO a b)
  (fun i x hx=>rz hx.1 hx.2.1 hx.2.2) a.length 0 ([],0) ⟨rfl,by simp [val],by simp⟩
 obtain ⟨y,hy⟩:∃y,(List.range' 0 a.length).foldl (jO a b) ([],0)=y:=⟨_,rfl⟩
 rw [hy]at h1 h2 h3 ⊢
 rw [Nat.zero_add]at h1 h2
 rw [List.take_length,List.take_of_length_le hba]at h2
 have hp:=mj (x:=y.1) (n:=a.length+1) (by omega) y.2.toUInt32
 rw [h1]at hp
 rw [hp,fb _ (by rw [fE (by simp; omega)]; omega),kk,gL,h1,d7,Nat.mod_eq_of_lt (by omega),h2]
theorem oo (a b:List UInt32) (ha:a.length≤70368744177663) (hb:b.length≤70368744177663):F.Du a b=some (aA (val a+val b)):=by
 have hK:∀a b:List UInt32,b.length≤a.length→a.length≤70368744177663→F.ER (a,b)=some (aA (val a+val b)):=by
  intro a b h1 h2
  unfold F.ER
  dsimp only
  rw [aV (by omega) (by omega),dw (by omega),ak]
  have:(((a.length:Int)+1).toNat)=a.length+1:=by omega
  rw [this,←ov,wX a b h1 h2]
 unfold F.Du
 by_cases h:a.length<b.length
 ·rw [if_pos (decide_eq_true (by omega)),hK b a (by omega) hb,Nat.add_comm]
 ·rw [if_neg (by simp only [decide_eq_true_eq]; omega),hK a b (by omega) ha]
end Go.Gk.Bn
end

section
namespace Go.Gk.Bn
open Go Go.Gk Go.Gk.Sh
theorem xj (u v:UInt32) (c:UInt64) (hc:c.toNat≤1):((u.toUInt64 - c) - v.toUInt64).toUInt32.toNat+c.toNat+v.toNat=u.toNat+4294967296*(aX ((u.toUInt64 - c) - v.toUInt64) 63).toNat∧(aX ((u.toUInt64 - c) - v.toUInt64) 63).toNat≤1:=by
 have hu:=ce u; have hv:=ce v
 rw [d7,xu,UInt64.toNat_sub,UInt64.toNat_sub,bK,bK]
 omega
def fY (a b:List UInt32) (x:List UInt32×UInt64) (i:Nat):List UInt32×UInt64:=
 (x.1++[((a.getD i 0).toUInt64 - x.2 - (b.getD i 0).toUInt64).toUInt32],aX ((a.getD i 0).toUInt64 - x.2 - (b.getD i 0).toUInt64) 63)
theorem rq {a b:List UInt32} {x:List UInt32×UInt64} {i:Nat} (h1:x.1.length=i) (h2:val x.1+val (b.take i)=val (a.take i)+4294967296^i*x.2.toNat) (h3:x.2.toNat≤1) :
  (fY a b x i).1.length=i+1∧val (fY a b x i).1+val (b.take (i+1))=val (a.take (i+1))+4294967296^(i+1)*(fY a b x i).2.toNat∧(fY a b x i).2.toNat≤1:=by
 obtain ⟨e1,e2⟩:=xj (a.getD i 0) (b.getD i 0) x.2 h3
 unfold fY
 obtain ⟨s,hs⟩:∃s,(a.getD i 0).toUInt64 - x.2 - (b.getD i 0).toUInt64=s:=⟨_,rfl⟩
 rw [hs]at e1 e2 ⊢
 refine ⟨by simp [h1],?_,e2⟩
 simp only
 rw [gL,h1,bD,bD,Nat.pow_succ,Nat.mul_assoc]
 have:4294967296^i*(s.toUInt32.toNat+x.2.toNat+(b.getD i 0).toNat)=4294967296^i*((a.getD i 0).toNat+4294967296*(aX s 63).toNat):=by rw [e1]
 rw [Nat.mul_add,Nat.mul_add,Nat.mul_add]at this
 omega
theorem sa (a b:List UInt32) (hba:b.length≤a.length) (hv:val b≤val a) (ha:a.length≤70368744177664):F.Dv a b=some (aA (val a - val b)):=by
 unfold F.Dv
 rw [dw (by omega),ak,Int.toNat_natCast,←ov]
 have e:=cu (f:=F.DW a b) (fun (x:List UInt32×UInt64) i=>(x.2,(i:Int),pad x.1 a.length))
  (fun i x=>x.1.length=i∧val x.1+val (b.take i)=val (a.take i)+4294967296^i*x.2.toNat∧x.2.toNat≤1) (fY a b) 0 a.length
  (X:=fun x=>F.BP (pad x.1 a.length))
  (fun i x _ hi hx=>by
   obtain ⟨h1,h2,h3⟩:=hx
   refine ⟨?_,rq h1 h2 h3⟩
   have w1:wI ((i:Int)+1)=((i+1:Nat):Int):=by rw [aV (by omega) (by omega)]; rfl
   obtain ⟨u,hu⟩:=kJ (x:=x.1) (n:=a.length) (i:=i) (by omega) (by omega)
   have hK:∀s:UInt64,s=(a.getD i 0).toUInt64 - x.2 - (b.getD i 0).toUInt64→F.DZ (i:Int) (pad x.1 a.length) s=some (.inl ((fY a b x i).2,((i+1:Nat):Int),pad (fY a b x i).1 a.length)):=by
    rintro s rfl
    unfold F.DZ
    dsimp only
    rw [hu,ak,a8,w1,Int.toNat_natCast]
    have:=mj (x:=x.1) (n:=a.length) (by omega) ((a.getD i 0).toUInt64 - x.2 - (b.getD i 0).toUInt64).toUInt32
    rw [h1]at this
    rw [this]; rfl
   unfold F.DW
   dsimp only
   rw [if_pos (decide_eq_true (by omega)),a7 hi 0,ak]
   by_cases hb:i<b.length
   ·rw [if_pos (decide_eq_true (by omega)),a7 hb 0,ak,a8,hK _ rfl]
   ·rw [if_neg (by simp only [decide_eq_true_eq]; omega),hK _ (by rw [dn (a:=b) (i:=i) (by omega)]; exact (UInt64.sub_zero _).symm)])
  (fun x hx=>by
   unfold F.DW
   dsimp only
   rw [if_neg (by simp)]
   cases F.BP (pad x.1 a.length) <;> rfl)
  a.length 0 ([],0) (Nat.le_refl _) (by omega) ⟨rfl,by simp [val],by simp⟩
 refine e.trans ?_
 obtain ⟨h1,h2,h3⟩:=cK (fun i (x:List UInt32×UInt64)=>x.1.length=i∧val x.1+val (b.take i)=val (a.take i)+4294967296^i*x.2.toNat∧x.2.toNat≤1) (fY a b)
  (fun i x hx=>rq hx.1 hx.2.1 hx.2.2) a.length 0 ([],0) ⟨rfl,by simp [val],by simp⟩
 obtain ⟨y,hy⟩:∃y,(List.range' 0 a.length).foldl (fY a b) ([],0)=y:=⟨_,rfl⟩
 rw [hy]at h1 h2 h3 ⊢
 rw [Nat.zero_add]at h1 h2
 rw [List.take_length,List.take_of_length_le hba]at h2
 have hlt:=bB y.1
 rw [h1]at hlt
 have hc:y.2.toNat=0:=by
  rcases Nat.eq_zero_or_pos y.2.toNat with h | h
  ·exact h
  ·have:y.2.toNat=1:=by omega
   rw [this,Nat.mul_one]at h2
   omega
 rw [hc,Nat.mul_zero,Nat.add_zero]at h2
 rw [fb _ (by rw [fE (by omega)]; omega),kk,show val y.1=val a - val b by omega]
theorem wJ (a b:UInt32):a.toNat*b.toNat≤4294967295*4294967295:=Nat.mul_le_mul (gR a) (gR b)
theorem wW (c:UInt64) (u v r:UInt32) (hc:c.toNat≤4294967295):(c+(u.toUInt64*v.toUInt64+r.toUInt64)).toNat=c.toNat+(u.toNat*v.toNat+r.toNat):=by
 have h1:=wJ u v; have h2:=gR r
 have e1:(u.toUInt64*v.toUInt64).toNat=u.toNat*v.toNat:=by rw [mb _ _ (by rw [bK,bK]; omega),bK,bK]
 have e2:(u.toUInt64*v.toUInt64+r.toUInt64).toNat=u.toNat*v.toNat+r.toNat:=by rw [fF _ _ (by rw [e1,bK]; omega),e1,bK]
 rw [fF _ _ (by rw [e2]; omega),e2]
theorem de {l:List UInt32} {i k:Nat} {x:UInt32} (h:i≠k):(l.set i x).getD k 0=l.getD k 0:=by
 rw [List.getD_eq_getElem?_getD,List.getElem?_set_ne h,List.getD_eq_getElem?_getD]
def qm (u:UInt32) (b:List UInt32) (i:Nat) (x:UInt64×List UInt32) (j:Nat):UInt64×List UInt32:=
 (aX (x.1+(u.toUInt64*(b.getD j 0).toUInt64+(x.2.getD (i+j) 0).toUInt64)) 32,x.2.set (i+j) (x.1+(u.toUInt64*(b.getD j 0).toUInt64+(x.2.getD (i+j) 0).toUInt64)).toUInt32)
def rA (u:UInt32) (b:List UInt32) (i N:Nat) (r0:List UInt32) (j:Nat) (x:UInt64×List UInt32):Prop:=
 x.2.length=N∧(∀k,i+b.length≤k→x.2.getD k 0=0)∧val x.2+4294967296^(i+j)*x.1.toNat=val r0+4294967296^i*(u.toNat*val (b.take j))∧x.1.toNat≤4294967295
theorem rj {u:UInt32} {b:List UInt32} {i N:Nat} {r0:List UInt32} {j:Nat} {x:UInt64×List UInt32} (hN:i+b.length<N) (hj:j<b.length) (h:rA u b i N r0 j x):rA u b i N r0 (j+1) (qm u b i x j):=by
 obtain ⟨h1,h2,h3,h4⟩:=h
 have e:=wW x.1 u (b.getD j 0) (x.2.getD (i+j) 0) h4
 unfold qm
 obtain ⟨s,hs⟩:∃s,x.1+(u.toUInt64*(b.getD j 0).toUInt64+(x.2.getD (i+j) 0).toUInt64)=s:=⟨_,rfl⟩
 rw [hs]at e ⊢
 have hsp:=iW s
 have hb:=wJ u (b.getD j 0); have hr:=gR (x.2.getD (i+j) 0)
 refine ⟨by simpa using h1,fun k hk=>?_,?_,by simp only [jU]; omega⟩
 ·simp only
  rw [de (by omega)]; exact h2 k hk
 ·simp only
  have hv:=dB x.2 (i+j) s.toUInt32 (by omega)
  rw [bD,Nat.mul_add,Nat.mul_add]
  have e1:4294967296^i*(u.toNat*(4294967296^j*(b.getD j 0).toNat))=4294967296^(i+j)*(u.toNat*(b.getD j 0).toNat):=by
   rw [Nat.pow_add,Nat.mul_assoc,Nat.mul_left_comm u.toNat]
  have e2:4294967296^(i+j)*s.toNat=4294967296^(i+j)*s.toUInt32.toNat+4294967296^(i+(j+1))*(aX s 32).toNat:=by
   rw [←Nat.add_assoc,Nat.pow_succ,Nat.mul_assoc,←Nat.mul_add,←hsp]
  rw [e,Nat.mul_add,Nat.mul_add]at e2
  rw [e1]
  omega
theorem wy (a b:List UInt32) (i:Nat) (r:List UInt32) (hi:i<a.length) (hl:r.length=a.length+b.length) (hz:∀k,i+b.length≤k→r.getD k 0=0) (hs:a.length+b.length≤70368744177664) :
  ∃r',loop (F.DE a b (i:Int)) (0,0,r)=some (.inl (((i+1:Nat):Int),r'))∧r'.length=a.length+b.length∧(∀k,i+1+b.length≤k→r'.getD k 0=0)∧val r'=val r+4294967296^i*((a.getD i 0).toNat*val b):=by
 have h0:rA (a.getD i 0) b i (a.length+b.length) r 0 (0,r):=⟨hl,hz,by simp [val],by simp⟩
 have e:=cu (f:=F.DE a b (i:Int)) (fun (x:UInt64×List UInt32) j=>(x.1,(j:Int),x.2)) (fun j x=>j≤b.length→rA (a.getD i 0) b i (a.length+b.length) r j x) (qm (a.getD i 0) b i) 0 b.length
  (X:=fun x=>some (.inl (((i+1:Nat):Int),x.2.set (i+b.length) x.1.toUInt32)))
  (fun j x _ hj hx=>by
   have hx:=hx (by omega)
   refine ⟨?_,fun _=>rj (by omega) hj hx⟩
   obtain ⟨h1,h2,h3,h4⟩:=hx
   have w1:wI ((i:Int)+(j:Int))=((i+j:Nat):Int):=by rw [aV (by omega) (by omega)]; rfl
   have w2:wI ((j:Int)+1)=((j+1:Nat):Int):=by rw [aV (by omega) (by omega)]; rfl
   unfold F.DE
   dsimp only
   rw [if_pos (decide_eq_true (by omega)),a7 hi 0,ak,a7 hj 0,ak,w1,a7 (show i+j<x.2.length by omega) 0,ak,a8,ak,a8,Int.toNat_natCast,w2]
   rfl)
  (fun x hx=>by
   obtain ⟨h1,h2,h3,h4⟩:=hx (Nat.le_refl _)
   have w1:wI ((i:Int)+(b.length:Int))=((i+b.length:Nat):Int):=by rw [aV (by omega) (by omega)]; rfl
   have w2:wI ((i:Int)+1)=((i+1:Nat):Int):=by rw [aV (by omega) (by omega)]; rfl
   unfold F.DE
   dsimp only
   rw [if_neg (by simp),w1,a7 (show i+b.length<x.2.length by omega) 0,ak,a8,Int.toNat_natCast,w2]
   rfl)
  b.length 0 (0,r) (Nat.le_refl _) (by omega) (fun _=>h0)
 have hI:=cK (fun j (x:UInt64×List UInt32)=>j≤b.length→rA (a.getD i 0) b i (a.length+b.length) r j x) (qm (a.getD i 0) b i) (fun j x hx=>fun hj=>rj (by omega) (by omega) (hx (by omega))) b.length 0 (0,r) (fun _=>h0)
 obtain ⟨y,hy⟩:∃y,(List.range' 0 b.length).foldl (qm (a.getD i 0) b i) (0,r)=y:=⟨_,rfl⟩
 rw [hy]at hI e
 rw [Nat.zero_add]at hI
 obtain ⟨h1,h2,h3,h4⟩:=hI (Nat.le_refl _)
 refine ⟨_,e,by simpa using h1,fun k hk=>?_,?_⟩
 ·rw [de (by omega)]; exact h2 k (by omega)
 ·have hv:=dB y.2 (i+b.length) y.1.toUInt32 (by omega)
  rw [h2 _ (Nat.le_refl _)]at hv
  have:(0:UInt32).toNat=0:=rfl
  rw [this,Nat.mul_zero,Nat.add_zero]at hv
  rw [List.take_length]at h3
  rw [hv,d7,Nat.mod_eq_of_lt (by omega),h3]
theorem wm (a b:List UInt32) (hs:a.length+b.length≤70368744177664):F.DS a b=some (aA (val a*val b)):=by
 unfold F.DS
 have hnil:F.Dy a b true=some []:=by unfold F.Dy; rw [if_pos rfl]
 by_cases ha:a.length=0
 ·rw [if_pos (by simp [ha]),hnil,List.eq_nil_of_length_eq_zero ha,dl,Nat.zero_mul,bG]
 ·rw [if_neg (by simpa using fun h=>ha (by rw [h]; rfl))]
  by_cases hb:b.length=0
  ·rw [show ((b.length:Int) == 0)=true by simp [hb],hnil,List.eq_nil_of_length_eq_zero hb,dl,Nat.mul_zero,bG]
  ·rw [show ((b.length:Int) == 0)=false by simpa using fun h=>hb (by rw [h]; rfl)]
   unfold F.Dy
   rw [if_neg (by decide),aV (by omega) (by omega),dw (by omega),ak,show ((a.length:Int)+(b.length:Int)).toNat=a.length+b.length by omega]
   have key:∀(k i:Nat) (r:List UInt32),i+k=a.length→r.length=a.length+b.length→(∀k,i+b.length≤k→r.getD k 0=0)→val r=val (a.take i)*val b→loop (F.Dd a b) ((i:Int),r)=some (aA (val a*val b)):=by
    intro k
    induction k with
    | zero=>
     intro i r h h1 h2 h3
     have:i=a.length:=by omega
     subst this
     refine dM ?_
     unfold F.Dd
     dsimp only
     rw [if_neg (by simp),fb _ (by omega),ak,h3,List.take_length]; rfl
    | succ k ih=>
     intro i r h h1 h2 h3
     obtain ⟨r',e1,e2,e3,e4⟩:=wy a b i r (by omega) h1 h2 hs
     have hst:F.Dd a b ((i:Int),r)=some (.inl (((i+1:Nat):Int),r')):=by
      unfold F.Dd
      dsimp only
      rw [if_pos (decide_eq_true (by omega)),e1]
     rw [bI hst]
     refine ih (i+1) r' (by omega) e2 (fun k hk=>e3 k (by omega)) ?_
     rw [e4,h3,bD,Nat.add_mul,Nat.mul_assoc]
   exact key a.length 0 _ (by omega) (by simp) (fun k _=>by
    rw [List.getD_eq_getElem?_getD,List.getElem?_replicate]; split <;> rfl) (by rw [cT]; simp [val])
end Go.Gk.Bn
end

section
namespace Go.Gk.Bn
open Go Go.Gk Go.Gk.Sh
def dN (a b:Nat):Int:=if a<b then -1 else if a=b then 0 else 1
theorem lh (a:List UInt32) (k:Nat) (h:k<a.length):val a=val (a.take k)+4294967296^k*((a.getD k 0).toNat+4294967296*val (a.drop (k+1))):=by
 rw [c8 a k (by omega),List.drop_eq_getElem_cons h,cM]
 congr 4
 rw [List.getD_eq_getElem?_getD,List.getElem?_eq_getElem h]; rfl
theorem pp {a b:List UInt32} {k:Nat} (ha:k<a.length) (hb:k<b.length) (hd:a.drop (k+1)=b.drop (k+1)) (hlt:(a.getD k 0).toNat<(b.getD k 0).toNat):val a<val b:=by
 rw [lh a k ha,lh b k hb,hd]
 have h1:=bB (a.take k)
 rw [List.length_take,Nat.min_eq_left (by omega)]at h1
 have h2:4294967296^k*((a.getD k 0).toNat+4294967296*val (b.drop (k+1))+1)≤4294967296^k*((b.getD k 0).toNat+4294967296*val (b.drop (k+1))):=Nat.mul_le_mul_left _ (by omega)
 rw [Nat.mul_add,Nat.mul_one]at h2
 omega
theorem oh (a b:List UInt32) (ha:Can a) (hb:Can b) (hl:a.length≤4611686018427387904) (hl2:b.length≤4611686018427387904):F.Di a b=some (dN (val a) (val b)):=by
 unfold F.Di dN
 by_cases h:a.length=b.length
 ·rw [if_neg (by simp [h]),a8]
  have key:∀k,k≤a.length→a.drop k=b.drop k→loop (F.CH a b) ((k:Int) - 1)=some (if val a<val b then -1 else if val a=val b then 0 else 1):=by
   intro k
   induction k with
   | zero=>
    intro _ hd
    have:a=b:=by simpa using hd
    subst this
    rw [if_neg (by omega),if_pos rfl]
    exact dM rfl
   | succ k ih=>
    intro hk hd
    have hk2:k<b.length:=by omega
    have e1:(((k+1:Nat):Int)) - 1=(k:Int):=by omega
    have w1:wI ((k:Int) - 1)=(k:Int) - 1:=aV (by omega) (by omega)
    rw [e1]
    by_cases he:a.getD k 0=b.getD k 0
    ·have hs:F.CH a b (k:Int)=some (.inl ((k:Int) - 1)):=by
      unfold F.CH
      rw [if_pos (decide_eq_true (by omega)),a7 (show k<a.length by omega) 0,ak,a7 hk2 0,ak,if_neg (by simp only [he,bne_self_eq_false]; simp),w1]; rfl
     rw [bI hs]
     refine ih (by omega) ?_
     rw [List.drop_eq_getElem_cons (show k<a.length by omega),List.drop_eq_getElem_cons hk2,hd]
     congr 1
     rw [List.getD_eq_getElem?_getD,List.getD_eq_getElem?_getD,List.getElem?_eq_getElem (show k<a.length by omega),List.getElem?_eq_getElem hk2]at he
     exact he
    ·have hs:F.CH a b (k:Int)=if decide (a.getD k 0<b.getD k 0)=true then some (.inr (-1)) else some (.inr 1):=by
      unfold F.CH
      rw [if_pos (decide_eq_true (by omega)),a7 (show k<a.length by omega) 0,ak,a7 hk2 0,ak,if_pos (by simpa using he),ak,ak]
      split <;> rfl
     by_cases hlt:a.getD k 0<b.getD k 0
     ·rw [if_pos (decide_eq_true hlt)]at hs
      rw [dM hs,if_pos (pp (by omega) hk2 hd (UInt32.lt_iff_toNat_lt.1 hlt))]
     ·rw [if_neg (by simpa using hlt)]at hs
      have hgt:(b.getD k 0).toNat<(a.getD k 0).toNat:=by
       have h1:¬(a.getD k 0).toNat<(b.getD k 0).toNat:=fun h=>hlt (UInt32.lt_iff_toNat_lt.2 h)
       have h2:(a.getD k 0).toNat≠(b.getD k 0).toNat:=fun h=>he (UInt32.toNat_inj.1 h)
       omega
      have:=pp hk2 (show k<a.length by omega) hd.symm hgt
      rw [dM hs,if_neg (by omega),if_neg (by omega)]
  have w0:wI ((a.length:Int) - 1)=(a.length:Int) - 1:=aV (by omega) (by omega)
  rw [w0]
  exact key a.length (Nat.le_refl _) (by rw [List.drop_length,List.drop_of_length_le (by omega)])
 ·rw [if_pos (by simpa using fun h2=>h (by omega))]
  by_cases hlt:a.length<b.length
  ·rw [if_pos (decide_eq_true (by omega)),if_pos (ms hb hlt)]
  ·have:=ms ha (show b.length<a.length by omega)
   rw [if_neg (by simp only [decide_eq_true_eq]; omega),if_neg (by omega),if_neg (by omega)]
theorem r8 (x:UInt64) (y:UInt32) (hx:x.toNat≤4294967295):((br x 32) ||| y.toUInt64).toNat=4294967296*x.toNat+y.toNat:=by
 have hy:=ce y
 have e1:(br x 32).toNat=x.toNat*4294967296:=by
  rw [jP,show min 32 64=32 from rfl,Nat.mod_eq_of_lt (by omega)]
 rw [UInt64.toNat_or,e1,bK,ql 32 (by omega) hy]
 omega
theorem nC (x:UInt32) (y:UInt32):(x.toUInt64 ||| (br y.toUInt64 32)).toNat=x.toNat+4294967296*y.toNat:=by
 have hx:=ce x; have hy:=ce y
 rw [UInt64.or_comm,r8 _ _ (by rw [bK]; omega),bK]; omega
theorem qq (a:List UInt32) (h:a.length≤2):∃x,F.ES a=some x∧x.toNat=val a:=by
 unfold F.ES
 match a,h with
 | [],_=>exact ⟨0,rfl,rfl⟩
 | [u],_=>exact ⟨u.toUInt64,rfl,by rw [bK]; simp [val]⟩
 | [u,v],_=>exact ⟨u.toUInt64 ||| (br v.toUInt64 32),rfl,by rw [nC]; simp [val]⟩
theorem ya (a:List UInt32) (d:UInt32) (hd:d≠0) (hl:a.length≤70368744177664):∃r,F.Fi a d=some (aA (val a / d.toNat),r)∧r.toNat=val a%d.toNat:=by
 have hd0:0<d.toNat:=by
  rcases Nat.eq_zero_or_pos d.toNat with h | h
  ·exact absurd (UInt32.toNat_inj.1 h) hd
  ·exact h
 have hdl:=ce d
 have hne:¬d.toUInt64=0:=by
  intro h
  have:=congrArg UInt64.toNat h
  rw [bK]at this
  simp at this
  omega
 have key:∀(k:Nat) (q:List UInt32) (r:UInt64),k≤a.length→q.length=a.length→r.toNat<d.toNat→val (a.drop k)=d.toNat*val (q.drop k)+r.toNat →
   ∃r',loop (F.Dg a d) (r,(k:Int) - 1,q)=some (aA (val a / d.toNat),r')∧r'.toNat=val a%d.toNat:=by
  intro k
  induction k with
  | zero=>
   intro q r _ hq hr hv
   refine ⟨r.toUInt32,dM ?_,?_⟩
   ·unfold F.Dg
    dsimp only
    rw [if_neg (by decide),fb _ (by omega),ak]
    simp only [List.drop_zero]at hv
    have:val q=val a / d.toNat:=by
     rw [hv,Nat.add_comm,Nat.add_mul_div_left _ _ hd0,Nat.div_eq_of_lt hr,Nat.zero_add]
    rw [this]; rfl
   ·simp only [List.drop_zero]at hv
    rw [d7,Nat.mod_eq_of_lt (by omega),hv,Nat.mul_add_mod,Nat.mod_eq_of_lt hr]
  | succ k ih=>
   intro q r hk hq hr hv
   have e1:(((k+1:Nat):Int)) - 1=(k:Int):=by omega
   have w1:wI ((k:Int) - 1)=(k:Int) - 1:=aV (by omega) (by omega)
   have hrl:r.toNat≤4294967295:=by omega
   obtain ⟨x,hx⟩:∃x,(br r 32) ||| (a.getD k 0).toUInt64=x:=⟨_,rfl⟩
   have hxn:x.toNat=4294967296*r.toNat+(a.getD k 0).toNat:=by rw [←hx,r8 _ _ hrl]
   have hdv:(x / d.toUInt64).toNat=x.toNat / d.toNat:=by rw [UInt64.toNat_div,bK]
   have hmd:(x%d.toUInt64).toNat=x.toNat%d.toNat:=by rw [UInt64.toNat_mod,bK]
   have hak:=ce (a.getD k 0)
   have hqd:x.toNat / d.toNat<4294967296:=by
    rw [Nat.div_lt_iff_lt_mul hd0,hxn]
    have:=Nat.mul_le_mul_left 4294967296 (show r.toNat+1≤d.toNat by omega)
    omega
   have hs:F.Dg a d (r,(k:Int),q)=some (.inl (x%d.toUInt64,(k:Int) - 1,q.set k (x / d.toUInt64).toUInt32)):=by
    unfold F.Dg
    dsimp only
    rw [if_pos (decide_eq_true (by omega)),a7 (show k<a.length by omega) 0,ak,hx,a8,grd_true _ hne,a7 (show k<q.length by omega) 0,ak,a8,grd_true _ hne,w1]; rfl
   rw [e1,bI hs]
   refine ih _ _ (by omega) (by simpa using hq) (by rw [hmd]; exact Nat.mod_lt _ hd0) ?_
   have hda:a.drop k=a.getD k 0 :: a.drop (k+1):=by
    rw [List.drop_eq_getElem_cons (show k<a.length by omega)]
    congr 1
    rw [List.getD_eq_getElem?_getD,List.getElem?_eq_getElem (show k<a.length by omega)]; rfl
   have hdq:(q.set k (x / d.toUInt64).toUInt32).drop k=(x / d.toUInt64).toUInt32 :: q.drop (k+1):=by
    rw [List.drop_eq_getElem_cons (by simp; omega)]
    congr 1
    ·simp
    ·rw [List.drop_set_of_lt (by omega)]
   rw [hda,hdq,cM,cM,hv,d7,hdv,hmd,Nat.mod_eq_of_lt hqd]
   have:=Nat.div_add_mod x.toNat d.toNat
   rw [Nat.mul_add,Nat.mul_add,Nat.mul_left_comm d.toNat 4294967296]
   omega
 unfold F.Fi
 have w0:wI ((a.length:Int) - 1)=(a.length:Int) - 1:=aV (by omega) (by omega)
 rw [dw (by omega),ak,a8,w0]
 refine key a.length _ 0 (Nat.le_refl _) (by simp) (by simpa using hd0) ?_
 rw [List.drop_length,List.drop_of_length_le (by simp)]
 simp [val]
end Go.Gk.Bn
end
