import Derived.Test.YtahgjafdhjbkeaaGreatDoorGkP0
import Derived.Test.YtahgjafdhjbkeaaGreatDoorGkFman
set_option linter.unusedVariables false
set_option linter.unusedSimpArgs false
set_option linter.unusedSectionVars false

section
namespace Go.Gk.Bn
open Go Go.Gk
def val:List UInt32→Nat
 | []=>0
 | x :: l=>x.toNat+4294967296*val l
theorem eh:val []=0:=rfl
theorem du (x:UInt32) (l:List UInt32):val (x :: l)=x.toNat+4294967296*val l:=rfl
theorem cw (x:UInt32):x.toNat<4294967296:=x.toNat_lt
theorem ip:∀(a b:List UInt32),val (a++b)=val a+4294967296^a.length*val b
 | [],b=>by simp [val]
 | x :: a,b=>by
  rw [List.cons_append,du,ip a b,du,List.length_cons,Nat.pow_succ,Nat.mul_add,←Nat.add_assoc]
  congr 1
  rw [←Nat.mul_assoc,Nat.mul_comm 4294967296 (4294967296^a.length)]
theorem bv:∀l:List UInt32,val l<4294967296^l.length
 | []=>by simp [val]
 | x :: l=>by
  have f:=bv l
  have g:=cw x
  rw [du,List.length_cons,Nat.pow_succ]
  have:val l+1≤4294967296^l.length:=f
  have:=Nat.mul_le_mul_left 4294967296 this
  omega
theorem db (l:List UInt32) (k:Nat) (h:k≤l.length):val l=val (l.take k)+4294967296^k*val (l.drop k):=by
 have:=ip (l.take k) (l.drop k)
 rw [List.take_append_drop,List.length_take,Nat.min_eq_left h]at this
 exact this
theorem cn:∀k:Nat,val (List.replicate k 0)=0
 | 0=>rfl
 | k+1=>by rw [List.replicate_succ,du,cn k]; rfl
theorem ft (l:List UInt32) (x:UInt32):val (l++[x])=val l+4294967296^l.length*x.toNat:=by
 rw [ip,du,eh]; simp
theorem dx:∀(l:List UInt32) (i:Nat) (x:UInt32),i<l.length→val (l.set i x)+4294967296^i*(l.getD i 0).toNat=val l+4294967296^i*x.toNat
 | [],i,x,h=>by simp at h
 | y :: l,0,x,h=>by simp [val]; omega
 | y :: l,i+1,x,h=>by
  have k:=dx l i x (by simpa using h)
  have f:(y :: l).getD (i+1) 0=l.getD i 0:=by simp
  rw [f,List.set_cons_succ,du,du,Nat.pow_succ]
  have g:4294967296^i*4294967296*(l.getD i 0).toNat=4294967296*(4294967296^i*(l.getD i 0).toNat):=by rw [Nat.mul_right_comm,Nat.mul_comm]
  have j:4294967296^i*4294967296*x.toNat=4294967296*(4294967296^i*x.toNat):=by rw [Nat.mul_right_comm,Nat.mul_comm]
  rw [g,j]
  omega
def am (n:Nat):List UInt32:=if h:n=0 then [] else UInt32.ofNat n :: am (n / 4294967296)
termination_by n
decreasing_by exact Nat.div_lt_self (Nat.pos_of_ne_zero h) (show 1<4294967296 by decide)
theorem bS:am 0=[]:=by rw [am]; simp
theorem fM {n:Nat} (h:n≠0):am n=UInt32.ofNat n :: am (n / 4294967296):=by rw [am]; simp [h]
theorem aq (n:Nat):val (am n)=n:=by
 induction n using Nat.strongRecOn with
 | ind n ih=>
  by_cases h:n=0
  ·subst h; rw [bS]; rfl
  ·rw [fM h,du,ih _ (Nat.div_lt_self (Nat.pos_of_ne_zero h) (show 1<4294967296 by decide)),UInt32.toNat_ofNat']
   omega
def Can (l:List UInt32):Prop:=l.getLast?≠some 0
theorem qv:Can []:=by simp [Can]
theorem zE {x:UInt32} {l:List UInt32} (h:Can (x :: l)):Can l:=by
 unfold Can at h ⊢
 cases l with
 | nil=>simp
 | cons y l=>simpa using h
theorem i7:∀l:List UInt32,Can l→am (val l)=l
 | [],_=>bS
 | x :: l,h=>by
  have f:=i7 l (zE h)
  have k:=cw x
  have g:val (x :: l)≠0:=by
   rw [du]
   intro m
   have i:x.toNat=0:=by omega
   have j:val l=0:=by omega
   rw [j,bS]at f
   subst f
   have:x=0:=UInt32.toNat_inj.1 i
   subst this
   simp [Can]at h
  rw [fM g,du]
  congr 1
  ·apply UInt32.toNat_inj.1
   rw [UInt32.toNat_ofNat']; omega
  ·rw [show (x.toNat+4294967296*val l) / 4294967296=val l by omega,f]
theorem qV (n:Nat):Can (am n):=by
 induction n using Nat.strongRecOn with
 | ind n ih=>
  by_cases h:n=0
  ·subst h; rw [bS]; exact qv
  ·have f:=ih _ (Nat.div_lt_self (Nat.pos_of_ne_zero h) (show 1<4294967296 by decide))
   rw [fM h]
   by_cases hd:n / 4294967296=0
   ·rw [hd,bS]
    unfold Can
    simp only [List.getLast?_singleton,ne_eq,Option.some.injEq]
    intro g
    have:=congrArg UInt32.toNat g
    rw [UInt32.toNat_ofNat']at this
    simp at this
    omega
   ·unfold Can at f ⊢
    rw [fM hd]at f ⊢
    simpa using f
theorem BM {a b:List UInt32} (f:Can a) (g:Can b) (h:val a=val b):a=b:=by
 rw [←i7 a f,←i7 b g,h]
theorem qP (l:List UInt32) (k:Nat):val (l++List.replicate k 0)=val l:=by rw [ip,cn]; simp
theorem sd {l:List UInt32} {n:Nat} (h:val l=n) (hc:Can l):l=am n:=by rw [←h,i7 l hc]
theorem bj {n k:Nat} (h:n<4294967296^k):(am n).length≤k:=by
 induction k generalizing n with
 | zero=>simp at h; subst h; rw [bS]; simp
 | succ k ih=>
  by_cases h0:n=0
  ·subst h0; rw [bS]; simp
  ·rw [fM h0,List.length_cons]
   have:=ih (n:=n / 4294967296) (by rw [Nat.pow_succ]at h; exact Nat.div_lt_of_lt_mul (by rwa [Nat.mul_comm]at h))
   omega
theorem nk {n k:Nat} (h:4294967296^k≤n):k<(am n).length:=by
 have:=bv (am n)
 rw [aq]at this
 rcases Nat.lt_or_ge k (am n).length with f | f
 ·exact f
 ·have:=Nat.pow_le_pow_right (show 0<4294967296 by decide) f
  omega
theorem nY {a b:List UInt32} (j:Can b) (h:a.length<b.length):val a<val b:=by
 have o:=bv a
 have f:b≠[]:=by rintro rfl; simp at h
 have k:b=b.dropLast++[b.getLast f]:=(List.dropLast_concat_getLast f).symm
 have m:b.getLast f≠0:=fun g=>j (by rw [List.getLast?_eq_some_getLast f,g])
 have i:1≤(b.getLast f).toNat:=by
  rcases Nat.eq_zero_or_pos (b.getLast f).toNat with g | g
  ·exact absurd (UInt32.toNat_inj.1 g) m
  ·exact g
 rw [k,ft,List.length_dropLast]
 have q:=Nat.pow_le_pow_right (show 0<4294967296 by decide) (show a.length≤b.length - 1 by omega)
 have t:=Nat.mul_le_mul_left (4294967296^(b.length - 1)) i
 omega
end Go.Gk.Bn
end

section
namespace Go.Gk.Bn
theorem rU {g r f i V' h j m K:Nat} (q:h=g*f+r) (z:m<K)
  (k:4294967296≤g∨r*4294967296+j<g*i) (o:(h*4294967296+j)*K+m<4294967296*((f*4294967296+i)*K+V')) :
  (h*4294967296+j)*K+m<g*((f*4294967296+i)*K+V'):=by
 rcases k with k | k
 ·exact Nat.lt_of_lt_of_le o (Nat.mul_le_mul_right _ k)
 ·have t:h*4294967296+j+1≤g*(f*4294967296+i):=by
   subst q
   have x:g*(f*4294967296+i)=g*f*4294967296+g*i:=by rw [Nat.mul_add,←Nat.mul_assoc]
   rw [x,Nat.add_mul]
   omega
  have y:(h*4294967296+j+1)*K≤g*(f*4294967296+i)*K:=Nat.mul_le_mul_right _ t
  rw [Nat.add_mul,Nat.one_mul]at y
  rw [Nat.mul_add,←Nat.mul_assoc]
  omega
theorem xx {g r f i V' h j k K:Nat} (m:h=g*f+r) (t:V'<K) (x:1≤f)
  (y:g<4294967296) (z:g*i≤r*4294967296+j) :
  g*((f*4294967296+i)*K+V')<(h*4294967296+j)*K+k+((f*4294967296+i)*K+V'):=by
 have o:g*(f*4294967296+i)≤h*4294967296+j:=by
  subst m
  have q:g*(f*4294967296+i)=g*f*4294967296+g*i:=by rw [Nat.mul_add,←Nat.mul_assoc]
  rw [q,Nat.add_mul]
  omega
 have A:g*(f*4294967296+i)*K≤(h*4294967296+j)*K:=Nat.mul_le_mul_right _ o
 have B:g*V'≤4294967295*V':=Nat.mul_le_mul_right _ (by omega)
 have F:4294967296*K≤(f*4294967296+i)*K:=Nat.mul_le_mul_right _ (by omega)
 rw [Nat.mul_add,←Nat.mul_assoc]
 omega
end Go.Gk.Bn
end

section
namespace Go.Gk.Bn
open Go Go.Gk
theorem el (c:UInt64):c.toUInt32.toNat=c.toNat%4294967296:=UInt64.toNat_toUInt32 c
theorem kK (c:UInt64):(aM c 32).toNat=c.toNat / 4294967296:=by rw [dU]; rfl
theorem vm (c:UInt64):(aM c 32).toUInt32.toNat=c.toNat / 4294967296:=by
 rw [el,kK,Nat.mod_eq_of_lt]
 have:=c.toNat_lt
 omega
theorem zo (c:UInt64):(aM c 63).toNat=c.toNat / 9223372036854775808:=by rw [dU]; rfl
theorem bW (x:UInt32):x.toUInt64.toNat=x.toNat:=UInt32.toNat_toUInt64 x
theorem jG (c:UInt64):c.toNat=c.toUInt32.toNat+4294967296*(aM c 32).toNat:=by rw [el,kK]; omega
theorem fR (a b:UInt64) (h:a.toNat+b.toNat<18446744073709551616):(a+b).toNat=a.toNat+b.toNat:=by rw [UInt64.toNat_add]; omega
theorem nC (a b:UInt64) (h:a.toNat*b.toNat<18446744073709551616):(a*b).toNat=a.toNat*b.toNat:=by rw [UInt64.toNat_mul]; omega
theorem iH (x:UInt32):x.toNat≤4294967295:=by have:=cw x; omega
def pad (x:List UInt32) (n:Nat):List UInt32:=x++List.replicate (n - x.length) 0
theorem gw {x:List UInt32} {n:Nat} (h:x.length≤n):(pad x n).length=n:=by simp [pad]; omega
theorem qk (n:Nat):pad [] n=List.replicate n 0:=by simp [pad]
theorem nB {x:List UInt32} {n:Nat} (h:x.length<n) (v:UInt32):(pad x n).set x.length v=pad (x++[v]) n:=by
 unfold pad
 rw [List.set_append_right _ _ (Nat.le_refl _),Nat.sub_self]
 obtain ⟨k,f⟩:∃k,n - x.length=k+1:=⟨n - x.length - 1,by omega⟩
 rw [f,List.replicate_succ,List.set_cons_zero,List.append_assoc]
 congr 2
 simp; omega
theorem kV (x:List UInt32) (n:Nat):val (pad x n)=val x:=qP x _
theorem dN {a:List UInt32} {i:Nat} (h:a.length≤i):a.getD i 0=0:=by
 rw [List.getD_eq_getElem?_getD,List.getElem?_eq_none h]; rfl
theorem i4 {a:List UInt32} {i:Nat} (h:i<a.length):a.take (i+1)=a.take i++[a.getD i 0]:=by
 rw [List.take_succ_eq_append_getElem h]
 congr 2
 rw [List.getD_eq_getElem?_getD,List.getElem?_eq_getElem h]; rfl
theorem bL (a:List UInt32) (i:Nat):val (a.take (i+1))=val (a.take i)+4294967296^i*(a.getD i 0).toNat:=by
 by_cases h:i<a.length
 ·rw [i4 h,ft,List.length_take,Nat.min_eq_left (by omega)]
 ·rw [List.take_of_length_le (by omega),List.take_of_length_le (by omega),dN (by omega)]; simp
theorem kl {a:List UInt32} {n:Nat} (o:n≤a.length) (h:∀k,n≤k→a.getD k 0=0) (g:n=0∨a.getD (n - 1) 0≠0):a.take n=am (val a):=by
 have j:a.drop n=List.replicate (a.length - n) 0:=by
  refine List.ext_getElem (by simp) fun i f q=>?_
  have:=h (n+i) (by omega)
  rw [List.getD_eq_getElem?_getD,List.getElem?_eq_getElem (by simp at f; omega)]at this
  rw [List.getElem_drop,List.getElem_replicate]
  exact this
 refine sd ?_ ?_
 ·conv=>rhs; rw [←List.take_append_drop n a,j,qP]
 ·unfold Can
  rcases g with rfl | g
  ·simp
  ·intro f
   by_cases h0:n=0
   ·subst h0; simp at f
   ·have m:(a.take n).length=n:=by simp; omega
    rw [List.getLast?_eq_getElem?,m,List.getElem?_take_of_lt (by omega)]at f
    rw [List.getD_eq_getElem?_getD,f]at g
    exact g rfl
theorem mS {ρ:Type} {f:Int→Option (Int⊕ρ)} (a:List UInt32) (X:Int→Option ρ) (z:a.length≤4611686018427387904)
  (o:∀n:Nat,n≤a.length→f (n:Int)=if n≠0∧a.getD (n - 1) 0=0 then some (.inl ((n - 1:Nat):Int)) else bo (X (n:Int))) :
  ∃n,n≤a.length∧a.take n=am (val a)∧loop f (a.length:Int)=X (n:Int):=by
 have q:∀n:Nat,n≤a.length→(∀k,n≤k→a.getD k 0=0)→∃m,m≤a.length∧a.take m=am (val a)∧loop f (n:Int)=X (m:Int):=by
  intro n
  induction n with
  | zero=>
   intro g j
   refine ⟨0,g,kl g j (.inl rfl),?_⟩
   have:=o 0 g
   rw [if_neg (by simp)]at this
   rw [k5,this]
   cases X ((0:Nat):Int) <;> rfl
  | succ n ih=>
   intro g j
   have h:=o (n+1) g
   rw [Nat.add_sub_cancel]at h
   by_cases h0:a.getD n 0=0
   ·rw [if_pos ⟨by omega,h0⟩]at h
    obtain ⟨m,t,x,y⟩:=ih (by omega) fun k i=>by
     rcases Nat.eq_or_lt_of_le i with rfl | i
     ·exact h0
     ·exact j k i
    exact ⟨m,t,x,(bI h).trans y⟩
   ·rw [if_neg (fun hc=>h0 hc.2)]at h
    refine ⟨n+1,g,kl g j (.inr (by simpa using h0)),?_⟩
    rw [k5,h]
    cases X ((n+1:Nat):Int) <;> rfl
 exact q a.length (Nat.le_refl _) fun k i=>dN i
end Go.Gk.Bn
end

section
namespace Go.Gk.Bn
open Go Go.Gk Go.Gk.Sh
theorem fZ (a:List UInt32) (j:a.length≤4611686018427387904):F.C6 a=some (am (val a)):=by
 unfold F.C6
 obtain ⟨n,i,k,m⟩:=mS (f:=F.HE a) a (fun g=>grd (0≤(g:Int)∧(g:Int).toNat≤a.length) <| some (a.take ((g:Int).toNat))) j (fun n i=>by
  unfold F.HE F.HW
  by_cases h0:n=0
  ·subst h0
   rw [if_neg (by simp),if_neg (by simp)]
   rfl
  ·have o:wI ((n:Int) - 1)=((n - 1:Nat):Int):=by rw [aJ (by omega) (by omega)]; omega
   rw [if_pos (decide_eq_true (by omega)),o,aO (show n - 1<a.length by omega) 0,ae]
   by_cases hz:a.getD (n - 1) 0=0
   ·rw [if_pos (show n≠0∧a.getD (n - 1) 0=0 from ⟨h0,hz⟩),if_pos (show (a.getD (n - 1) 0 == 0)=true from by rw [hz]; rfl)]; rfl
   ·rw [if_neg (show ¬(n≠0∧a.getD (n - 1) 0=0) from fun h=>hz h.2),if_neg (show ¬(a.getD (n - 1) 0 == 0)=true from fun h=>hz (eq_of_beq h))])
 rw [m,grd_true _ ⟨by omega,by rw [Int.toNat_natCast]; exact i⟩,Int.toNat_natCast,k]
theorem iM (x:UInt64):F.DE x=some (am x.toNat):=by
 unfold F.DE
 rw [fZ _ (by simp),ae,du,du,eh,Nat.mul_zero,Nat.add_zero,vm,←kK,←jG]
theorem lJ {x:List UInt32} {n i:Nat} (f:x.length≤n) (h:i<n):∃u,aA (pad x n) (i:Int)=some u:=⟨_,aO (by rw [gw f]; exact h) 0⟩
def iG (a b:List UInt32) (x:List UInt32×UInt64) (i:Nat):List UInt32×UInt64:=
 (x.1++[(x.2+(a.getD i 0).toUInt64+(b.getD i 0).toUInt64).toUInt32],aM (x.2+(a.getD i 0).toUInt64+(b.getD i 0).toUInt64) 32)
theorem lD {a b:List UInt32} {x:List UInt32×UInt64} {i:Nat} (f:x.1.length=i) (j:val x.1+4294967296^i*x.2.toNat=val (a.take i)+val (b.take i)) (k:x.2.toNat≤1) :
  (iG a b x i).1.length=i+1∧val (iG a b x i).1+4294967296^(i+1)*(iG a b x i).2.toNat=val (a.take (i+1))+val (b.take (i+1))∧(iG a b x i).2.toNat≤1:=by
 have m:=cw (a.getD i 0); have o:=cw (b.getD i 0)
 obtain ⟨s,g⟩:∃s,x.2+(a.getD i 0).toUInt64+(b.getD i 0).toUInt64=s:=⟨_,rfl⟩
 have h:s.toNat=x.2.toNat+(a.getD i 0).toNat+(b.getD i 0).toNat:=by
  rw [←g,fR _ _ (by rw [fR _ _ (by rw [bW]; omega),bW,bW]; omega),fR _ _ (by rw [bW]; omega),bW,bW]
 unfold iG
 rw [g]
 refine ⟨by simp [f],?_,by simp only [kK]; omega⟩
 have e:=jG s
 simp only
 rw [ft,f,bL,bL,Nat.pow_succ,Nat.mul_assoc]
 have:4294967296^i*s.toNat=4294967296^i*s.toUInt32.toNat+4294967296^i*(4294967296*(aM s 32).toNat):=by rw [←Nat.mul_add,←e]
 rw [h,Nat.mul_add,Nat.mul_add]at this
 omega
theorem yF (a b:List UInt32) (o:b.length≤a.length) (B:a.length≤70368744177663):loop (F.Fc a b) (0,0,pad [] (a.length+1))=some (am (val a+val b)):=by
 have e:=bY (f:=F.Fc a b) (fun (x:List UInt32×UInt64) i=>(x.2,(i:Int),pad x.1 (a.length+1)))
  (fun i x=>x.1.length=i∧val x.1+4294967296^i*x.2.toNat=val (a.take i)+val (b.take i)∧x.2.toNat≤1) (iG a b) 0 a.length
  (X:=fun x=>F.C6 ((pad x.1 (a.length+1)).set a.length x.2.toUInt32))
  (fun i x _ hi h=>by
   obtain ⟨g,j,k⟩:=h
   refine ⟨?_,lD g j k⟩
   have z:wI ((i:Int)+1)=((i+1:Nat):Int):=by rw [aJ (by omega) (by omega)]; rfl
   obtain ⟨u,m⟩:=lJ (x:=x.1) (n:=a.length+1) (i:=i) (by omega) (by omega)
   have q:∀s:UInt64,s=x.2+(a.getD i 0).toUInt64+(b.getD i 0).toUInt64→F.F6 (i:Int) (pad x.1 (a.length+1)) s=some (.inl ((iG a b x i).2,((i+1:Nat):Int),pad (iG a b x i).1 (a.length+1))):=by
    rintro s rfl
    unfold F.F6
    dsimp only
    rw [m,ae,aS,z,Int.toNat_natCast]
    have:=nB (x:=x.1) (n:=a.length+1) (by omega) (x.2+(a.getD i 0).toUInt64+(b.getD i 0).toUInt64).toUInt32
    rw [g]at this
    rw [this]; rfl
   unfold F.Fc
   dsimp only
   rw [if_pos (decide_eq_true (by omega)),aO hi 0,ae]
   by_cases hb:i<b.length
   ·rw [if_pos (decide_eq_true (by omega)),aO hb 0,ae,aS,q _ rfl]
   ·rw [if_neg (by simp only [decide_eq_true_eq]; omega),q _ (by rw [dN (a:=b) (i:=i) (by omega)]; exact (UInt64.add_zero _).symm)])
  (fun x h=>by
   obtain ⟨u,m⟩:=lJ (x:=x.1) (n:=a.length+1) (i:=a.length) (by omega) (by omega)
   unfold F.Fc
   dsimp only
   rw [if_neg (by simp),m,ae,aS,Int.toNat_natCast]
   cases F.C6 ((pad x.1 (a.length+1)).set a.length x.2.toUInt32) <;> rfl)
  a.length 0 ([],0) (Nat.le_refl _) (by omega) ⟨rfl,by simp [val],by simp⟩
 refine e.trans ?_
 obtain ⟨g,j,k⟩:=cD (fun i (x:List UInt32×UInt64)=>x.1.length=i∧val x.1+4294967296^i*x.2.toNat=val (a.take i)+val (b.take i)∧x.2.toNat≤1) (iG a b)
  (fun i x h=>lD h.1 h.2.1 h.2.2) a.length 0 ([],0) ⟨rfl,by simp [val],by simp⟩
 obtain ⟨y,A⟩:∃y,(List.range' 0 a.length).foldl (iG a b) ([],0)=y:=⟨_,rfl⟩
 rw [A]at g j k ⊢
 rw [Nat.zero_add]at g j
 rw [List.take_length,List.take_of_length_le o]at j
 have t:=nB (x:=y.1) (n:=a.length+1) (by omega) y.2.toUInt32
 rw [g]at t
 rw [t,fZ _ (by rw [gw (by simp; omega)]; omega),kV,ft,g,el,Nat.mod_eq_of_lt (by omega),j]
theorem pt (a b:List UInt32) (g:a.length≤70368744177663) (i:b.length≤70368744177663):F.Fa a b=some (am (val a+val b)):=by
 have f:∀a b:List UInt32,b.length≤a.length→a.length≤70368744177663→F.Gb (a,b)=some (am (val a+val b)):=by
  intro a b j k
  unfold F.Gb
  dsimp only
  rw [aJ (by omega) (by omega),dQ (by omega),ae]
  have:(((a.length:Int)+1).toNat)=a.length+1:=by omega
  rw [this,←qk,yF a b j k]
 unfold F.Fa
 by_cases h:a.length<b.length
 ·rw [if_pos (decide_eq_true (by omega)),f b a (by omega) i,Nat.add_comm]
 ·rw [if_neg (by simp only [decide_eq_true_eq]; omega),f a b (by omega) g]
end Go.Gk.Bn
end

section
namespace Go.Gk.Bn
open Go Go.Gk Go.Gk.Sh
theorem yw (u v:UInt32) (c:UInt64) (hc:c.toNat≤1):((u.toUInt64 - c) - v.toUInt64).toUInt32.toNat+c.toNat+v.toNat=u.toNat+4294967296*(aM ((u.toUInt64 - c) - v.toUInt64) 63).toNat∧(aM ((u.toUInt64 - c) - v.toUInt64) 63).toNat≤1:=by
 have f:=cw u; have g:=cw v
 rw [el,zo,UInt64.toNat_sub,UInt64.toNat_sub,bW,bW]
 omega
def gS (a b:List UInt32) (x:List UInt32×UInt64) (i:Nat):List UInt32×UInt64:=
 (x.1++[((a.getD i 0).toUInt64 - x.2 - (b.getD i 0).toUInt64).toUInt32],aM ((a.getD i 0).toUInt64 - x.2 - (b.getD i 0).toUInt64) 63)
theorem sE {a b:List UInt32} {x:List UInt32×UInt64} {i:Nat} (f:x.1.length=i) (m:val x.1+val (b.take i)=val (a.take i)+4294967296^i*x.2.toNat) (j:x.2.toNat≤1) :
  (gS a b x i).1.length=i+1∧val (gS a b x i).1+val (b.take (i+1))=val (a.take (i+1))+4294967296^(i+1)*(gS a b x i).2.toNat∧(gS a b x i).2.toNat≤1:=by
 obtain ⟨g,h⟩:=yw (a.getD i 0) (b.getD i 0) x.2 j
 unfold gS
 obtain ⟨s,k⟩:∃s,(a.getD i 0).toUInt64 - x.2 - (b.getD i 0).toUInt64=s:=⟨_,rfl⟩
 rw [k]at g h ⊢
 refine ⟨by simp [f],?_,h⟩
 simp only
 rw [ft,f,bL,bL,Nat.pow_succ,Nat.mul_assoc]
 have:4294967296^i*(s.toUInt32.toNat+x.2.toNat+(b.getD i 0).toNat)=4294967296^i*((a.getD i 0).toNat+4294967296*(aM s 63).toNat):=by rw [g]
 rw [Nat.mul_add,Nat.mul_add,Nat.mul_add]at this
 omega
theorem tL (a b:List UInt32) (o:b.length≤a.length) (G:val b≤val a) (I:a.length≤70368744177664):F.E8 a b=some (am (val a - val b)):=by
 unfold F.E8
 rw [dQ (by omega),ae,Int.toNat_natCast,←qk]
 have e:=bY (f:=F.G6 a b) (fun (x:List UInt32×UInt64) i=>(x.2,(i:Int),pad x.1 a.length))
  (fun i x=>x.1.length=i∧val x.1+val (b.take i)=val (a.take i)+4294967296^i*x.2.toNat∧x.2.toNat≤1) (gS a b) 0 a.length
  (X:=fun x=>F.C6 (pad x.1 a.length))
  (fun i x _ hi j=>by
   obtain ⟨k,g,m⟩:=j
   refine ⟨?_,sE k g m⟩
   have z:wI ((i:Int)+1)=((i+1:Nat):Int):=by rw [aJ (by omega) (by omega)]; rfl
   obtain ⟨u,A⟩:=lJ (x:=x.1) (n:=a.length) (i:=i) (by omega) (by omega)
   have q:∀s:UInt64,s=(a.getD i 0).toUInt64 - x.2 - (b.getD i 0).toUInt64→F.FR (i:Int) (pad x.1 a.length) s=some (.inl ((gS a b x i).2,((i+1:Nat):Int),pad (gS a b x i).1 a.length)):=by
    rintro s rfl
    unfold F.FR
    dsimp only
    rw [A,ae,aS,z,Int.toNat_natCast]
    have:=nB (x:=x.1) (n:=a.length) (by omega) ((a.getD i 0).toUInt64 - x.2 - (b.getD i 0).toUInt64).toUInt32
    rw [k]at this
    rw [this]; rfl
   unfold F.G6
   dsimp only
   rw [if_pos (decide_eq_true (by omega)),aO hi 0,ae]
   by_cases hb:i<b.length
   ·rw [if_pos (decide_eq_true (by omega)),aO hb 0,ae,aS,q _ rfl]
   ·rw [if_neg (by simp only [decide_eq_true_eq]; omega),q _ (by rw [dN (a:=b) (i:=i) (by omega)]; exact (UInt64.sub_zero _).symm)])
  (fun x j=>by
   unfold F.G6
   dsimp only
   rw [if_neg (by simp)]
   cases F.C6 (pad x.1 a.length) <;> rfl)
  a.length 0 ([],0) (Nat.le_refl _) (by omega) ⟨rfl,by simp [val],by simp⟩
 refine e.trans ?_
 obtain ⟨k,g,m⟩:=cD (fun i (x:List UInt32×UInt64)=>x.1.length=i∧val x.1+val (b.take i)=val (a.take i)+4294967296^i*x.2.toNat∧x.2.toNat≤1) (gS a b)
  (fun i x j=>sE j.1 j.2.1 j.2.2) a.length 0 ([],0) ⟨rfl,by simp [val],by simp⟩
 obtain ⟨y,B⟩:∃y,(List.range' 0 a.length).foldl (gS a b) ([],0)=y:=⟨_,rfl⟩
 rw [B]at k g m ⊢
 rw [Nat.zero_add]at k g
 rw [List.take_length,List.take_of_length_le o]at g
 have t:=bv y.1
 rw [k]at t
 have hc:y.2.toNat=0:=by
  rcases Nat.eq_zero_or_pos y.2.toNat with h | h
  ·exact h
  ·have:y.2.toNat=1:=by omega
   rw [this,Nat.mul_one]at g
   omega
 rw [hc,Nat.mul_zero,Nat.add_zero]at g
 rw [fZ _ (by rw [gw (by omega)]; omega),kV,show val y.1=val a - val b by omega]
theorem xd (a b:UInt32):a.toNat*b.toNat≤4294967295*4294967295:=Nat.mul_le_mul (iH a) (iH b)
theorem yv (c:UInt64) (u v r:UInt32) (hc:c.toNat≤4294967295):(c+(u.toUInt64*v.toUInt64+r.toUInt64)).toNat=c.toNat+(u.toNat*v.toNat+r.toNat):=by
 have h:=xd u v; have i:=iH r
 have f:(u.toUInt64*v.toUInt64).toNat=u.toNat*v.toNat:=by rw [nC _ _ (by rw [bW,bW]; omega),bW,bW]
 have g:(u.toUInt64*v.toUInt64+r.toUInt64).toNat=u.toNat*v.toNat+r.toNat:=by rw [fR _ _ (by rw [f,bW]; omega),f,bW]
 rw [fR _ _ (by rw [g]; omega),g]
theorem dt {l:List UInt32} {i k:Nat} {x:UInt32} (h:i≠k):(l.set i x).getD k 0=l.getD k 0:=by
 rw [List.getD_eq_getElem?_getD,List.getElem?_set_ne h,List.getD_eq_getElem?_getD]
def nn (u:UInt32) (b:List UInt32) (i:Nat) (x:UInt64×List UInt32) (j:Nat):UInt64×List UInt32:=
 (aM (x.1+(u.toUInt64*(b.getD j 0).toUInt64+(x.2.getD (i+j) 0).toUInt64)) 32,x.2.set (i+j) (x.1+(u.toUInt64*(b.getD j 0).toUInt64+(x.2.getD (i+j) 0).toUInt64)).toUInt32)
def mx (u:UInt32) (b:List UInt32) (i N:Nat) (r0:List UInt32) (j:Nat) (x:UInt64×List UInt32):Prop:=
 x.2.length=N∧(∀k,i+b.length≤k→x.2.getD k 0=0)∧val x.2+4294967296^(i+j)*x.1.toNat=val r0+4294967296^i*(u.toNat*val (b.take j))∧x.1.toNat≤4294967295
theorem lE {u:UInt32} {b:List UInt32} {i N:Nat} {f:List UInt32} {j:Nat} {x:UInt64×List UInt32} (B:i+b.length<N) (F:j<b.length) (h:mx u b i N f j x):mx u b i N f (j+1) (nn u b i x j):=by
 obtain ⟨m,o,G,q⟩:=h
 have e:=yv x.1 u (b.getD j 0) (x.2.getD (i+j) 0) q
 unfold nn
 obtain ⟨s,t⟩:∃s,x.1+(u.toUInt64*(b.getD j 0).toUInt64+(x.2.getD (i+j) 0).toUInt64)=s:=⟨_,rfl⟩
 rw [t]at e ⊢
 have g:=jG s
 have I:=xd u (b.getD j 0); have J:=iH (x.2.getD (i+j) 0)
 refine ⟨by simpa using m,fun k y=>?_,?_,by simp only [kK]; omega⟩
 ·simp only
  rw [dt (by omega)]; exact o k y
 ·simp only
  have K:=dx x.2 (i+j) s.toUInt32 (by omega)
  rw [bL,Nat.mul_add,Nat.mul_add]
  have z:4294967296^i*(u.toNat*(4294967296^j*(b.getD j 0).toNat))=4294967296^(i+j)*(u.toNat*(b.getD j 0).toNat):=by
   rw [Nat.pow_add,Nat.mul_assoc,Nat.mul_left_comm u.toNat]
  have A:4294967296^(i+j)*s.toNat=4294967296^(i+j)*s.toUInt32.toNat+4294967296^(i+(j+1))*(aM s 32).toNat:=by
   rw [←Nat.add_assoc,Nat.pow_succ,Nat.mul_assoc,←Nat.mul_add,←g]
  rw [e,Nat.mul_add,Nat.mul_add]at A
  rw [z]
  omega
theorem xo (a b:List UInt32) (i:Nat) (r:List UInt32) (hi:i<a.length) (K:r.length=a.length+b.length) (M:∀k,i+b.length≤k→r.getD k 0=0) (O:a.length+b.length≤70368744177664) :
  ∃h,loop (F.EM a b (i:Int)) (0,0,r)=some (.inl (((i+1:Nat):Int),h))∧h.length=a.length+b.length∧(∀k,i+1+b.length≤k→h.getD k 0=0)∧val h=val r+4294967296^i*((a.getD i 0).toNat*val b):=by
 have I:mx (a.getD i 0) b i (a.length+b.length) r 0 (0,r):=⟨K,M,by simp [val],by simp⟩
 have e:=bY (f:=F.EM a b (i:Int)) (fun (x:UInt64×List UInt32) j=>(x.1,(j:Int),x.2)) (fun j x=>j≤b.length→mx (a.getD i 0) b i (a.length+b.length) r j x) (nn (a.getD i 0) b i) 0 b.length
  (X:=fun x=>some (.inl (((i+1:Nat):Int),x.2.set (i+b.length) x.1.toUInt32)))
  (fun j x _ q g=>by
   have g:=g (by omega)
   refine ⟨?_,fun _=>lE (by omega) q g⟩
   obtain ⟨t,m,o,J⟩:=g
   have z:wI ((i:Int)+(j:Int))=((i+j:Nat):Int):=by rw [aJ (by omega) (by omega)]; rfl
   have A:wI ((j:Int)+1)=((j+1:Nat):Int):=by rw [aJ (by omega) (by omega)]; rfl
   unfold F.EM
   dsimp only
   rw [if_pos (decide_eq_true (by omega)),aO hi 0,ae,aO q 0,ae,z,aO (show i+j<x.2.length by omega) 0,ae,aS,ae,aS,Int.toNat_natCast,A]
   rfl)
  (fun x g=>by
   obtain ⟨t,m,o,J⟩:=g (Nat.le_refl _)
   have z:wI ((i:Int)+(b.length:Int))=((i+b.length:Nat):Int):=by rw [aJ (by omega) (by omega)]; rfl
   have A:wI ((i:Int)+1)=((i+1:Nat):Int):=by rw [aJ (by omega) (by omega)]; rfl
   unfold F.EM
   dsimp only
   rw [if_neg (by simp),z,aO (show i+b.length<x.2.length by omega) 0,ae,aS,Int.toNat_natCast,A]
   rfl)
  b.length 0 (0,r) (Nat.le_refl _) (by omega) (fun _=>I)
 have B:=cD (fun j (x:UInt64×List UInt32)=>j≤b.length→mx (a.getD i 0) b i (a.length+b.length) r j x) (nn (a.getD i 0) b i) (fun j x g=>fun q=>lE (by omega) (by omega) (g (by omega))) b.length 0 (0,r) (fun _=>I)
 obtain ⟨y,N⟩:∃y,(List.range' 0 b.length).foldl (nn (a.getD i 0) b i) (0,r)=y:=⟨_,rfl⟩
 rw [N]at B e
 rw [Nat.zero_add]at B
 obtain ⟨t,m,o,J⟩:=B (Nat.le_refl _)
 refine ⟨_,e,by simpa using t,fun k R=>?_,?_⟩
 ·rw [dt (by omega)]; exact m k (by omega)
 ·have G:=dx y.2 (i+b.length) y.1.toUInt32 (by omega)
  rw [m _ (Nat.le_refl _)]at G
  have:(0:UInt32).toNat=0:=rfl
  rw [this,Nat.mul_zero,Nat.add_zero]at G
  rw [List.take_length]at o
  rw [G,el,Nat.mod_eq_of_lt (by omega),o]
theorem ye (a b:List UInt32) (x:a.length+b.length≤70368744177664):F.Gu a b=some (am (val a*val b)):=by
 unfold F.Gu
 have f:F.Fd a b true=some []:=by unfold F.Fd; rw [if_pos rfl]
 by_cases ha:a.length=0
 ·rw [if_pos (by simp [ha]),f,List.eq_nil_of_length_eq_zero ha,eh,Nat.zero_mul,bS]
 ·rw [if_neg (by simpa using fun h=>ha (by rw [h]; rfl))]
  by_cases hb:b.length=0
  ·rw [show ((b.length:Int) == 0)=true by simp [hb],f,List.eq_nil_of_length_eq_zero hb,eh,Nat.mul_zero,bS]
  ·rw [show ((b.length:Int) == 0)=false by simpa using fun h=>hb (by rw [h]; rfl)]
   unfold F.Fd
   rw [if_neg (by decide),aJ (by omega) (by omega),dQ (by omega),ae,show ((a.length:Int)+(b.length:Int)).toNat=a.length+b.length by omega]
   have j:∀(k i:Nat) (r:List UInt32),i+k=a.length→r.length=a.length+b.length→(∀k,i+b.length≤k→r.getD k 0=0)→val r=val (a.take i)*val b→loop (F.EN a b) ((i:Int),r)=some (am (val a*val b)):=by
    intro k
    induction k with
    | zero=>
     intro i r h m o g
     have:i=a.length:=by omega
     subst this
     refine cM ?_
     unfold F.EN
     dsimp only
     rw [if_neg (by simp),fZ _ (by omega),ae,g,List.take_length]; rfl
    | succ k ih=>
     intro i r h m o g
     obtain ⟨q,y,z,A,B⟩:=xo a b i r (by omega) m o x
     have t:F.EN a b ((i:Int),r)=some (.inl (((i+1:Nat):Int),q)):=by
      unfold F.EN
      dsimp only
      rw [if_pos (decide_eq_true (by omega)),y]
     rw [bI t]
     refine ih (i+1) q (by omega) z (fun k G=>A k (by omega)) ?_
     rw [B,g,bL,Nat.add_mul,Nat.mul_assoc]
   exact j a.length 0 _ (by omega) (by simp) (fun k _=>by
    rw [List.getD_eq_getElem?_getD,List.getElem?_replicate]; split <;> rfl) (by rw [cn]; simp [val])
end Go.Gk.Bn
end

section
namespace Go.Gk.Bn
open Go Go.Gk Go.Gk.Sh
def cv (a b:Nat):Int:=if a<b then -1 else if a=b then 0 else 1
theorem my (a:List UInt32) (k:Nat) (h:k<a.length):val a=val (a.take k)+4294967296^k*((a.getD k 0).toNat+4294967296*val (a.drop (k+1))):=by
 rw [db a k (by omega),List.drop_eq_getElem_cons h,du]
 congr 4
 rw [List.getD_eq_getElem?_getD,List.getElem?_eq_getElem h]; rfl
theorem qJ {a b:List UInt32} {k:Nat} (f:k<a.length) (g:k<b.length) (h:a.drop (k+1)=b.drop (k+1)) (m:(a.getD k 0).toNat<(b.getD k 0).toNat):val a<val b:=by
 rw [my a k f,my b k g,h]
 have i:=bv (a.take k)
 rw [List.length_take,Nat.min_eq_left (by omega)]at i
 have j:4294967296^k*((a.getD k 0).toNat+4294967296*val (b.drop (k+1))+1)≤4294967296^k*((b.getD k 0).toNat+4294967296*val (b.drop (k+1))):=Nat.mul_le_mul_left _ (by omega)
 rw [Nat.mul_add,Nat.mul_one]at j
 omega
theorem o3 (a b:List UInt32) (o:Can a) (q:Can b) (A:a.length≤4611686018427387904) (z:b.length≤4611686018427387904):F.Ez a b=some (cv (val a) (val b)):=by
 unfold F.Ez cv
 by_cases h:a.length=b.length
 ·rw [if_neg (by simp [h]),aS]
  have j:∀k,k≤a.length→a.drop k=b.drop k→loop (F.En a b) ((k:Int) - 1)=some (if val a<val b then -1 else if val a=val b then 0 else 1):=by
   intro k
   induction k with
   | zero=>
    intro _ i
    have:a=b:=by simpa using i
    subst this
    rw [if_neg (by omega),if_pos rfl]
    exact cM rfl
   | succ k ih=>
    intro B i
    have f:k<b.length:=by omega
    have t:(((k+1:Nat):Int)) - 1=(k:Int):=by omega
    have x:wI ((k:Int) - 1)=(k:Int) - 1:=aJ (by omega) (by omega)
    rw [t]
    by_cases he:a.getD k 0=b.getD k 0
    ·have g:F.En a b (k:Int)=some (.inl ((k:Int) - 1)):=by
      unfold F.En
      rw [if_pos (decide_eq_true (by omega)),aO (show k<a.length by omega) 0,ae,aO f 0,ae,if_neg (by simp only [he,bne_self_eq_false]; simp),x]; rfl
     rw [bI g]
     refine ih (by omega) ?_
     rw [List.drop_eq_getElem_cons (show k<a.length by omega),List.drop_eq_getElem_cons f,i]
     congr 1
     rw [List.getD_eq_getElem?_getD,List.getD_eq_getElem?_getD,List.getElem?_eq_getElem (show k<a.length by omega),List.getElem?_eq_getElem f]at he
     exact he
    ·have g:F.En a b (k:Int)=if decide (a.getD k 0<b.getD k 0)=true then some (.inr (-1)) else some (.inr 1):=by
      unfold F.En
      rw [if_pos (decide_eq_true (by omega)),aO (show k<a.length by omega) 0,ae,aO f 0,ae,if_pos (by simpa using he),ae,ae]
      split <;> rfl
     by_cases hlt:a.getD k 0<b.getD k 0
     ·rw [if_pos (decide_eq_true hlt)]at g
      rw [cM g,if_pos (qJ (by omega) f i (UInt32.lt_iff_toNat_lt.1 hlt))]
     ·rw [if_neg (by simpa using hlt)]at g
      have m:(b.getD k 0).toNat<(a.getD k 0).toNat:=by
       have G:¬(a.getD k 0).toNat<(b.getD k 0).toNat:=fun h=>hlt (UInt32.lt_iff_toNat_lt.2 h)
       have y:(a.getD k 0).toNat≠(b.getD k 0).toNat:=fun h=>he (UInt32.toNat_inj.1 h)
       omega
      have:=qJ f (show k<a.length by omega) i.symm m
      rw [cM g,if_neg (by omega),if_neg (by omega)]
  have w0:wI ((a.length:Int) - 1)=(a.length:Int) - 1:=aJ (by omega) (by omega)
  rw [w0]
  exact j a.length (Nat.le_refl _) (by rw [List.drop_length,List.drop_of_length_le (by omega)])
 ·rw [if_pos (by simpa using fun y=>h (by omega))]
  by_cases hlt:a.length<b.length
  ·rw [if_pos (decide_eq_true (by omega)),if_pos (nY q hlt)]
  ·have:=nY o (show b.length<a.length by omega)
   rw [if_neg (by simp only [decide_eq_true_eq]; omega),if_neg (by omega),if_neg (by omega)]
theorem tf (x:UInt64) (y:UInt32) (h:x.toNat≤4294967295):((bB x 32) ||| y.toUInt64).toNat=4294967296*x.toNat+y.toNat:=by
 have f:=cw y
 have g:(bB x 32).toNat=x.toNat*4294967296:=by
  rw [i6,show min 32 64=32 from rfl,Nat.mod_eq_of_lt (by omega)]
 rw [UInt64.toNat_or,g,bW,nm 32 (by omega) f]
 omega
theorem pj (x:UInt32) (y:UInt32):(x.toUInt64 ||| (bB y.toUInt64 32)).toNat=x.toNat+4294967296*y.toNat:=by
 have f:=cw x; have g:=cw y
 rw [UInt64.or_comm,tf _ _ (by rw [bW]; omega),bW]; omega
theorem sM (a:List UInt32) (h:a.length≤2):∃x,F.FJ a=some x∧x.toNat=val a:=by
 unfold F.FJ
 match a,h with
 | [],_=>exact ⟨0,rfl,rfl⟩
 | [u],_=>exact ⟨u.toUInt64,rfl,by rw [bW]; simp [val]⟩
 | [u,v],_=>exact ⟨u.toUInt64 ||| (bB v.toUInt64 32),rfl,by rw [pj]; simp [val]⟩
theorem y6 (a:List UInt32) (d:UInt32) (M:d≠0) (X:a.length≤70368744177664):∃r,F.HP a d=some (am (val a / d.toNat),r)∧r.toNat=val a%d.toNat:=by
 have f:0<d.toNat:=by
  rcases Nat.eq_zero_or_pos d.toNat with h | h
  ·exact absurd (UInt32.toNat_inj.1 h) M
  ·exact h
 have U:=cw d
 have i:¬d.toUInt64=0:=by
  intro h
  have:=congrArg UInt64.toNat h
  rw [bW]at this
  simp at this
  omega
 have o:∀(k:Nat) (q:List UInt32) (r:UInt64),k≤a.length→q.length=a.length→r.toNat<d.toNat→val (a.drop k)=d.toNat*val (q.drop k)+r.toNat →
   ∃t,loop (F.Fm a d) (r,(k:Int) - 1,q)=some (am (val a / d.toNat),t)∧t.toNat=val a%d.toNat:=by
  intro k
  induction k with
  | zero=>
   intro q r _ y m g
   refine ⟨r.toUInt32,cM ?_,?_⟩
   ·unfold F.Fm
    dsimp only
    rw [if_neg (by decide),fZ _ (by omega),ae]
    simp only [List.drop_zero]at g
    have:val q=val a / d.toNat:=by
     rw [g,Nat.add_comm,Nat.add_mul_div_left _ _ f,Nat.div_eq_of_lt m,Nat.zero_add]
    rw [this]; rfl
   ·simp only [List.drop_zero]at g
    rw [el,Nat.mod_eq_of_lt (by omega),g,Nat.mul_add_mod,Nat.mod_eq_of_lt m]
  | succ k ih=>
   intro q r Y y m g
   have N:(((k+1:Nat):Int)) - 1=(k:Int):=by omega
   have O:wI ((k:Int) - 1)=(k:Int) - 1:=aJ (by omega) (by omega)
   have z:r.toNat≤4294967295:=by omega
   obtain ⟨x,A⟩:∃x,(bB r 32) ||| (a.getD k 0).toUInt64=x:=⟨_,rfl⟩
   have B:x.toNat=4294967296*r.toNat+(a.getD k 0).toNat:=by rw [←A,tf _ _ z]
   have G:(x / d.toUInt64).toNat=x.toNat / d.toNat:=by rw [UInt64.toNat_div,bW]
   have j:(x%d.toUInt64).toNat=x.toNat%d.toNat:=by rw [UInt64.toNat_mod,bW]
   have V:=cw (a.getD k 0)
   have I:x.toNat / d.toNat<4294967296:=by
    rw [Nat.div_lt_iff_lt_mul f,B]
    have:=Nat.mul_le_mul_left 4294967296 (show r.toNat+1≤d.toNat by omega)
    omega
   have R:F.Fm a d (r,(k:Int),q)=some (.inl (x%d.toUInt64,(k:Int) - 1,q.set k (x / d.toUInt64).toUInt32)):=by
    unfold F.Fm
    dsimp only
    rw [if_pos (decide_eq_true (by omega)),aO (show k<a.length by omega) 0,ae,A,aS,grd_true _ i,aO (show k<q.length by omega) 0,ae,aS,grd_true _ i,O]; rfl
   rw [N,bI R]
   refine ih _ _ (by omega) (by simpa using y) (by rw [j]; exact Nat.mod_lt _ f) ?_
   have J:a.drop k=a.getD k 0 :: a.drop (k+1):=by
    rw [List.drop_eq_getElem_cons (show k<a.length by omega)]
    congr 1
    rw [List.getD_eq_getElem?_getD,List.getElem?_eq_getElem (show k<a.length by omega)]; rfl
   have K:(q.set k (x / d.toUInt64).toUInt32).drop k=(x / d.toUInt64).toUInt32 :: q.drop (k+1):=by
    rw [List.drop_eq_getElem_cons (by simp; omega)]
    congr 1
    ·simp
    ·rw [List.drop_set_of_lt (by omega)]
   rw [J,K,du,du,g,el,G,j,Nat.mod_eq_of_lt I]
   have:=Nat.div_add_mod x.toNat d.toNat
   rw [Nat.mul_add,Nat.mul_add,Nat.mul_left_comm d.toNat 4294967296]
   omega
 unfold F.HP
 have w0:wI ((a.length:Int) - 1)=(a.length:Int) - 1:=aJ (by omega) (by omega)
 rw [dQ (by omega),ae,aS,w0]
 refine o a.length _ 0 (Nat.le_refl _) (by simp) (by simpa using f) ?_
 rw [List.drop_length,List.drop_of_length_le (by simp)]
 simp [val]
end Go.Gk.Bn
end
