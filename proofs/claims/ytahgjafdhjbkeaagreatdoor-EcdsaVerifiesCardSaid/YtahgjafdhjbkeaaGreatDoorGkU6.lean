import Derived.Test.YtahgjafdhjbkeaaGreatDoorGkU0
set_option linter.unusedVariables false
set_option linter.unusedSimpArgs false
set_option linter.unusedSectionVars false

section
namespace Go.Gk.Bn
open Go Go.Gk Go.Gk.Sh
def nb (n:Nat):Nat:=if h:n=0 then 0 else nb (n / 2)+1
termination_by n
decreasing_by exact Nat.div_lt_self (Nat.pos_of_ne_zero h) (show 1<2 by decide)
theorem gm:nb 0=0:=by rw [nb]; simp
theorem tA {n:Nat} (h:n≠0):nb n=nb (n / 2)+1:=by rw [nb]; simp [h]
theorem dS (n:Nat):n<2^nb n∧(n≠0→2^(nb n - 1)≤n∧1≤nb n):=by
 induction n using Nat.strongRecOn with
 | ind n ih=>
  by_cases h:n=0
  ·subst h; rw [gm]; simp
  ·obtain ⟨g,f⟩:=ih (n / 2) (Nat.div_lt_self (Nat.pos_of_ne_zero h) (by decide))
   rw [tA h]
   refine ⟨by rw [Nat.pow_succ]; omega,fun _=>⟨?_,by omega⟩⟩
   rw [Nat.add_sub_cancel]
   by_cases h3:n / 2=0
   ·rw [h3,gm]; omega
   ·obtain ⟨i,j⟩:=f h3
    have:2^nb (n / 2)=2^(nb (n / 2) - 1)*2:=by rw [←Nat.pow_succ]; congr 1; omega
    omega
theorem lO {n k:Nat} (h:n<2^k):nb n≤k:=by
 by_cases h0:n=0
 ·subst h0; rw [gm]; omega
 ·obtain ⟨g,i⟩:=(dS n).2 h0
  rcases Nat.lt_or_ge k (nb n) with f | f
  ·have:=Nat.pow_le_pow_right (show 0<2 by decide) (show k≤nb n - 1 by omega)
   omega
  ·exact f
theorem yI (x:UInt32):nb x.toNat≤32:=lO (cw x)
theorem CU (x:UInt32):(bu x 1).toNat=x.toNat / 2:=by rw [f9]; rfl
theorem uj (a:List UInt32) (o:a.length≠0) (q:a.length≤1000000000000000):∀(m:Nat) (t:UInt32) (n:Nat),nb t.toNat=m→n+m≤32→loop (F.EQ a) ((n:Int),t)=some (((32*(a.length - 1)+n+m:Nat):Int)):=by
 intro m
 induction m with
 | zero=>
  intro t n h i
  have f:t.toNat=0:=by
   rcases Nat.eq_zero_or_pos t.toNat with f | f
   ·exact f
   ·rw [tA (by omega)]at h; omega
  have:t=0:=UInt32.toNat_inj.1 f
  subst this
  refine cM ?_
  unfold F.EQ
  dsimp only
  rw [if_neg (by decide),aJ (x:=(a.length:Int) - 1) (by omega) (by omega),aJ (x:=((a.length:Int) - 1)*32) (by omega) (by omega),aJ (by omega) (by omega)]
  show some _=_
  congr 2
  omega
 | succ m ih=>
  intro t n h i
  have f:t.toNat≠0:=by intro f; rw [f,gm]at h; omega
  have g:t≠0:=fun j=>f (by rw [j]; rfl)
  rw [tA f]at h
  have k:F.EQ a ((n:Int),t)=some (.inl (((n+1:Nat):Int),bu t 1)):=by
   unfold F.EQ
   dsimp only
   rw [if_pos (by simpa using g),aJ (by omega) (by omega)]; rfl
  rw [bI k,ih (bu t 1) (n+1) (by rw [CU]; omega) (by omega)]
  congr 2; omega
def i0 (a:List UInt32):Nat:=if a.length=0 then 0 else 32*(a.length - 1)+nb (a.getD (a.length - 1) 0).toNat
theorem length_eq (a:List UInt32) (f:a.length≤1000000000000000):F.Fu a=some ((i0 a:Nat):Int):=by
 unfold F.Fu i0
 by_cases h0:a.length=0
 ·rw [if_pos (by simp [h0]),if_pos h0]; rfl
 ·have g:wI ((a.length:Int) - 1)=((a.length - 1:Nat):Int):=by rw [aJ (by omega) (by omega)]; omega
  rw [if_neg (by simpa using fun h=>h0 (by rw [h]; rfl)),g,aO (show a.length - 1<a.length by omega) 0,ae]
  have:=uj a h0 f _ (a.getD (a.length - 1) 0) 0 rfl (by have:=yI (a.getD (a.length - 1) 0); omega)
  rw [if_neg h0]
  rw [Nat.add_zero]at this
  exact this
theorem yQ (x:UInt32) (s:Nat) (g:s<32):(bB x.toUInt64 s).toNat=x.toNat*2^s:=by
 have h:=cw x
 rw [i6,bW,Nat.min_eq_left (by omega),Nat.mod_eq_of_lt]
 have f:2^s≤2^31:=Nat.pow_le_pow_right (by decide) (by omega)
 have i:x.toNat*2^s≤4294967295*2^31:=Nat.mul_le_mul (by omega) f
 have j:(2:Nat)^31=2147483648:=rfl
 omega
theorem By {p q:UInt32} (s:Nat) (f:q.toNat%2^s=0) (g:p.toNat<2^s):(p ||| q).toNat=p.toNat+q.toNat:=by
 rw [UInt32.toNat_or,Nat.or_comm,nm s f g,Nat.add_comm]
theorem ja {s:Nat} (f:s<32):2^s*2^(32 - s)=4294967296:=by
 rw [←Nat.pow_add,show s+(32 - s)=32 by omega]
def kn (a:List UInt32) (s w:Nat) (r:List UInt32) (i:Nat):List UInt32:=
 (r.set (i+w) (r.getD (i+w) 0 ||| (bB (a.getD i 0).toUInt64 s).toUInt32)).set (i+w+1) ((r.set (i+w) (r.getD (i+w) 0 ||| (bB (a.getD i 0).toUInt64 s).toUInt32)).getD (i+w+1) 0 ||| (aM (bB (a.getD i 0).toUInt64 s) 32).toUInt32)
theorem pY (a:List UInt32) (n:UInt64) (hn:n.toNat≤1000000000000) (ha:a.length+n.toNat / 32+1≤70368744177664):F.Fw a n=some (am (val a*2^n.toNat)):=by
 unfold F.Fw
 by_cases h0:a.length=0
 ·rw [if_pos (by simp [h0]),List.eq_nil_of_length_eq_zero h0,eh,Nat.zero_mul,bS]
 ·obtain ⟨w,hw⟩:∃w,n.toNat / 32=w:=⟨_,rfl⟩
  obtain ⟨s,hs⟩:∃s,n.toNat%32=s:=⟨_,rfl⟩
  have o:s<32:=by omega
  have e1:(n / 32).toNat=w:=by rw [UInt64.toNat_div,←hw]; rfl
  have e2:(n%32).toNat=s:=by rw [UInt64.toNat_mod,←hs]; rfl
  have O:2^n.toNat=4294967296^w*2^s:=by
   rw [show (4294967296:Nat)=2^32 from rfl,←Nat.pow_mul,←Nat.pow_add]
   congr 1; omega
  rw [if_neg (by simpa using fun h=>h0 (by rw [h]; rfl)),e1,aS,aJ (x:=(w:Int)) (by omega) (by omega),aJ (x:=(a.length:Int)+(w:Int)) (by omega) (by omega),aJ (by omega) (by omega),dQ (by omega),ae,
   show ((a.length:Int)+(w:Int)+1).toNat=a.length+w+1 by omega]
  have B:=ja o
  have R:1≤2^s:=Nat.one_le_two_pow
  -- what holds behind i words
  have step:∀(i:Nat) (r:List UInt32),i<a.length→(r.length=a.length+w+1∧(∀k,i+w<k→r.getD k 0=0)∧(r.getD (i+w) 0).toNat<2^s∧val r=4294967296^w*(val (a.take i)*2^s)) →
    ((kn a s w r i).length=a.length+w+1∧(∀k,i+1+w<k→(kn a s w r i).getD k 0=0)∧((kn a s w r i).getD (i+1+w) 0).toNat<2^s∧val (kn a s w r i)=4294967296^w*(val (a.take (i+1))*2^s)):=by
   rintro i r hi ⟨G,U,h3,I⟩
   unfold kn
   obtain ⟨v,V⟩:∃v,bB (a.getD i 0).toUInt64 s=v:=⟨_,rfl⟩
   have t:v.toNat=(a.getD i 0).toNat*2^s:=by rw [←V,yQ _ _ o]
   have Y:=cw (a.getD i 0)
   rw [V]
   have Z:=jG v
   -- the low part is a multiple of 2^s,the high part is below it
   have z:v.toUInt32.toNat%2^s=0:=by
    rw [el,t,←B]
    rw [Nat.mod_mul_right_mod,Nat.mul_mod_left]
   have a6:v.toUInt32.toNat+2^s≤4294967296:=by
    have J:=cw v.toUInt32
    obtain ⟨c,hc⟩:=Nat.dvd_of_mod_eq_zero z
    rw [hc]at J ⊢
    rw [←B]at J ⊢
    have:=Nat.lt_of_mul_lt_mul_left J
    have:=Nat.mul_le_mul_left (2^s) (show c+1≤2^(32 - s) by omega)
    rw [Nat.mul_add,Nat.mul_one]at this
    exact this
   have ab:(aM v 32).toNat<2^s:=by
    rw [kK,t,Nat.div_lt_iff_lt_mul (by decide),Nat.mul_comm (2^s)]
    exact Nat.mul_lt_mul_of_pos_right Y (by omega)
   have ac:=By (p:=r.getD (i+w) 0) (q:=v.toUInt32) s z h3
   obtain ⟨A,g⟩:∃A,r.set (i+w) (r.getD (i+w) 0 ||| v.toUInt32)=A:=⟨_,rfl⟩
   have K:A.length=a.length+w+1:=by rw [←g]; simpa using G
   have hz:A.getD (i+w+1) 0=0:=by rw [←g,dt (by omega)]; exact U _ (by omega)
   rw [g,hz,UInt32.zero_or]
   have v1:=dx r (i+w) (r.getD (i+w) 0 ||| v.toUInt32) (by omega)
   rw [g,ac]at v1
   have M:=dx A (i+w+1) (aM v 32).toUInt32 (by omega)
   rw [hz]at M
   have z0:(0:UInt32).toNat=0:=rfl
   rw [z0,Nat.mul_zero,Nat.add_zero,vm,←kK]at M
   refine ⟨by simpa using K,fun k hk=>?_,?_,?_⟩
   ·rw [dt (by omega),←g,dt (by omega)]; exact U k (by omega)
   ·rw [show i+1+w=i+w+1 by omega,List.getD_eq_getElem?_getD,List.getElem?_set_self (by omega)]
    simp only [Option.getD_some,vm,←kK]
    exact ab
   ·rw [M,bL,Nat.add_mul,Nat.mul_add,←I]
    have e3:4294967296^w*(4294967296^i*(a.getD i 0).toNat*2^s)=4294967296^(i+w)*v.toNat:=by
     rw [t,Nat.add_comm i w,Nat.pow_add,Nat.mul_assoc,Nat.mul_assoc]
    have e4:4294967296^(i+w)*v.toNat=4294967296^(i+w)*v.toUInt32.toNat+4294967296^(i+w+1)*(aM v 32).toNat:=by
     rw [Nat.pow_succ,Nat.mul_assoc,←Nat.mul_add,←Z]
    rw [e3,e4]
    rw [Nat.mul_add]at v1
    omega
  have m:(List.replicate (a.length+w+1) (0:UInt32)).length=a.length+w+1∧(∀k,0+w<k→(List.replicate (a.length+w+1) (0:UInt32)).getD k 0=0)∧((List.replicate (a.length+w+1) (0:UInt32)).getD (0+w) 0).toNat<2^s ∧
    val (List.replicate (a.length+w+1) 0)=4294967296^w*(val (a.take 0)*2^s):=by
   have hg:∀k,(List.replicate (a.length+w+1) (0:UInt32)).getD k 0=0:=fun k=>by
    rw [List.getD_eq_getElem?_getD,List.getElem?_replicate]; split <;> rfl
   exact ⟨by simp,fun k _=>hg k,by rw [hg]; exact Nat.lt_of_lt_of_le (show (0:UInt32).toNat<1 by decide) R,by rw [cn]; simp [val]⟩
  have e:=bY (f:=F.FO a n (w:Int)) (fun (x:List UInt32) i=>((i:Int),x))
   (fun i r=>i≤a.length→(r.length=a.length+w+1∧(∀k,i+w<k→r.getD k 0=0)∧(r.getD (i+w) 0).toNat<2^s∧val r=4294967296^w*(val (a.take i)*2^s))) (kn a s w) 0 a.length
   (X:=fun x=>F.C6 x)
   (fun i x _ hi j=>by
    have j:=j (by omega)
    refine ⟨?_,fun _=>step i x hi j⟩
    obtain ⟨G,_⟩:=j
    have w1:wI ((i:Int)+(w:Int))=((i+w:Nat):Int):=by rw [aJ (by omega) (by omega)]; rfl
    have w2:wI (((i+w:Nat):Int)+1)=((i+w+1:Nat):Int):=by rw [aJ (by omega) (by omega)]; rfl
    have w3:wI ((i:Int)+1)=((i+1:Nat):Int):=by rw [aJ (by omega) (by omega)]; rfl
    unfold F.FO
    dsimp only
    rw [if_pos (decide_eq_true (by omega)),aO hi 0,ae,aS,w1,w2,w3,e2,aO (show i+w<x.length by omega) 0,ae,ae,aS,Int.toNat_natCast,aO (show i+w+1<(x.set (i+w) (x.getD (i+w) 0 ||| (bB (a.getD i 0).toUInt64 s).toUInt32)).length by simp; omega) 0,ae,ae,aS,Int.toNat_natCast]
    rfl)
   (fun x j=>by
    unfold F.FO
    dsimp only
    rw [if_neg (by simp)]
    cases F.C6 x <;> rfl)
   a.length 0 _ (Nat.le_refl _) (by omega) (fun _=>m)
  refine e.trans ?_
  have N:=cD (fun i (r:List UInt32)=>i≤a.length→(r.length=a.length+w+1∧(∀k,i+w<k→r.getD k 0=0)∧(r.getD (i+w) 0).toNat<2^s∧val r=4294967296^w*(val (a.take i)*2^s))) (kn a s w)
   (fun i x j=>fun hi=>step i x (by omega) (j (by omega))) a.length 0 _ (fun _=>m)
  obtain ⟨y,hy⟩:∃y,(List.range' 0 a.length).foldl (kn a s w) (List.replicate (a.length+w+1) 0)=y:=⟨_,rfl⟩
  rw [hy]at N ⊢
  rw [Nat.zero_add]at N
  obtain ⟨G,_,_,I⟩:=N (Nat.le_refl _)
  rw [fZ _ (by omega),I,List.take_length,O,Nat.mul_left_comm]
end Go.Gk.Bn
end

section
namespace Go.Gk.Bn
open Go Go.Gk Go.Gk.Sh
theorem cg (a:List UInt32) (i:Nat):val (a.drop i)=(a.getD i 0).toNat+4294967296*val (a.drop (i+1)):=by
 by_cases h:i<a.length
 ·rw [List.drop_eq_getElem_cons h,du]
  congr 2
  rw [List.getD_eq_getElem?_getD,List.getElem?_eq_getElem h]; rfl
 ·rw [List.drop_of_length_le (by omega),List.drop_of_length_le (by omega),dN (by omega)]; rfl
theorem eN (a:List UInt32) (i:Nat):val a / 4294967296^i=val (a.drop i):=by
 by_cases h:i≤a.length
 ·have f:=bv (a.take i)
  rw [List.length_take,Nat.min_eq_left h]at f
  rw [db a i h,Nat.add_comm,Nat.mul_add_div (Nat.pow_pos (by decide)),Nat.div_eq_of_lt f,Nat.add_zero]
 ·have f:=bv a
  have g:=Nat.pow_le_pow_right (show 0<4294967296 by decide) (show a.length≤i by omega)
  rw [List.drop_of_length_le (by omega),Nat.div_eq_of_lt (by omega)]; rfl
theorem yM (a:List UInt32) (n:UInt64) (m:n.toNat<32) (O:a.length≤70368744177664):F.Io a n=some (am (val a / 2^n.toNat)):=by
 unfold F.Io
 have B:(n / 32).toNat=0:=by rw [UInt64.toNat_div]; exact Nat.div_eq_of_lt m
 have o:(n%32).toNat=n.toNat:=by rw [UInt64.toNat_mod]; exact Nat.mod_eq_of_lt m
 obtain ⟨s,G⟩:∃s,n.toNat=s:=⟨_,rfl⟩
 rw [G]at o m ⊢
 have w0:wI ((0:Nat):Int)=0:=rfl
 rw [B,aS,w0]
 by_cases h0:a.length=0
 ·rw [if_pos (decide_eq_true (by omega)),List.eq_nil_of_length_eq_zero h0,eh,Nat.zero_div,bS]
 ·rw [if_neg (by simp only [decide_eq_true_eq]; omega),Int.sub_zero,aJ (by omega) (by omega),dQ (by omega),ae,Int.toNat_natCast,←qk]
  have q:=ja m
  have t:∀i,(val a / 2^s) / 4294967296^i%4294967296=((a.getD i 0).toNat+4294967296*(a.getD (i+1) 0).toNat) / 2^s%4294967296:=by
   intro i
   rw [Nat.div_div_eq_div_mul,Nat.mul_comm,←Nat.div_div_eq_div_mul,eN,cg,cg]
   have:(a.getD i 0).toNat+4294967296*((a.getD (i+1) 0).toNat+4294967296*val (a.drop (i+1+1)))=((a.getD i 0).toNat+4294967296*(a.getD (i+1) 0).toNat)+2^s*(4294967296*(2^(32 - s)*val (a.drop (i+1+1)))):=by
    have:2^s*(4294967296*(2^(32 - s)*val (a.drop (i+1+1))))=4294967296*(4294967296*val (a.drop (i+1+1))):=by
     rw [Nat.mul_left_comm,←Nat.mul_assoc (2^s),q]
    rw [this,Nat.mul_add]; omega
   rw [this,Nat.add_mul_div_left _ _ (Nat.two_pow_pos s),Nat.add_mul_mod_self_left]
  have h:∀(i:Nat) (x:List UInt32),(x.length=i∧val x=(val a / 2^s)%4294967296^i) →
    ((x++[(aM ((a.getD i 0).toUInt64 ||| (bB (a.getD (i+1) 0).toUInt64 32)) s).toUInt32]).length=i+1∧val (x++[(aM ((a.getD i 0).toUInt64 ||| (bB (a.getD (i+1) 0).toUInt64 32)) s).toUInt32])=(val a / 2^s)%4294967296^(i+1)):=by
   rintro i x ⟨g,j⟩
   refine ⟨by simp [g],?_⟩
   rw [ft,g,j,Nat.mod_pow_succ,t i,el,dU,pj,Nat.min_eq_left (by omega)]
  have e:=bY (f:=F.FW a 0 n) (fun (x:List UInt32) i=>((i:Int),pad x a.length)) (fun i x=>x.length=i∧val x=(val a / 2^s)%4294967296^i)
   (fun x i=>x++[(aM ((a.getD i 0).toUInt64 ||| (bB (a.getD (i+1) 0).toUInt64 32)) s).toUInt32]) 0 a.length
   (X:=fun x=>F.C6 (pad x a.length))
   (fun i x _ hi k=>by
    refine ⟨?_,h i x k⟩
    obtain ⟨g,j⟩:=k
    have z:wI ((i:Int)+1)=((i+1:Nat):Int):=by rw [aJ (by omega) (by omega)]; rfl
    have I:wI ((i:Int)+0)=(i:Int):=by rw [aJ (by omega) (by omega)]; omega
    obtain ⟨u,J⟩:=lJ (x:=x) (n:=a.length) (i:=i) (by omega) (by omega)
    have A:∀v:UInt64,v=((a.getD i 0).toUInt64 ||| (bB (a.getD (i+1) 0).toUInt64 32))→F.Gq n (i:Int) (pad x a.length) v=some (.inl (((i+1:Nat):Int),pad (x++[(aM ((a.getD i 0).toUInt64 ||| (bB (a.getD (i+1) 0).toUInt64 32)) s).toUInt32]) a.length)):=by
     rintro v rfl
     unfold F.Gq
     dsimp only
     have:=nB (x:=x) (n:=a.length) (by omega) (aM ((a.getD i 0).toUInt64 ||| (bB (a.getD (i+1) 0).toUInt64 32)) s).toUInt32
     rw [g]at this
     rw [J,ae,aS,Int.toNat_natCast,z,o,this]; rfl
    unfold F.FW
    dsimp only
    rw [if_pos (decide_eq_true (by rw [gw (by omega)]; omega)),I,aO hi 0,ae,z]
    by_cases hb:i+1<a.length
    ·rw [if_pos (decide_eq_true (by omega)),aO hb 0,ae,aS,A _ rfl]
    ·rw [if_neg (by simp only [decide_eq_true_eq]; omega),A _ (by
      apply UInt64.toNat_inj.1
      rw [pj,dN (a:=a) (i:=i+1) (by omega),bW]; rfl)])
   (fun x k=>by
    unfold F.FW
    dsimp only
    rw [if_neg (by rw [gw (by omega)]; simp)]
    cases F.C6 (pad x a.length) <;> rfl)
   a.length 0 [] (Nat.le_refl _) (by omega) ⟨rfl,by simp [val,Nat.mod_one]⟩
  refine e.trans ?_
  obtain ⟨g,j⟩:=cD (fun i (x:List UInt32)=>x.length=i∧val x=(val a / 2^s)%4294967296^i) (fun x i=>x++[(aM ((a.getD i 0).toUInt64 ||| (bB (a.getD (i+1) 0).toUInt64 32)) s).toUInt32])
   (fun i x k=>h i x k) a.length 0 [] ⟨rfl,by simp [val,Nat.mod_one]⟩
  obtain ⟨y,K⟩:∃y,(List.range' 0 a.length).foldl (fun x i=>x++[(aM ((a.getD i 0).toUInt64 ||| (bB (a.getD (i+1) 0).toUInt64 32)) s).toUInt32]) []=y:=⟨_,rfl⟩
  rw [K]at g j ⊢
  rw [Nat.zero_add]at g j
  have M:=bv a
  have N:=Nat.div_le_self (val a) (2^s)
  rw [fZ _ (by rw [gw (by omega)]; omega),kV,j,Nat.mod_eq_of_lt (by omega)]
theorem xH (u v:UInt32) (c:UInt64) (hc:c.toNat≤1):((u.toUInt64 - v.toUInt64) - c).toUInt32.toNat+c.toNat+v.toNat=u.toNat+4294967296*(aM ((u.toUInt64 - v.toUInt64) - c) 63).toNat∧(aM ((u.toUInt64 - v.toUInt64) - c) 63).toNat≤1:=by
 have f:=cw u; have g:=cw v
 rw [el,zo,UInt64.toNat_sub,UInt64.toNat_sub,bW,bW]
 omega
theorem yd (u:UInt32) (c d:UInt64) (hc:c.toNat≤4294967295) (f:d.toNat≤1):((u.toUInt64 - c) - d).toUInt32.toNat+c.toNat+d.toNat=u.toNat+4294967296*(aM ((u.toUInt64 - c) - d) 63).toNat∧(aM ((u.toUInt64 - c) - d) 63).toNat≤1:=by
 have g:=cw u
 rw [el,zo,UInt64.toNat_sub,UInt64.toNat_sub,bW]
 omega
abbrev MS:=UInt64×UInt64×List UInt32
def msS (g:UInt64) (v:List UInt32) (j:Nat) (x:MS) (i:Nat):MS:=
 (aM (x.1+g*(v.getD i 0).toUInt64) 32,aM (((x.2.2.getD (j+i) 0).toUInt64 - (x.1+g*(v.getD i 0).toUInt64).toUInt32.toUInt64) - x.2.1) 63,
  x.2.2.set (j+i) (((x.2.2.getD (j+i) 0).toUInt64 - (x.1+g*(v.getD i 0).toUInt64).toUInt32.toUInt64) - x.2.1).toUInt32)
def MSI (g:UInt64) (v u:List UInt32) (j i:Nat) (x:MS):Prop:=
 x.2.2.length=u.length∧(∀k,k<j∨j+i≤k→x.2.2.getD k 0=u.getD k 0)∧val x.2.2+4294967296^j*(g.toNat*val (v.take i))=val u+4294967296^(j+i)*(x.1.toNat+x.2.1.toNat)∧x.1.toNat≤4294967295∧x.2.1.toNat≤1
theorem uU {g:UInt64} {v u:List UInt32} {j i:Nat} {x:MS} (z:g.toNat≤4294967295) (O:j+i<u.length) (h:MSI g v u j i x):MSI g v u j (i+1) (msS g v j x i):=by
 obtain ⟨A,B,F,R,G⟩:=h
 unfold msS
 have m:=iH (v.getD i 0)
 have U:g.toNat*(v.getD i 0).toNat≤4294967295*4294967295:=Nat.mul_le_mul z m
 have o:(x.1+g*(v.getD i 0).toUInt64).toNat=x.1.toNat+g.toNat*(v.getD i 0).toNat:=by
  have f:(g*(v.getD i 0).toUInt64).toNat=g.toNat*(v.getD i 0).toNat:=by rw [nC _ _ (by rw [bW]; omega),bW]
  rw [fR _ _ (by rw [f]; omega),f]
 obtain ⟨C,I⟩:∃C,x.1+g*(v.getD i 0).toUInt64=C:=⟨_,rfl⟩
 rw [I]at o ⊢
 obtain ⟨f,q⟩:=xH (x.2.2.getD (j+i) 0) C.toUInt32 x.2.1 G
 obtain ⟨t,J⟩:∃t,((x.2.2.getD (j+i) 0).toUInt64 - C.toUInt32.toUInt64) - x.2.1=t:=⟨_,rfl⟩
 rw [J]at f q ⊢
 have y:=jG C
 refine ⟨by simpa using A,fun k V=>?_,?_,?_,q⟩
 ·simp only
  rw [dt (by omega)]; exact B k (by omega)
 ·simp only
  have X:=dx x.2.2 (j+i) t.toUInt32 (by omega)
  rw [bL,Nat.mul_add,Nat.mul_add]
  have K:4294967296^j*(g.toNat*(4294967296^i*(v.getD i 0).toNat))=4294967296^(j+i)*(g.toNat*(v.getD i 0).toNat):=by
   rw [Nat.pow_add,Nat.mul_assoc,Nat.mul_left_comm g.toNat]
  have M:4294967296^(j+i)*(t.toUInt32.toNat+x.2.1.toNat+C.toUInt32.toNat)=4294967296^(j+i)*((x.2.2.getD (j+i) 0).toNat+4294967296*(aM t 63).toNat):=by rw [f]
  have N:4294967296^(j+i)*(x.1.toNat+g.toNat*(v.getD i 0).toNat)=4294967296^(j+i)*(C.toUInt32.toNat+4294967296*(aM C 32).toNat):=by rw [←o,←y]
  rw [K,←Nat.add_assoc j i 1,Nat.pow_succ,Nat.mul_assoc]
  rw [Nat.mul_add,Nat.mul_add,Nat.mul_add]at M
  rw [Nat.mul_add,Nat.mul_add]at N
  rw [Nat.mul_add]at F
  rw [Nat.mul_add,Nat.mul_add]
  omega
 ·simp only [kK]; omega
end Go.Gk.Bn
end

section
namespace Go.Gk.Bn
open Go Go.Gk Go.Gk.Sh
theorem mC {a:List UInt32} {m:Nat} (h:∀k,m≤k→a.getD k 0=0):val a<4294967296^m:=by
 by_cases hm:m≤a.length
 ·have g:a.drop m=List.replicate (a.length - m) 0:=by
   refine List.ext_getElem (by simp) fun i j o=>?_
   have:=h (m+i) (by omega)
   rw [List.getD_eq_getElem?_getD,List.getElem?_eq_getElem (by simp at j; omega)]at this
   rw [List.getElem_drop,List.getElem_replicate]
   exact this
  have f:=bv (a.take m)
  rw [List.length_take,Nat.min_eq_left hm]at f
  rw [db a m hm,g,cn]
  simpa using f
 ·exact Nat.lt_of_lt_of_le (bv a) (Nat.pow_le_pow_right (by decide) (by omega))
theorem uF {a:List UInt32} {m:Nat} (h:val a<4294967296^m) (k:Nat) (f:m≤k):a.getD k 0=0:=by
 have g:val a / 4294967296^k=0:=Nat.div_eq_of_lt (Nat.lt_of_lt_of_le h (Nat.pow_le_pow_right (by decide) f))
 rw [eN,cg]at g
 exact UInt32.toNat_inj.1 (by show _=0; omega)
theorem gi {a:List UInt32} {m:Nat} (h:val a<4294967296^m):val (a.drop m)=0:=by
 rw [←eN,Nat.div_eq_of_lt h]
def abS (v:List UInt32) (j:Nat) (x:UInt64×List UInt32) (i:Nat):UInt64×List UInt32:=
 (aM (x.1+((x.2.getD (i+j) 0).toUInt64+(v.getD i 0).toUInt64)) 32,x.2.set (i+j) (x.1+((x.2.getD (i+j) 0).toUInt64+(v.getD i 0).toUInt64)).toUInt32)
def ABI (v u:List UInt32) (j i:Nat) (x:UInt64×List UInt32):Prop:=
 x.2.length=u.length∧(∀k,k<j∨j+i≤k→x.2.getD k 0=u.getD k 0)∧val x.2+4294967296^(j+i)*x.1.toNat=val u+4294967296^j*val (v.take i)∧x.1.toNat≤1
theorem uD {v u:List UInt32} {j i:Nat} {x:UInt64×List UInt32} (A:j+i<u.length) (h:ABI v u j i x):ABI v u j (i+1) (abS v j x i):=by
 obtain ⟨q,t,B,F⟩:=h
 unfold abS
 have G:=iH (x.2.getD (i+j) 0); have I:=iH (v.getD i 0)
 obtain ⟨s,f⟩:∃s,x.1+((x.2.getD (i+j) 0).toUInt64+(v.getD i 0).toUInt64)=s:=⟨_,rfl⟩
 have g:s.toNat=x.1.toNat+((x.2.getD (i+j) 0).toNat+(v.getD i 0).toNat):=by
  have m:((x.2.getD (i+j) 0).toUInt64+(v.getD i 0).toUInt64).toNat=(x.2.getD (i+j) 0).toNat+(v.getD i 0).toNat:=by rw [fR _ _ (by rw [bW,bW]; omega),bW,bW]
  rw [←f,fR _ _ (by rw [m]; omega),m]
 rw [f]
 have o:=jG s
 refine ⟨by simpa using q,fun k J=>?_,?_,by simp only [kK]; omega⟩
 ·simp only
  rw [dt (by omega)]; exact t k (by omega)
 ·simp only
  have K:=dx x.2 (i+j) s.toUInt32 (by omega)
  have y:4294967296^(j+i)*s.toNat=4294967296^(j+i)*s.toUInt32.toNat+4294967296^(j+(i+1))*(aM s 32).toNat:=by
   rw [←Nat.add_assoc,Nat.pow_succ,Nat.mul_assoc,←Nat.mul_add,←o]
  have z:4294967296^j*(4294967296^i*(v.getD i 0).toNat)=4294967296^(j+i)*(v.getD i 0).toNat:=by rw [Nat.pow_add,Nat.mul_assoc]
  rw [bL,Nat.mul_add,z]
  rw [g,Nat.mul_add,Nat.mul_add]at y
  rw [Nat.add_comm i j]at *
  omega
theorem Bm (v u q:List UInt32) (j:Nat) (g:UInt64) (hg:g.toNat≤4294967295) (hj:j+v.length<u.length) (hq:j<q.length) (hs:u.length≤70368744177664) (e0:q.length≤70368744177664)
  (h1:val u<4294967296^j*((g.toNat+1)*val v)) (h2:4294967296^j*(g.toNat*val v)≤val u+4294967296^j*val v) (h3:val u<4294967296^(j+v.length+1)) :
  ∃(d:UInt64) (o:List UInt32),loop (F.EB v (j:Int) g q) (0,0,0,u)=some (.inl ((j:Int) - 1,o,q.set j d.toUInt32))∧o.length=u.length ∧
   val o+4294967296^j*(d.toNat*val v)=val u∧val o<4294967296^j*val v∧d.toNat≤4294967295:=by
 have w2:wI ((j:Int)+(v.length:Int))=((j+v.length:Nat):Int):=by rw [aJ (by omega) (by omega)]; rfl
 have wj:wI ((j:Int) - 1)=(j:Int) - 1:=aJ (by omega) (by omega)
 have Y:∀(d:UInt64) (y:List UInt32),F.Et (j:Int) q (d,y)=some (.inl ((j:Int) - 1,y,q.set j d.toUInt32)):=by
  intro d y
  unfold F.Et
  dsimp only
  rw [aO hq 0,ae,aS,Int.toNat_natCast,wj]; rfl
 have dd:=Nat.pow_pos (n:=j) (show 0<4294967296 by decide)
 have h0:MSI g v u j 0 (0,0,u):=⟨rfl,fun _ _=>rfl,by simp [val],by simp,by simp⟩
 have hz:=fun k (N:j+v.length+1≤k)=>uF h3 k N
 -- behind the loop
 have a5:∀x:MS,MSI g v u j v.length x→∃(d:UInt64) (o:List UInt32),
   (ah (aA x.2.2 (wI ((j:Int)+(v.length:Int)):Int)) fun I=>br ((I.toUInt64 - x.1) - x.2.1) fun z=>ah (aA x.2.2 (wI ((j:Int)+(v.length:Int)):Int)) fun ap=>
    br (x.2.2.set (wI ((j:Int)+(v.length:Int)):Int).toNat z.toUInt32) fun A=>if ((aM z 63) != 0)=true then loop (F.D3 v (j:Int) g q) (0,0,A) else F.Et (j:Int) q (g,A))
    = some (.inl ((j:Int) - 1,o,q.set j d.toUInt32))∧o.length=u.length∧val o+4294967296^j*(d.toNat*val v)=val u∧val o<4294967296^j*val v∧d.toNat≤4294967295:=by
  rintro x ⟨e1,e2,e3,e4,e5⟩
  rw [w2,aO (show j+v.length<x.2.2.length by omega) 0,ae,aS,ae,aS,Int.toNat_natCast]
  obtain ⟨f1,f2⟩:=yd (x.2.2.getD (j+v.length) 0) x.1 x.2.1 e4 e5
  obtain ⟨t,ht⟩:∃t,((x.2.2.getD (j+v.length) 0).toUInt64 - x.1) - x.2.1=t:=⟨_,rfl⟩
  rw [ht]at f1 f2 ⊢
  have hv:=dx x.2.2 (j+v.length) t.toUInt32 (by omega)
  obtain ⟨m,O⟩:∃m,x.2.2.set (j+v.length) t.toUInt32=m:=⟨_,rfl⟩
  have b2:m.length=u.length:=by rw [←O]; simpa using e1
  have Z:∀k,j+v.length+1≤k→m.getD k 0=0:=fun k N=>by
   rw [←O,dt (by omega),e2 k (by omega)]; exact hz k N
  have er:=mC Z
  rw [O]at hv ⊢
  rw [List.take_length]at e3
  have G:val m+4294967296^j*(g.toNat*val v)=val u+4294967296^(j+v.length+1)*(aM t 63).toNat:=by
   have:=congrArg (4294967296^(j+v.length)*·) f1
   simp only [Nat.mul_add]at this
   rw [Nat.mul_add]at e3
   rw [Nat.pow_succ,Nat.mul_assoc]
   omega
  by_cases hb:(aM t 63).toNat=0
  ·have:aM t 63=0:=UInt64.toNat_inj.1 hb
   rw [if_neg (by rw [this]; decide),Y]
   rw [hb,Nat.mul_zero,Nat.add_zero]at G
   refine ⟨g,m,rfl,b2,G,?_,hg⟩
   rw [Nat.add_mul,Nat.one_mul,Nat.mul_add]at h1
   omega
  ·have b3:(aM t 63).toNat=1:=by omega
   have b4:¬aM t 63=0:=fun h=>hb (by rw [h]; rfl)
   rw [if_pos (by simpa using b4)]
   rw [b3,Nat.mul_one]at G
   have b5:1≤g.toNat:=by
    rcases Nat.eq_zero_or_pos g.toNat with h | h
    ·rw [h,Nat.zero_mul,Nat.mul_zero]at G; omega
    ·exact h
   have a0:ABI v m j 0 (0,m):=⟨rfl,fun _ _=>rfl,by simp [val],by simp⟩
   have e:=bY (f:=F.D3 v (j:Int) g q) (fun (y:UInt64×List UInt32) i=>(y.1,(i:Int),y.2)) (fun i y=>i≤v.length→ABI v m j i y) (abS v j) 0 v.length
    (X:=fun y=>some (.inl ((j:Int) - 1,y.2.set (j+v.length) (y.2.getD (j+v.length) 0+y.1.toUInt32),q.set j (g - 1).toUInt32)))
    (fun i y _ hi B=>by
     have B:=B (by omega)
     refine ⟨?_,fun _=>uD (by omega) B⟩
     have b7:=B.1
     have w3:wI ((i:Int)+(j:Int))=((i+j:Nat):Int):=by rw [aJ (by omega) (by omega)]; rfl
     have w4:wI ((i:Int)+1)=((i+1:Nat):Int):=by rw [aJ (by omega) (by omega)]; rfl
     unfold F.D3
     dsimp only
     rw [if_pos (decide_eq_true (by omega)),w3,aO (show i+j<y.2.length by omega) 0,ae,aO hi 0,ae,aS,ae,aS,Int.toNat_natCast,w4]
     rfl)
    (fun y B=>by
     have b7:=(B (Nat.le_refl _)).1
     unfold F.D3
     dsimp only
     rw [if_neg (by simp),w2,aO (show j+v.length<y.2.length by omega) 0,ae,ae,aS,Int.toNat_natCast,Y])
    v.length 0 (0,m) (Nat.le_refl _) (by omega) (fun _=>a0)
   have K:=cD (fun i (y:UInt64×List UInt32)=>i≤v.length→ABI v m j i y) (abS v j) (fun i y B=>fun hi=>uD (by omega) (B (by omega))) v.length 0 (0,m) (fun _=>a0)
   obtain ⟨y,B⟩:∃y,(List.range' 0 v.length).foldl (abS v j) (0,m)=y:=⟨_,rfl⟩
   rw [B]at K e
   rw [Nat.zero_add]at K
   obtain ⟨k1,k2,k3,k4⟩:=K (Nat.le_refl _)
   rw [List.take_length]at k3
   refine ⟨g - 1,_,e,by rw [List.length_set]; omega,?_⟩
   have b8:(g - 1).toNat=g.toNat - 1:=by
    rw [UInt64.toNat_sub_of_le _ _ (by rw [UInt64.le_iff_toNat_le]; exact b5)]; rfl
   obtain ⟨V,ab⟩:∃V,y.2.set (j+v.length) (y.2.getD (j+v.length) 0+y.1.toUInt32)=V:=⟨_,rfl⟩
   have b9:=dx y.2 (j+v.length) (y.2.getD (j+v.length) 0+y.1.toUInt32) (by omega)
   rw [ab]at b9 ⊢
   have cm:∀k,j+v.length+1≤k→V.getD k 0=0:=fun k N=>by
    rw [←ab,dt (by omega),k2 k (by omega)]; exact Z k N
   have eC:=mC cm
   have hw:=cw (y.2.getD (j+v.length) 0)
   have R:(y.2.getD (j+v.length) 0+y.1.toUInt32).toNat+4294967296*(((y.2.getD (j+v.length) 0).toNat+y.1.toNat) / 4294967296)=(y.2.getD (j+v.length) 0).toNat+y.1.toNat:=by
    rw [UInt32.toNat_add,el,Nat.mod_eq_of_lt (a:=y.1.toNat) (by omega)]; omega
   obtain ⟨M,co⟩:∃M,((y.2.getD (j+v.length) 0).toNat+y.1.toNat) / 4294967296=M:=⟨_,rfl⟩
   rw [co]at R
   have e6:M≤1:=by omega
   have U:val V+4294967296^(j+v.length+1)*M=val m+4294967296^j*val v:=by
    have:=congrArg (4294967296^(j+v.length)*·) R
    simp only [Nat.mul_add]at this
    rw [Nat.pow_succ,Nat.mul_assoc]
    omega
   obtain ⟨g',ac⟩:∃g',g.toNat=g'+1:=⟨g.toNat - 1,by omega⟩
   rw [b8,ac,Nat.add_sub_cancel]
   rw [ac,Nat.add_mul,Nat.one_mul,Nat.mul_add]at G h2
   have cy:M=1:=by
    rcases Nat.eq_zero_or_pos M with h | h
    ·rw [h,Nat.mul_zero]at U; omega
    ·omega
   rw [cy,Nat.mul_one]at U
   exact ⟨by omega,by omega,by omega⟩
 have e:=bY (f:=F.EB v (j:Int) g q) (fun (x:MS) i=>(x.1,x.2.1,(i:Int),x.2.2)) (fun i x=>i≤v.length→MSI g v u j i x) (msS g v j) 0 v.length
  (X:=fun x=>(ah (aA x.2.2 (wI ((j:Int)+(v.length:Int)):Int)) fun I=>br ((I.toUInt64 - x.1) - x.2.1) fun z=>ah (aA x.2.2 (wI ((j:Int)+(v.length:Int)):Int)) fun ap=>
    br (x.2.2.set (wI ((j:Int)+(v.length:Int)):Int).toNat z.toUInt32) fun A=>if ((aM z 63) != 0)=true then loop (F.D3 v (j:Int) g q) (0,0,A) else F.Et (j:Int) q (g,A)))
  (fun i x _ hi J=>by
   have J:=J (by omega)
   refine ⟨?_,fun _=>uU hg (by omega) J⟩
   have e7:=J.1
   have w3:wI ((i:Int)+(j:Int))=((j+i:Nat):Int):=by rw [aJ (by omega) (by omega)]; omega
   have w4:wI ((i:Int)+1)=((i+1:Nat):Int):=by rw [aJ (by omega) (by omega)]; rfl
   unfold F.EB
   dsimp only
   rw [if_pos (decide_eq_true (by omega)),aO hi 0,ae,aS,w3,aO (show j+i<x.2.2.length by omega) 0,ae,aS,ae,aS,Int.toNat_natCast,w4]
   rfl)
  (fun x J=>by
   unfold F.EB
   dsimp only
   rw [if_neg (by simp)])
  v.length 0 (0,0,u) (Nat.le_refl _) (by omega) (fun _=>h0)
 have K:=cD (fun i (x:MS)=>i≤v.length→MSI g v u j i x) (msS g v j) (fun i x J=>fun hi=>uU hg (by omega) (J (by omega))) v.length 0 (0,0,u) (fun _=>h0)
 rw [Nat.zero_add]at K
 obtain ⟨d,o,r1,r2⟩:=a5 _ (K (Nat.le_refl _))
 exact ⟨d,o,e.trans r1,r2⟩
end Go.Gk.Bn
end

section
namespace Go.Gk.Bn
open Go Go.Gk Go.Gk.Sh
theorem rC (x y:UInt32):((bB x.toUInt64 32) ||| y.toUInt64).toNat=4294967296*x.toNat+y.toNat:=by
 have:=cw x
 rw [tf _ _ (by rw [bW]; omega),bW]
theorem za (v u q:List UInt32) (j:Nat) (f o t:UInt32) (h K z V':Nat) (hn:2≤v.length) (hj:j+v.length<u.length) (hs:u.length≤70368744177664)
  (Y:u.getD (j+v.length - 2) 0=t) (J:val v=(f.toNat*4294967296+o.toNat)*K+V') (Z:z<K) (N:V'<K) (O:1≤f.toNat)
  (ab:(h*4294967296+t.toNat)*K+z<4294967296*val v) (hh:h≤f.toNat*4294967296+4294967295) :
  ∀(m:Nat) (g r:UInt64),g.toNat=m→h=g.toNat*f.toNat+r.toNat→r.toNat≤4294967295→(h*4294967296+t.toNat)*K+z<(g.toNat+1)*val v →
   ∃y:UInt64,loop (F.Fq v o (j:Int) u f q) (g,r)=F.EY u v (j:Int) q y∧y.toNat≤4294967295∧(h*4294967296+t.toNat)*K+z<(y.toNat+1)*val v ∧
    y.toNat*val v<(h*4294967296+t.toNat)*K+z+val v:=by
 have x1:=cw f; have x2:=cw o; have x3:=cw t
 have w0:wI ((wI ((j:Int)+(v.length:Int))) - 2)=((j+v.length - 2:Nat):Int):=by
  rw [aJ (x:=(j:Int)+(v.length:Int)) (by omega) (by omega),aJ (by omega) (by omega)]; omega
 intro m
 induction m using Nat.strongRecOn with
 | ind m ih=>
  intro g r hm A hr ac
  -- too great
  have B:F.Fq v o (j:Int) u f q (g,r)=F.DO f g r u v (j:Int) q true→(4294967296≤g.toNat∨r.toNat*4294967296+t.toNat<g.toNat*o.toNat) →
    ∃y:UInt64,loop (F.Fq v o (j:Int) u f q) (g,r)=F.EY u v (j:Int) q y∧y.toNat≤4294967295∧(h*4294967296+t.toNat)*K+z<(y.toNat+1)*val v ∧
    y.toNat*val v<(h*4294967296+t.toNat)*K+z+val v:=by
   intro i M
   have ad:1≤g.toNat:=by
    rcases Nat.eq_zero_or_pos g.toNat with U | U
    ·rw [U]at M; omega
    ·exact U
   have R:(g - 1).toNat=g.toNat - 1:=by
    rw [UInt64.toNat_sub_of_le _ _ (by rw [UInt64.le_iff_toNat_le]; exact ad)]; rfl
   have ap:(r+f.toUInt64).toNat=r.toNat+f.toNat:=by rw [fR _ _ (by rw [bW]; omega),bW]
   have hd:=rU (K:=K) (V':=V') A Z M (by rw [←J]; exact ab)
   rw [←J]at hd
   obtain ⟨k,V⟩:∃k,g.toNat=k+1:=⟨g.toNat - 1,by omega⟩
   have G:h=(g - 1).toNat*f.toNat+(r+f.toUInt64).toNat:=by
    rw [R,ap,A,V,Nat.add_sub_cancel,Nat.add_mul]; omega
   have I:(h*4294967296+t.toNat)*K+z<((g - 1).toNat+1)*val v:=by
    rw [R,V,Nat.add_sub_cancel,←V]; exact hd
   unfold F.DO at i
   rw [if_pos rfl]at i
   by_cases hb:4294967295<(r+f.toUInt64).toNat
   ·rw [if_pos (decide_eq_true (by rw [UInt64.lt_iff_toNat_lt]; exact hb))]at i
    have a1:(g - 1).toNat<4294967296:=by
     have:(g - 1).toNat*f.toNat<4294967296*f.toNat:=by omega
     exact Nat.lt_of_mul_lt_mul_right this
    refine ⟨g - 1,bO i,by omega,I,?_⟩
    rw [J]
    refine xx G N O a1 ?_
    have:=Nat.mul_le_mul (show (g - 1).toNat≤4294967295 by omega) (show o.toNat≤4294967295 by omega)
    omega
   ·rw [if_neg (by simp only [decide_eq_true_eq,UInt64.lt_iff_toNat_lt]; exact hb)]at i
    obtain ⟨y,q1,q2⟩:=ih (g - 1).toNat (by omega) (g - 1) (r+f.toUInt64) rfl G (by omega) I
    exact ⟨y,(bI i).trans q1,q2⟩
  have i:F.Fq v o (j:Int) u f q (g,r)=if (decide ((4294967295:UInt64)<g))=true then F.DO f g r u v (j:Int) q true else
    ah (aA u (wI ((wI ((j:Int)+(v.length:Int))) - 2):Int)) fun X=>F.DO f g r u v (j:Int) q (decide (((bB r 32) ||| X.toUInt64)<(g*o.toUInt64))):=rfl
  by_cases hg:4294967295<g.toNat
  ·rw [if_pos (decide_eq_true (by rw [UInt64.lt_iff_toNat_lt]; exact hg))]at i
   exact B i (.inl (by omega))
  ·rw [if_neg (by simp only [decide_eq_true_eq,UInt64.lt_iff_toNat_lt]; exact hg),w0,aO (show j+v.length - 2<u.length by omega) 0,ae,Y]at i
   have e1:((bB r 32) ||| t.toUInt64).toNat=4294967296*r.toNat+t.toNat:=tf _ _ hr
   have hp:=Nat.mul_le_mul (show g.toNat≤4294967295 by omega) (show o.toNat≤4294967295 by omega)
   have e2:(g*o.toUInt64).toNat=g.toNat*o.toNat:=by rw [nC _ _ (by rw [bW]; omega),bW]
   by_cases M:r.toNat*4294967296+t.toNat<g.toNat*o.toNat
   ·rw [show decide (((bB r 32) ||| t.toUInt64)<(g*o.toUInt64))=true from decide_eq_true (by rw [UInt64.lt_iff_toNat_lt,e1,e2]; omega)]at i
    exact B i (.inr M)
   ·rw [show decide (((bB r 32) ||| t.toUInt64)<(g*o.toUInt64))=false from decide_eq_false (by rw [UInt64.lt_iff_toNat_lt,e1,e2]; omega)]at i
    unfold F.DO at i
    rw [if_neg (by decide)]at i
    refine ⟨g,bO i,by omega,ac,?_⟩
    rw [J]
    exact xx A N O (by omega) (by omega)
theorem yj (s:UInt64) (v u q:List UInt32) (j:Nat) (hn:2≤v.length) (Y:2147483648≤(v.getD (v.length - 1) 0).toNat) (Z:j+v.length<u.length) (hq:j<q.length) (hs:u.length≤70368744177664) (a6:q.length≤70368744177664)
  (hu:val u<4294967296^(j+1)*val v) :
  ∃(d:UInt64) (t:List UInt32),F.Fe s v (v.getD (v.length - 1) 0) (v.getD (v.length - 2) 0) ((j:Int),u,q)=some (.inl ((j:Int) - 1,t,q.set j d.toUInt32))∧t.length=u.length ∧
   val t+4294967296^j*(d.toNat*val v)=val u∧val t<4294967296^j*val v∧d.toNat≤4294967295:=by
 obtain ⟨f,y⟩:∃f,v.getD (v.length - 1) 0=f:=⟨_,rfl⟩
 obtain ⟨m,G⟩:∃m,v.getD (v.length - 2) 0=m:=⟨_,rfl⟩
 obtain ⟨i,I⟩:∃i,u.getD (j+v.length) 0=i:=⟨_,rfl⟩
 obtain ⟨o,J⟩:∃o,u.getD (j+v.length - 1) 0=o:=⟨_,rfl⟩
 obtain ⟨k,M⟩:∃k,u.getD (j+v.length - 2) 0=k:=⟨_,rfl⟩
 rw [y]at Y
 have x1:=cw f; have x2:=cw m; have y0:=cw i; have y1:=cw o; have y2:=cw k
 -- the divisor's parts
 have eV:val v=(f.toNat*4294967296+m.toNat)*4294967296^(v.length - 2)+val (v.take (v.length - 2)):=by
  have:=db v (v.length - 2) (by omega)
  rw [cg,show v.length - 2+1=v.length - 1 by omega,cg,show v.length - 1+1=v.length by omega,List.drop_length,eh,y,G]at this
  rw [this,Nat.mul_zero,Nat.add_zero,Nat.mul_comm (4294967296^_),Nat.add_comm m.toNat,Nat.mul_comm 4294967296 f.toNat]
  omega
 have z:val (v.take (v.length - 2))<4294967296^(v.length - 2):=by
  have:=bv (v.take (v.length - 2))
  rwa [List.length_take,Nat.min_eq_left (by omega)]at this
 have b2:=bv v
 have N:val u<4294967296^(j+v.length+1):=by
  have:=Nat.mul_lt_mul_of_pos_left b2 (Nat.pow_pos (n:=j+1) (show 0<4294967296 by decide))
  rw [←Nat.pow_add,show j+1+v.length=j+v.length+1 by omega]at this
  omega
 -- the dividend's parts
 obtain ⟨K,hK⟩:∃K,4294967296^(v.length - 2)=K:=⟨_,rfl⟩
 obtain ⟨x,O⟩:∃x,val ((u.drop j).take (v.length - 2))=x:=⟨_,rfl⟩
 have ac:x<K:=by
  have:=bv ((u.drop j).take (v.length - 2))
  rw [List.length_take,List.length_drop,Nat.min_eq_left (by omega)]at this
  rw [←O,←hK]; exact this
 obtain ⟨h,hh⟩:∃h,i.toNat*4294967296+o.toNat=h:=⟨_,rfl⟩
 have eU:val u / 4294967296^j=(h*4294967296+k.toNat)*K+x:=by
  have A:=db (u.drop j) (v.length - 2) (by rw [List.length_drop]; omega)
  rw [List.drop_drop,show j+(v.length - 2)=j+v.length - 2 by omega,cg u (j+v.length - 2),show j+v.length - 2+1=j+v.length - 1 by omega,cg u (j+v.length - 1),show j+v.length - 1+1=j+v.length by omega,cg u (j+v.length),gi N,O,hK,I,J,M]at A
  rw [eN,A,←hh,Nat.mul_zero,Nat.add_zero,Nat.mul_comm K]
  have:k.toNat+4294967296*(o.toNat+4294967296*i.toNat)=(i.toNat*4294967296+o.toNat)*4294967296+k.toNat:=by omega
  rw [this]; omega
 rw [hK]at eV z
 have B:=Nat.pow_pos (n:=j) (show 0<4294967296 by decide)
 have ap:(h*4294967296+k.toNat)*K+x<4294967296*val v:=by
  rw [←eU,Nat.div_lt_iff_lt_mul B,Nat.mul_comm]
  rw [Nat.pow_succ,Nat.mul_assoc]at hu
  exact hu
 -- the first word is no greater than the divisor's
 have b9:i.toNat≤f.toNat:=by
  rcases Nat.lt_or_ge f.toNat i.toNat with A | A
  ·exfalso
   have a1:(f.toNat*4294967296+m.toNat+1)*K≤(i.toNat*4294967296)*K:=Nat.mul_le_mul_right _ (by omega)
   have a2:val v<(f.toNat*4294967296+m.toNat+1)*K:=by rw [eV,Nat.add_mul (f.toNat*4294967296+m.toNat) 1 K,Nat.one_mul]; exact Nat.add_lt_add_left z _
   have a4:=Nat.mul_le_mul_right K (show 4294967296*(i.toNat*4294967296)≤h*4294967296+k.toNat by omega)
   rw [Nat.mul_assoc 4294967296]at a4
   omega
  ·exact A
 have R:¬f.toUInt64=0:=by
  intro h0
  have:=congrArg UInt64.toNat h0
  rw [bW]at this
  simp at this
  omega
 obtain ⟨H,hH⟩:∃H,(bB i.toUInt64 32) ||| o.toUInt64=H:=⟨_,rfl⟩
 have U:H.toNat=h:=by rw [←hH,rC,←hh]; omega
 have V:(H / f.toUInt64).toNat=h / f.toNat:=by rw [UInt64.toNat_div,bW,U]
 have X:(H%f.toUInt64).toNat=h%f.toNat:=by rw [UInt64.toNat_mod,bW,U]
 have c5:=Nat.div_add_mod h f.toNat
 have dd:=Nat.mod_lt h (show 0<f.toNat by omega)
 obtain ⟨g,hg,g1,g2,g3⟩:=za v u q j f m k h K x (val (v.take (v.length - 2))) hn Z hs M eV ac z (by omega) ap (by omega) _ (H / f.toUInt64) (H%f.toUInt64) rfl
  (by rw [V,X,Nat.mul_comm]; omega) (by rw [X]; omega) (by
   rw [V]
   have a1:h+1≤(h / f.toNat+1)*f.toNat:=by rw [Nat.add_mul,Nat.mul_comm (h / f.toNat)]; omega
   have a2:(h+1)*(4294967296*K)≤(h / f.toNat+1)*f.toNat*(4294967296*K):=Nat.mul_le_mul_right _ a1
   have a3:(h / f.toNat+1)*(f.toNat*(4294967296*K))≤(h / f.toNat+1)*val v:=by
    refine Nat.mul_le_mul_left _ ?_
    rw [eV,Nat.add_mul,Nat.mul_assoc]; omega
   have a4:(h*4294967296+k.toNat+1)*K≤(h+1)*(4294967296*K):=by
    rw [←Nat.mul_assoc]; exact Nat.mul_le_mul_right _ (by omega)
   rw [Nat.add_mul (h*4294967296+k.toNat) 1 K,Nat.one_mul]at a4
   rw [Nat.mul_assoc]at a2
   omega)
 have cy:=Nat.div_mul_le_self (val u) (4294967296^j)
 have df:=Nat.lt_div_mul_add B (a:=val u)
 obtain ⟨d,t,r1,r2⟩:=Bm v u q j g g1 Z hq hs a6
  (by
   have:=Nat.mul_le_mul_left (4294967296^j) (show val u / 4294967296^j+1≤(g.toNat+1)*val v by rw [eU]; omega)
   rw [Nat.mul_add,Nat.mul_one,Nat.mul_comm _ (val u / _)]at this
   omega)
  (by
   have:=Nat.mul_le_mul_left (4294967296^j) (show g.toNat*val v≤val u / 4294967296^j+val v by rw [eU]; omega)
   rw [Nat.mul_add _ (val u / _),Nat.mul_comm _ (val u / _)]at this
   omega) N
 refine ⟨d,t,?_,r2⟩
 have w2:wI ((j:Int)+(v.length:Int))=((j+v.length:Nat):Int):=by rw [aJ (by omega) (by omega)]; rfl
 have w3:wI ((((j+v.length:Nat):Int)) - 1)=((j+v.length - 1:Nat):Int):=by rw [aJ (by omega) (by omega)]; omega
 rw [y,G]
 unfold F.Fe
 dsimp only
 rw [if_pos (decide_eq_true (by omega)),w2,w3,aO Z 0,ae,aO (show j+v.length - 1<u.length by omega) 0,ae,aS,I,J,hH,grd_true _ R,grd_true _ R,hg]
 unfold F.EY
 exact r1
theorem yz (s:UInt64) (v:List UInt32) (A:Nat) (z:2≤v.length) (h:2147483648≤(v.getD (v.length - 1) 0).toNat) (t:s.toNat<32) :
  ∀(k:Nat) (u q:List UInt32),k+v.length≤u.length→k≤q.length→u.length≤70368744177664→q.length≤70368744177664→(∀i,i<k→q.getD i 0=0)→val q*val v+val u=A→val u<4294967296^k*val v →
   loop (F.Fe s v (v.getD (v.length - 1) 0) (v.getD (v.length - 2) 0)) ((k:Int) - 1,u,q)=some (am (A / val v),am (A%val v / 2^s.toNat)):=by
 have x:0<val v:=by
  rw [my v (v.length - 1) (by omega)]
  have:=Nat.mul_pos (Nat.pow_pos (n:=v.length - 1) (show 0<4294967296 by decide)) (show 0<(v.getD (v.length - 1) 0).toNat+4294967296*val (v.drop (v.length - 1+1)) by omega)
  omega
 intro k
 induction k with
 | zero=>
  intro u q B G y j m g f
  rw [Nat.pow_zero,Nat.one_mul]at f
  have I:A / val v=val q:=by rw [←g,Nat.add_comm,Nat.add_mul_div_right _ _ x,Nat.div_eq_of_lt f,Nat.zero_add]
  have J:A%val v=val u:=by rw [←g,Nat.add_comm,Nat.add_mul_mod_self_right,Nat.mod_eq_of_lt f]
  refine cM ?_
  unfold F.Fe
  dsimp only
  have R:(am (val u)).length≤u.length:=bj (bv u)
  rw [if_neg (by decide),fZ _ (by omega),ae,fZ _ (by omega),ae,yM _ _ t (by omega),ae,aq,I,J]; rfl
 | succ k ih=>
  intro u q B G y j m g f
  have K:(((k+1:Nat):Int)) - 1=(k:Int):=by omega
  obtain ⟨d,M,N,U,r3,O,V⟩:=yj s v u q k z h (by omega) (by omega) y j f
  rw [K,bI N]
  refine ih M _ (by omega) (by simp; omega) (by omega) (by simpa using j) (fun i hi=>by rw [dt (by omega)]; exact m i (by omega)) ?_ O
  have o:=dx q k d.toUInt32 (by omega)
  rw [m k (by omega)]at o
  have z0:(0:UInt32).toNat=0:=rfl
  rw [z0,Nat.mul_zero,Nat.add_zero]at o
  rw [o,el,Nat.mod_eq_of_lt (by omega),Nat.add_mul,Nat.mul_assoc,←g]
  omega
theorem Cm (a b:List UInt32) (O:Can a) (G:Can b) (h0:b≠[]) (dd:a.length≤70368744177660) (df:b.length≤70000000000) :
  F.EC a b=some (am (val a / val b),am (val a%val b)):=by
 have I:b.length≠0:=fun h=>h0 (List.eq_nil_of_length_eq_zero h)
 have d0:0<val b:=by
  rcases Nat.eq_zero_or_pos (val b) with h | h
  ·exact absurd (BM G qv h) h0
  ·exact h
 unfold F.EC
 rw [if_neg (by simpa using fun h=>I (by rw [h]; rfl)),o3 a b O G (by omega) (by omega),ae]
 unfold cv
 by_cases h1:val a<val b
 ·rw [if_pos h1,if_pos (by decide)]
  have d1:a.length≤b.length:=by
   rcases Nat.lt_or_ge b.length a.length with h | h
   ·have:=nY O h; omega
   ·exact h
  unfold F.Eo
  have ac:apO 4 [] a=some a:=by unfold apO; rw [if_pos (by simp; omega)]; simp
  rw [ac,ae,ae,Nat.div_eq_of_lt h1,Nat.mod_eq_of_lt h1,bS,i7 a O]
 ·rw [if_neg h1,if_neg (by split <;> decide)]
  have d2:b.length≤a.length:=by
   rcases Nat.lt_or_ge a.length b.length with h | h
   ·exact absurd (nY G h) h1
   ·exact h
  by_cases h2:a.length≤2
  ·rw [if_pos (decide_eq_true (by omega))]
   obtain ⟨x,hx,ex⟩:=sM a h2
   obtain ⟨y,hy,R⟩:=sM b (by omega)
   have J:¬y=0:=fun h=>by rw [h]at R; simp at R; omega
   rw [hx,ae,hy,ae,grd_true _ J,iM,ae,grd_true _ J,iM,ae,UInt64.toNat_div,UInt64.toNat_mod,ex,R]
  ·rw [if_neg (by simp only [decide_eq_true_eq]; omega)]
   by_cases h3:b.length=1
   ·rw [if_pos (by simp [h3]),show (0:Int)=((0:Nat):Int) from rfl,aO (show 0<b.length by omega) 0,ae]
    have o:val b=(b.getD 0 0).toNat:=by
     match b,h3 with
     | [x],_=>simp [val]
    have hd:b.getD 0 0≠0:=fun h=>by rw [h]at o; simp at o; omega
    obtain ⟨r,hr,er⟩:=y6 a (b.getD 0 0) hd (by omega)
    rw [hr,ae,fZ _ (by simp),ae,←o]
    rw [←o]at er
    simp only [du,eh,Nat.mul_zero,Nat.add_zero,er]
   ·rw [if_neg (by simpa using fun h=>h3 (by omega)),length_eq b (by omega),ae]
    have j:i0 b=32*(b.length - 1)+nb (b.getD (b.length - 1) 0).toNat:=by unfold i0; rw [if_neg I]
    obtain ⟨g,q⟩:∃g,b.getD (b.length - 1) 0=g:=⟨_,rfl⟩
    rw [q]at j
    have U:g≠0:=by
     intro h
     refine G ?_
     rw [List.getLast?_eq_getElem?]
     rw [←q,List.getD_eq_getElem?_getD,List.getElem?_eq_getElem (show b.length - 1<b.length by omega)]at h
     rw [List.getElem?_eq_getElem (show b.length - 1<b.length by omega),←h]; rfl
    have ap:g.toNat≠0:=fun h=>U (UInt32.toNat_inj.1 h)
    obtain ⟨n1,n2⟩:=dS g.toNat
    obtain ⟨n3,n4⟩:=n2 ap
    have n5:=yI g
    obtain ⟨z,hz⟩:∃z,nb g.toNat=z:=⟨_,rfl⟩
    rw [hz]at n1 n3 n4 n5 j
    -- the shift
    have es:UInt64.ofInt (wI ((wI (32 - (Int.tmod (wI ((i0 b:Int) - 1)) 32))) - 1))=UInt64.ofNat (32 - z):=by
     rw [aJ (x:=(i0 b:Int) - 1) (by omega) (by omega)]
     have:Int.tmod ((i0 b:Int) - 1) 32=(z:Int) - 1:=by
      rw [j]
      have:((32*(b.length - 1)+z:Nat):Int) - 1=((32*(b.length - 1)+(z - 1):Nat):Int):=by omega
      rw [this,Int.tmod_eq_emod_of_nonneg (by omega)]
      omega
     rw [this,aJ (x:=32 - ((z:Int) - 1)) (by omega) (by omega),aJ (x:=32 - ((z:Int) - 1) - 1) (by omega) (by omega),show (32 - ((z:Int) - 1)) - 1=((32 - z:Nat):Int) by omega]
     apply UInt64.toNat_inj.1
     rw [UInt64.ofInt,UInt64.toNat_ofNat',UInt64.toNat_ofNat']; omega
    rw [es,aS]
    obtain ⟨s,hs⟩:∃s,UInt64.ofNat (32 - z)=s:=⟨_,rfl⟩
    have K:s.toNat=32 - z:=by rw [←hs,UInt64.toNat_ofNat']; omega
    have a4:s.toNat<32:=by omega
    rw [hs,pY b s (by omega) (by omega),ae]
    -- the divisor shifted
    have a5:2^z*2^(32 - z)=4294967296:=by rw [←Nat.pow_add,show z+(32 - z)=32 by omega]
    have V:2^(z - 1)*2^(32 - z)=2147483648:=by rw [←Nat.pow_add,show z - 1+(32 - z)=31 by omega]
    have ev:val b=val (b.take (b.length - 1))+4294967296^(b.length - 1)*g.toNat:=by
     have:=bL b (b.length - 1)
     rwa [show b.length - 1+1=b.length by omega,List.take_length,q]at this
    have d3:val (b.take (b.length - 1))<4294967296^(b.length - 1):=by
     have:=bv (b.take (b.length - 1))
     rwa [List.length_take,Nat.min_eq_left (by omega)]at this
    have a6:val b*2^s.toNat<4294967296^b.length:=by
     have f:val b<4294967296^(b.length - 1)*2^z:=by
      have:4294967296^(b.length - 1)*(g.toNat+1)≤4294967296^(b.length - 1)*2^z:=Nat.mul_le_mul_left _ n1
      rw [Nat.mul_add]at this
      omega
     have m:=Nat.mul_lt_mul_of_pos_right f (Nat.two_pow_pos (32 - z))
     rw [Nat.mul_assoc,a5,←Nat.pow_succ,Nat.succ_eq_add_one,show b.length - 1+1=b.length by omega]at m
     rw [K]; exact m
    have t:4294967296^(b.length - 1)*2147483648≤val b*2^s.toNat:=by
     rw [K,←V,←Nat.mul_assoc]
     refine Nat.mul_le_mul_right _ ?_
     have:4294967296^(b.length - 1)*2^(z - 1)≤4294967296^(b.length - 1)*g.toNat:=Nat.mul_le_mul_left _ n3
     omega
    obtain ⟨v,X⟩:∃v,am (val b*2^s.toNat)=v:=⟨_,rfl⟩
    have M:val v=val b*2^s.toNat:=by rw [←X,aq]
    have N:v.length=b.length:=by
     have f:=bj a6
     have m:=nk (n:=val b*2^s.toNat) (k:=b.length - 1) (by
      refine Nat.le_trans ?_ t
      exact Nat.le_mul_of_pos_right _ (by decide))
     rw [X]at f m
     omega
    have Y:2147483648≤(v.getD (v.length - 1) 0).toNat:=by
     have f:=bL v (v.length - 1)
     rw [show v.length - 1+1=v.length by omega,List.take_length]at f
     have m:=bv (v.take (v.length - 1))
     rw [List.length_take,Nat.min_eq_left (by omega)]at m
     rw [N]at f m ⊢
     rcases Nat.lt_or_ge (v.getD (b.length - 1) 0).toNat 2147483648 with h | h
     ·have:4294967296^(b.length - 1)*((v.getD (b.length - 1) 0).toNat+1)≤4294967296^(b.length - 1)*2147483648:=Nat.mul_le_mul_left _ h
      rw [Nat.mul_add]at this
      omega
     ·exact h
    rw [X]
    -- the dividend shifted
    have w2:wI ((a.length:Int)+2)=((a.length+2:Nat):Int):=by rw [aJ (by omega) (by omega)]; rfl
    rw [w2,dQ (by omega),ae,Int.toNat_natCast,pY a s (by omega) (by omega),ae]
    have Z:2^s.toNat≤4294967296:=by
     have:=Nat.pow_le_pow_right (show 0<2 by decide) (show s.toNat≤32 by omega)
     have e:(2:Nat)^32=4294967296:=rfl
     omega
    have B:val a*2^s.toNat<4294967296^(a.length+1):=by
     have f:=bv a
     have m:=Nat.mul_le_mul (show val a+1≤4294967296^a.length from f) Z
     rw [←Nat.pow_succ,Nat.add_mul]at m
     have:=Nat.two_pow_pos s.toNat
     omega
    obtain ⟨A,hA⟩:∃A,val a*2^s.toNat=A:=⟨_,rfl⟩
    rw [hA]at B ⊢
    have d4:=bj B
    have b2:cpL (List.replicate (a.length+2) (0:UInt32)) (am A) 0 (List.replicate (a.length+2) (0:UInt32)).length=pad (am A) (a.length+2):=by
     unfold cpL pad
     simp only [List.length_replicate,Nat.sub_zero,List.take_zero,List.nil_append,Nat.zero_add]
     rw [List.take_of_length_le (by omega),Nat.min_eq_left (by omega),List.drop_replicate]
    rw [b2,aS,gw (by omega)]
    have w5:wI ((wI (((a.length+2:Nat):Int) - (v.length:Int))) - 1)=((a.length+1 - b.length:Nat):Int):=by
     rw [N,aJ (x:=((a.length+2:Nat):Int) - (b.length:Int)) (by omega) (by omega),aJ (by omega) (by omega)]; omega
    have w6:wI (((a.length+1 - b.length:Nat):Int)+1)=((a.length+2 - b.length:Nat):Int):=by rw [aJ (by omega) (by omega)]; omega
    have w7:wI ((v.length:Int) - 1)=((v.length - 1:Nat):Int):=by rw [aJ (by omega) (by omega)]; omega
    have w8:wI ((v.length:Int) - 2)=((v.length - 2:Nat):Int):=by rw [aJ (by omega) (by omega)]; omega
    rw [w5,aS,w6,dQ (by omega),ae,Int.toNat_natCast,w7,aO (show v.length - 1<v.length by omega) 0,ae,w8,aO (show v.length - 2<v.length by omega) 0,ae]
    have b3:∀i,(List.replicate (a.length+2 - b.length) (0:UInt32)).getD i 0=0:=fun i=>by
     rw [List.getD_eq_getElem?_getD,List.getElem?_replicate]; split <;> rfl
    have hL:=yz s v A (by omega) Y a4 (a.length+2 - b.length) (pad (am A) (a.length+2)) (List.replicate (a.length+2 - b.length) 0)
     (by rw [gw (by omega)]; omega) (by simp) (by rw [gw (by omega)]; omega) (by simp; omega) (fun i _=>b3 i) (by rw [cn,kV,aq]; omega) (by
      rw [kV,aq]
      refine Nat.lt_of_lt_of_le B ?_
      have f:=Nat.mul_le_mul_left (4294967296^(a.length+2 - b.length)) (Nat.le_trans (Nat.le_mul_of_pos_right (4294967296^(b.length - 1)) (show 0<2147483648 by decide)) t)
      rw [←M,←Nat.pow_add,show a.length+2 - b.length+(b.length - 1)=a.length+1 by omega]at f
      exact f)
    rw [show (((a.length+2 - b.length:Nat):Int)) - 1=((a.length+1 - b.length:Nat):Int) by omega]at hL
    rw [hL,M,←hA,Nat.mul_div_mul_right _ _ (Nat.two_pow_pos _),Nat.mul_mod_mul_right,Nat.mul_div_cancel _ (Nat.two_pow_pos _)]
end Go.Gk.Bn
end
