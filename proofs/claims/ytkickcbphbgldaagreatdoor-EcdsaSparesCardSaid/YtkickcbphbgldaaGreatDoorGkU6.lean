import Derived.Test.YtkickcbphbgldaaGreatDoorGkU0
set_option linter.unusedVariables false
set_option linter.unusedSimpArgs false
set_option linter.unusedSectionVars false

section
namespace Go.Gk.Bn
open Go Go.Gk Go.Gk.Sh
def nb (n:Nat):Nat:=if h:n=0 then 0 else nb (n / 2)+1
termination_by n
decreasing_by exact Nat.div_lt_self (Nat.pos_of_ne_zero h) (show 1<2 by decide)
theorem fc:nb 0=0:=by rw [nb]; simp
theorem qJ {n:Nat} (h:n≠0):nb n=nb (n / 2)+1:=by rw [nb]; simp [h]
theorem c6 (n:Nat):n<2^nb n∧(n≠0→2^(nb n - 1)≤n∧1≤nb n):=by
 induction n using Nat.strongRecOn with
 | ind n ih=>
  by_cases h:n=0
  ·subst h; rw [fc]; simp
  ·obtain ⟨h1,h2⟩:=ih (n / 2) (Nat.div_lt_self (Nat.pos_of_ne_zero h) (by decide))
   rw [qJ h]
   refine ⟨by rw [Nat.pow_succ]; omega,fun _=>⟨?_,by omega⟩⟩
   rw [Nat.add_sub_cancel]
   by_cases h3:n / 2=0
   ·rw [h3,fc]; omega
   ·obtain ⟨h4,h5⟩:=h2 h3
    have:2^nb (n / 2)=2^(nb (n / 2) - 1)*2:=by rw [←Nat.pow_succ]; congr 1; omega
    omega
theorem kM {n k:Nat} (h:n<2^k):nb n≤k:=by
 by_cases h0:n=0
 ·subst h0; rw [fc]; omega
 ·obtain ⟨h1,h2⟩:=(c6 n).2 h0
  rcases Nat.lt_or_ge k (nb n) with h3 | h3
  ·have:=Nat.pow_le_pow_right (show 0<2 by decide) (show k≤nb n - 1 by omega)
   omega
  ·exact h3
theorem yb (x:UInt32):nb x.toNat≤32:=kM (ce x)
theorem Bz (x:UInt32):(bC x 1).toNat=x.toNat / 2:=by rw [fS]; rfl
theorem sJ (a:List UInt32) (ha0:a.length≠0) (ha:a.length≤1000000000000000):∀(m:Nat) (t:UInt32) (n:Nat),nb t.toNat=m→n+m≤32→loop (F.C4 a) ((n:Int),t)=some (((32*(a.length - 1)+n+m:Nat):Int)):=by
 intro m
 induction m with
 | zero=>
  intro t n h hn
  have h0:t.toNat=0:=by
   rcases Nat.eq_zero_or_pos t.toNat with h0 | h0
   ·exact h0
   ·rw [qJ (by omega)]at h; omega
  have:t=0:=UInt32.toNat_inj.1 h0
  subst this
  refine dM ?_
  unfold F.C4
  dsimp only
  rw [if_neg (by decide),aV (x:=(a.length:Int) - 1) (by omega) (by omega),aV (x:=((a.length:Int) - 1)*32) (by omega) (by omega),aV (by omega) (by omega)]
  show some _=_
  congr 2
  omega
 | succ m ih=>
  intro t n h hn
  have h0:t.toNat≠0:=by intro h0; rw [h0,fc]at h; omega
  have hne:t≠0:=fun h1=>h0 (by rw [h1]; rfl)
  rw [qJ h0]at h
  have hs:F.C4 a ((n:Int),t)=some (.inl (((n+1:Nat):Int),bC t 1)):=by
   unfold F.C4
   dsimp only
   rw [if_pos (by simpa using hne),aV (by omega) (by omega)]; rfl
  rw [bI hs,ih (bC t 1) (n+1) (by rw [Bz]; omega) (by omega)]
  congr 2; omega
def hU (a:List UInt32):Nat:=if a.length=0 then 0 else 32*(a.length - 1)+nb (a.getD (a.length - 1) 0).toNat
theorem length_eq (a:List UInt32) (ha:a.length≤1000000000000000):F.DB a=some ((hU a:Nat):Int):=by
 unfold F.DB hU
 by_cases h0:a.length=0
 ·rw [if_pos (by simp [h0]),if_pos h0]; rfl
 ·have w1:wI ((a.length:Int) - 1)=((a.length - 1:Nat):Int):=by rw [aV (by omega) (by omega)]; omega
  rw [if_neg (by simpa using fun h=>h0 (by rw [h]; rfl)),w1,a7 (show a.length - 1<a.length by omega) 0,ak]
  have:=sJ a h0 ha _ (a.getD (a.length - 1) 0) 0 rfl (by have:=yb (a.getD (a.length - 1) 0); omega)
  rw [if_neg h0]
  rw [Nat.add_zero]at this
  exact this
theorem xi (x:UInt32) (s:Nat) (hs:s<32):(br x.toUInt64 s).toNat=x.toNat*2^s:=by
 have hx:=ce x
 rw [jP,bK,Nat.min_eq_left (by omega),Nat.mod_eq_of_lt]
 have h1:2^s≤2^31:=Nat.pow_le_pow_right (by decide) (by omega)
 have h2:x.toNat*2^s≤4294967295*2^31:=Nat.mul_le_mul (by omega) h1
 have h3:(2:Nat)^31=2147483648:=rfl
 omega
theorem AW {p q:UInt32} (s:Nat) (hq:q.toNat%2^s=0) (hp:p.toNat<2^s):(p ||| q).toNat=p.toNat+q.toNat:=by
 rw [UInt32.toNat_or,Nat.or_comm,ql s hq hp,Nat.add_comm]
theorem io {s:Nat} (hs:s<32):2^s*2^(32 - s)=4294967296:=by
 rw [←Nat.pow_add,show s+(32 - s)=32 by omega]
def jv (a:List UInt32) (s w:Nat) (r:List UInt32) (i:Nat):List UInt32:=
 (r.set (i+w) (r.getD (i+w) 0 ||| (br (a.getD i 0).toUInt64 s).toUInt32)).set (i+w+1) ((r.set (i+w) (r.getD (i+w) 0 ||| (br (a.getD i 0).toUInt64 s).toUInt32)).getD (i+w+1) 0 ||| (aX (br (a.getD i 0).toUInt64 s) 32).toUInt32)
theorem oA (a:List UInt32) (n:UInt64) (hn:n.toNat≤1000000000000) (ha:a.length+n.toNat / 32+1≤70368744177664):F.DA a n=some (aA (val a*2^n.toNat)):=by
 unfold F.DA
 by_cases h0:a.length=0
 ·rw [if_pos (by simp [h0]),List.eq_nil_of_length_eq_zero h0,dl,Nat.zero_mul,bG]
 ·obtain ⟨w,hw⟩:∃w,n.toNat / 32=w:=⟨_,rfl⟩
  obtain ⟨s,hs⟩:∃s,n.toNat%32=s:=⟨_,rfl⟩
  have hs32:s<32:=by omega
  have e1:(n / 32).toNat=w:=by rw [UInt64.toNat_div,←hw]; rfl
  have e2:(n%32).toNat=s:=by rw [UInt64.toNat_mod,←hs]; rfl
  have hpw:2^n.toNat=4294967296^w*2^s:=by
   rw [show (4294967296:Nat)=2^32 from rfl,←Nat.pow_mul,←Nat.pow_add]
   congr 1; omega
  rw [if_neg (by simpa using fun h=>h0 (by rw [h]; rfl)),e1,a8,aV (x:=(w:Int)) (by omega) (by omega),aV (x:=(a.length:Int)+(w:Int)) (by omega) (by omega),aV (by omega) (by omega),dw (by omega),ak,
   show ((a.length:Int)+(w:Int)+1).toNat=a.length+w+1 by omega]
  have hps:=io hs32
  have hp1:1≤2^s:=Nat.one_le_two_pow
  -- what holds behind i words
  have step:∀(i:Nat) (r:List UInt32),i<a.length→(r.length=a.length+w+1∧(∀k,i+w<k→r.getD k 0=0)∧(r.getD (i+w) 0).toNat<2^s∧val r=4294967296^w*(val (a.take i)*2^s)) →
    ((jv a s w r i).length=a.length+w+1∧(∀k,i+1+w<k→(jv a s w r i).getD k 0=0)∧((jv a s w r i).getD (i+1+w) 0).toNat<2^s∧val (jv a s w r i)=4294967296^w*(val (a.take (i+1))*2^s)):=by
   rintro i r hi ⟨h1,h2,h3,h4⟩
   unfold jv
   obtain ⟨v,hv⟩:∃v,br (a.getD i 0).toUInt64 s=v:=⟨_,rfl⟩
   have hvn:v.toNat=(a.getD i 0).toNat*2^s:=by rw [←hv,xi _ _ hs32]
   have hai:=ce (a.getD i 0)
   rw [hv]
   have hsp:=iW v
   -- the low part is a multiple of 2^s,the high part is below it
   have hlow:v.toUInt32.toNat%2^s=0:=by
    rw [d7,hvn,←hps]
    rw [Nat.mod_mul_right_mod,Nat.mul_mod_left]
   have hlo2:v.toUInt32.toNat+2^s≤4294967296:=by
    have h5:=ce v.toUInt32
    obtain ⟨c,hc⟩:=Nat.dvd_of_mod_eq_zero hlow
    rw [hc]at h5 ⊢
    rw [←hps]at h5 ⊢
    have:=Nat.lt_of_mul_lt_mul_left h5
    have:=Nat.mul_le_mul_left (2^s) (show c+1≤2^(32 - s) by omega)
    rw [Nat.mul_add,Nat.mul_one]at this
    exact this
   have hhi:(aX v 32).toNat<2^s:=by
    rw [jU,hvn,Nat.div_lt_iff_lt_mul (by decide),Nat.mul_comm (2^s)]
    exact Nat.mul_lt_mul_of_pos_right hai (by omega)
   have hor:=AW (p:=r.getD (i+w) 0) (q:=v.toUInt32) s hlow h3
   obtain ⟨r1,hr1⟩:∃r1,r.set (i+w) (r.getD (i+w) 0 ||| v.toUInt32)=r1:=⟨_,rfl⟩
   have hr1l:r1.length=a.length+w+1:=by rw [←hr1]; simpa using h1
   have hz:r1.getD (i+w+1) 0=0:=by rw [←hr1,de (by omega)]; exact h2 _ (by omega)
   rw [hr1,hz,UInt32.zero_or]
   have v1:=dB r (i+w) (r.getD (i+w) 0 ||| v.toUInt32) (by omega)
   rw [hr1,hor]at v1
   have v2:=dB r1 (i+w+1) (aX v 32).toUInt32 (by omega)
   rw [hz]at v2
   have z0:(0:UInt32).toNat=0:=rfl
   rw [z0,Nat.mul_zero,Nat.add_zero,uz,←jU]at v2
   refine ⟨by simpa using hr1l,fun k hk=>?_,?_,?_⟩
   ·rw [de (by omega),←hr1,de (by omega)]; exact h2 k (by omega)
   ·rw [show i+1+w=i+w+1 by omega,List.getD_eq_getElem?_getD,List.getElem?_set_self (by omega)]
    simp only [Option.getD_some,uz,←jU]
    exact hhi
   ·rw [v2,bD,Nat.add_mul,Nat.mul_add,←h4]
    have e3:4294967296^w*(4294967296^i*(a.getD i 0).toNat*2^s)=4294967296^(i+w)*v.toNat:=by
     rw [hvn,Nat.add_comm i w,Nat.pow_add,Nat.mul_assoc,Nat.mul_assoc]
    have e4:4294967296^(i+w)*v.toNat=4294967296^(i+w)*v.toUInt32.toNat+4294967296^(i+w+1)*(aX v 32).toNat:=by
     rw [Nat.pow_succ,Nat.mul_assoc,←Nat.mul_add,←hsp]
    rw [e3,e4]
    rw [Nat.mul_add]at v1
    omega
  have hinit:(List.replicate (a.length+w+1) (0:UInt32)).length=a.length+w+1∧(∀k,0+w<k→(List.replicate (a.length+w+1) (0:UInt32)).getD k 0=0)∧((List.replicate (a.length+w+1) (0:UInt32)).getD (0+w) 0).toNat<2^s ∧
    val (List.replicate (a.length+w+1) 0)=4294967296^w*(val (a.take 0)*2^s):=by
   have hg:∀k,(List.replicate (a.length+w+1) (0:UInt32)).getD k 0=0:=fun k=>by
    rw [List.getD_eq_getElem?_getD,List.getElem?_replicate]; split <;> rfl
   exact ⟨by simp,fun k _=>hg k,by rw [hg]; exact Nat.lt_of_lt_of_le (show (0:UInt32).toNat<1 by decide) hp1,by rw [cT]; simp [val]⟩
  have e:=cu (f:=F.EI a n (w:Int)) (fun (x:List UInt32) i=>((i:Int),x))
   (fun i r=>i≤a.length→(r.length=a.length+w+1∧(∀k,i+w<k→r.getD k 0=0)∧(r.getD (i+w) 0).toNat<2^s∧val r=4294967296^w*(val (a.take i)*2^s))) (jv a s w) 0 a.length
   (X:=fun x=>F.BP x)
   (fun i x _ hi hx=>by
    have hx:=hx (by omega)
    refine ⟨?_,fun _=>step i x hi hx⟩
    obtain ⟨h1,_⟩:=hx
    have w1:wI ((i:Int)+(w:Int))=((i+w:Nat):Int):=by rw [aV (by omega) (by omega)]; rfl
    have w2:wI (((i+w:Nat):Int)+1)=((i+w+1:Nat):Int):=by rw [aV (by omega) (by omega)]; rfl
    have w3:wI ((i:Int)+1)=((i+1:Nat):Int):=by rw [aV (by omega) (by omega)]; rfl
    unfold F.EI
    dsimp only
    rw [if_pos (decide_eq_true (by omega)),a7 hi 0,ak,a8,w1,w2,w3,e2,a7 (show i+w<x.length by omega) 0,ak,ak,a8,Int.toNat_natCast,a7 (show i+w+1<(x.set (i+w) (x.getD (i+w) 0 ||| (br (a.getD i 0).toUInt64 s).toUInt32)).length by simp; omega) 0,ak,ak,a8,Int.toNat_natCast]
    rfl)
   (fun x hx=>by
    unfold F.EI
    dsimp only
    rw [if_neg (by simp)]
    cases F.BP x <;> rfl)
   a.length 0 _ (Nat.le_refl _) (by omega) (fun _=>hinit)
  refine e.trans ?_
  have hI:=cK (fun i (r:List UInt32)=>i≤a.length→(r.length=a.length+w+1∧(∀k,i+w<k→r.getD k 0=0)∧(r.getD (i+w) 0).toNat<2^s∧val r=4294967296^w*(val (a.take i)*2^s))) (jv a s w)
   (fun i x hx=>fun hi=>step i x (by omega) (hx (by omega))) a.length 0 _ (fun _=>hinit)
  obtain ⟨y,hy⟩:∃y,(List.range' 0 a.length).foldl (jv a s w) (List.replicate (a.length+w+1) 0)=y:=⟨_,rfl⟩
  rw [hy]at hI ⊢
  rw [Nat.zero_add]at hI
  obtain ⟨h1,_,_,h4⟩:=hI (Nat.le_refl _)
  rw [fb _ (by omega),h4,List.take_length,hpw,Nat.mul_left_comm]
end Go.Gk.Bn
end

section
namespace Go.Gk.Bn
open Go Go.Gk Go.Gk.Sh
theorem cf (a:List UInt32) (i:Nat):val (a.drop i)=(a.getD i 0).toNat+4294967296*val (a.drop (i+1)):=by
 by_cases h:i<a.length
 ·rw [List.drop_eq_getElem_cons h,cM]
  congr 2
  rw [List.getD_eq_getElem?_getD,List.getElem?_eq_getElem h]; rfl
 ·rw [List.drop_of_length_le (by omega),List.drop_of_length_le (by omega),dn (by omega)]; rfl
theorem ek (a:List UInt32) (i:Nat):val a / 4294967296^i=val (a.drop i):=by
 by_cases h:i≤a.length
 ·have h1:=bB (a.take i)
  rw [List.length_take,Nat.min_eq_left h]at h1
  rw [c8 a i h,Nat.add_comm,Nat.mul_add_div (Nat.pow_pos (by decide)),Nat.div_eq_of_lt h1,Nat.add_zero]
 ·have h1:=bB a
  have h2:=Nat.pow_le_pow_right (show 0<4294967296 by decide) (show a.length≤i by omega)
  rw [List.drop_of_length_le (by omega),Nat.div_eq_of_lt (by omega)]; rfl
theorem xr (a:List UInt32) (n:UInt64) (hn:n.toNat<32) (ha:a.length≤70368744177664):F.EV a n=some (aA (val a / 2^n.toNat)):=by
 unfold F.EV
 have e1:(n / 32).toNat=0:=by rw [UInt64.toNat_div]; exact Nat.div_eq_of_lt hn
 have e2:(n%32).toNat=n.toNat:=by rw [UInt64.toNat_mod]; exact Nat.mod_eq_of_lt hn
 obtain ⟨s,hs⟩:∃s,n.toNat=s:=⟨_,rfl⟩
 rw [hs]at e2 hn ⊢
 have w0:wI ((0:Nat):Int)=0:=rfl
 rw [e1,a8,w0]
 by_cases h0:a.length=0
 ·rw [if_pos (decide_eq_true (by omega)),List.eq_nil_of_length_eq_zero h0,dl,Nat.zero_div,bG]
 ·rw [if_neg (by simp only [decide_eq_true_eq]; omega),Int.sub_zero,aV (by omega) (by omega),dw (by omega),ak,Int.toNat_natCast,←ov]
  have hps:=io hn
  have key:∀i,(val a / 2^s) / 4294967296^i%4294967296=((a.getD i 0).toNat+4294967296*(a.getD (i+1) 0).toNat) / 2^s%4294967296:=by
   intro i
   rw [Nat.div_div_eq_div_mul,Nat.mul_comm,←Nat.div_div_eq_div_mul,ek,cf,cf]
   have:(a.getD i 0).toNat+4294967296*((a.getD (i+1) 0).toNat+4294967296*val (a.drop (i+1+1)))=((a.getD i 0).toNat+4294967296*(a.getD (i+1) 0).toNat)+2^s*(4294967296*(2^(32 - s)*val (a.drop (i+1+1)))):=by
    have:2^s*(4294967296*(2^(32 - s)*val (a.drop (i+1+1))))=4294967296*(4294967296*val (a.drop (i+1+1))):=by
     rw [Nat.mul_left_comm,←Nat.mul_assoc (2^s),hps]
    rw [this,Nat.mul_add]; omega
   rw [this,Nat.add_mul_div_left _ _ (Nat.two_pow_pos s),Nat.add_mul_mod_self_left]
  have stepv:∀(i:Nat) (x:List UInt32),(x.length=i∧val x=(val a / 2^s)%4294967296^i) →
    ((x++[(aX ((a.getD i 0).toUInt64 ||| (br (a.getD (i+1) 0).toUInt64 32)) s).toUInt32]).length=i+1∧val (x++[(aX ((a.getD i 0).toUInt64 ||| (br (a.getD (i+1) 0).toUInt64 32)) s).toUInt32])=(val a / 2^s)%4294967296^(i+1)):=by
   rintro i x ⟨h1,h2⟩
   refine ⟨by simp [h1],?_⟩
   rw [gL,h1,h2,Nat.mod_pow_succ,key i,d7,dE,nC,Nat.min_eq_left (by omega)]
  have e:=cu (f:=F.EB a 0 n) (fun (x:List UInt32) i=>((i:Int),pad x a.length)) (fun i x=>x.length=i∧val x=(val a / 2^s)%4294967296^i)
   (fun x i=>x++[(aX ((a.getD i 0).toUInt64 ||| (br (a.getD (i+1) 0).toUInt64 32)) s).toUInt32]) 0 a.length
   (X:=fun x=>F.BP (pad x a.length))
   (fun i x _ hi hx=>by
    refine ⟨?_,stepv i x hx⟩
    obtain ⟨h1,h2⟩:=hx
    have w1:wI ((i:Int)+1)=((i+1:Nat):Int):=by rw [aV (by omega) (by omega)]; rfl
    have w2:wI ((i:Int)+0)=(i:Int):=by rw [aV (by omega) (by omega)]; omega
    obtain ⟨u,hu⟩:=kJ (x:=x) (n:=a.length) (i:=i) (by omega) (by omega)
    have hK:∀v:UInt64,v=((a.getD i 0).toUInt64 ||| (br (a.getD (i+1) 0).toUInt64 32))→F.Et n (i:Int) (pad x a.length) v=some (.inl (((i+1:Nat):Int),pad (x++[(aX ((a.getD i 0).toUInt64 ||| (br (a.getD (i+1) 0).toUInt64 32)) s).toUInt32]) a.length)):=by
     rintro v rfl
     unfold F.Et
     dsimp only
     have:=mj (x:=x) (n:=a.length) (by omega) (aX ((a.getD i 0).toUInt64 ||| (br (a.getD (i+1) 0).toUInt64 32)) s).toUInt32
     rw [h1]at this
     rw [hu,ak,a8,Int.toNat_natCast,w1,e2,this]; rfl
    unfold F.EB
    dsimp only
    rw [if_pos (decide_eq_true (by rw [fE (by omega)]; omega)),w2,a7 hi 0,ak,w1]
    by_cases hb:i+1<a.length
    ·rw [if_pos (decide_eq_true (by omega)),a7 hb 0,ak,a8,hK _ rfl]
    ·rw [if_neg (by simp only [decide_eq_true_eq]; omega),hK _ (by
      apply UInt64.toNat_inj.1
      rw [nC,dn (a:=a) (i:=i+1) (by omega),bK]; rfl)])
   (fun x hx=>by
    unfold F.EB
    dsimp only
    rw [if_neg (by rw [fE (by omega)]; simp)]
    cases F.BP (pad x a.length) <;> rfl)
   a.length 0 [] (Nat.le_refl _) (by omega) ⟨rfl,by simp [val,Nat.mod_one]⟩
  refine e.trans ?_
  obtain ⟨h1,h2⟩:=cK (fun i (x:List UInt32)=>x.length=i∧val x=(val a / 2^s)%4294967296^i) (fun x i=>x++[(aX ((a.getD i 0).toUInt64 ||| (br (a.getD (i+1) 0).toUInt64 32)) s).toUInt32])
   (fun i x hx=>stepv i x hx) a.length 0 [] ⟨rfl,by simp [val,Nat.mod_one]⟩
  obtain ⟨y,hy⟩:∃y,(List.range' 0 a.length).foldl (fun x i=>x++[(aX ((a.getD i 0).toUInt64 ||| (br (a.getD (i+1) 0).toUInt64 32)) s).toUInt32]) []=y:=⟨_,rfl⟩
  rw [hy]at h1 h2 ⊢
  rw [Nat.zero_add]at h1 h2
  have hlt:=bB a
  have hle:=Nat.div_le_self (val a) (2^s)
  rw [fb _ (by rw [fE (by omega)]; omega),kk,h2,Nat.mod_eq_of_lt (by omega)]
theorem vM (u v:UInt32) (c:UInt64) (hc:c.toNat≤1):((u.toUInt64 - v.toUInt64) - c).toUInt32.toNat+c.toNat+v.toNat=u.toNat+4294967296*(aX ((u.toUInt64 - v.toUInt64) - c) 63).toNat∧(aX ((u.toUInt64 - v.toUInt64) - c) 63).toNat≤1:=by
 have hu:=ce u; have hv:=ce v
 rw [d7,xu,UInt64.toNat_sub,UInt64.toNat_sub,bK,bK]
 omega
theorem vU (u:UInt32) (c d:UInt64) (hc:c.toNat≤4294967295) (hd:d.toNat≤1):((u.toUInt64 - c) - d).toUInt32.toNat+c.toNat+d.toNat=u.toNat+4294967296*(aX ((u.toUInt64 - c) - d) 63).toNat∧(aX ((u.toUInt64 - c) - d) 63).toNat≤1:=by
 have hu:=ce u
 rw [d7,xu,UInt64.toNat_sub,UInt64.toNat_sub,bK]
 omega
abbrev MS:=UInt64×UInt64×List UInt32
def msS (g:UInt64) (v:List UInt32) (j:Nat) (x:MS) (i:Nat):MS:=
 (aX (x.1+g*(v.getD i 0).toUInt64) 32,aX (((x.2.2.getD (j+i) 0).toUInt64 - (x.1+g*(v.getD i 0).toUInt64).toUInt32.toUInt64) - x.2.1) 63,
  x.2.2.set (j+i) (((x.2.2.getD (j+i) 0).toUInt64 - (x.1+g*(v.getD i 0).toUInt64).toUInt32.toUInt64) - x.2.1).toUInt32)
def MSI (g:UInt64) (v u:List UInt32) (j i:Nat) (x:MS):Prop:=
 x.2.2.length=u.length∧(∀k,k<j∨j+i≤k→x.2.2.getD k 0=u.getD k 0)∧val x.2.2+4294967296^j*(g.toNat*val (v.take i))=val u+4294967296^(j+i)*(x.1.toNat+x.2.1.toNat)∧x.1.toNat≤4294967295∧x.2.1.toNat≤1
theorem tA {g:UInt64} {v u:List UInt32} {j i:Nat} {x:MS} (hg:g.toNat≤4294967295) (hj:j+i<u.length) (h:MSI g v u j i x):MSI g v u j (i+1) (msS g v j x i):=by
 obtain ⟨h1,h2,h3,h4,h5⟩:=h
 unfold msS
 have hvi:=gR (v.getD i 0)
 have hp:g.toNat*(v.getD i 0).toNat≤4294967295*4294967295:=Nat.mul_le_mul hg hvi
 have eC:(x.1+g*(v.getD i 0).toUInt64).toNat=x.1.toNat+g.toNat*(v.getD i 0).toNat:=by
  have e1:(g*(v.getD i 0).toUInt64).toNat=g.toNat*(v.getD i 0).toNat:=by rw [mb _ _ (by rw [bK]; omega),bK]
  rw [fF _ _ (by rw [e1]; omega),e1]
 obtain ⟨C,hC⟩:∃C,x.1+g*(v.getD i 0).toUInt64=C:=⟨_,rfl⟩
 rw [hC]at eC ⊢
 obtain ⟨e1,e2⟩:=vM (x.2.2.getD (j+i) 0) C.toUInt32 x.2.1 h5
 obtain ⟨t,ht⟩:∃t,((x.2.2.getD (j+i) 0).toUInt64 - C.toUInt32.toUInt64) - x.2.1=t:=⟨_,rfl⟩
 rw [ht]at e1 e2 ⊢
 have hsp:=iW C
 refine ⟨by simpa using h1,fun k hk=>?_,?_,?_,e2⟩
 ·simp only
  rw [de (by omega)]; exact h2 k (by omega)
 ·simp only
  have hv:=dB x.2.2 (j+i) t.toUInt32 (by omega)
  rw [bD,Nat.mul_add,Nat.mul_add]
  have e3:4294967296^j*(g.toNat*(4294967296^i*(v.getD i 0).toNat))=4294967296^(j+i)*(g.toNat*(v.getD i 0).toNat):=by
   rw [Nat.pow_add,Nat.mul_assoc,Nat.mul_left_comm g.toNat]
  have e4:4294967296^(j+i)*(t.toUInt32.toNat+x.2.1.toNat+C.toUInt32.toNat)=4294967296^(j+i)*((x.2.2.getD (j+i) 0).toNat+4294967296*(aX t 63).toNat):=by rw [e1]
  have e5:4294967296^(j+i)*(x.1.toNat+g.toNat*(v.getD i 0).toNat)=4294967296^(j+i)*(C.toUInt32.toNat+4294967296*(aX C 32).toNat):=by rw [←eC,←hsp]
  rw [e3,←Nat.add_assoc j i 1,Nat.pow_succ,Nat.mul_assoc]
  rw [Nat.mul_add,Nat.mul_add,Nat.mul_add]at e4
  rw [Nat.mul_add,Nat.mul_add]at e5
  rw [Nat.mul_add]at h3
  rw [Nat.mul_add,Nat.mul_add]
  omega
 ·simp only [jU]; omega
end Go.Gk.Bn
end

section
namespace Go.Gk.Bn
open Go Go.Gk Go.Gk.Sh
theorem li {a:List UInt32} {m:Nat} (h:∀k,m≤k→a.getD k 0=0):val a<4294967296^m:=by
 by_cases hm:m≤a.length
 ·have hz:a.drop m=List.replicate (a.length - m) 0:=by
   refine List.ext_getElem (by simp) fun i h3 h4=>?_
   have:=h (m+i) (by omega)
   rw [List.getD_eq_getElem?_getD,List.getElem?_eq_getElem (by simp at h3; omega)]at this
   rw [List.getElem_drop,List.getElem_replicate]
   exact this
  have h1:=bB (a.take m)
  rw [List.length_take,Nat.min_eq_left hm]at h1
  rw [c8 a m hm,hz,cT]
  simpa using h1
 ·exact Nat.lt_of_lt_of_le (bB a) (Nat.pow_le_pow_right (by decide) (by omega))
theorem tm {a:List UInt32} {m:Nat} (h:val a<4294967296^m) (k:Nat) (hk:m≤k):a.getD k 0=0:=by
 have h1:val a / 4294967296^k=0:=Nat.div_eq_of_lt (Nat.lt_of_lt_of_le h (Nat.pow_le_pow_right (by decide) hk))
 rw [ek,cf]at h1
 exact UInt32.toNat_inj.1 (by show _=0; omega)
theorem gz {a:List UInt32} {m:Nat} (h:val a<4294967296^m):val (a.drop m)=0:=by
 rw [←ek,Nat.div_eq_of_lt h]
def abS (v:List UInt32) (j:Nat) (x:UInt64×List UInt32) (i:Nat):UInt64×List UInt32:=
 (aX (x.1+((x.2.getD (i+j) 0).toUInt64+(v.getD i 0).toUInt64)) 32,x.2.set (i+j) (x.1+((x.2.getD (i+j) 0).toUInt64+(v.getD i 0).toUInt64)).toUInt32)
def ABI (v u:List UInt32) (j i:Nat) (x:UInt64×List UInt32):Prop:=
 x.2.length=u.length∧(∀k,k<j∨j+i≤k→x.2.getD k 0=u.getD k 0)∧val x.2+4294967296^(j+i)*x.1.toNat=val u+4294967296^j*val (v.take i)∧x.1.toNat≤1
theorem th {v u:List UInt32} {j i:Nat} {x:UInt64×List UInt32} (hj:j+i<u.length) (h:ABI v u j i x):ABI v u j (i+1) (abS v j x i):=by
 obtain ⟨h1,h2,h3,h4⟩:=h
 unfold abS
 have ha:=gR (x.2.getD (i+j) 0); have hb:=gR (v.getD i 0)
 obtain ⟨s,hs⟩:∃s,x.1+((x.2.getD (i+j) 0).toUInt64+(v.getD i 0).toUInt64)=s:=⟨_,rfl⟩
 have hsn:s.toNat=x.1.toNat+((x.2.getD (i+j) 0).toNat+(v.getD i 0).toNat):=by
  have e1:((x.2.getD (i+j) 0).toUInt64+(v.getD i 0).toUInt64).toNat=(x.2.getD (i+j) 0).toNat+(v.getD i 0).toNat:=by rw [fF _ _ (by rw [bK,bK]; omega),bK,bK]
  rw [←hs,fF _ _ (by rw [e1]; omega),e1]
 rw [hs]
 have hsp:=iW s
 refine ⟨by simpa using h1,fun k hk=>?_,?_,by simp only [jU]; omega⟩
 ·simp only
  rw [de (by omega)]; exact h2 k (by omega)
 ·simp only
  have hv:=dB x.2 (i+j) s.toUInt32 (by omega)
  have e4:4294967296^(j+i)*s.toNat=4294967296^(j+i)*s.toUInt32.toNat+4294967296^(j+(i+1))*(aX s 32).toNat:=by
   rw [←Nat.add_assoc,Nat.pow_succ,Nat.mul_assoc,←Nat.mul_add,←hsp]
  have e5:4294967296^j*(4294967296^i*(v.getD i 0).toNat)=4294967296^(j+i)*(v.getD i 0).toNat:=by rw [Nat.pow_add,Nat.mul_assoc]
  rw [bD,Nat.mul_add,e5]
  rw [hsn,Nat.mul_add,Nat.mul_add]at e4
  rw [Nat.add_comm i j]at *
  omega
theorem zq (v u q:List UInt32) (j:Nat) (g:UInt64) (hg:g.toNat≤4294967295) (hj:j+v.length<u.length) (hq:j<q.length) (hs:u.length≤70368744177664) (hql:q.length≤70368744177664)
  (h1:val u<4294967296^j*((g.toNat+1)*val v)) (h2:4294967296^j*(g.toNat*val v)≤val u+4294967296^j*val v) (h3:val u<4294967296^(j+v.length+1)) :
  ∃(d:UInt64) (u':List UInt32),loop (F.Dr v (j:Int) g q) (0,0,0,u)=some (.inl ((j:Int) - 1,u',q.set j d.toUInt32))∧u'.length=u.length ∧
   val u'+4294967296^j*(d.toNat*val v)=val u∧val u'<4294967296^j*val v∧d.toNat≤4294967295:=by
 have w2:wI ((j:Int)+(v.length:Int))=((j+v.length:Nat):Int):=by rw [aV (by omega) (by omega)]; rfl
 have wj:wI ((j:Int) - 1)=(j:Int) - 1:=aV (by omega) (by omega)
 have hK2:∀(d:UInt64) (y:List UInt32),F.Ct (j:Int) q (d,y)=some (.inl ((j:Int) - 1,y,q.set j d.toUInt32)):=by
  intro d y
  unfold F.Ct
  dsimp only
  rw [a7 hq 0,ak,a8,Int.toNat_natCast,wj]; rfl
 have hpos:=Nat.pow_pos (n:=j) (show 0<4294967296 by decide)
 have h0:MSI g v u j 0 (0,0,u):=⟨rfl,fun _ _=>rfl,by simp [val],by simp,by simp⟩
 have hz:=fun k (hk:j+v.length+1≤k)=>tm h3 k hk
 -- behind the loop
 have fin:∀x:MS,MSI g v u j v.length x→∃(d:UInt64) (u':List UInt32),
   (an (aB x.2.2 (wI ((j:Int)+(v.length:Int)):Int)) fun x_80=>bq ((x_80.toUInt64 - x.1) - x.2.1) fun x_81=>an (aB x.2.2 (wI ((j:Int)+(v.length:Int)):Int)) fun x_82=>
    bq (x.2.2.set (wI ((j:Int)+(v.length:Int)):Int).toNat x_81.toUInt32) fun x_83=>if ((aX x_81 63) != 0)=true then loop (F.CI v (j:Int) g q) (0,0,x_83) else F.Ct (j:Int) q (g,x_83))
    = some (.inl ((j:Int) - 1,u',q.set j d.toUInt32))∧u'.length=u.length∧val u'+4294967296^j*(d.toNat*val v)=val u∧val u'<4294967296^j*val v∧d.toNat≤4294967295:=by
  rintro x ⟨e1,e2,e3,e4,e5⟩
  rw [w2,a7 (show j+v.length<x.2.2.length by omega) 0,ak,a8,ak,a8,Int.toNat_natCast]
  obtain ⟨f1,f2⟩:=vU (x.2.2.getD (j+v.length) 0) x.1 x.2.1 e4 e5
  obtain ⟨t,ht⟩:∃t,((x.2.2.getD (j+v.length) 0).toUInt64 - x.1) - x.2.1=t:=⟨_,rfl⟩
  rw [ht]at f1 f2 ⊢
  have hv:=dB x.2.2 (j+v.length) t.toUInt32 (by omega)
  obtain ⟨u1,hu1⟩:∃u1,x.2.2.set (j+v.length) t.toUInt32=u1:=⟨_,rfl⟩
  have hl1:u1.length=u.length:=by rw [←hu1]; simpa using e1
  have hz1:∀k,j+v.length+1≤k→u1.getD k 0=0:=fun k hk=>by
   rw [←hu1,de (by omega),e2 k (by omega)]; exact hz k hk
  have hlt1:=li hz1
  rw [hu1]at hv ⊢
  rw [List.take_length]at e3
  have key:val u1+4294967296^j*(g.toNat*val v)=val u+4294967296^(j+v.length+1)*(aX t 63).toNat:=by
   have:=congrArg (4294967296^(j+v.length)*·) f1
   simp only [Nat.mul_add]at this
   rw [Nat.mul_add]at e3
   rw [Nat.pow_succ,Nat.mul_assoc]
   omega
  by_cases hb:(aX t 63).toNat=0
  ·have:aX t 63=0:=UInt64.toNat_inj.1 hb
   rw [if_neg (by rw [this]; decide),hK2]
   rw [hb,Nat.mul_zero,Nat.add_zero]at key
   refine ⟨g,u1,rfl,hl1,key,?_,hg⟩
   rw [Nat.add_mul,Nat.one_mul,Nat.mul_add]at h1
   omega
  ·have hb1:(aX t 63).toNat=1:=by omega
   have hne:¬aX t 63=0:=fun h=>hb (by rw [h]; rfl)
   rw [if_pos (by simpa using hne)]
   rw [hb1,Nat.mul_one]at key
   have hg1:1≤g.toNat:=by
    rcases Nat.eq_zero_or_pos g.toNat with h | h
    ·rw [h,Nat.zero_mul,Nat.mul_zero]at key; omega
    ·exact h
   have a0:ABI v u1 j 0 (0,u1):=⟨rfl,fun _ _=>rfl,by simp [val],by simp⟩
   have e:=cu (f:=F.CI v (j:Int) g q) (fun (y:UInt64×List UInt32) i=>(y.1,(i:Int),y.2)) (fun i y=>i≤v.length→ABI v u1 j i y) (abS v j) 0 v.length
    (X:=fun y=>some (.inl ((j:Int) - 1,y.2.set (j+v.length) (y.2.getD (j+v.length) 0+y.1.toUInt32),q.set j (g - 1).toUInt32)))
    (fun i y _ hi hy=>by
     have hy:=hy (by omega)
     refine ⟨?_,fun _=>th (by omega) hy⟩
     have hyl:=hy.1
     have w3:wI ((i:Int)+(j:Int))=((i+j:Nat):Int):=by rw [aV (by omega) (by omega)]; rfl
     have w4:wI ((i:Int)+1)=((i+1:Nat):Int):=by rw [aV (by omega) (by omega)]; rfl
     unfold F.CI
     dsimp only
     rw [if_pos (decide_eq_true (by omega)),w3,a7 (show i+j<y.2.length by omega) 0,ak,a7 hi 0,ak,a8,ak,a8,Int.toNat_natCast,w4]
     rfl)
    (fun y hy=>by
     have hyl:=(hy (Nat.le_refl _)).1
     unfold F.CI
     dsimp only
     rw [if_neg (by simp),w2,a7 (show j+v.length<y.2.length by omega) 0,ak,ak,a8,Int.toNat_natCast,hK2])
    v.length 0 (0,u1) (Nat.le_refl _) (by omega) (fun _=>a0)
   have hI:=cK (fun i (y:UInt64×List UInt32)=>i≤v.length→ABI v u1 j i y) (abS v j) (fun i y hy=>fun hi=>th (by omega) (hy (by omega))) v.length 0 (0,u1) (fun _=>a0)
   obtain ⟨y,hy⟩:∃y,(List.range' 0 v.length).foldl (abS v j) (0,u1)=y:=⟨_,rfl⟩
   rw [hy]at hI e
   rw [Nat.zero_add]at hI
   obtain ⟨k1,k2,k3,k4⟩:=hI (Nat.le_refl _)
   rw [List.take_length]at k3
   refine ⟨g - 1,_,e,by rw [List.length_set]; omega,?_⟩
   have hgs:(g - 1).toNat=g.toNat - 1:=by
    rw [UInt64.toNat_sub_of_le _ _ (by rw [UInt64.le_iff_toNat_le]; exact hg1)]; rfl
   obtain ⟨u2,hu2⟩:∃u2,y.2.set (j+v.length) (y.2.getD (j+v.length) 0+y.1.toUInt32)=u2:=⟨_,rfl⟩
   have hv2:=dB y.2 (j+v.length) (y.2.getD (j+v.length) 0+y.1.toUInt32) (by omega)
   rw [hu2]at hv2 ⊢
   have hz2:∀k,j+v.length+1≤k→u2.getD k 0=0:=fun k hk=>by
    rw [←hu2,de (by omega),k2 k (by omega)]; exact hz1 k hk
   have hlt2:=li hz2
   have hw:=ce (y.2.getD (j+v.length) 0)
   have hsum:(y.2.getD (j+v.length) 0+y.1.toUInt32).toNat+4294967296*(((y.2.getD (j+v.length) 0).toNat+y.1.toNat) / 4294967296)=(y.2.getD (j+v.length) 0).toNat+y.1.toNat:=by
    rw [UInt32.toNat_add,d7,Nat.mod_eq_of_lt (a:=y.1.toNat) (by omega)]; omega
   obtain ⟨b',hb'⟩:∃b',((y.2.getD (j+v.length) 0).toNat+y.1.toNat) / 4294967296=b':=⟨_,rfl⟩
   rw [hb']at hsum
   have hb2:b'≤1:=by omega
   have key2:val u2+4294967296^(j+v.length+1)*b'=val u1+4294967296^j*val v:=by
    have:=congrArg (4294967296^(j+v.length)*·) hsum
    simp only [Nat.mul_add]at this
    rw [Nat.pow_succ,Nat.mul_assoc]
    omega
   obtain ⟨g',hg'⟩:∃g',g.toNat=g'+1:=⟨g.toNat - 1,by omega⟩
   rw [hgs,hg',Nat.add_sub_cancel]
   rw [hg',Nat.add_mul,Nat.one_mul,Nat.mul_add]at key h2
   have hb3:b'=1:=by
    rcases Nat.eq_zero_or_pos b' with h | h
    ·rw [h,Nat.mul_zero]at key2; omega
    ·omega
   rw [hb3,Nat.mul_one]at key2
   exact ⟨by omega,by omega,by omega⟩
 have e:=cu (f:=F.Dr v (j:Int) g q) (fun (x:MS) i=>(x.1,x.2.1,(i:Int),x.2.2)) (fun i x=>i≤v.length→MSI g v u j i x) (msS g v j) 0 v.length
  (X:=fun x=>(an (aB x.2.2 (wI ((j:Int)+(v.length:Int)):Int)) fun x_80=>bq ((x_80.toUInt64 - x.1) - x.2.1) fun x_81=>an (aB x.2.2 (wI ((j:Int)+(v.length:Int)):Int)) fun x_82=>
    bq (x.2.2.set (wI ((j:Int)+(v.length:Int)):Int).toNat x_81.toUInt32) fun x_83=>if ((aX x_81 63) != 0)=true then loop (F.CI v (j:Int) g q) (0,0,x_83) else F.Ct (j:Int) q (g,x_83)))
  (fun i x _ hi hx=>by
   have hx:=hx (by omega)
   refine ⟨?_,fun _=>tA hg (by omega) hx⟩
   have hxl:=hx.1
   have w3:wI ((i:Int)+(j:Int))=((j+i:Nat):Int):=by rw [aV (by omega) (by omega)]; omega
   have w4:wI ((i:Int)+1)=((i+1:Nat):Int):=by rw [aV (by omega) (by omega)]; rfl
   unfold F.Dr
   dsimp only
   rw [if_pos (decide_eq_true (by omega)),a7 hi 0,ak,a8,w3,a7 (show j+i<x.2.2.length by omega) 0,ak,a8,ak,a8,Int.toNat_natCast,w4]
   rfl)
  (fun x hx=>by
   unfold F.Dr
   dsimp only
   rw [if_neg (by simp)])
  v.length 0 (0,0,u) (Nat.le_refl _) (by omega) (fun _=>h0)
 have hI:=cK (fun i (x:MS)=>i≤v.length→MSI g v u j i x) (msS g v j) (fun i x hx=>fun hi=>tA hg (by omega) (hx (by omega))) v.length 0 (0,0,u) (fun _=>h0)
 rw [Nat.zero_add]at hI
 obtain ⟨d,u',r1,r2⟩:=fin _ (hI (Nat.le_refl _))
 exact ⟨d,u',e.trans r1,r2⟩
end Go.Gk.Bn
end

section
namespace Go.Gk.Bn
open Go Go.Gk Go.Gk.Sh
theorem qi (x y:UInt32):((br x.toUInt64 32) ||| y.toUInt64).toNat=4294967296*x.toNat+y.toNat:=by
 have:=ce x
 rw [r8 _ _ (by rw [bK]; omega),bK]
theorem xI (v u q:List UInt32) (j:Nat) (v1 v2 u2:UInt32) (h K U' V':Nat) (hn:2≤v.length) (hj:j+v.length<u.length) (hs:u.length≤70368744177664)
  (hu2:u.getD (j+v.length - 2) 0=u2) (hV:val v=(v1.toNat*4294967296+v2.toNat)*K+V') (hU':U'<K) (hV':V'<K) (hv1:1≤v1.toNat)
  (hlt:(h*4294967296+u2.toNat)*K+U'<4294967296*val v) (hh:h≤v1.toNat*4294967296+4294967295) :
  ∀(m:Nat) (g r:UInt64),g.toNat=m→h=g.toNat*v1.toNat+r.toNat→r.toNat≤4294967295→(h*4294967296+u2.toNat)*K+U'<(g.toNat+1)*val v →
   ∃g':UInt64,loop (F.Dz v v2 (j:Int) u v1 q) (g,r)=F.Ds u v (j:Int) q g'∧g'.toNat≤4294967295∧(h*4294967296+u2.toNat)*K+U'<(g'.toNat+1)*val v ∧
    g'.toNat*val v<(h*4294967296+u2.toNat)*K+U'+val v:=by
 have x1:=ce v1; have x2:=ce v2; have x3:=ce u2
 have w0:wI ((wI ((j:Int)+(v.length:Int))) - 2)=((j+v.length - 2:Nat):Int):=by
  rw [aV (x:=(j:Int)+(v.length:Int)) (by omega) (by omega),aV (by omega) (by omega)]; omega
 intro m
 induction m using Nat.strongRecOn with
 | ind m ih=>
  intro g r hm hgr hr hub
  -- too great
  have down:F.Dz v v2 (j:Int) u v1 q (g,r)=F.Cc v1 g r u v (j:Int) q true→(4294967296≤g.toNat∨r.toNat*4294967296+u2.toNat<g.toNat*v2.toNat) →
    ∃g':UInt64,loop (F.Dz v v2 (j:Int) u v1 q) (g,r)=F.Ds u v (j:Int) q g'∧g'.toNat≤4294967295∧(h*4294967296+u2.toNat)*K+U'<(g'.toNat+1)*val v ∧
    g'.toNat*val v<(h*4294967296+u2.toNat)*K+U'+val v:=by
   intro hL ht
   have hg1:1≤g.toNat:=by
    rcases Nat.eq_zero_or_pos g.toNat with h0 | h0
    ·rw [h0]at ht; omega
    ·exact h0
   have hgs:(g - 1).toNat=g.toNat - 1:=by
    rw [UInt64.toNat_sub_of_le _ _ (by rw [UInt64.le_iff_toNat_le]; exact hg1)]; rfl
   have hrs:(r+v1.toUInt64).toNat=r.toNat+v1.toNat:=by rw [fF _ _ (by rw [bK]; omega),bK]
   have hd:=q8 (K:=K) (V':=V') hgr hU' ht (by rw [←hV]; exact hlt)
   rw [←hV]at hd
   obtain ⟨k,hk⟩:∃k,g.toNat=k+1:=⟨g.toNat - 1,by omega⟩
   have hgr2:h=(g - 1).toNat*v1.toNat+(r+v1.toUInt64).toNat:=by
    rw [hgs,hrs,hgr,hk,Nat.add_sub_cancel,Nat.add_mul]; omega
   have hub2:(h*4294967296+u2.toNat)*K+U'<((g - 1).toNat+1)*val v:=by
    rw [hgs,hk,Nat.add_sub_cancel,←hk]; exact hd
   unfold F.Cc at hL
   rw [if_pos rfl]at hL
   by_cases hb:4294967295<(r+v1.toUInt64).toNat
   ·rw [if_pos (decide_eq_true (by rw [UInt64.lt_iff_toNat_lt]; exact hb))]at hL
    have hgl:(g - 1).toNat<4294967296:=by
     have:(g - 1).toNat*v1.toNat<4294967296*v1.toNat:=by omega
     exact Nat.lt_of_mul_lt_mul_right this
    refine ⟨g - 1,bE hL,by omega,hub2,?_⟩
    rw [hV]
    refine u6 hgr2 hV' hv1 hgl ?_
    have:=Nat.mul_le_mul (show (g - 1).toNat≤4294967295 by omega) (show v2.toNat≤4294967295 by omega)
    omega
   ·rw [if_neg (by simp only [decide_eq_true_eq,UInt64.lt_iff_toNat_lt]; exact hb)]at hL
    obtain ⟨g',q1,q2⟩:=ih (g - 1).toNat (by omega) (g - 1) (r+v1.toUInt64) rfl hgr2 (by omega) hub2
    exact ⟨g',(bI hL).trans q1,q2⟩
  have hL:F.Dz v v2 (j:Int) u v1 q (g,r)=if (decide ((4294967295:UInt64)<g))=true then F.Cc v1 g r u v (j:Int) q true else
    an (aB u (wI ((wI ((j:Int)+(v.length:Int))) - 2):Int)) fun x_59=>F.Cc v1 g r u v (j:Int) q (decide (((br r 32) ||| x_59.toUInt64)<(g*v2.toUInt64))):=rfl
  by_cases hg:4294967295<g.toNat
  ·rw [if_pos (decide_eq_true (by rw [UInt64.lt_iff_toNat_lt]; exact hg))]at hL
   exact down hL (.inl (by omega))
  ·rw [if_neg (by simp only [decide_eq_true_eq,UInt64.lt_iff_toNat_lt]; exact hg),w0,a7 (show j+v.length - 2<u.length by omega) 0,ak,hu2]at hL
   have e1:((br r 32) ||| u2.toUInt64).toNat=4294967296*r.toNat+u2.toNat:=r8 _ _ hr
   have hp:=Nat.mul_le_mul (show g.toNat≤4294967295 by omega) (show v2.toNat≤4294967295 by omega)
   have e2:(g*v2.toUInt64).toNat=g.toNat*v2.toNat:=by rw [mb _ _ (by rw [bK]; omega),bK]
   by_cases ht:r.toNat*4294967296+u2.toNat<g.toNat*v2.toNat
   ·rw [show decide (((br r 32) ||| u2.toUInt64)<(g*v2.toUInt64))=true from decide_eq_true (by rw [UInt64.lt_iff_toNat_lt,e1,e2]; omega)]at hL
    exact down hL (.inr ht)
   ·rw [show decide (((br r 32) ||| u2.toUInt64)<(g*v2.toUInt64))=false from decide_eq_false (by rw [UInt64.lt_iff_toNat_lt,e1,e2]; omega)]at hL
    unfold F.Cc at hL
    rw [if_neg (by decide)]at hL
    refine ⟨g,bE hL,by omega,hub,?_⟩
    rw [hV]
    exact u6 hgr hV' hv1 (by omega) (by omega)
theorem vv (s:UInt64) (v u q:List UInt32) (j:Nat) (hn:2≤v.length) (htop:2147483648≤(v.getD (v.length - 1) 0).toNat) (hj:j+v.length<u.length) (hq:j<q.length) (hs:u.length≤70368744177664) (hql:q.length≤70368744177664)
  (hu:val u<4294967296^(j+1)*val v) :
  ∃(d:UInt64) (u':List UInt32),F.Dx s v (v.getD (v.length - 1) 0) (v.getD (v.length - 2) 0) ((j:Int),u,q)=some (.inl ((j:Int) - 1,u',q.set j d.toUInt32))∧u'.length=u.length ∧
   val u'+4294967296^j*(d.toNat*val v)=val u∧val u'<4294967296^j*val v∧d.toNat≤4294967295:=by
 obtain ⟨v1,hv1⟩:∃v1,v.getD (v.length - 1) 0=v1:=⟨_,rfl⟩
 obtain ⟨v2,hv2⟩:∃v2,v.getD (v.length - 2) 0=v2:=⟨_,rfl⟩
 obtain ⟨u0,hu0⟩:∃u0,u.getD (j+v.length) 0=u0:=⟨_,rfl⟩
 obtain ⟨u1,hu1⟩:∃u1,u.getD (j+v.length - 1) 0=u1:=⟨_,rfl⟩
 obtain ⟨u2,hu2⟩:∃u2,u.getD (j+v.length - 2) 0=u2:=⟨_,rfl⟩
 rw [hv1]at htop
 have x1:=ce v1; have x2:=ce v2; have y0:=ce u0; have y1:=ce u1; have y2:=ce u2
 -- the divisor's parts
 have eV:val v=(v1.toNat*4294967296+v2.toNat)*4294967296^(v.length - 2)+val (v.take (v.length - 2)):=by
  have:=c8 v (v.length - 2) (by omega)
  rw [cf,show v.length - 2+1=v.length - 1 by omega,cf,show v.length - 1+1=v.length by omega,List.drop_length,dl,hv1,hv2]at this
  rw [this,Nat.mul_zero,Nat.add_zero,Nat.mul_comm (4294967296^_),Nat.add_comm v2.toNat,Nat.mul_comm 4294967296 v1.toNat]
  omega
 have hV':val (v.take (v.length - 2))<4294967296^(v.length - 2):=by
  have:=bB (v.take (v.length - 2))
  rwa [List.length_take,Nat.min_eq_left (by omega)]at this
 have hvl:=bB v
 have hu3:val u<4294967296^(j+v.length+1):=by
  have:=Nat.mul_lt_mul_of_pos_left hvl (Nat.pow_pos (n:=j+1) (show 0<4294967296 by decide))
  rw [←Nat.pow_add,show j+1+v.length=j+v.length+1 by omega]at this
  omega
 -- the dividend's parts
 obtain ⟨K,hK⟩:∃K,4294967296^(v.length - 2)=K:=⟨_,rfl⟩
 obtain ⟨U',hU'⟩:∃U',val ((u.drop j).take (v.length - 2))=U':=⟨_,rfl⟩
 have hU'K:U'<K:=by
  have:=bB ((u.drop j).take (v.length - 2))
  rw [List.length_take,List.length_drop,Nat.min_eq_left (by omega)]at this
  rw [←hU',←hK]; exact this
 obtain ⟨h,hh⟩:∃h,u0.toNat*4294967296+u1.toNat=h:=⟨_,rfl⟩
 have eU:val u / 4294967296^j=(h*4294967296+u2.toNat)*K+U':=by
  have h1:=c8 (u.drop j) (v.length - 2) (by rw [List.length_drop]; omega)
  rw [List.drop_drop,show j+(v.length - 2)=j+v.length - 2 by omega,cf u (j+v.length - 2),show j+v.length - 2+1=j+v.length - 1 by omega,cf u (j+v.length - 1),show j+v.length - 1+1=j+v.length by omega,cf u (j+v.length),gz hu3,hU',hK,hu0,hu1,hu2]at h1
  rw [ek,h1,←hh,Nat.mul_zero,Nat.add_zero,Nat.mul_comm K]
  have:u2.toNat+4294967296*(u1.toNat+4294967296*u0.toNat)=(u0.toNat*4294967296+u1.toNat)*4294967296+u2.toNat:=by omega
  rw [this]; omega
 rw [hK]at eV hV'
 have hpos:=Nat.pow_pos (n:=j) (show 0<4294967296 by decide)
 have hUlt:(h*4294967296+u2.toNat)*K+U'<4294967296*val v:=by
  rw [←eU,Nat.div_lt_iff_lt_mul hpos,Nat.mul_comm]
  rw [Nat.pow_succ,Nat.mul_assoc]at hu
  exact hu
 -- the first word is no greater than the divisor's
 have hu0v:u0.toNat≤v1.toNat:=by
  rcases Nat.lt_or_ge v1.toNat u0.toNat with h1 | h1
  ·exfalso
   have a1:(v1.toNat*4294967296+v2.toNat+1)*K≤(u0.toNat*4294967296)*K:=Nat.mul_le_mul_right _ (by omega)
   have a2:val v<(v1.toNat*4294967296+v2.toNat+1)*K:=by rw [eV,Nat.add_mul (v1.toNat*4294967296+v2.toNat) 1 K,Nat.one_mul]; exact Nat.add_lt_add_left hV' _
   have a4:=Nat.mul_le_mul_right K (show 4294967296*(u0.toNat*4294967296)≤h*4294967296+u2.toNat by omega)
   rw [Nat.mul_assoc 4294967296]at a4
   omega
  ·exact h1
 have hne:¬v1.toUInt64=0:=by
  intro h0
  have:=congrArg UInt64.toNat h0
  rw [bK]at this
  simp at this
  omega
 obtain ⟨H,hH⟩:∃H,(br u0.toUInt64 32) ||| u1.toUInt64=H:=⟨_,rfl⟩
 have hHn:H.toNat=h:=by rw [←hH,qi,←hh]; omega
 have hdv:(H / v1.toUInt64).toNat=h / v1.toNat:=by rw [UInt64.toNat_div,bK,hHn]
 have hmd:(H%v1.toUInt64).toNat=h%v1.toNat:=by rw [UInt64.toNat_mod,bK,hHn]
 have hdm:=Nat.div_add_mod h v1.toNat
 have hml:=Nat.mod_lt h (show 0<v1.toNat by omega)
 obtain ⟨g,hg,g1,g2,g3⟩:=xI v u q j v1 v2 u2 h K U' (val (v.take (v.length - 2))) hn hj hs hu2 eV hU'K hV' (by omega) hUlt (by omega) _ (H / v1.toUInt64) (H%v1.toUInt64) rfl
  (by rw [hdv,hmd,Nat.mul_comm]; omega) (by rw [hmd]; omega) (by
   rw [hdv]
   have a1:h+1≤(h / v1.toNat+1)*v1.toNat:=by rw [Nat.add_mul,Nat.mul_comm (h / v1.toNat)]; omega
   have a2:(h+1)*(4294967296*K)≤(h / v1.toNat+1)*v1.toNat*(4294967296*K):=Nat.mul_le_mul_right _ a1
   have a3:(h / v1.toNat+1)*(v1.toNat*(4294967296*K))≤(h / v1.toNat+1)*val v:=by
    refine Nat.mul_le_mul_left _ ?_
    rw [eV,Nat.add_mul,Nat.mul_assoc]; omega
   have a4:(h*4294967296+u2.toNat+1)*K≤(h+1)*(4294967296*K):=by
    rw [←Nat.mul_assoc]; exact Nat.mul_le_mul_right _ (by omega)
   rw [Nat.add_mul (h*4294967296+u2.toNat) 1 K,Nat.one_mul]at a4
   rw [Nat.mul_assoc]at a2
   omega)
 have hlow:=Nat.div_mul_le_self (val u) (4294967296^j)
 have hup:=Nat.lt_div_mul_add hpos (a:=val u)
 obtain ⟨d,u',r1,r2⟩:=zq v u q j g g1 hj hq hs hql
  (by
   have:=Nat.mul_le_mul_left (4294967296^j) (show val u / 4294967296^j+1≤(g.toNat+1)*val v by rw [eU]; omega)
   rw [Nat.mul_add,Nat.mul_one,Nat.mul_comm _ (val u / _)]at this
   omega)
  (by
   have:=Nat.mul_le_mul_left (4294967296^j) (show g.toNat*val v≤val u / 4294967296^j+val v by rw [eU]; omega)
   rw [Nat.mul_add _ (val u / _),Nat.mul_comm _ (val u / _)]at this
   omega) hu3
 refine ⟨d,u',?_,r2⟩
 have w2:wI ((j:Int)+(v.length:Int))=((j+v.length:Nat):Int):=by rw [aV (by omega) (by omega)]; rfl
 have w3:wI ((((j+v.length:Nat):Int)) - 1)=((j+v.length - 1:Nat):Int):=by rw [aV (by omega) (by omega)]; omega
 rw [hv1,hv2]
 unfold F.Dx
 dsimp only
 rw [if_pos (decide_eq_true (by omega)),w2,w3,a7 hj 0,ak,a7 (show j+v.length - 1<u.length by omega) 0,ak,a8,hu0,hu1,hH,grd_true _ hne,grd_true _ hne,hg]
 unfold F.Ds
 exact r1
theorem xw (s:UInt64) (v:List UInt32) (A:Nat) (hn:2≤v.length) (htop:2147483648≤(v.getD (v.length - 1) 0).toNat) (hss:s.toNat<32) :
  ∀(k:Nat) (u q:List UInt32),k+v.length≤u.length→k≤q.length→u.length≤70368744177664→q.length≤70368744177664→(∀i,i<k→q.getD i 0=0)→val q*val v+val u=A→val u<4294967296^k*val v →
   loop (F.Dx s v (v.getD (v.length - 1) 0) (v.getD (v.length - 2) 0)) ((k:Int) - 1,u,q)=some (aA (A / val v),aA (A%val v / 2^s.toNat)):=by
 have hvp:0<val v:=by
  rw [lh v (v.length - 1) (by omega)]
  have:=Nat.mul_pos (Nat.pow_pos (n:=v.length - 1) (show 0<4294967296 by decide)) (show 0<(v.getD (v.length - 1) 0).toNat+4294967296*val (v.drop (v.length - 1+1)) by omega)
  omega
 intro k
 induction k with
 | zero=>
  intro u q h1 h2 h3 h4 h5 h6 h7
  rw [Nat.pow_zero,Nat.one_mul]at h7
  have eq:A / val v=val q:=by rw [←h6,Nat.add_comm,Nat.add_mul_div_right _ _ hvp,Nat.div_eq_of_lt h7,Nat.zero_add]
  have er:A%val v=val u:=by rw [←h6,Nat.add_comm,Nat.add_mul_mod_self_right,Nat.mod_eq_of_lt h7]
  refine dM ?_
  unfold F.Dx
  dsimp only
  have hll:(aA (val u)).length≤u.length:=bm (bB u)
  rw [if_neg (by decide),fb _ (by omega),ak,fb _ (by omega),ak,xr _ _ hss (by omega),ak,aE,eq,er]; rfl
 | succ k ih=>
  intro u q h1 h2 h3 h4 h5 h6 h7
  have e1:(((k+1:Nat):Int)) - 1=(k:Int):=by omega
  obtain ⟨d,u',r1,r2,r3,r4,r5⟩:=vv s v u q k hn htop (by omega) (by omega) h3 h4 h7
  rw [e1,bI r1]
  refine ih u' _ (by omega) (by simp; omega) (by omega) (by simpa using h4) (fun i hi=>by rw [de (by omega)]; exact h5 i (by omega)) ?_ r4
  have hv:=dB q k d.toUInt32 (by omega)
  rw [h5 k (by omega)]at hv
  have z0:(0:UInt32).toNat=0:=rfl
  rw [z0,Nat.mul_zero,Nat.add_zero]at hv
  rw [hv,d7,Nat.mod_eq_of_lt (by omega),Nat.add_mul,Nat.mul_assoc,←h6]
  omega
theorem Aq (a b:List UInt32) (ha:Can a) (hb:Can b) (h0:b≠[]) (hla:a.length≤70368744177660) (hlb:b.length≤70000000000) :
  F.CY a b=some (aA (val a / val b),aA (val a%val b)):=by
 have hbl:b.length≠0:=fun h=>h0 (List.eq_nil_of_length_eq_zero h)
 have hbp:0<val b:=by
  rcases Nat.eq_zero_or_pos (val b) with h | h
  ·exact absurd (Ag hb oF h) h0
  ·exact h
 unfold F.CY
 rw [if_neg (by simpa using fun h=>hbl (by rw [h]; rfl)),oh a b ha hb (by omega) (by omega),ak]
 unfold dN
 by_cases h1:val a<val b
 ·rw [if_pos h1,if_pos (by decide)]
  have hal:a.length≤b.length:=by
   rcases Nat.lt_or_ge b.length a.length with h | h
   ·have:=ms ha h; omega
   ·exact h
  unfold F.CC
  have hap:apO 4 [] a=some a:=by unfold apO; rw [if_pos (by simp; omega)]; simp
  rw [hap,ak,ak,Nat.div_eq_of_lt h1,Nat.mod_eq_of_lt h1,bG,ik a ha]
 ·rw [if_neg h1,if_neg (by split <;> decide)]
  have hab:b.length≤a.length:=by
   rcases Nat.lt_or_ge a.length b.length with h | h
   ·exact absurd (ms hb h) h1
   ·exact h
  by_cases h2:a.length≤2
  ·rw [if_pos (decide_eq_true (by omega))]
   obtain ⟨x,hx,ex⟩:=qq a h2
   obtain ⟨y,hy,ey⟩:=qq b (by omega)
   have hy0:¬y=0:=fun h=>by rw [h]at ey; simp at ey; omega
   rw [hx,ak,hy,ak,grd_true _ hy0,gM,ak,grd_true _ hy0,gM,ak,UInt64.toNat_div,UInt64.toNat_mod,ex,ey]
  ·rw [if_neg (by simp only [decide_eq_true_eq]; omega)]
   by_cases h3:b.length=1
   ·rw [if_pos (by simp [h3]),show (0:Int)=((0:Nat):Int) from rfl,a7 (show 0<b.length by omega) 0,ak]
    have hvb:val b=(b.getD 0 0).toNat:=by
     match b,h3 with
     | [x],_=>simp [val]
    have hd:b.getD 0 0≠0:=fun h=>by rw [h]at hvb; simp at hvb; omega
    obtain ⟨r,hr,er⟩:=ya a (b.getD 0 0) hd (by omega)
    rw [hr,ak,fb _ (by simp),ak,←hvb]
    rw [←hvb]at er
    simp only [cM,dl,Nat.mul_zero,Nat.add_zero,er]
   ·rw [if_neg (by simpa using fun h=>h3 (by omega)),length_eq b (by omega),ak]
    have hbits:hU b=32*(b.length - 1)+nb (b.getD (b.length - 1) 0).toNat:=by unfold hU; rw [if_neg hbl]
    obtain ⟨tp,htp⟩:∃tp,b.getD (b.length - 1) 0=tp:=⟨_,rfl⟩
    rw [htp]at hbits
    have htp0:tp≠0:=by
     intro h
     refine hb ?_
     rw [List.getLast?_eq_getElem?]
     rw [←htp,List.getD_eq_getElem?_getD,List.getElem?_eq_getElem (show b.length - 1<b.length by omega)]at h
     rw [List.getElem?_eq_getElem (show b.length - 1<b.length by omega),←h]; rfl
    have htn:tp.toNat≠0:=fun h=>htp0 (UInt32.toNat_inj.1 h)
    obtain ⟨n1,n2⟩:=c6 tp.toNat
    obtain ⟨n3,n4⟩:=n2 htn
    have n5:=yb tp
    obtain ⟨z,hz⟩:∃z,nb tp.toNat=z:=⟨_,rfl⟩
    rw [hz]at n1 n3 n4 n5 hbits
    -- the shift
    have es:UInt64.ofInt (wI ((wI (32 - (Int.tmod (wI ((hU b:Int) - 1)) 32))) - 1))=UInt64.ofNat (32 - z):=by
     rw [aV (x:=(hU b:Int) - 1) (by omega) (by omega)]
     have:Int.tmod ((hU b:Int) - 1) 32=(z:Int) - 1:=by
      rw [hbits]
      have:((32*(b.length - 1)+z:Nat):Int) - 1=((32*(b.length - 1)+(z - 1):Nat):Int):=by omega
      rw [this,Int.tmod_eq_emod_of_nonneg (by omega)]
      omega
     rw [this,aV (x:=32 - ((z:Int) - 1)) (by omega) (by omega),aV (x:=32 - ((z:Int) - 1) - 1) (by omega) (by omega),show (32 - ((z:Int) - 1)) - 1=((32 - z:Nat):Int) by omega]
     apply UInt64.toNat_inj.1
     rw [UInt64.ofInt,UInt64.toNat_ofNat',UInt64.toNat_ofNat']; omega
    rw [es,a8]
    obtain ⟨s,hs⟩:∃s,UInt64.ofNat (32 - z)=s:=⟨_,rfl⟩
    have hsn:s.toNat=32 - z:=by rw [←hs,UInt64.toNat_ofNat']; omega
    have hss:s.toNat<32:=by omega
    rw [hs,oA b s (by omega) (by omega),ak]
    -- the divisor shifted
    have e2z:2^z*2^(32 - z)=4294967296:=by rw [←Nat.pow_add,show z+(32 - z)=32 by omega]
    have e2z1:2^(z - 1)*2^(32 - z)=2147483648:=by rw [←Nat.pow_add,show z - 1+(32 - z)=31 by omega]
    have ev:val b=val (b.take (b.length - 1))+4294967296^(b.length - 1)*tp.toNat:=by
     have:=bD b (b.length - 1)
     rwa [show b.length - 1+1=b.length by omega,List.take_length,htp]at this
    have hvt:val (b.take (b.length - 1))<4294967296^(b.length - 1):=by
     have:=bB (b.take (b.length - 1))
     rwa [List.length_take,Nat.min_eq_left (by omega)]at this
    have hup:val b*2^s.toNat<4294967296^b.length:=by
     have a1:val b<4294967296^(b.length - 1)*2^z:=by
      have:4294967296^(b.length - 1)*(tp.toNat+1)≤4294967296^(b.length - 1)*2^z:=Nat.mul_le_mul_left _ n1
      rw [Nat.mul_add]at this
      omega
     have a2:=Nat.mul_lt_mul_of_pos_right a1 (Nat.two_pow_pos (32 - z))
     rw [Nat.mul_assoc,e2z,←Nat.pow_succ,Nat.succ_eq_add_one,show b.length - 1+1=b.length by omega]at a2
     rw [hsn]; exact a2
    have hlow:4294967296^(b.length - 1)*2147483648≤val b*2^s.toNat:=by
     rw [hsn,←e2z1,←Nat.mul_assoc]
     refine Nat.mul_le_mul_right _ ?_
     have:4294967296^(b.length - 1)*2^(z - 1)≤4294967296^(b.length - 1)*tp.toNat:=Nat.mul_le_mul_left _ n3
     omega
    obtain ⟨v,hv⟩:∃v,aA (val b*2^s.toNat)=v:=⟨_,rfl⟩
    have hvv:val v=val b*2^s.toNat:=by rw [←hv,aE]
    have hvl:v.length=b.length:=by
     have a1:=bm hup
     have a2:=lD (n:=val b*2^s.toNat) (k:=b.length - 1) (by
      refine Nat.le_trans ?_ hlow
      exact Nat.le_mul_of_pos_right _ (by decide))
     rw [hv]at a1 a2
     omega
    have htop:2147483648≤(v.getD (v.length - 1) 0).toNat:=by
     have a1:=bD v (v.length - 1)
     rw [show v.length - 1+1=v.length by omega,List.take_length]at a1
     have a2:=bB (v.take (v.length - 1))
     rw [List.length_take,Nat.min_eq_left (by omega)]at a2
     rw [hvl]at a1 a2 ⊢
     rcases Nat.lt_or_ge (v.getD (b.length - 1) 0).toNat 2147483648 with h | h
     ·have:4294967296^(b.length - 1)*((v.getD (b.length - 1) 0).toNat+1)≤4294967296^(b.length - 1)*2147483648:=Nat.mul_le_mul_left _ h
      rw [Nat.mul_add]at this
      omega
     ·exact h
    rw [hv]
    -- the dividend shifted
    have w2:wI ((a.length:Int)+2)=((a.length+2:Nat):Int):=by rw [aV (by omega) (by omega)]; rfl
    rw [w2,dw (by omega),ak,Int.toNat_natCast,oA a s (by omega) (by omega),ak]
    have hpow:2^s.toNat≤4294967296:=by
     have:=Nat.pow_le_pow_right (show 0<2 by decide) (show s.toNat≤32 by omega)
     have e:(2:Nat)^32=4294967296:=rfl
     omega
    have hAl:val a*2^s.toNat<4294967296^(a.length+1):=by
     have a1:=bB a
     have a2:=Nat.mul_le_mul (show val a+1≤4294967296^a.length from a1) hpow
     rw [←Nat.pow_succ,Nat.add_mul]at a2
     have:=Nat.two_pow_pos s.toNat
     omega
    obtain ⟨A,hA⟩:∃A,val a*2^s.toNat=A:=⟨_,rfl⟩
    rw [hA]at hAl ⊢
    have hll:=bm hAl
    have hcp:cpL (List.replicate (a.length+2) (0:UInt32)) (aA A) 0 (List.replicate (a.length+2) (0:UInt32)).length=pad (aA A) (a.length+2):=by
     unfold cpL pad
     simp only [List.length_replicate,Nat.sub_zero,List.take_zero,List.nil_append,Nat.zero_add]
     rw [List.take_of_length_le (by omega),Nat.min_eq_left (by omega),List.drop_replicate]
    rw [hcp,a8,fE (by omega)]
    have w5:wI ((wI (((a.length+2:Nat):Int) - (v.length:Int))) - 1)=((a.length+1 - b.length:Nat):Int):=by
     rw [hvl,aV (x:=((a.length+2:Nat):Int) - (b.length:Int)) (by omega) (by omega),aV (by omega) (by omega)]; omega
    have w6:wI (((a.length+1 - b.length:Nat):Int)+1)=((a.length+2 - b.length:Nat):Int):=by rw [aV (by omega) (by omega)]; omega
    have w7:wI ((v.length:Int) - 1)=((v.length - 1:Nat):Int):=by rw [aV (by omega) (by omega)]; omega
    have w8:wI ((v.length:Int) - 2)=((v.length - 2:Nat):Int):=by rw [aV (by omega) (by omega)]; omega
    rw [w5,a8,w6,dw (by omega),ak,Int.toNat_natCast,w7,a7 (show v.length - 1<v.length by omega) 0,ak,w8,a7 (show v.length - 2<v.length by omega) 0,ak]
    have hg0:∀i,(List.replicate (a.length+2 - b.length) (0:UInt32)).getD i 0=0:=fun i=>by
     rw [List.getD_eq_getElem?_getD,List.getElem?_replicate]; split <;> rfl
    have hL:=xw s v A (by omega) htop hss (a.length+2 - b.length) (pad (aA A) (a.length+2)) (List.replicate (a.length+2 - b.length) 0)
     (by rw [fE (by omega)]; omega) (by simp) (by rw [fE (by omega)]; omega) (by simp; omega) (fun i _=>hg0 i) (by rw [cT,kk,aE]; omega) (by
      rw [kk,aE]
      refine Nat.lt_of_lt_of_le hAl ?_
      have a1:=Nat.mul_le_mul_left (4294967296^(a.length+2 - b.length)) (Nat.le_trans (Nat.le_mul_of_pos_right (4294967296^(b.length - 1)) (show 0<2147483648 by decide)) hlow)
      rw [←hvv,←Nat.pow_add,show a.length+2 - b.length+(b.length - 1)=a.length+1 by omega]at a1
      exact a1)
    rw [show (((a.length+2 - b.length:Nat):Int)) - 1=((a.length+1 - b.length:Nat):Int) by omega]at hL
    rw [hL,hvv,←hA,Nat.mul_div_mul_right _ _ (Nat.two_pow_pos _),Nat.mul_mod_mul_right,Nat.mul_div_cancel _ (Nat.two_pow_pos _)]
end Go.Gk.Bn
end
