import Derived.Test.YtahgjafdhjbkeaaGreatDoorGkU0
set_option linter.unusedVariables false
set_option linter.unusedSimpArgs false
set_option linter.unusedSectionVars false

section
namespace Go.Gk.Bn
open Go Go.Gk Go.Gk.Sh
def nb (n:Nat):Nat:=if h:n=0 then 0 else nb (n / 2)+1
termination_by n
decreasing_by exact Nat.div_lt_self (Nat.pos_of_ne_zero h) (show 1<2 by decide)
theorem ge:nb 0=0:=by rw[nb]; simp
theorem tZ {n:Nat} (h:n≠0):nb n=nb (n / 2)+1:=by rw[nb]; simp[h]
theorem d7 (n:Nat):n<2^nb n/\(n≠0->2^(nb n - 1)<=n/\1<=nb n):=by
 induction n using Nat.strongRecOn with
 | ind n ih=>
  by_cases h:n=0
  ·subst h; rw[ge]; simp
  ·obtain⟨g,f⟩:=ih (n / 2) (Nat.div_lt_self (Nat.pos_of_ne_zero h) (by decide))
   rw[tZ h]
   refine⟨by rw[Nat.pow_succ]; omega,fun _=>⟨?_,by omega⟩⟩
   rw[Nat.add_sub_cancel]
   by_cases h3:n / 2=0
   ·rw[h3,ge]; omega
   ·obtain⟨i,j⟩:=f h3
    have:2^nb (n / 2)=2^(nb (n / 2) - 1)*2:=by rw[<-Nat.pow_succ]; congr 1; omega
    omega
theorem mc {n k:Nat} (h:n<2^k):nb n<=k:=by
 by_cases h0:n=0
 ·subst h0; rw[ge]; omega
 ·obtain⟨g,i⟩:=(d7 n).2 h0
  rcases Nat.lt_or_ge k (nb n) with f | f
  ·have:=Nat.pow_le_pow_right (show 0<2 by decide) (show k<=nb n - 1 by omega)
   omega
  ·exact f
theorem zg (x:UInt32):nb x.toNat<=32:=mc (cC x)
theorem Dn (x:UInt32):(bA x 1).toNat=x.toNat / 2:=by rw[fH]; rfl
theorem uK (a:L0) (o:a.length≠0) (q:a.length<=1000000000000000):∀(m:Nat) (t:UInt32) (n:Nat),nb t.toNat=m->n+m<=32->loop (F.Fi a) ((n:Int),t)=some (((32*(a.length - 1)+n+m:Nat):Int)):=by
 intro m
 induction m with
 | zero=>
  intro t n h i
  have f:t.toNat=0:=by
   rcases Nat.eq_zero_or_pos t.toNat with f | f
   ·exact f
   ·rw[tZ (by omega)]at h; omega
  have:t=0:=UInt32.toNat_inj.1 f
  subst this
  refine cQ ?_
  unfold F.Fi
  dsimp only
  rw[if_neg (by decide),aJ (x:=(a.length:Int) - 1) (by omega) (by omega),aJ (x:=((a.length:Int) - 1)*32) (by omega) (by omega),aJ (by omega) (by omega)]
  show some _=_
  congr 2
  omega
 | succ m ih=>
  intro t n h i
  have f:t.toNat≠0:=by intro f; rw[f,ge]at h; omega
  have g:t≠0:=fun j=>f (by rw[j]; rfl)
  rw[tZ f]at h
  have k:F.Fi a ((n:Int),t)=some (.inl (((n+1:Nat):Int),bA t 1)):=by
   unfold F.Fi
   dsimp only
   rw[if_pos (by simpa using g),aJ (by omega) (by omega)]; rfl
  rw[bJ k,ih (bA t 1) (n+1) (by rw[Dn]; omega) (by omega)]
  congr 2; omega
def ja (a:L0):Nat:=if a.length=0 then 0 else 32*(a.length - 1)+nb (a.getD (a.length - 1) 0).toNat
theorem length_eq (a:L0) (f:a.length<=1000000000000000):F.FZ a=some ((ja a:Nat):Int):=by
 unfold F.FZ ja
 by_cases h0:a.length=0
 ·rw[if_pos (by simp[h0]),if_pos h0]; rfl
 ·have g:wI ((a.length:Int) - 1)=((a.length - 1:Nat):Int):=by rw[aJ (by omega) (by omega)]; omega
  rw[if_neg (by simpa using fun h=>h0 (by rw[h]; rfl)),g,aP (show a.length - 1<a.length by omega) 0,ae]
  have:=uK a h0 f _ (a.getD (a.length - 1) 0) 0 rfl (by have:=zg (a.getD (a.length - 1) 0); omega)
  rw[if_neg h0]
  rw[Nat.add_zero]at this
  exact this
theorem zn (x:UInt32) (s:Nat) (g:s<32):(bH x.toUInt64 s).toNat=x.toNat*2^s:=by
 have h:=cC x
 rw[jg,bV,Nat.min_eq_left (by omega),Nat.mod_eq_of_lt]
 have f:2^s<=2^31:=Nat.pow_le_pow_right (by decide) (by omega)
 have i:x.toNat*2^s<=4294967295*2^31:=Nat.mul_le_mul (by omega) f
 have j:(2:Nat)^31=2147483648:=rfl
 omega
theorem BZ {p q:UInt32} (s:Nat) (f:q.toNat%2^s=0) (g:p.toNat<2^s):(p ||| q).toNat=p.toNat+q.toNat:=by
 rw[UInt32.toNat_or,Nat.or_comm,nD s f g,Nat.add_comm]
theorem jj {s:Nat} (f:s<32):2^s*2^(32 - s)=4294967296:=by
 rw[<-Nat.pow_add,show s+(32 - s)=32 by omega]
def kz (a:L0) (s w:Nat) (r:L0) (i:Nat):L0:=
 (r.set (i+w) (r.getD (i+w) 0 ||| (bH (a.getD i 0).toUInt64 s).toUInt32)).set (i+w+1) ((r.set (i+w) (r.getD (i+w) 0 ||| (bH (a.getD i 0).toUInt64 s).toUInt32)).getD (i+w+1) 0 ||| (aO (bH (a.getD i 0).toUInt64 s) 32).toUInt32)
theorem qu (a:L0) (n:UInt64) (hn:n.toNat<=1000000000000) (ha:a.length+n.toNat / 32+1<=70368744177664):F.F1 a n=some (an (val a*2^n.toNat)):=by
 unfold F.F1
 by_cases h0:a.length=0
 ·rw[if_pos (by simp[h0]),List.eq_nil_of_length_eq_zero h0,d8,Nat.zero_mul,bR]
 ·obtain⟨w,hw⟩:∃w,n.toNat / 32=w:=⟨_,rfl⟩
  obtain⟨s,hs⟩:∃s,n.toNat%32=s:=⟨_,rfl⟩
  have o:s<32:=by omega
  have e1:(n / 32).toNat=w:=by rw[UInt64.toNat_div,<-hw]; rfl
  have e2:(n%32).toNat=s:=by rw[UInt64.toNat_mod,<-hs]; rfl
  have O:2^n.toNat=4294967296^w*2^s:=by
   rw[show (4294967296:Nat)=2^32 from rfl,<-Nat.pow_mul,<-Nat.pow_add]
   congr 1; omega
  rw[if_neg (by simpa using fun h=>h0 (by rw[h]; rfl)),e1,aS,aJ (x:=(w:Int)) (by omega) (by omega),aJ (x:=(a.length:Int)+(w:Int)) (by omega) (by omega),aJ (by omega) (by omega),dK (by omega),ae,
   show ((a.length:Int)+(w:Int)+1).toNat=a.length+w+1 by omega]
  have B:=jj o
  have R:1<=2^s:=Nat.one_le_two_pow
  -- what holds behind i words
  have step:∀(i:Nat) (r:L0),i<a.length->(r.length=a.length+w+1/\(∀k,i+w<k->r.getD k 0=0)/\(r.getD (i+w) 0).toNat<2^s/\val r=4294967296^w*(val (a.take i)*2^s)) ->
    ((kz a s w r i).length=a.length+w+1/\(∀k,i+1+w<k->(kz a s w r i).getD k 0=0)/\((kz a s w r i).getD (i+1+w) 0).toNat<2^s/\val (kz a s w r i)=4294967296^w*(val (a.take (i+1))*2^s)):=by
   rintro i r hi ⟨G,U,h3,I⟩
   unfold kz
   obtain⟨v,V⟩:∃v,bH (a.getD i 0).toUInt64 s=v:=⟨_,rfl⟩
   have t:v.toNat=(a.getD i 0).toNat*2^s:=by rw[<-V,zn _ _ o]
   have Y:=cC (a.getD i 0)
   rw[V]
   have Z:=jM v
   -- the low part is a multiple of 2^s,the high part is below it
   have z:v.toUInt32.toNat%2^s=0:=by
    rw[ez,t,<-B]
    rw[Nat.mod_mul_right_mod,Nat.mul_mod_left]
   have a6:v.toUInt32.toNat+2^s<=4294967296:=by
    have J:=cC v.toUInt32
    obtain⟨c,hc⟩:=Nat.dvd_of_mod_eq_zero z
    rw[hc]at J ⊢
    rw[<-B]at J ⊢
    have:=Nat.lt_of_mul_lt_mul_left J
    have:=Nat.mul_le_mul_left (2^s) (show c+1<=2^(32 - s) by omega)
    rw[Nat.mul_add,Nat.mul_one]at this
    exact this
   have ab:(aO v 32).toNat<2^s:=by
    rw[kW,t,Nat.div_lt_iff_lt_mul (by decide),Nat.mul_comm (2^s)]
    exact Nat.mul_lt_mul_of_pos_right Y (by omega)
   have ac:=BZ (p:=r.getD (i+w) 0) (q:=v.toUInt32) s z h3
   obtain⟨A,g⟩:∃A,r.set (i+w) (r.getD (i+w) 0 ||| v.toUInt32)=A:=⟨_,rfl⟩
   have K:A.length=a.length+w+1:=by rw[<-g]; simpa using G
   have hz:A.getD (i+w+1) 0=0:=by rw[<-g,dw (by omega)]; exact U _ (by omega)
   rw[g,hz,UInt32.zero_or]
   have v1:=dB r (i+w) (r.getD (i+w) 0 ||| v.toUInt32) (by omega)
   rw[g,ac]at v1
   have M:=dB A (i+w+1) (aO v 32).toUInt32 (by omega)
   rw[hz]at M
   have z0:(0:UInt32).toNat=0:=rfl
   rw[z0,Nat.mul_zero,Nat.add_zero,vV,<-kW]at M
   refine⟨by simpa using K,fun k hk=>?_,?_,?_⟩
   ·rw[dw (by omega),<-g,dw (by omega)]; exact U k (by omega)
   ·rw[show i+1+w=i+w+1 by omega,List.getD_eq_getElem?_getD,List.getElem?_set_self (by omega)]
    simp only[Option.getD_some,vV,<-kW]
    exact ab
   ·rw[M,bO,Nat.add_mul,Nat.mul_add,<-I]
    have e3:4294967296^w*(4294967296^i*(a.getD i 0).toNat*2^s)=4294967296^(i+w)*v.toNat:=by
     rw[t,Nat.add_comm i w,Nat.pow_add,Nat.mul_assoc,Nat.mul_assoc]
    have e4:4294967296^(i+w)*v.toNat=4294967296^(i+w)*v.toUInt32.toNat+4294967296^(i+w+1)*(aO v 32).toNat:=by
     rw[Nat.pow_succ,Nat.mul_assoc,<-Nat.mul_add,<-Z]
    rw[e3,e4]
    rw[Nat.mul_add]at v1
    omega
  have m:(List.replicate (a.length+w+1) (0:UInt32)).length=a.length+w+1/\(∀k,0+w<k->(List.replicate (a.length+w+1) (0:UInt32)).getD k 0=0)/\((List.replicate (a.length+w+1) (0:UInt32)).getD (0+w) 0).toNat<2^s /\
    val (List.replicate (a.length+w+1) 0)=4294967296^w*(val (a.take 0)*2^s):=by
   have hg:∀k,(List.replicate (a.length+w+1) (0:UInt32)).getD k 0=0:=fun k=>by
    rw[List.getD_eq_getElem?_getD,List.getElem?_replicate]; split <;> rfl
   exact⟨by simp,fun k _=>hg k,by rw[hg]; exact Nat.lt_of_lt_of_le (show (0:UInt32).toNat<1 by decide) R,by rw[cn]; simp[val]⟩
  have e:=ca (f:=F.Gm a n (w:Int)) (fun (x:L0) i=>((i:Int),x))
   (fun i r=>i<=a.length->(r.length=a.length+w+1/\(∀k,i+w<k->r.getD k 0=0)/\(r.getD (i+w) 0).toNat<2^s/\val r=4294967296^w*(val (a.take i)*2^s))) (kz a s w) 0 a.length
   (X:=fun x=>F.Dz x)
   (fun i x _ hi j=>by
    have j:=j (by omega)
    refine⟨?_,fun _=>step i x hi j⟩
    obtain⟨G,_⟩:=j
    have w1:wI ((i:Int)+(w:Int))=((i+w:Nat):Int):=by rw[aJ (by omega) (by omega)]; rfl
    have w2:wI (((i+w:Nat):Int)+1)=((i+w+1:Nat):Int):=by rw[aJ (by omega) (by omega)]; rfl
    have w3:wI ((i:Int)+1)=((i+1:Nat):Int):=by rw[aJ (by omega) (by omega)]; rfl
    unfold F.Gm
    dsimp only
    rw[if_pos (decide_eq_true (by omega)),aP hi 0,ae,aS,w1,w2,w3,e2,aP (show i+w<x.length by omega) 0,ae,ae,aS,Int.toNat_natCast,aP (show i+w+1<(x.set (i+w) (x.getD (i+w) 0 ||| (bH (a.getD i 0).toUInt64 s).toUInt32)).length by simp; omega) 0,ae,ae,aS,Int.toNat_natCast]
    rfl)
   (fun x j=>by
    unfold F.Gm
    dsimp only
    rw[if_neg (by simp)]
    cases F.Dz x <;> rfl)
   a.length 0 _ (Nat.le_refl _) (by omega) (fun _=>m)
  refine e.trans ?_
  have N:=cG (fun i (r:L0)=>i<=a.length->(r.length=a.length+w+1/\(∀k,i+w<k->r.getD k 0=0)/\(r.getD (i+w) 0).toNat<2^s/\val r=4294967296^w*(val (a.take i)*2^s))) (kz a s w)
   (fun i x j=>fun hi=>step i x (by omega) (j (by omega))) a.length 0 _ (fun _=>m)
  obtain⟨y,hy⟩:∃y,(List.range' 0 a.length).foldl (kz a s w) (List.replicate (a.length+w+1) 0)=y:=⟨_,rfl⟩
  rw[hy]at N ⊢
  rw[Nat.zero_add]at N
  obtain⟨G,_,_,I⟩:=N (Nat.le_refl _)
  rw[gg _ (by omega),I,List.take_length,O,Nat.mul_left_comm]
end Go.Gk.Bn
end

section
namespace Go.Gk.Bn
open Go Go.Gk Go.Gk.Sh
theorem ch (a:L0) (i:Nat):val (a.drop i)=(a.getD i 0).toNat+4294967296*val (a.drop (i+1)):=by
 by_cases h:i<a.length
 ·rw[List.drop_eq_getElem_cons h,dz]
  congr 2
  rw[List.getD_eq_getElem?_getD,List.getElem?_eq_getElem h]; rfl
 ·rw[List.drop_of_length_le (by omega),List.drop_of_length_le (by omega),dU (by omega)]; rfl
theorem fe (a:L0) (i:Nat):val a / 4294967296^i=val (a.drop i):=by
 by_cases h:i<=a.length
 ·have f:=bv (a.take i)
  rw[List.length_take,Nat.min_eq_left h]at f
  rw[dg a i h,Nat.add_comm,Nat.mul_add_div (Nat.pow_pos (by decide)),Nat.div_eq_of_lt f,Nat.add_zero]
 ·have f:=bv a
  have g:=Nat.pow_le_pow_right (show 0<4294967296 by decide) (show a.length<=i by omega)
  rw[List.drop_of_length_le (by omega),Nat.div_eq_of_lt (by omega)]; rfl
theorem zk (a:L0) (n:UInt64) (m:n.toNat<32) (O:a.length<=70368744177664):F.I4 a n=some (an (val a / 2^n.toNat)):=by
 unfold F.I4
 have B:(n / 32).toNat=0:=by rw[UInt64.toNat_div]; exact Nat.div_eq_of_lt m
 have o:(n%32).toNat=n.toNat:=by rw[UInt64.toNat_mod]; exact Nat.mod_eq_of_lt m
 obtain⟨s,G⟩:∃s,n.toNat=s:=⟨_,rfl⟩
 rw[G]at o m ⊢
 have w0:wI ((0:Nat):Int)=0:=rfl
 rw[B,aS,w0]
 by_cases h0:a.length=0
 ·rw[if_pos (decide_eq_true (by omega)),List.eq_nil_of_length_eq_zero h0,d8,Nat.zero_div,bR]
 ·rw[if_neg (by simp only[decide_eq_true_eq]; omega),Int.sub_zero,aJ (by omega) (by omega),dK (by omega),ae,Int.toNat_natCast,<-qL]
  have q:=jj m
  have t:∀i,(val a / 2^s) / 4294967296^i%4294967296=((a.getD i 0).toNat+4294967296*(a.getD (i+1) 0).toNat) / 2^s%4294967296:=by
   intro i
   rw[Nat.div_div_eq_div_mul,Nat.mul_comm,<-Nat.div_div_eq_div_mul,fe,ch,ch]
   have:(a.getD i 0).toNat+4294967296*((a.getD (i+1) 0).toNat+4294967296*val (a.drop (i+1+1)))=((a.getD i 0).toNat+4294967296*(a.getD (i+1) 0).toNat)+2^s*(4294967296*(2^(32 - s)*val (a.drop (i+1+1)))):=by
    have:2^s*(4294967296*(2^(32 - s)*val (a.drop (i+1+1))))=4294967296*(4294967296*val (a.drop (i+1+1))):=by
     rw[Nat.mul_left_comm,<-Nat.mul_assoc (2^s),q]
    rw[this,Nat.mul_add]; omega
   rw[this,Nat.add_mul_div_left _ _ (Nat.two_pow_pos s),Nat.add_mul_mod_self_left]
  have h:∀(i:Nat) (x:L0),(x.length=i/\val x=(val a / 2^s)%4294967296^i) ->
    ((x++[(aO ((a.getD i 0).toUInt64 ||| (bH (a.getD (i+1) 0).toUInt64 32)) s).toUInt32]).length=i+1/\val (x++[(aO ((a.getD i 0).toUInt64 ||| (bH (a.getD (i+1) 0).toUInt64 32)) s).toUInt32])=(val a / 2^s)%4294967296^(i+1)):=by
   rintro i x ⟨g,j⟩
   refine⟨by simp[g],?_⟩
   rw[fX,g,j,Nat.mod_pow_succ,t i,ez,ea,pK,Nat.min_eq_left (by omega)]
  have e:=ca (f:=F.Gx a 0 n) (fun (x:L0) i=>((i:Int),pad x a.length)) (fun i x=>x.length=i/\val x=(val a / 2^s)%4294967296^i)
   (fun x i=>x++[(aO ((a.getD i 0).toUInt64 ||| (bH (a.getD (i+1) 0).toUInt64 32)) s).toUInt32]) 0 a.length
   (X:=fun x=>F.Dz (pad x a.length))
   (fun i x _ hi k=>by
    refine⟨?_,h i x k⟩
    obtain⟨g,j⟩:=k
    have z:wI ((i:Int)+1)=((i+1:Nat):Int):=by rw[aJ (by omega) (by omega)]; rfl
    have I:wI ((i:Int)+0)=(i:Int):=by rw[aJ (by omega) (by omega)]; omega
    obtain⟨u,J⟩:=lV (x:=x) (n:=a.length) (i:=i) (by omega) (by omega)
    have A:∀v:UInt64,v=((a.getD i 0).toUInt64 ||| (bH (a.getD (i+1) 0).toUInt64 32))->F.G5 n (i:Int) (pad x a.length) v=some (.inl (((i+1:Nat):Int),pad (x++[(aO ((a.getD i 0).toUInt64 ||| (bH (a.getD (i+1) 0).toUInt64 32)) s).toUInt32]) a.length)):=by
     rintro v rfl
     unfold F.G5
     dsimp only
     have:=nP (x:=x) (n:=a.length) (by omega) (aO ((a.getD i 0).toUInt64 ||| (bH (a.getD (i+1) 0).toUInt64 32)) s).toUInt32
     rw[g]at this
     rw[J,ae,aS,Int.toNat_natCast,z,o,this]; rfl
    unfold F.Gx
    dsimp only
    rw[if_pos (decide_eq_true (by rw[gC (by omega)]; omega)),I,aP hi 0,ae,z]
    by_cases hb:i+1<a.length
    ·rw[if_pos (decide_eq_true (by omega)),aP hb 0,ae,aS,A _ rfl]
    ·rw[if_neg (by simp only[decide_eq_true_eq]; omega),A _ (by
      apply UInt64.toNat_inj.1
      rw[pK,dU (a:=a) (i:=i+1) (by omega),bV]; rfl)])
   (fun x k=>by
    unfold F.Gx
    dsimp only
    rw[if_neg (by rw[gC (by omega)]; simp)]
    cases F.Dz (pad x a.length) <;> rfl)
   a.length 0 [] (Nat.le_refl _) (by omega) ⟨rfl,by simp[val,Nat.mod_one]⟩
  refine e.trans ?_
  obtain⟨g,j⟩:=cG (fun i (x:L0)=>x.length=i/\val x=(val a / 2^s)%4294967296^i) (fun x i=>x++[(aO ((a.getD i 0).toUInt64 ||| (bH (a.getD (i+1) 0).toUInt64 32)) s).toUInt32])
   (fun i x k=>h i x k) a.length 0 [] ⟨rfl,by simp[val,Nat.mod_one]⟩
  obtain⟨y,K⟩:∃y,(List.range' 0 a.length).foldl (fun x i=>x++[(aO ((a.getD i 0).toUInt64 ||| (bH (a.getD (i+1) 0).toUInt64 32)) s).toUInt32]) []=y:=⟨_,rfl⟩
  rw[K]at g j ⊢
  rw[Nat.zero_add]at g j
  have M:=bv a
  have N:=Nat.div_le_self (val a) (2^s)
  rw[gg _ (by rw[gC (by omega)]; omega),ld,j,Nat.mod_eq_of_lt (by omega)]
theorem yb (u v:UInt32) (c:UInt64) (hc:c.toNat<=1):((u.toUInt64 - v.toUInt64) - c).toUInt32.toNat+c.toNat+v.toNat=u.toNat+4294967296*(aO ((u.toUInt64 - v.toUInt64) - c) 63).toNat/\(aO ((u.toUInt64 - v.toUInt64) - c) 63).toNat<=1:=by
 have f:=cC u; have g:=cC v
 rw[ez,zR,UInt64.toNat_sub,UInt64.toNat_sub,bV,bV]
 omega
theorem yF (u:UInt32) (c d:UInt64) (hc:c.toNat<=4294967295) (f:d.toNat<=1):((u.toUInt64 - c) - d).toUInt32.toNat+c.toNat+d.toNat=u.toNat+4294967296*(aO ((u.toUInt64 - c) - d) 63).toNat/\(aO ((u.toUInt64 - c) - d) 63).toNat<=1:=by
 have g:=cC u
 rw[ez,zR,UInt64.toNat_sub,UInt64.toNat_sub,bV]
 omega
abbrev MS:=UInt64×UInt64×L0
def msS (g:UInt64) (v:L0) (j:Nat) (x:MS) (i:Nat):MS:=
 (aO (x.1+g*(v.getD i 0).toUInt64) 32,aO (((x.2.2.getD (j+i) 0).toUInt64 - (x.1+g*(v.getD i 0).toUInt64).toUInt32.toUInt64) - x.2.1) 63,
  x.2.2.set (j+i) (((x.2.2.getD (j+i) 0).toUInt64 - (x.1+g*(v.getD i 0).toUInt64).toUInt32.toUInt64) - x.2.1).toUInt32)
def MSI (g:UInt64) (v u:L0) (j i:Nat) (x:MS):Prop:=
 x.2.2.length=u.length/\(∀k,k<j\/j+i<=k->x.2.2.getD k 0=u.getD k 0)/\val x.2.2+4294967296^j*(g.toNat*val (v.take i))=val u+4294967296^(j+i)*(x.1.toNat+x.2.1.toNat)/\x.1.toNat<=4294967295/\x.2.1.toNat<=1
theorem vv {g:UInt64} {v u:L0} {j i:Nat} {x:MS} (z:g.toNat<=4294967295) (O:j+i<u.length) (h:MSI g v u j i x):MSI g v u j (i+1) (msS g v j x i):=by
 obtain⟨A,B,F,R,G⟩:=h
 unfold msS
 have m:=iS (v.getD i 0)
 have U:g.toNat*(v.getD i 0).toNat<=4294967295*4294967295:=Nat.mul_le_mul z m
 have o:(x.1+g*(v.getD i 0).toUInt64).toNat=x.1.toNat+g.toNat*(v.getD i 0).toNat:=by
  have f:(g*(v.getD i 0).toUInt64).toNat=g.toNat*(v.getD i 0).toNat:=by rw[nQ _ _ (by rw[bV]; omega),bV]
  rw[fW _ _ (by rw[f]; omega),f]
 obtain⟨C,I⟩:∃C,x.1+g*(v.getD i 0).toUInt64=C:=⟨_,rfl⟩
 rw[I]at o ⊢
 obtain⟨f,q⟩:=yb (x.2.2.getD (j+i) 0) C.toUInt32 x.2.1 G
 obtain⟨t,J⟩:∃t,((x.2.2.getD (j+i) 0).toUInt64 - C.toUInt32.toUInt64) - x.2.1=t:=⟨_,rfl⟩
 rw[J]at f q ⊢
 have y:=jM C
 refine⟨by simpa using A,fun k V=>?_,?_,?_,q⟩
 ·simp only
  rw[dw (by omega)]; exact B k (by omega)
 ·simp only
  have X:=dB x.2.2 (j+i) t.toUInt32 (by omega)
  rw[bO,Nat.mul_add,Nat.mul_add]
  have K:4294967296^j*(g.toNat*(4294967296^i*(v.getD i 0).toNat))=4294967296^(j+i)*(g.toNat*(v.getD i 0).toNat):=by
   rw[Nat.pow_add,Nat.mul_assoc,Nat.mul_left_comm g.toNat]
  have M:4294967296^(j+i)*(t.toUInt32.toNat+x.2.1.toNat+C.toUInt32.toNat)=4294967296^(j+i)*((x.2.2.getD (j+i) 0).toNat+4294967296*(aO t 63).toNat):=by rw[f]
  have N:4294967296^(j+i)*(x.1.toNat+g.toNat*(v.getD i 0).toNat)=4294967296^(j+i)*(C.toUInt32.toNat+4294967296*(aO C 32).toNat):=by rw[<-o,<-y]
  rw[K,<-Nat.add_assoc j i 1,Nat.pow_succ,Nat.mul_assoc]
  rw[Nat.mul_add,Nat.mul_add,Nat.mul_add]at M
  rw[Nat.mul_add,Nat.mul_add]at N
  rw[Nat.mul_add]at F
  rw[Nat.mul_add,Nat.mul_add]
  omega
 ·simp only[kW]; omega
end Go.Gk.Bn
end

section
namespace Go.Gk.Bn
open Go Go.Gk Go.Gk.Sh
theorem mL {a:L0} {m:Nat} (h:∀k,m<=k->a.getD k 0=0):val a<4294967296^m:=by
 by_cases hm:m<=a.length
 ·have g:a.drop m=List.replicate (a.length - m) 0:=by
   refine List.ext_getElem (by simp) fun i j o=>?_
   have:=h (m+i) (by omega)
   rw[List.getD_eq_getElem?_getD,List.getElem?_eq_getElem (by simp at j; omega)]at this
   rw[List.getElem_drop,List.getElem_replicate]
   exact this
  have f:=bv (a.take m)
  rw[List.length_take,Nat.min_eq_left hm]at f
  rw[dg a m hm,g,cn]
  simpa using f
 ·exact Nat.lt_of_lt_of_le (bv a) (Nat.pow_le_pow_right (by decide) (by omega))
theorem vd {a:L0} {m:Nat} (h:val a<4294967296^m) (k:Nat) (f:m<=k):a.getD k 0=0:=by
 have g:val a / 4294967296^k=0:=Nat.div_eq_of_lt (Nat.lt_of_lt_of_le h (Nat.pow_le_pow_right (by decide) f))
 rw[fe,ch]at g
 exact UInt32.toNat_inj.1 (by show _=0; omega)
theorem gm {a:L0} {m:Nat} (h:val a<4294967296^m):val (a.drop m)=0:=by
 rw[<-fe,Nat.div_eq_of_lt h]
def abS (v:L0) (j:Nat) (x:UInt64×L0) (i:Nat):UInt64×L0:=
 (aO (x.1+((x.2.getD (i+j) 0).toUInt64+(v.getD i 0).toUInt64)) 32,x.2.set (i+j) (x.1+((x.2.getD (i+j) 0).toUInt64+(v.getD i 0).toUInt64)).toUInt32)
def ABI (v u:L0) (j i:Nat) (x:UInt64×L0):Prop:=
 x.2.length=u.length/\(∀k,k<j\/j+i<=k->x.2.getD k 0=u.getD k 0)/\val x.2+4294967296^(j+i)*x.1.toNat=val u+4294967296^j*val (v.take i)/\x.1.toNat<=1
theorem vb {v u:L0} {j i:Nat} {x:UInt64×L0} (A:j+i<u.length) (h:ABI v u j i x):ABI v u j (i+1) (abS v j x i):=by
 obtain⟨q,t,B,F⟩:=h
 unfold abS
 have G:=iS (x.2.getD (i+j) 0); have I:=iS (v.getD i 0)
 obtain⟨s,f⟩:∃s,x.1+((x.2.getD (i+j) 0).toUInt64+(v.getD i 0).toUInt64)=s:=⟨_,rfl⟩
 have g:s.toNat=x.1.toNat+((x.2.getD (i+j) 0).toNat+(v.getD i 0).toNat):=by
  have m:((x.2.getD (i+j) 0).toUInt64+(v.getD i 0).toUInt64).toNat=(x.2.getD (i+j) 0).toNat+(v.getD i 0).toNat:=by rw[fW _ _ (by rw[bV,bV]; omega),bV,bV]
  rw[<-f,fW _ _ (by rw[m]; omega),m]
 rw[f]
 have o:=jM s
 refine⟨by simpa using q,fun k J=>?_,?_,by simp only[kW]; omega⟩
 ·simp only
  rw[dw (by omega)]; exact t k (by omega)
 ·simp only
  have K:=dB x.2 (i+j) s.toUInt32 (by omega)
  have y:4294967296^(j+i)*s.toNat=4294967296^(j+i)*s.toUInt32.toNat+4294967296^(j+(i+1))*(aO s 32).toNat:=by
   rw[<-Nat.add_assoc,Nat.pow_succ,Nat.mul_assoc,<-Nat.mul_add,<-o]
  have z:4294967296^j*(4294967296^i*(v.getD i 0).toNat)=4294967296^(j+i)*(v.getD i 0).toNat:=by rw[Nat.pow_add,Nat.mul_assoc]
  rw[bO,Nat.mul_add,z]
  rw[g,Nat.mul_add,Nat.mul_add]at y
  rw[Nat.add_comm i j]at *
  omega
theorem BO (v u q:L0) (j:Nat) (g:UInt64) (hg:g.toNat<=4294967295) (hj:j+v.length<u.length) (hq:j<q.length) (hs:u.length<=70368744177664) (er:q.length<=70368744177664)
  (h1:val u<4294967296^j*((g.toNat+1)*val v)) (h2:4294967296^j*(g.toNat*val v)<=val u+4294967296^j*val v) (h3:val u<4294967296^(j+v.length+1)) :
  ∃(d:UInt64) (o:L0),loop (F.E7 v (j:Int) g q) (0,0,0,u)=some (.inl ((j:Int) - 1,o,q.set j d.toUInt32))/\o.length=u.length /\
   val o+4294967296^j*(d.toNat*val v)=val u/\val o<4294967296^j*val v/\d.toNat<=4294967295:=by
 have w2:wI ((j:Int)+(v.length:Int))=((j+v.length:Nat):Int):=by rw[aJ (by omega) (by omega)]; rfl
 have wj:wI ((j:Int) - 1)=(j:Int) - 1:=aJ (by omega) (by omega)
 have Y:∀(d:UInt64) (y:L0),F.EZ (j:Int) q (d,y)=some (.inl ((j:Int) - 1,y,q.set j d.toUInt32)):=by
  intro d y
  unfold F.EZ
  dsimp only
  rw[aP hq 0,ae,aS,Int.toNat_natCast,wj]; rfl
 have c4:=Nat.pow_pos (n:=j) (show 0<4294967296 by decide)
 have h0:MSI g v u j 0 (0,0,u):=⟨rfl,fun _ _=>rfl,by simp[val],by simp,by simp⟩
 have hz:=fun k (N:j+v.length+1<=k)=>vd h3 k N
 -- behind the loop
 have a5:∀x:MS,MSI g v u j v.length x->∃(d:UInt64) (o:L0),
   (ah (aA x.2.2 (wI ((j:Int)+(v.length:Int)):Int)) fun I=>bq ((I.toUInt64 - x.1) - x.2.1) fun z=>ah (aA x.2.2 (wI ((j:Int)+(v.length:Int)):Int)) fun ap=>
    bq (x.2.2.set (wI ((j:Int)+(v.length:Int)):Int).toNat z.toUInt32) fun A=>if ((aO z 63) != 0)=true then loop (F.Ey v (j:Int) g q) (0,0,A) else F.EZ (j:Int) q (g,A))
    = some (.inl ((j:Int) - 1,o,q.set j d.toUInt32))/\o.length=u.length/\val o+4294967296^j*(d.toNat*val v)=val u/\val o<4294967296^j*val v/\d.toNat<=4294967295:=by
  rintro x ⟨e1,e2,e3,e4,e5⟩
  rw[w2,aP (show j+v.length<x.2.2.length by omega) 0,ae,aS,ae,aS,Int.toNat_natCast]
  obtain⟨f1,f2⟩:=yF (x.2.2.getD (j+v.length) 0) x.1 x.2.1 e4 e5
  obtain⟨t,ht⟩:∃t,((x.2.2.getD (j+v.length) 0).toUInt64 - x.1) - x.2.1=t:=⟨_,rfl⟩
  rw[ht]at f1 f2 ⊢
  have hv:=dB x.2.2 (j+v.length) t.toUInt32 (by omega)
  obtain⟨m,O⟩:∃m,x.2.2.set (j+v.length) t.toUInt32=m:=⟨_,rfl⟩
  have b2:m.length=u.length:=by rw[<-O]; simpa using e1
  have Z:∀k,j+v.length+1<=k->m.getD k 0=0:=fun k N=>by
   rw[<-O,dw (by omega),e2 k (by omega)]; exact hz k N
  have d1:=mL Z
  rw[O]at hv ⊢
  rw[List.take_length]at e3
  have G:val m+4294967296^j*(g.toNat*val v)=val u+4294967296^(j+v.length+1)*(aO t 63).toNat:=by
   have:=congrArg (4294967296^(j+v.length)*·) f1
   simp only[Nat.mul_add]at this
   rw[Nat.mul_add]at e3
   rw[Nat.pow_succ,Nat.mul_assoc]
   omega
  by_cases hb:(aO t 63).toNat=0
  ·have:aO t 63=0:=UInt64.toNat_inj.1 hb
   rw[if_neg (by rw[this]; decide),Y]
   rw[hb,Nat.mul_zero,Nat.add_zero]at G
   refine⟨g,m,rfl,b2,G,?_,hg⟩
   rw[Nat.add_mul,Nat.one_mul,Nat.mul_add]at h1
   omega
  ·have b3:(aO t 63).toNat=1:=by omega
   have b4:¬aO t 63=0:=fun h=>hb (by rw[h]; rfl)
   rw[if_pos (by simpa using b4)]
   rw[b3,Nat.mul_one]at G
   have b5:1<=g.toNat:=by
    rcases Nat.eq_zero_or_pos g.toNat with h | h
    ·rw[h,Nat.zero_mul,Nat.mul_zero]at G; omega
    ·exact h
   have a0:ABI v m j 0 (0,m):=⟨rfl,fun _ _=>rfl,by simp[val],by simp⟩
   have e:=ca (f:=F.Ey v (j:Int) g q) (fun (y:UInt64×L0) i=>(y.1,(i:Int),y.2)) (fun i y=>i<=v.length->ABI v m j i y) (abS v j) 0 v.length
    (X:=fun y=>some (.inl ((j:Int) - 1,y.2.set (j+v.length) (y.2.getD (j+v.length) 0+y.1.toUInt32),q.set j (g - 1).toUInt32)))
    (fun i y _ hi B=>by
     have B:=B (by omega)
     refine⟨?_,fun _=>vb (by omega) B⟩
     have b7:=B.1
     have w3:wI ((i:Int)+(j:Int))=((i+j:Nat):Int):=by rw[aJ (by omega) (by omega)]; rfl
     have w4:wI ((i:Int)+1)=((i+1:Nat):Int):=by rw[aJ (by omega) (by omega)]; rfl
     unfold F.Ey
     dsimp only
     rw[if_pos (decide_eq_true (by omega)),w3,aP (show i+j<y.2.length by omega) 0,ae,aP hi 0,ae,aS,ae,aS,Int.toNat_natCast,w4]
     rfl)
    (fun y B=>by
     have b7:=(B (Nat.le_refl _)).1
     unfold F.Ey
     dsimp only
     rw[if_neg (by simp),w2,aP (show j+v.length<y.2.length by omega) 0,ae,ae,aS,Int.toNat_natCast,Y])
    v.length 0 (0,m) (Nat.le_refl _) (by omega) (fun _=>a0)
   have K:=cG (fun i (y:UInt64×L0)=>i<=v.length->ABI v m j i y) (abS v j) (fun i y B=>fun hi=>vb (by omega) (B (by omega))) v.length 0 (0,m) (fun _=>a0)
   obtain⟨y,B⟩:∃y,(List.range' 0 v.length).foldl (abS v j) (0,m)=y:=⟨_,rfl⟩
   rw[B]at K e
   rw[Nat.zero_add]at K
   obtain⟨k1,k2,k3,k4⟩:=K (Nat.le_refl _)
   rw[List.take_length]at k3
   refine⟨g - 1,_,e,by rw[List.length_set]; omega,?_⟩
   have b8:(g - 1).toNat=g.toNat - 1:=by
    rw[UInt64.toNat_sub_of_le _ _ (by rw[UInt64.le_iff_toNat_le]; exact b5)]; rfl
   obtain⟨V,ab⟩:∃V,y.2.set (j+v.length) (y.2.getD (j+v.length) 0+y.1.toUInt32)=V:=⟨_,rfl⟩
   have b9:=dB y.2 (j+v.length) (y.2.getD (j+v.length) 0+y.1.toUInt32) (by omega)
   rw[ab]at b9 ⊢
   have cm:∀k,j+v.length+1<=k->V.getD k 0=0:=fun k N=>by
    rw[<-ab,dw (by omega),k2 k (by omega)]; exact Z k N
   have d4:=mL cm
   have hw:=cC (y.2.getD (j+v.length) 0)
   have R:(y.2.getD (j+v.length) 0+y.1.toUInt32).toNat+4294967296*(((y.2.getD (j+v.length) 0).toNat+y.1.toNat) / 4294967296)=(y.2.getD (j+v.length) 0).toNat+y.1.toNat:=by
    rw[UInt32.toNat_add,ez,Nat.mod_eq_of_lt (a:=y.1.toNat) (by omega)]; omega
   obtain⟨M,co⟩:∃M,((y.2.getD (j+v.length) 0).toNat+y.1.toNat) / 4294967296=M:=⟨_,rfl⟩
   rw[co]at R
   have ex:M<=1:=by omega
   have U:val V+4294967296^(j+v.length+1)*M=val m+4294967296^j*val v:=by
    have:=congrArg (4294967296^(j+v.length)*·) R
    simp only[Nat.mul_add]at this
    rw[Nat.pow_succ,Nat.mul_assoc]
    omega
   obtain⟨g',ac⟩:∃g',g.toNat=g'+1:=⟨g.toNat - 1,by omega⟩
   rw[b8,ac,Nat.add_sub_cancel]
   rw[ac,Nat.add_mul,Nat.one_mul,Nat.mul_add]at G h2
   have cx:M=1:=by
    rcases Nat.eq_zero_or_pos M with h | h
    ·rw[h,Nat.mul_zero]at U; omega
    ·omega
   rw[cx,Nat.mul_one]at U
   exact⟨by omega,by omega,by omega⟩
 have e:=ca (f:=F.E7 v (j:Int) g q) (fun (x:MS) i=>(x.1,x.2.1,(i:Int),x.2.2)) (fun i x=>i<=v.length->MSI g v u j i x) (msS g v j) 0 v.length
  (X:=fun x=>(ah (aA x.2.2 (wI ((j:Int)+(v.length:Int)):Int)) fun I=>bq ((I.toUInt64 - x.1) - x.2.1) fun z=>ah (aA x.2.2 (wI ((j:Int)+(v.length:Int)):Int)) fun ap=>
    bq (x.2.2.set (wI ((j:Int)+(v.length:Int)):Int).toNat z.toUInt32) fun A=>if ((aO z 63) != 0)=true then loop (F.Ey v (j:Int) g q) (0,0,A) else F.EZ (j:Int) q (g,A)))
  (fun i x _ hi J=>by
   have J:=J (by omega)
   refine⟨?_,fun _=>vv hg (by omega) J⟩
   have ey:=J.1
   have w3:wI ((i:Int)+(j:Int))=((j+i:Nat):Int):=by rw[aJ (by omega) (by omega)]; omega
   have w4:wI ((i:Int)+1)=((i+1:Nat):Int):=by rw[aJ (by omega) (by omega)]; rfl
   unfold F.E7
   dsimp only
   rw[if_pos (decide_eq_true (by omega)),aP hi 0,ae,aS,w3,aP (show j+i<x.2.2.length by omega) 0,ae,aS,ae,aS,Int.toNat_natCast,w4]
   rfl)
  (fun x J=>by
   unfold F.E7
   dsimp only
   rw[if_neg (by simp)])
  v.length 0 (0,0,u) (Nat.le_refl _) (by omega) (fun _=>h0)
 have K:=cG (fun i (x:MS)=>i<=v.length->MSI g v u j i x) (msS g v j) (fun i x J=>fun hi=>vv hg (by omega) (J (by omega))) v.length 0 (0,0,u) (fun _=>h0)
 rw[Nat.zero_add]at K
 obtain⟨d,o,r1,r2⟩:=a5 _ (K (Nat.le_refl _))
 exact⟨d,o,e.trans r1,r2⟩
end Go.Gk.Bn
end

section
namespace Go.Gk.Bn
open Go Go.Gk Go.Gk.Sh
theorem sa (x y:UInt32):((bH x.toUInt64 32) ||| y.toUInt64).toNat=4294967296*x.toNat+y.toNat:=by
 have:=cC x
 rw[tK _ _ (by rw[bV]; omega),bV]
theorem zD (v u q:L0) (j:Nat) (f o t:UInt32) (h K z V':Nat) (hn:2<=v.length) (hj:j+v.length<u.length) (hs:u.length<=70368744177664)
  (Y:u.getD (j+v.length - 2) 0=t) (J:val v=(f.toNat*4294967296+o.toNat)*K+V') (Z:z<K) (N:V'<K) (O:1<=f.toNat)
  (ab:(h*4294967296+t.toNat)*K+z<4294967296*val v) (hh:h<=f.toNat*4294967296+4294967295) :
  ∀(m:Nat) (g r:UInt64),g.toNat=m->h=g.toNat*f.toNat+r.toNat->r.toNat<=4294967295->(h*4294967296+t.toNat)*K+z<(g.toNat+1)*val v ->
   ∃y:UInt64,loop (F.FV v o (j:Int) u f q) (g,r)=F.Fp u v (j:Int) q y/\y.toNat<=4294967295/\(h*4294967296+t.toNat)*K+z<(y.toNat+1)*val v /\
    y.toNat*val v<(h*4294967296+t.toNat)*K+z+val v:=by
 have x1:=cC f; have x2:=cC o; have x3:=cC t
 have w0:wI ((wI ((j:Int)+(v.length:Int))) - 2)=((j+v.length - 2:Nat):Int):=by
  rw[aJ (x:=(j:Int)+(v.length:Int)) (by omega) (by omega),aJ (by omega) (by omega)]; omega
 intro m
 induction m using Nat.strongRecOn with
 | ind m ih=>
  intro g r hm A hr ac
  -- too great
  have B:F.FV v o (j:Int) u f q (g,r)=F.Em f g r u v (j:Int) q true->(4294967296<=g.toNat\/r.toNat*4294967296+t.toNat<g.toNat*o.toNat) ->
    ∃y:UInt64,loop (F.FV v o (j:Int) u f q) (g,r)=F.Fp u v (j:Int) q y/\y.toNat<=4294967295/\(h*4294967296+t.toNat)*K+z<(y.toNat+1)*val v /\
    y.toNat*val v<(h*4294967296+t.toNat)*K+z+val v:=by
   intro i M
   have ad:1<=g.toNat:=by
    rcases Nat.eq_zero_or_pos g.toNat with U | U
    ·rw[U]at M; omega
    ·exact U
   have R:(g - 1).toNat=g.toNat - 1:=by
    rw[UInt64.toNat_sub_of_le _ _ (by rw[UInt64.le_iff_toNat_le]; exact ad)]; rfl
   have ap:(r+f.toUInt64).toNat=r.toNat+f.toNat:=by rw[fW _ _ (by rw[bV]; omega),bV]
   have hd:=sB (K:=K) (V':=V') A Z M (by rw[<-J]; exact ab)
   rw[<-J]at hd
   obtain⟨k,V⟩:∃k,g.toNat=k+1:=⟨g.toNat - 1,by omega⟩
   have G:h=(g - 1).toNat*f.toNat+(r+f.toUInt64).toNat:=by
    rw[R,ap,A,V,Nat.add_sub_cancel,Nat.add_mul]; omega
   have I:(h*4294967296+t.toNat)*K+z<((g - 1).toNat+1)*val v:=by
    rw[R,V,Nat.add_sub_cancel,<-V]; exact hd
   unfold F.Em at i
   rw[if_pos rfl]at i
   by_cases hb:4294967295<(r+f.toUInt64).toNat
   ·rw[if_pos (decide_eq_true (by rw[UInt64.lt_iff_toNat_lt]; exact hb))]at i
    have a1:(g - 1).toNat<4294967296:=by
     have:(g - 1).toNat*f.toNat<4294967296*f.toNat:=by omega
     exact Nat.lt_of_mul_lt_mul_right this
    refine⟨g - 1,bL i,by omega,I,?_⟩
    rw[J]
    refine xY G N O a1 ?_
    have:=Nat.mul_le_mul (show (g - 1).toNat<=4294967295 by omega) (show o.toNat<=4294967295 by omega)
    omega
   ·rw[if_neg (by simp only[decide_eq_true_eq,UInt64.lt_iff_toNat_lt]; exact hb)]at i
    obtain⟨y,q1,q2⟩:=ih (g - 1).toNat (by omega) (g - 1) (r+f.toUInt64) rfl G (by omega) I
    exact⟨y,(bJ i).trans q1,q2⟩
  have i:F.FV v o (j:Int) u f q (g,r)=if (decide ((4294967295:UInt64)<g))=true then F.Em f g r u v (j:Int) q true else
    ah (aA u (wI ((wI ((j:Int)+(v.length:Int))) - 2):Int)) fun X=>F.Em f g r u v (j:Int) q (decide (((bH r 32) ||| X.toUInt64)<(g*o.toUInt64))):=rfl
  by_cases hg:4294967295<g.toNat
  ·rw[if_pos (decide_eq_true (by rw[UInt64.lt_iff_toNat_lt]; exact hg))]at i
   exact B i (.inl (by omega))
  ·rw[if_neg (by simp only[decide_eq_true_eq,UInt64.lt_iff_toNat_lt]; exact hg),w0,aP (show j+v.length - 2<u.length by omega) 0,ae,Y]at i
   have e1:((bH r 32) ||| t.toUInt64).toNat=4294967296*r.toNat+t.toNat:=tK _ _ hr
   have hp:=Nat.mul_le_mul (show g.toNat<=4294967295 by omega) (show o.toNat<=4294967295 by omega)
   have e2:(g*o.toUInt64).toNat=g.toNat*o.toNat:=by rw[nQ _ _ (by rw[bV]; omega),bV]
   by_cases M:r.toNat*4294967296+t.toNat<g.toNat*o.toNat
   ·rw[show decide (((bH r 32) ||| t.toUInt64)<(g*o.toUInt64))=true from decide_eq_true (by rw[UInt64.lt_iff_toNat_lt,e1,e2]; omega)]at i
    exact B i (.inr M)
   ·rw[show decide (((bH r 32) ||| t.toUInt64)<(g*o.toUInt64))=false from decide_eq_false (by rw[UInt64.lt_iff_toNat_lt,e1,e2]; omega)]at i
    unfold F.Em at i
    rw[if_neg (by decide)]at i
    refine⟨g,bL i,by omega,ac,?_⟩
    rw[J]
    exact xY A N O (by omega) (by omega)
theorem yL (s:UInt64) (v u q:L0) (j:Nat) (hn:2<=v.length) (Y:2147483648<=(v.getD (v.length - 1) 0).toNat) (Z:j+v.length<u.length) (hq:j<q.length) (hs:u.length<=70368744177664) (a6:q.length<=70368744177664)
  (hu:val u<4294967296^(j+1)*val v) :
  ∃(d:UInt64) (t:L0),F.FG s v (v.getD (v.length - 1) 0) (v.getD (v.length - 2) 0) ((j:Int),u,q)=some (.inl ((j:Int) - 1,t,q.set j d.toUInt32))/\t.length=u.length /\
   val t+4294967296^j*(d.toNat*val v)=val u/\val t<4294967296^j*val v/\d.toNat<=4294967295:=by
 obtain⟨f,y⟩:∃f,v.getD (v.length - 1) 0=f:=⟨_,rfl⟩
 obtain⟨m,G⟩:∃m,v.getD (v.length - 2) 0=m:=⟨_,rfl⟩
 obtain⟨i,I⟩:∃i,u.getD (j+v.length) 0=i:=⟨_,rfl⟩
 obtain⟨o,J⟩:∃o,u.getD (j+v.length - 1) 0=o:=⟨_,rfl⟩
 obtain⟨k,M⟩:∃k,u.getD (j+v.length - 2) 0=k:=⟨_,rfl⟩
 rw[y]at Y
 have x1:=cC f; have x2:=cC m; have y0:=cC i; have y1:=cC o; have y2:=cC k
 -- the divisor's parts
 have eV:val v=(f.toNat*4294967296+m.toNat)*4294967296^(v.length - 2)+val (v.take (v.length - 2)):=by
  have:=dg v (v.length - 2) (by omega)
  rw[ch,show v.length - 2+1=v.length - 1 by omega,ch,show v.length - 1+1=v.length by omega,List.drop_length,d8,y,G]at this
  rw[this,Nat.mul_zero,Nat.add_zero,Nat.mul_comm (4294967296^_),Nat.add_comm m.toNat,Nat.mul_comm 4294967296 f.toNat]
  omega
 have z:val (v.take (v.length - 2))<4294967296^(v.length - 2):=by
  have:=bv (v.take (v.length - 2))
  rwa [List.length_take,Nat.min_eq_left (by omega)]at this
 have b2:=bv v
 have N:val u<4294967296^(j+v.length+1):=by
  have:=Nat.mul_lt_mul_of_pos_left b2 (Nat.pow_pos (n:=j+1) (show 0<4294967296 by decide))
  rw[<-Nat.pow_add,show j+1+v.length=j+v.length+1 by omega]at this
  omega
 -- the dividend's parts
 obtain⟨K,hK⟩:∃K,4294967296^(v.length - 2)=K:=⟨_,rfl⟩
 obtain⟨x,O⟩:∃x,val ((u.drop j).take (v.length - 2))=x:=⟨_,rfl⟩
 have ac:x<K:=by
  have:=bv ((u.drop j).take (v.length - 2))
  rw[List.length_take,List.length_drop,Nat.min_eq_left (by omega)]at this
  rw[<-O,<-hK]; exact this
 obtain⟨h,hh⟩:∃h,i.toNat*4294967296+o.toNat=h:=⟨_,rfl⟩
 have eU:val u / 4294967296^j=(h*4294967296+k.toNat)*K+x:=by
  have A:=dg (u.drop j) (v.length - 2) (by rw[List.length_drop]; omega)
  rw[List.drop_drop,show j+(v.length - 2)=j+v.length - 2 by omega,ch u (j+v.length - 2),show j+v.length - 2+1=j+v.length - 1 by omega,ch u (j+v.length - 1),show j+v.length - 1+1=j+v.length by omega,ch u (j+v.length),gm N,O,hK,I,J,M]at A
  rw[fe,A,<-hh,Nat.mul_zero,Nat.add_zero,Nat.mul_comm K]
  have:k.toNat+4294967296*(o.toNat+4294967296*i.toNat)=(i.toNat*4294967296+o.toNat)*4294967296+k.toNat:=by omega
  rw[this]; omega
 rw[hK]at eV z
 have B:=Nat.pow_pos (n:=j) (show 0<4294967296 by decide)
 have ap:(h*4294967296+k.toNat)*K+x<4294967296*val v:=by
  rw[<-eU,Nat.div_lt_iff_lt_mul B,Nat.mul_comm]
  rw[Nat.pow_succ,Nat.mul_assoc]at hu
  exact hu
 -- the first word is no greater than the divisor's
 have b9:i.toNat<=f.toNat:=by
  rcases Nat.lt_or_ge f.toNat i.toNat with A | A
  ·exfalso
   have a1:(f.toNat*4294967296+m.toNat+1)*K<=(i.toNat*4294967296)*K:=Nat.mul_le_mul_right _ (by omega)
   have a2:val v<(f.toNat*4294967296+m.toNat+1)*K:=by rw[eV,Nat.add_mul (f.toNat*4294967296+m.toNat) 1 K,Nat.one_mul]; exact Nat.add_lt_add_left z _
   have a4:=Nat.mul_le_mul_right K (show 4294967296*(i.toNat*4294967296)<=h*4294967296+k.toNat by omega)
   rw[Nat.mul_assoc 4294967296]at a4
   omega
  ·exact A
 have R:¬f.toUInt64=0:=by
  intro h0
  have:=congrArg UInt64.toNat h0
  rw[bV]at this
  simp at this
  omega
 obtain⟨H,hH⟩:∃H,(bH i.toUInt64 32) ||| o.toUInt64=H:=⟨_,rfl⟩
 have U:H.toNat=h:=by rw[<-hH,sa,<-hh]; omega
 have V:(H / f.toUInt64).toNat=h / f.toNat:=by rw[UInt64.toNat_div,bV,U]
 have X:(H%f.toUInt64).toNat=h%f.toNat:=by rw[UInt64.toNat_mod,bV,U]
 have c3:=Nat.div_add_mod h f.toNat
 have c4:=Nat.mod_lt h (show 0<f.toNat by omega)
 obtain⟨g,hg,g1,g2,g3⟩:=zD v u q j f m k h K x (val (v.take (v.length - 2))) hn Z hs M eV ac z (by omega) ap (by omega) _ (H / f.toUInt64) (H%f.toUInt64) rfl
  (by rw[V,X,Nat.mul_comm]; omega) (by rw[X]; omega) (by
   rw[V]
   have a1:h+1<=(h / f.toNat+1)*f.toNat:=by rw[Nat.add_mul,Nat.mul_comm (h / f.toNat)]; omega
   have a2:(h+1)*(4294967296*K)<=(h / f.toNat+1)*f.toNat*(4294967296*K):=Nat.mul_le_mul_right _ a1
   have a3:(h / f.toNat+1)*(f.toNat*(4294967296*K))<=(h / f.toNat+1)*val v:=by
    refine Nat.mul_le_mul_left _ ?_
    rw[eV,Nat.add_mul,Nat.mul_assoc]; omega
   have a4:(h*4294967296+k.toNat+1)*K<=(h+1)*(4294967296*K):=by
    rw[<-Nat.mul_assoc]; exact Nat.mul_le_mul_right _ (by omega)
   rw[Nat.add_mul (h*4294967296+k.toNat) 1 K,Nat.one_mul]at a4
   rw[Nat.mul_assoc]at a2
   omega)
 have cx:=Nat.div_mul_le_self (val u) (4294967296^j)
 have c5:=Nat.lt_div_mul_add B (a:=val u)
 obtain⟨d,t,r1,r2⟩:=BO v u q j g g1 Z hq hs a6
  (by
   have:=Nat.mul_le_mul_left (4294967296^j) (show val u / 4294967296^j+1<=(g.toNat+1)*val v by rw[eU]; omega)
   rw[Nat.mul_add,Nat.mul_one,Nat.mul_comm _ (val u / _)]at this
   omega)
  (by
   have:=Nat.mul_le_mul_left (4294967296^j) (show g.toNat*val v<=val u / 4294967296^j+val v by rw[eU]; omega)
   rw[Nat.mul_add _ (val u / _),Nat.mul_comm _ (val u / _)]at this
   omega) N
 refine⟨d,t,?_,r2⟩
 have w2:wI ((j:Int)+(v.length:Int))=((j+v.length:Nat):Int):=by rw[aJ (by omega) (by omega)]; rfl
 have w3:wI ((((j+v.length:Nat):Int)) - 1)=((j+v.length - 1:Nat):Int):=by rw[aJ (by omega) (by omega)]; omega
 rw[y,G]
 unfold F.FG
 dsimp only
 rw[if_pos (decide_eq_true (by omega)),w2,w3,aP Z 0,ae,aP (show j+v.length - 1<u.length by omega) 0,ae,aS,I,J,hH,grd_true _ R,grd_true _ R,hg]
 unfold F.Fp
 exact r1
theorem y7 (s:UInt64) (v:L0) (A:Nat) (z:2<=v.length) (h:2147483648<=(v.getD (v.length - 1) 0).toNat) (t:s.toNat<32) :
  ∀(k:Nat) (u q:L0),k+v.length<=u.length->k<=q.length->u.length<=70368744177664->q.length<=70368744177664->(∀i,i<k->q.getD i 0=0)->val q*val v+val u=A->val u<4294967296^k*val v ->
   loop (F.FG s v (v.getD (v.length - 1) 0) (v.getD (v.length - 2) 0)) ((k:Int) - 1,u,q)=some (an (A / val v),an (A%val v / 2^s.toNat)):=by
 have x:0<val v:=by
  rw[mH v (v.length - 1) (by omega)]
  have:=Nat.mul_pos (Nat.pow_pos (n:=v.length - 1) (show 0<4294967296 by decide)) (show 0<(v.getD (v.length - 1) 0).toNat+4294967296*val (v.drop (v.length - 1+1)) by omega)
  omega
 intro k
 induction k with
 | zero=>
  intro u q B G y j m g f
  rw[Nat.pow_zero,Nat.one_mul]at f
  have I:A / val v=val q:=by rw[<-g,Nat.add_comm,Nat.add_mul_div_right _ _ x,Nat.div_eq_of_lt f,Nat.zero_add]
  have J:A%val v=val u:=by rw[<-g,Nat.add_comm,Nat.add_mul_mod_self_right,Nat.mod_eq_of_lt f]
  refine cQ ?_
  unfold F.FG
  dsimp only
  have R:(an (val u)).length<=u.length:=bl (bv u)
  rw[if_neg (by decide),gg _ (by omega),ae,gg _ (by omega),ae,zk _ _ t (by omega),ae,ar,I,J]; rfl
 | succ k ih=>
  intro u q B G y j m g f
  have K:(((k+1:Nat):Int)) - 1=(k:Int):=by omega
  obtain⟨d,M,N,U,r3,O,V⟩:=yL s v u q k z h (by omega) (by omega) y j f
  rw[K,bJ N]
  refine ih M _ (by omega) (by simp; omega) (by omega) (by simpa using j) (fun i hi=>by rw[dw (by omega)]; exact m i (by omega)) ?_ O
  have o:=dB q k d.toUInt32 (by omega)
  rw[m k (by omega)]at o
  have z0:(0:UInt32).toNat=0:=rfl
  rw[z0,Nat.mul_zero,Nat.add_zero]at o
  rw[o,ez,Nat.mod_eq_of_lt (by omega),Nat.add_mul,Nat.mul_assoc,<-g]
  omega
theorem CO (a b:L0) (O:Can a) (G:Can b) (h0:b≠[]) (c4:a.length<=70368744177660) (c5:b.length<=70000000000) :
  F.E8 a b=some (an (val a / val b),an (val a%val b)):=by
 have I:b.length≠0:=fun h=>h0 (List.eq_nil_of_length_eq_zero h)
 have dd:0<val b:=by
  rcases Nat.eq_zero_or_pos (val b) with h | h
  ·exact absurd (Cd G qV h) h0
  ·exact h
 unfold F.E8
 rw[if_neg (by simpa using fun h=>I (by rw[h]; rfl)),pn a b O G (by omega) (by omega),ae]
 unfold cD
 by_cases h1:val a<val b
 ·rw[if_pos h1,if_pos (by decide)]
  have df:a.length<=b.length:=by
   rcases Nat.lt_or_ge b.length a.length with h | h
   ·have:=oo O h; omega
   ·exact h
  unfold F.EX
  have ac:apO 4 [] a=some a:=by unfold apO; rw[if_pos (by simp; omega)]; simp
  rw[ac,ae,ae,Nat.div_eq_of_lt h1,Nat.mod_eq_of_lt h1,bR,jh a O]
 ·rw[if_neg h1,if_neg (by split <;> decide)]
  have dx:b.length<=a.length:=by
   rcases Nat.lt_or_ge a.length b.length with h | h
   ·exact absurd (oo G h) h1
   ·exact h
  by_cases h2:a.length<=2
  ·rw[if_pos (decide_eq_true (by omega))]
   obtain⟨x,hx,ex⟩:=tm a h2
   obtain⟨y,hy,R⟩:=tm b (by omega)
   have J:¬y=0:=fun h=>by rw[h]at R; simp at R; omega
   rw[hx,ae,hy,ae,grd_true _ J,iW,ae,grd_true _ J,iW,ae,UInt64.toNat_div,UInt64.toNat_mod,ex,R]
  ·rw[if_neg (by simp only[decide_eq_true_eq]; omega)]
   by_cases h3:b.length=1
   ·rw[if_pos (by simp[h3]),show (0:Int)=((0:Nat):Int) from rfl,aP (show 0<b.length by omega) 0,ae]
    have o:val b=(b.getD 0 0).toNat:=by
     match b,h3 with
     | [x],_=>simp[val]
    have hd:b.getD 0 0≠0:=fun h=>by rw[h]at o; simp at o; omega
    obtain⟨r,hr,er⟩:=zB a (b.getD 0 0) hd (by omega)
    rw[hr,ae,gg _ (by simp),ae,<-o]
    rw[<-o]at er
    simp only[dz,d8,Nat.mul_zero,Nat.add_zero,er]
   ·rw[if_neg (by simpa using fun h=>h3 (by omega)),length_eq b (by omega),ae]
    have j:ja b=32*(b.length - 1)+nb (b.getD (b.length - 1) 0).toNat:=by unfold ja; rw[if_neg I]
    obtain⟨g,q⟩:∃g,b.getD (b.length - 1) 0=g:=⟨_,rfl⟩
    rw[q]at j
    have U:g≠0:=by
     intro h
     refine G ?_
     rw[List.getLast?_eq_getElem?]
     rw[<-q,List.getD_eq_getElem?_getD,List.getElem?_eq_getElem (show b.length - 1<b.length by omega)]at h
     rw[List.getElem?_eq_getElem (show b.length - 1<b.length by omega),<-h]; rfl
    have ap:g.toNat≠0:=fun h=>U (UInt32.toNat_inj.1 h)
    obtain⟨n1,n2⟩:=d7 g.toNat
    obtain⟨n3,n4⟩:=n2 ap
    have n5:=zg g
    obtain⟨z,hz⟩:∃z,nb g.toNat=z:=⟨_,rfl⟩
    rw[hz]at n1 n3 n4 n5 j
    -- the shift
    have es:UInt64.ofInt (wI ((wI (32 - (Int.tmod (wI ((ja b:Int) - 1)) 32))) - 1))=UInt64.ofNat (32 - z):=by
     rw[aJ (x:=(ja b:Int) - 1) (by omega) (by omega)]
     have:Int.tmod ((ja b:Int) - 1) 32=(z:Int) - 1:=by
      rw[j]
      have:((32*(b.length - 1)+z:Nat):Int) - 1=((32*(b.length - 1)+(z - 1):Nat):Int):=by omega
      rw[this,Int.tmod_eq_emod_of_nonneg (by omega)]
      omega
     rw[this,aJ (x:=32 - ((z:Int) - 1)) (by omega) (by omega),aJ (x:=32 - ((z:Int) - 1) - 1) (by omega) (by omega),show (32 - ((z:Int) - 1)) - 1=((32 - z:Nat):Int) by omega]
     apply UInt64.toNat_inj.1
     rw[UInt64.ofInt,UInt64.toNat_ofNat',UInt64.toNat_ofNat']; omega
    rw[es,aS]
    obtain⟨s,hs⟩:∃s,UInt64.ofNat (32 - z)=s:=⟨_,rfl⟩
    have K:s.toNat=32 - z:=by rw[<-hs,UInt64.toNat_ofNat']; omega
    have a4:s.toNat<32:=by omega
    rw[hs,qu b s (by omega) (by omega),ae]
    -- the divisor shifted
    have a5:2^z*2^(32 - z)=4294967296:=by rw[<-Nat.pow_add,show z+(32 - z)=32 by omega]
    have V:2^(z - 1)*2^(32 - z)=2147483648:=by rw[<-Nat.pow_add,show z - 1+(32 - z)=31 by omega]
    have ev:val b=val (b.take (b.length - 1))+4294967296^(b.length - 1)*g.toNat:=by
     have:=bO b (b.length - 1)
     rwa [show b.length - 1+1=b.length by omega,List.take_length,q]at this
    have dy:val (b.take (b.length - 1))<4294967296^(b.length - 1):=by
     have:=bv (b.take (b.length - 1))
     rwa [List.length_take,Nat.min_eq_left (by omega)]at this
    have a6:val b*2^s.toNat<4294967296^b.length:=by
     have f:val b<4294967296^(b.length - 1)*2^z:=by
      have:4294967296^(b.length - 1)*(g.toNat+1)<=4294967296^(b.length - 1)*2^z:=Nat.mul_le_mul_left _ n1
      rw[Nat.mul_add]at this
      omega
     have m:=Nat.mul_lt_mul_of_pos_right f (Nat.two_pow_pos (32 - z))
     rw[Nat.mul_assoc,a5,<-Nat.pow_succ,Nat.succ_eq_add_one,show b.length - 1+1=b.length by omega]at m
     rw[K]; exact m
    have t:4294967296^(b.length - 1)*2147483648<=val b*2^s.toNat:=by
     rw[K,<-V,<-Nat.mul_assoc]
     refine Nat.mul_le_mul_right _ ?_
     have:4294967296^(b.length - 1)*2^(z - 1)<=4294967296^(b.length - 1)*g.toNat:=Nat.mul_le_mul_left _ n3
     omega
    obtain⟨v,X⟩:∃v,an (val b*2^s.toNat)=v:=⟨_,rfl⟩
    have M:val v=val b*2^s.toNat:=by rw[<-X,ar]
    have N:v.length=b.length:=by
     have f:=bl a6
     have m:=nB (n:=val b*2^s.toNat) (k:=b.length - 1) (by
      refine Nat.le_trans ?_ t
      exact Nat.le_mul_of_pos_right _ (by decide))
     rw[X]at f m
     omega
    have Y:2147483648<=(v.getD (v.length - 1) 0).toNat:=by
     have f:=bO v (v.length - 1)
     rw[show v.length - 1+1=v.length by omega,List.take_length]at f
     have m:=bv (v.take (v.length - 1))
     rw[List.length_take,Nat.min_eq_left (by omega)]at m
     rw[N]at f m ⊢
     rcases Nat.lt_or_ge (v.getD (b.length - 1) 0).toNat 2147483648 with h | h
     ·have:4294967296^(b.length - 1)*((v.getD (b.length - 1) 0).toNat+1)<=4294967296^(b.length - 1)*2147483648:=Nat.mul_le_mul_left _ h
      rw[Nat.mul_add]at this
      omega
     ·exact h
    rw[X]
    -- the dividend shifted
    have w2:wI ((a.length:Int)+2)=((a.length+2:Nat):Int):=by rw[aJ (by omega) (by omega)]; rfl
    rw[w2,dK (by omega),ae,Int.toNat_natCast,qu a s (by omega) (by omega),ae]
    have Z:2^s.toNat<=4294967296:=by
     have:=Nat.pow_le_pow_right (show 0<2 by decide) (show s.toNat<=32 by omega)
     have e:(2:Nat)^32=4294967296:=rfl
     omega
    have B:val a*2^s.toNat<4294967296^(a.length+1):=by
     have f:=bv a
     have m:=Nat.mul_le_mul (show val a+1<=4294967296^a.length from f) Z
     rw[<-Nat.pow_succ,Nat.add_mul]at m
     have:=Nat.two_pow_pos s.toNat
     omega
    obtain⟨A,hA⟩:∃A,val a*2^s.toNat=A:=⟨_,rfl⟩
    rw[hA]at B ⊢
    have dX:=bl B
    have b2:cpL (List.replicate (a.length+2) (0:UInt32)) (an A) 0 (List.replicate (a.length+2) (0:UInt32)).length=pad (an A) (a.length+2):=by
     unfold cpL pad
     simp only[List.length_replicate,Nat.sub_zero,List.take_zero,List.nil_append,Nat.zero_add]
     rw[List.take_of_length_le (by omega),Nat.min_eq_left (by omega),List.drop_replicate]
    rw[b2,aS,gC (by omega)]
    have w5:wI ((wI (((a.length+2:Nat):Int) - (v.length:Int))) - 1)=((a.length+1 - b.length:Nat):Int):=by
     rw[N,aJ (x:=((a.length+2:Nat):Int) - (b.length:Int)) (by omega) (by omega),aJ (by omega) (by omega)]; omega
    have w6:wI (((a.length+1 - b.length:Nat):Int)+1)=((a.length+2 - b.length:Nat):Int):=by rw[aJ (by omega) (by omega)]; omega
    have w7:wI ((v.length:Int) - 1)=((v.length - 1:Nat):Int):=by rw[aJ (by omega) (by omega)]; omega
    have w8:wI ((v.length:Int) - 2)=((v.length - 2:Nat):Int):=by rw[aJ (by omega) (by omega)]; omega
    rw[w5,aS,w6,dK (by omega),ae,Int.toNat_natCast,w7,aP (show v.length - 1<v.length by omega) 0,ae,w8,aP (show v.length - 2<v.length by omega) 0,ae]
    have b3:∀i,(List.replicate (a.length+2 - b.length) (0:UInt32)).getD i 0=0:=fun i=>by
     rw[List.getD_eq_getElem?_getD,List.getElem?_replicate]; split <;> rfl
    have hL:=y7 s v A (by omega) Y a4 (a.length+2 - b.length) (pad (an A) (a.length+2)) (List.replicate (a.length+2 - b.length) 0)
     (by rw[gC (by omega)]; omega) (by simp) (by rw[gC (by omega)]; omega) (by simp; omega) (fun i _=>b3 i) (by rw[cn,ld,ar]; omega) (by
      rw[ld,ar]
      refine Nat.lt_of_lt_of_le B ?_
      have f:=Nat.mul_le_mul_left (4294967296^(a.length+2 - b.length)) (Nat.le_trans (Nat.le_mul_of_pos_right (4294967296^(b.length - 1)) (show 0<2147483648 by decide)) t)
      rw[<-M,<-Nat.pow_add,show a.length+2 - b.length+(b.length - 1)=a.length+1 by omega]at f
      exact f)
    rw[show (((a.length+2 - b.length:Nat):Int)) - 1=((a.length+1 - b.length:Nat):Int) by omega]at hL
    rw[hL,M,<-hA,Nat.mul_div_mul_right _ _ (Nat.two_pow_pos _),Nat.mul_mod_mul_right,Nat.mul_div_cancel _ (Nat.two_pow_pos _)]
end Go.Gk.Bn
end
