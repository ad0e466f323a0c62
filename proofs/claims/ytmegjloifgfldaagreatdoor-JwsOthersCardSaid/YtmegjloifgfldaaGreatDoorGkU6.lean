import Derived.Test.YtmegjloifgfldaaGreatDoorGkU0
set_option linter.unusedVariables false
set_option linter.unusedSimpArgs false
set_option linter.unusedSectionVars false

section
namespace Go.Gk.Bn
open Go Go.Gk Go.Gk.Sh
def nb (n:Nat):Nat:=if h:n=0 then 0 else nb (n / 2)+1
termination_by n
decreasing_by exact Nat.div_lt_self (Nat.pos_of_ne_zero h) (show 1<2 by decide)
theorem fR:nb 0=0:=by rw[nb]; simp
theorem ri {n:Nat} (h:n≠0):nb n=nb (n / 2)+1:=by rw[nb]; simp[h]
theorem c9 (n:Nat):n<2^nb n/\(n≠0->2^(nb n - 1)<=n/\1<=nb n):=by
 induction n using Nat.strongRecOn with
 | ind n ih=>
  by_cases h:n=0
  ·subst h; rw[fR]; simp
  ·obtain⟨g,f⟩:=ih (n / 2) (Nat.div_lt_self (Nat.pos_of_ne_zero h) (by decide))
   rw[ri h]
   refine⟨by rw[Nat.pow_succ]; omega,fun _=>⟨?_,by omega⟩⟩
   rw[Nat.add_sub_cancel]
   by_cases h3:n / 2=0
   ·rw[h3,fR]; omega
   ·obtain⟨i,j⟩:=f h3
    have:2^nb (n / 2)=2^(nb (n / 2) - 1)*2:=by rw[<-Nat.pow_succ]; congr 1; omega
    omega
theorem gv {n k:Nat} (h:n<2^k):nb n<=k:=by
 by_cases h0:n=0
 ·subst h0; rw[fR]; omega
 ·obtain⟨g,i⟩:=(c9 n).2 h0
  rcases Nat.lt_or_ge k (nb n) with f | f
  ·have:=Nat.pow_le_pow_right (show 0<2 by decide) (show k<=nb n - 1 by omega)
   omega
  ·exact f
theorem BB (x:UInt32):nb x.toNat<=32:=gv (cn x)
theorem Gm (x:UInt32):(bv x 1).toNat=x.toNat / 2:=by rw[gq]; rfl
theorem wG (a:Q0) (j:a.length≠0) (ha:a.length<=1000000000000000):∀(m:Nat) (t:UInt32) (n:Nat),nb t.toNat=m->n+m<=32->loop (F.Im a) ((n:Int),t)=some (((32*(a.length - 1)+n+m:Nat):Int)):=by
 intro m
 induction m with
 | zero=>
  intro t n h hn
  have f:t.toNat=0:=by
   rcases Nat.eq_zero_or_pos t.toNat with f | f
   ·exact f
   ·rw[ri (by omega)]at h; omega
  have:t=0:=UInt32.toNat_inj.1 f
  subst this
  refine cK ?_
  unfold F.Im
  dsimp only
  rw[if_neg (by decide),aI (x:=(a.length:Int) - 1) (by omega) (by omega),aI (x:=((a.length:Int) - 1)*32) (by omega) (by omega),aI (by omega) (by omega)]
  show some _=_
  congr 2
  omega
 | succ m ih=>
  intro t n h hn
  have f:t.toNat≠0:=by intro f; rw[f,fR]at h; omega
  have g:t≠0:=fun i=>f (by rw[i]; rfl)
  rw[ri f]at h
  have hs:F.Im a ((n:Int),t)=some (.inl (((n+1:Nat):Int),bv t 1)):=by
   unfold F.Im
   dsimp only
   rw[if_pos (by simpa using g),aI (by omega) (by omega)]; rfl
  rw[bB hs,ih (bv t 1) (n+1) (by rw[Gm]; omega) (by omega)]
  congr 2; omega
def jx (a:Q0):Nat:=if a.length=0 then 0 else 32*(a.length - 1)+nb (a.getD (a.length - 1) 0).toNat
theorem length_eq (a:Q0) (ha:a.length<=1000000000000000):F.IW a=some ((jx a:Nat):Int):=by
 unfold F.IW jx
 by_cases h0:a.length=0
 ·rw[if_pos (by simp[h0]),if_pos h0]; rfl
 ·have f:wI ((a.length:Int) - 1)=((a.length - 1:Nat):Int):=by rw[aI (by omega) (by omega)]; omega
  rw[if_neg (by simpa using fun h=>h0 (by rw[h]; rfl)),f,aT (show a.length - 1<a.length by omega) 0,ae]
  have:=wG a h0 ha _ (a.getD (a.length - 1) 0) 0 rfl (by have:=BB (a.getD (a.length - 1) 0); omega)
  rw[if_neg h0]
  rw[Nat.add_zero]at this
  exact this
theorem BK (x:UInt32) (s:Nat) (hs:s<32):(aF x.toUInt64 s).toNat=x.toNat*2^s:=by
 have hx:=cn x
 rw[dX,bY,Nat.min_eq_left (by omega),Nat.mod_eq_of_lt]
 have f:2^s<=2^31:=Nat.pow_le_pow_right (by decide) (by omega)
 have g:x.toNat*2^s<=4294967295*2^31:=Nat.mul_le_mul (by omega) f
 have h:(2:Nat)^31=2147483648:=rfl
 omega
theorem EG {p q:UInt32} (s:Nat) (f:q.toNat%2^s=0) (g:p.toNat<2^s):(p ||| q).toNat=p.toNat+q.toNat:=by
 rw[UInt32.toNat_or,Nat.or_comm,gA s f g,Nat.add_comm]
theorem jE {s:Nat} (hs:s<32):2^s*2^(32 - s)=4294967296:=by
 rw[<-Nat.pow_add,show s+(32 - s)=32 by omega]
def k9 (a:Q0) (s w:Nat) (r:Q0) (i:Nat):Q0:=
 (r.set (i+w) (r.getD (i+w) 0 ||| (aF (a.getD i 0).toUInt64 s).toUInt32)).set (i+w+1) ((r.set (i+w) (r.getD (i+w) 0 ||| (aF (a.getD i 0).toUInt64 s).toUInt32)).getD (i+w+1) 0 ||| (aP (aF (a.getD i 0).toUInt64 s) 32).toUInt32)
theorem rI (a:Q0) (n:UInt64) (hn:n.toNat<=1000000000000) (ha:a.length+n.toNat / 32+1<=70368744177664):F.IY a n=some (ao (val a*2^n.toNat)):=by
 unfold F.IY
 by_cases h0:a.length=0
 ·rw[if_pos (by simp[h0]),List.eq_nil_of_length_eq_zero h0,eh,Nat.zero_mul,bG]
 ·obtain⟨w,hw⟩:∃w,n.toNat / 32=w:=⟨_,rfl⟩
  obtain⟨s,hs⟩:∃s,n.toNat%32=s:=⟨_,rfl⟩
  have o:s<32:=by omega
  have e1:(n / 32).toNat=w:=by rw[UInt64.toNat_div,<-hw]; rfl
  have e2:(n%32).toNat=s:=by rw[UInt64.toNat_mod,<-hs]; rfl
  have O:2^n.toNat=4294967296^w*2^s:=by
   rw[show (4294967296:Nat)=2^32 from rfl,<-Nat.pow_mul,<-Nat.pow_add]
   congr 1; omega
  rw[if_neg (by simpa using fun h=>h0 (by rw[h]; rfl)),e1,aV,aI (x:=(w:Int)) (by omega) (by omega),aI (x:=(a.length:Int)+(w:Int)) (by omega) (by omega),aI (by omega) (by omega),dv (by omega),ae,
   show ((a.length:Int)+(w:Int)+1).toNat=a.length+w+1 by omega]
  have B:=jE o
  have R:1<=2^s:=Nat.one_le_two_pow
  -- what holds behind i words
  have step:∀(i:Nat) (r:Q0),i<a.length->(r.length=a.length+w+1/\(∀k,i+w<k->r.getD k 0=0)/\(r.getD (i+w) 0).toNat<2^s/\val r=4294967296^w*(val (a.take i)*2^s)) ->
    ((k9 a s w r i).length=a.length+w+1/\(∀k,i+1+w<k->(k9 a s w r i).getD k 0=0)/\((k9 a s w r i).getD (i+1+w) 0).toNat<2^s/\val (k9 a s w r i)=4294967296^w*(val (a.take (i+1))*2^s)):=by
   rintro i r hi ⟨G,U,h3,I⟩
   unfold k9
   obtain⟨v,V⟩:∃v,aF (a.getD i 0).toUInt64 s=v:=⟨_,rfl⟩
   have t:v.toNat=(a.getD i 0).toNat*2^s:=by rw[<-V,BK _ _ o]
   have Y:=cn (a.getD i 0)
   rw[V]
   have Z:=kl v
   -- the low part is a multiple of 2^s,the high part is below it
   have z:v.toUInt32.toNat%2^s=0:=by
    rw[fe,t,<-B]
    rw[Nat.mod_mul_right_mod,Nat.mul_mod_left]
   have a4:v.toUInt32.toNat+2^s<=4294967296:=by
    have J:=cn v.toUInt32
    obtain⟨c,hc⟩:=Nat.dvd_of_mod_eq_zero z
    rw[hc]at J ⊢
    rw[<-B]at J ⊢
    have:=Nat.lt_of_mul_lt_mul_left J
    have:=Nat.mul_le_mul_left (2^s) (show c+1<=2^(32 - s) by omega)
    rw[Nat.mul_add,Nat.mul_one]at this
    exact this
   have ab:(aP v 32).toNat<2^s:=by
    rw[lL,t,Nat.div_lt_iff_lt_mul (by decide),Nat.mul_comm (2^s)]
    exact Nat.mul_lt_mul_of_pos_right Y (by omega)
   have ac:=EG (p:=r.getD (i+w) 0) (q:=v.toUInt32) s z h3
   obtain⟨A,g⟩:∃A,r.set (i+w) (r.getD (i+w) 0 ||| v.toUInt32)=A:=⟨_,rfl⟩
   have K:A.length=a.length+w+1:=by rw[<-g]; simpa using G
   have hz:A.getD (i+w+1) 0=0:=by rw[<-g,dB (by omega)]; exact U _ (by omega)
   rw[g,hz,UInt32.zero_or]
   have v1:=ef r (i+w) (r.getD (i+w) 0 ||| v.toUInt32) (by omega)
   rw[g,ac]at v1
   have M:=ef A (i+w+1) (aP v 32).toUInt32 (by omega)
   rw[hz]at M
   have z0:(0:UInt32).toNat=0:=rfl
   rw[z0,Nat.mul_zero,Nat.add_zero,x8,<-lL]at M
   refine⟨by simpa using K,fun k hk=>?_,?_,?_⟩
   ·rw[dB (by omega),<-g,dB (by omega)]; exact U k (by omega)
   ·rw[show i+1+w=i+w+1 by omega,List.getD_eq_getElem?_getD,List.getElem?_set_self (by omega)]
    simp only[Option.getD_some,x8,<-lL]
    exact ab
   ·rw[M,bM,Nat.add_mul,Nat.mul_add,<-I]
    have e3:4294967296^w*(4294967296^i*(a.getD i 0).toNat*2^s)=4294967296^(i+w)*v.toNat:=by
     rw[t,Nat.add_comm i w,Nat.pow_add,Nat.mul_assoc,Nat.mul_assoc]
    have e4:4294967296^(i+w)*v.toNat=4294967296^(i+w)*v.toUInt32.toNat+4294967296^(i+w+1)*(aP v 32).toNat:=by
     rw[Nat.pow_succ,Nat.mul_assoc,<-Nat.mul_add,<-Z]
    rw[e3,e4]
    rw[Nat.mul_add]at v1
    omega
  have j:(List.replicate (a.length+w+1) (0:UInt32)).length=a.length+w+1/\(∀k,0+w<k->(List.replicate (a.length+w+1) (0:UInt32)).getD k 0=0)/\((List.replicate (a.length+w+1) (0:UInt32)).getD (0+w) 0).toNat<2^s /\
    val (List.replicate (a.length+w+1) 0)=4294967296^w*(val (a.take 0)*2^s):=by
   have hg:∀k,(List.replicate (a.length+w+1) (0:UInt32)).getD k 0=0:=fun k=>by
    rw[List.getD_eq_getElem?_getD,List.getElem?_replicate]; split <;> rfl
   exact⟨by simp,fun k _=>hg k,by rw[hg]; exact Nat.lt_of_lt_of_le (show (0:UInt32).toNat<1 by decide) R,by rw[dn]; simp[val]⟩
  have e:=cA (f:=F.Jf a n (w:Int)) (fun (x:Q0) i=>((i:Int),x))
   (fun i r=>i<=a.length->(r.length=a.length+w+1/\(∀k,i+w<k->r.getD k 0=0)/\(r.getD (i+w) 0).toNat<2^s/\val r=4294967296^w*(val (a.take i)*2^s))) (k9 a s w) 0 a.length
   (X:=fun x=>F.GE x)
   (fun i x _ hi hx=>by
    have hx:=hx (by omega)
    refine⟨?_,fun _=>step i x hi hx⟩
    obtain⟨G,_⟩:=hx
    have w1:wI ((i:Int)+(w:Int))=((i+w:Nat):Int):=by rw[aI (by omega) (by omega)]; rfl
    have w2:wI (((i+w:Nat):Int)+1)=((i+w+1:Nat):Int):=by rw[aI (by omega) (by omega)]; rfl
    have w3:wI ((i:Int)+1)=((i+1:Nat):Int):=by rw[aI (by omega) (by omega)]; rfl
    unfold F.Jf
    dsimp only
    rw[if_pos (decide_eq_true (by omega)),aT hi 0,ae,aV,w1,w2,w3,e2,aT (show i+w<x.length by omega) 0,ae,ae,aV,Int.toNat_natCast,aT (show i+w+1<(x.set (i+w) (x.getD (i+w) 0 ||| (aF (a.getD i 0).toUInt64 s).toUInt32)).length by simp; omega) 0,ae,ae,aV,Int.toNat_natCast]
    rfl)
   (fun x hx=>by
    unfold F.Jf
    dsimp only
    rw[if_neg (by simp)]
    cases F.GE x <;> rfl)
   a.length 0 _ (Nat.le_refl _) (by omega) (fun _=>j)
  refine e.trans ?_
  have N:=cQ (fun i (r:Q0)=>i<=a.length->(r.length=a.length+w+1/\(∀k,i+w<k->r.getD k 0=0)/\(r.getD (i+w) 0).toNat<2^s/\val r=4294967296^w*(val (a.take i)*2^s))) (k9 a s w)
   (fun i x hx=>fun hi=>step i x (by omega) (hx (by omega))) a.length 0 _ (fun _=>j)
  obtain⟨y,hy⟩:∃y,(List.range' 0 a.length).foldl (k9 a s w) (List.replicate (a.length+w+1) 0)=y:=⟨_,rfl⟩
  rw[hy]at N ⊢
  rw[Nat.zero_add]at N
  obtain⟨G,_,_,I⟩:=N (Nat.le_refl _)
  rw[gn _ (by omega),I,List.take_length,O,Nat.mul_left_comm]
end Go.Gk.Bn
end

section
namespace Go.Gk.Bn
open Go Go.Gk Go.Gk.Sh
theorem cq (a:Q0) (i:Nat):val (a.drop i)=(a.getD i 0).toNat+4294967296*val (a.drop (i+1)):=by
 by_cases h:i<a.length
 ·rw[List.drop_eq_getElem_cons h,dg]
  congr 2
  rw[List.getD_eq_getElem?_getD,List.getElem?_eq_getElem h]; rfl
 ·rw[List.drop_of_length_le (by omega),List.drop_of_length_le (by omega),dY (by omega)]; rfl
theorem fw (a:Q0) (i:Nat):val a / 4294967296^i=val (a.drop i):=by
 by_cases h:i<=a.length
 ·have f:=bD (a.take i)
  rw[List.length_take,Nat.min_eq_left h]at f
  rw[dz a i h,Nat.add_comm,Nat.mul_add_div (Nat.pow_pos (by decide)),Nat.div_eq_of_lt f,Nat.add_zero]
 ·have f:=bD a
  have g:=Nat.pow_le_pow_right (show 0<4294967296 by decide) (show a.length<=i by omega)
  rw[List.drop_of_length_le (by omega),Nat.div_eq_of_lt (by omega)]; rfl
theorem BE (a:Q0) (n:UInt64) (hn:n.toNat<32) (ha:a.length<=70368744177664):F.LG a n=some (ao (val a / 2^n.toNat)):=by
 unfold F.LG
 have B:(n / 32).toNat=0:=by rw[UInt64.toNat_div]; exact Nat.div_eq_of_lt hn
 have k:(n%32).toNat=n.toNat:=by rw[UInt64.toNat_mod]; exact Nat.mod_eq_of_lt hn
 obtain⟨s,hs⟩:∃s,n.toNat=s:=⟨_,rfl⟩
 rw[hs]at k hn ⊢
 have w0:wI ((0:Nat):Int)=0:=rfl
 rw[B,aV,w0]
 by_cases h0:a.length=0
 ·rw[if_pos (decide_eq_true (by omega)),List.eq_nil_of_length_eq_zero h0,eh,Nat.zero_div,bG]
 ·rw[if_neg (by simp only[decide_eq_true_eq]; omega),Int.sub_zero,aI (by omega) (by omega),dv (by omega),ae,Int.toNat_natCast,<-r7]
  have o:=jE hn
  have t:∀i,(val a / 2^s) / 4294967296^i%4294967296=((a.getD i 0).toNat+4294967296*(a.getD (i+1) 0).toNat) / 2^s%4294967296:=by
   intro i
   rw[Nat.div_div_eq_div_mul,Nat.mul_comm,<-Nat.div_div_eq_div_mul,fw,cq,cq]
   have:(a.getD i 0).toNat+4294967296*((a.getD (i+1) 0).toNat+4294967296*val (a.drop (i+1+1)))=((a.getD i 0).toNat+4294967296*(a.getD (i+1) 0).toNat)+2^s*(4294967296*(2^(32 - s)*val (a.drop (i+1+1)))):=by
    have:2^s*(4294967296*(2^(32 - s)*val (a.drop (i+1+1))))=4294967296*(4294967296*val (a.drop (i+1+1))):=by
     rw[Nat.mul_left_comm,<-Nat.mul_assoc (2^s),o]
    rw[this,Nat.mul_add]; omega
   rw[this,Nat.add_mul_div_left _ _ (Nat.two_pow_pos s),Nat.add_mul_mod_self_left]
  have h:∀(i:Nat) (x:Q0),(x.length=i/\val x=(val a / 2^s)%4294967296^i) ->
    ((x++[(aP ((a.getD i 0).toUInt64 ||| (aF (a.getD (i+1) 0).toUInt64 32)) s).toUInt32]).length=i+1/\val (x++[(aP ((a.getD i 0).toUInt64 ||| (aF (a.getD (i+1) 0).toUInt64 32)) s).toUInt32])=(val a / 2^s)%4294967296^(i+1)):=by
   rintro i x ⟨g,j⟩
   refine⟨by simp[g],?_⟩
   rw[jb,g,j,Nat.mod_pow_succ,t i,fe,dI,qG,Nat.min_eq_left (by omega)]
  have e:=cA (f:=F.Jk a 0 n) (fun (x:Q0) i=>((i:Int),pad x a.length)) (fun i x=>x.length=i/\val x=(val a / 2^s)%4294967296^i)
   (fun x i=>x++[(aP ((a.getD i 0).toUInt64 ||| (aF (a.getD (i+1) 0).toUInt64 32)) s).toUInt32]) 0 a.length
   (X:=fun x=>F.GE (pad x a.length))
   (fun i x _ hi hx=>by
    refine⟨?_,h i x hx⟩
    obtain⟨g,j⟩:=hx
    have z:wI ((i:Int)+1)=((i+1:Nat):Int):=by rw[aI (by omega) (by omega)]; rfl
    have G:wI ((i:Int)+0)=(i:Int):=by rw[aI (by omega) (by omega)]; omega
    obtain⟨u,I⟩:=mE (x:=x) (n:=a.length) (i:=i) (by omega) (by omega)
    have A:∀v:UInt64,v=((a.getD i 0).toUInt64 ||| (aF (a.getD (i+1) 0).toUInt64 32))->F.JK n (i:Int) (pad x a.length) v=some (.inl (((i+1:Nat):Int),pad (x++[(aP ((a.getD i 0).toUInt64 ||| (aF (a.getD (i+1) 0).toUInt64 32)) s).toUInt32]) a.length)):=by
     rintro v rfl
     unfold F.JK
     dsimp only
     have:=oA (x:=x) (n:=a.length) (by omega) (aP ((a.getD i 0).toUInt64 ||| (aF (a.getD (i+1) 0).toUInt64 32)) s).toUInt32
     rw[g]at this
     rw[I,ae,aV,Int.toNat_natCast,z,k,this]; rfl
    unfold F.Jk
    dsimp only
    rw[if_pos (decide_eq_true (by rw[gS (by omega)]; omega)),G,aT hi 0,ae,z]
    by_cases hb:i+1<a.length
    ·rw[if_pos (decide_eq_true (by omega)),aT hb 0,ae,aV,A _ rfl]
    ·rw[if_neg (by simp only[decide_eq_true_eq]; omega),A _ (by
      apply UInt64.toNat_inj.1
      rw[qG,dY (a:=a) (i:=i+1) (by omega),bY]; rfl)])
   (fun x hx=>by
    unfold F.Jk
    dsimp only
    rw[if_neg (by rw[gS (by omega)]; simp)]
    cases F.GE (pad x a.length) <;> rfl)
   a.length 0 [] (Nat.le_refl _) (by omega) ⟨rfl,by simp[val,Nat.mod_one]⟩
  refine e.trans ?_
  obtain⟨g,j⟩:=cQ (fun i (x:Q0)=>x.length=i/\val x=(val a / 2^s)%4294967296^i) (fun x i=>x++[(aP ((a.getD i 0).toUInt64 ||| (aF (a.getD (i+1) 0).toUInt64 32)) s).toUInt32])
   (fun i x hx=>h i x hx) a.length 0 [] ⟨rfl,by simp[val,Nat.mod_one]⟩
  obtain⟨y,hy⟩:∃y,(List.range' 0 a.length).foldl (fun x i=>x++[(aP ((a.getD i 0).toUInt64 ||| (aF (a.getD (i+1) 0).toUInt64 32)) s).toUInt32]) []=y:=⟨_,rfl⟩
  rw[hy]at g j ⊢
  rw[Nat.zero_add]at g j
  have J:=bD a
  have K:=Nat.div_le_self (val a) (2^s)
  rw[gn _ (by rw[gS (by omega)]; omega),l7,j,Nat.mod_eq_of_lt (by omega)]
theorem AA (u v:UInt32) (c:UInt64) (hc:c.toNat<=1):((u.toUInt64 - v.toUInt64) - c).toUInt32.toNat+c.toNat+v.toNat=u.toNat+4294967296*(aP ((u.toUInt64 - v.toUInt64) - c) 63).toNat/\(aP ((u.toUInt64 - v.toUInt64) - c) 63).toNat<=1:=by
 have f:=cn u; have g:=cn v
 rw[fe,Cl,UInt64.toNat_sub,UInt64.toNat_sub,bY,bY]
 omega
theorem AZ (u:UInt32) (c d:UInt64) (hc:c.toNat<=4294967295) (f:d.toNat<=1):((u.toUInt64 - c) - d).toUInt32.toNat+c.toNat+d.toNat=u.toNat+4294967296*(aP ((u.toUInt64 - c) - d) 63).toNat/\(aP ((u.toUInt64 - c) - d) 63).toNat<=1:=by
 have g:=cn u
 rw[fe,Cl,UInt64.toNat_sub,UInt64.toNat_sub,bY]
 omega
abbrev MS:=UInt64×UInt64×Q0
def msS (g:UInt64) (v:Q0) (j:Nat) (x:MS) (i:Nat):MS:=
 (aP (x.1+g*(v.getD i 0).toUInt64) 32,aP (((x.2.2.getD (j+i) 0).toUInt64 - (x.1+g*(v.getD i 0).toUInt64).toUInt32.toUInt64) - x.2.1) 63,
  x.2.2.set (j+i) (((x.2.2.getD (j+i) 0).toUInt64 - (x.1+g*(v.getD i 0).toUInt64).toUInt32.toUInt64) - x.2.1).toUInt32)
def MSI (g:UInt64) (v u:Q0) (j i:Nat) (x:MS):Prop:=
 x.2.2.length=u.length/\(∀k,k<j\/j+i<=k->x.2.2.getD k 0=u.getD k 0)/\val x.2.2+4294967296^j*(g.toNat*val (v.take i))=val u+4294967296^(j+i)*(x.1.toNat+x.2.1.toNat)/\x.1.toNat<=4294967295/\x.2.1.toNat<=1
theorem xD {g:UInt64} {v u:Q0} {j i:Nat} {x:MS} (hg:g.toNat<=4294967295) (U:j+i<u.length) (h:MSI g v u j i x):MSI g v u j (i+1) (msS g v j x i):=by
 obtain⟨F,G,I,V,J⟩:=h
 unfold msS
 have o:=iA (v.getD i 0)
 have X:g.toNat*(v.getD i 0).toNat<=4294967295*4294967295:=Nat.mul_le_mul hg o
 have z:(x.1+g*(v.getD i 0).toUInt64).toNat=x.1.toNat+g.toNat*(v.getD i 0).toNat:=by
  have f:(g*(v.getD i 0).toUInt64).toNat=g.toNat*(v.getD i 0).toNat:=by rw[oB _ _ (by rw[bY]; omega),bY]
  rw[gE _ _ (by rw[f]; omega),f]
 obtain⟨C,K⟩:∃C,x.1+g*(v.getD i 0).toUInt64=C:=⟨_,rfl⟩
 rw[K]at z ⊢
 obtain⟨f,A⟩:=AA (x.2.2.getD (j+i) 0) C.toUInt32 x.2.1 J
 obtain⟨t,M⟩:∃t,((x.2.2.getD (j+i) 0).toUInt64 - C.toUInt32.toUInt64) - x.2.1=t:=⟨_,rfl⟩
 rw[M]at f A ⊢
 have B:=kl C
 refine⟨by simpa using F,fun k Y=>?_,?_,?_,A⟩
 ·simp only
  rw[dB (by omega)]; exact G k (by omega)
 ·simp only
  have Z:=ef x.2.2 (j+i) t.toUInt32 (by omega)
  rw[bM,Nat.mul_add,Nat.mul_add]
  have N:4294967296^j*(g.toNat*(4294967296^i*(v.getD i 0).toNat))=4294967296^(j+i)*(g.toNat*(v.getD i 0).toNat):=by
   rw[Nat.pow_add,Nat.mul_assoc,Nat.mul_left_comm g.toNat]
  have O:4294967296^(j+i)*(t.toUInt32.toNat+x.2.1.toNat+C.toUInt32.toNat)=4294967296^(j+i)*((x.2.2.getD (j+i) 0).toNat+4294967296*(aP t 63).toNat):=by rw[f]
  have R:4294967296^(j+i)*(x.1.toNat+g.toNat*(v.getD i 0).toNat)=4294967296^(j+i)*(C.toUInt32.toNat+4294967296*(aP C 32).toNat):=by rw[<-z,<-B]
  rw[N,<-Nat.add_assoc j i 1,Nat.pow_succ,Nat.mul_assoc]
  rw[Nat.mul_add,Nat.mul_add,Nat.mul_add]at O
  rw[Nat.mul_add,Nat.mul_add]at R
  rw[Nat.mul_add]at I
  rw[Nat.mul_add,Nat.mul_add]
  omega
 ·simp only[lL]; omega
end Go.Gk.Bn
end

section
namespace Go.Gk.Bn
open Go Go.Gk Go.Gk.Sh
theorem ny {a:Q0} {m:Nat} (h:∀k,m<=k->a.getD k 0=0):val a<4294967296^m:=by
 by_cases hm:m<=a.length
 ·have g:a.drop m=List.replicate (a.length - m) 0:=by
   refine List.ext_getElem (by simp) fun i j o=>?_
   have:=h (m+i) (by omega)
   rw[List.getD_eq_getElem?_getD,List.getElem?_eq_getElem (by simp at j; omega)]at this
   rw[List.getElem_drop,List.getElem_replicate]
   exact this
  have f:=bD (a.take m)
  rw[List.length_take,Nat.min_eq_left hm]at f
  rw[dz a m hm,g,dn]
  simpa using f
 ·exact Nat.lt_of_lt_of_le (bD a) (Nat.pow_le_pow_right (by decide) (by omega))
theorem xn {a:Q0} {m:Nat} (h:val a<4294967296^m) (k:Nat) (f:m<=k):a.getD k 0=0:=by
 have g:val a / 4294967296^k=0:=Nat.div_eq_of_lt (Nat.lt_of_lt_of_le h (Nat.pow_le_pow_right (by decide) f))
 rw[fw,cq]at g
 exact UInt32.toNat_inj.1 (by show _=0; omega)
theorem iY {a:Q0} {m:Nat} (h:val a<4294967296^m):val (a.drop m)=0:=by
 rw[<-fw,Nat.div_eq_of_lt h]
def abS (v:Q0) (j:Nat) (x:UInt64×Q0) (i:Nat):UInt64×Q0:=
 (aP (x.1+((x.2.getD (i+j) 0).toUInt64+(v.getD i 0).toUInt64)) 32,x.2.set (i+j) (x.1+((x.2.getD (i+j) 0).toUInt64+(v.getD i 0).toUInt64)).toUInt32)
def ABI (v u:Q0) (j i:Nat) (x:UInt64×Q0):Prop:=
 x.2.length=u.length/\(∀k,k<j\/j+i<=k->x.2.getD k 0=u.getD k 0)/\val x.2+4294967296^(j+i)*x.1.toNat=val u+4294967296^j*val (v.take i)/\x.1.toNat<=1
theorem xl {v u:Q0} {j i:Nat} {x:UInt64×Q0} (F:j+i<u.length) (h:ABI v u j i x):ABI v u j (i+1) (abS v j x i):=by
 obtain⟨t,z,G,I⟩:=h
 unfold abS
 have ha:=iA (x.2.getD (i+j) 0); have hb:=iA (v.getD i 0)
 obtain⟨s,hs⟩:∃s,x.1+((x.2.getD (i+j) 0).toUInt64+(v.getD i 0).toUInt64)=s:=⟨_,rfl⟩
 have f:s.toNat=x.1.toNat+((x.2.getD (i+j) 0).toNat+(v.getD i 0).toNat):=by
  have g:((x.2.getD (i+j) 0).toUInt64+(v.getD i 0).toUInt64).toNat=(x.2.getD (i+j) 0).toNat+(v.getD i 0).toNat:=by rw[gE _ _ (by rw[bY,bY]; omega),bY,bY]
  rw[<-hs,gE _ _ (by rw[g]; omega),g]
 rw[hs]
 have o:=kl s
 refine⟨by simpa using t,fun k J=>?_,?_,by simp only[lL]; omega⟩
 ·simp only
  rw[dB (by omega)]; exact z k (by omega)
 ·simp only
  have K:=ef x.2 (i+j) s.toUInt32 (by omega)
  have A:4294967296^(j+i)*s.toNat=4294967296^(j+i)*s.toUInt32.toNat+4294967296^(j+(i+1))*(aP s 32).toNat:=by
   rw[<-Nat.add_assoc,Nat.pow_succ,Nat.mul_assoc,<-Nat.mul_add,<-o]
  have B:4294967296^j*(4294967296^i*(v.getD i 0).toNat)=4294967296^(j+i)*(v.getD i 0).toNat:=by rw[Nat.pow_add,Nat.mul_assoc]
  rw[bM,Nat.mul_add,B]
  rw[f,Nat.mul_add,Nat.mul_add]at A
  rw[Nat.add_comm i j]at *
  omega
theorem Es (v u q:Q0) (j:Nat) (g:UInt64) (hg:g.toNat<=4294967295) (hj:j+v.length<u.length) (hq:j<q.length) (hs:u.length<=70368744177664) (ec:q.length<=70368744177664)
  (h1:val u<4294967296^j*((g.toNat+1)*val v)) (h2:4294967296^j*(g.toNat*val v)<=val u+4294967296^j*val v) (h3:val u<4294967296^(j+v.length+1)) :
  ∃(d:UInt64) (z:Q0),loop (F.H8 v (j:Int) g q) (0,0,0,u)=some (.inl ((j:Int) - 1,z,q.set j d.toUInt32))/\z.length=u.length /\
   val z+4294967296^j*(d.toNat*val v)=val u/\val z<4294967296^j*val v/\d.toNat<=4294967295:=by
 have w2:wI ((j:Int)+(v.length:Int))=((j+v.length:Nat):Int):=by rw[aI (by omega) (by omega)]; rfl
 have wj:wI ((j:Int) - 1)=(j:Int) - 1:=aI (by omega) (by omega)
 have V:∀(d:UInt64) (y:Q0),F.H1 (j:Int) q (d,y)=some (.inl ((j:Int) - 1,y,q.set j d.toUInt32)):=by
  intro d y
  unfold F.H1
  dsimp only
  rw[aT hq 0,ae,aV,Int.toNat_natCast,wj]; rfl
 have c3:=Nat.pow_pos (n:=j) (show 0<4294967296 by decide)
 have h0:MSI g v u j 0 (0,0,u):=⟨rfl,fun _ _=>rfl,by simp[val],by simp,by simp⟩
 have hz:=fun k (M:j+v.length+1<=k)=>xn h3 k M
 -- behind the loop
 have a3:∀x:MS,MSI g v u j v.length x->∃(d:UInt64) (z:Q0),
   (ah (aC x.2.2 (wI ((j:Int)+(v.length:Int)):Int)) fun I=>bq ((I.toUInt64 - x.1) - x.2.1) fun A=>ah (aC x.2.2 (wI ((j:Int)+(v.length:Int)):Int)) fun ac=>
    bq (x.2.2.set (wI ((j:Int)+(v.length:Int)):Int).toNat A.toUInt32) fun B=>if ((aP A 63) != 0)=true then loop (F.HH v (j:Int) g q) (0,0,B) else F.H1 (j:Int) q (g,B))
    = some (.inl ((j:Int) - 1,z,q.set j d.toUInt32))/\z.length=u.length/\val z+4294967296^j*(d.toNat*val v)=val u/\val z<4294967296^j*val v/\d.toNat<=4294967295:=by
  rintro x ⟨e1,e2,e3,e4,e5⟩
  rw[w2,aT (show j+v.length<x.2.2.length by omega) 0,ae,aV,ae,aV,Int.toNat_natCast]
  obtain⟨f1,f2⟩:=AZ (x.2.2.getD (j+v.length) 0) x.1 x.2.1 e4 e5
  obtain⟨t,ht⟩:∃t,((x.2.2.getD (j+v.length) 0).toUInt64 - x.1) - x.2.1=t:=⟨_,rfl⟩
  rw[ht]at f1 f2 ⊢
  have hv:=ef x.2.2 (j+v.length) t.toUInt32 (by omega)
  obtain⟨o,N⟩:∃o,x.2.2.set (j+v.length) t.toUInt32=o:=⟨_,rfl⟩
  have a6:o.length=u.length:=by rw[<-N]; simpa using e1
  have Y:∀k,j+v.length+1<=k->o.getD k 0=0:=fun k M=>by
   rw[<-N,dB (by omega),e2 k (by omega)]; exact hz k M
  have d1:=ny Y
  rw[N]at hv ⊢
  rw[List.take_length]at e3
  have G:val o+4294967296^j*(g.toNat*val v)=val u+4294967296^(j+v.length+1)*(aP t 63).toNat:=by
   have:=congrArg (4294967296^(j+v.length)*·) f1
   simp only[Nat.mul_add]at this
   rw[Nat.mul_add]at e3
   rw[Nat.pow_succ,Nat.mul_assoc]
   omega
  by_cases hb:(aP t 63).toNat=0
  ·have:aP t 63=0:=UInt64.toNat_inj.1 hb
   rw[if_neg (by rw[this]; decide),V]
   rw[hb,Nat.mul_zero,Nat.add_zero]at G
   refine⟨g,o,rfl,a6,G,?_,hg⟩
   rw[Nat.add_mul,Nat.one_mul,Nat.mul_add]at h1
   omega
  ·have bx:(aP t 63).toNat=1:=by omega
   have b2:¬aP t 63=0:=fun h=>hb (by rw[h]; rfl)
   rw[if_pos (by simpa using b2)]
   rw[bx,Nat.mul_one]at G
   have b3:1<=g.toNat:=by
    rcases Nat.eq_zero_or_pos g.toNat with h | h
    ·rw[h,Nat.zero_mul,Nat.mul_zero]at G; omega
    ·exact h
   have a0:ABI v o j 0 (0,o):=⟨rfl,fun _ _=>rfl,by simp[val],by simp⟩
   have e:=cA (f:=F.HH v (j:Int) g q) (fun (y:UInt64×Q0) i=>(y.1,(i:Int),y.2)) (fun i y=>i<=v.length->ABI v o j i y) (abS v j) 0 v.length
    (X:=fun y=>some (.inl ((j:Int) - 1,y.2.set (j+v.length) (y.2.getD (j+v.length) 0+y.1.toUInt32),q.set j (g - 1).toUInt32)))
    (fun i y _ hi hy=>by
     have hy:=hy (by omega)
     refine⟨?_,fun _=>xl (by omega) hy⟩
     have b5:=hy.1
     have w3:wI ((i:Int)+(j:Int))=((i+j:Nat):Int):=by rw[aI (by omega) (by omega)]; rfl
     have w4:wI ((i:Int)+1)=((i+1:Nat):Int):=by rw[aI (by omega) (by omega)]; rfl
     unfold F.HH
     dsimp only
     rw[if_pos (decide_eq_true (by omega)),w3,aT (show i+j<y.2.length by omega) 0,ae,aT hi 0,ae,aV,ae,aV,Int.toNat_natCast,w4]
     rfl)
    (fun y hy=>by
     have b5:=(hy (Nat.le_refl _)).1
     unfold F.HH
     dsimp only
     rw[if_neg (by simp),w2,aT (show j+v.length<y.2.length by omega) 0,ae,ae,aV,Int.toNat_natCast,V])
    v.length 0 (0,o) (Nat.le_refl _) (by omega) (fun _=>a0)
   have J:=cQ (fun i (y:UInt64×Q0)=>i<=v.length->ABI v o j i y) (abS v j) (fun i y hy=>fun hi=>xl (by omega) (hy (by omega))) v.length 0 (0,o) (fun _=>a0)
   obtain⟨y,hy⟩:∃y,(List.range' 0 v.length).foldl (abS v j) (0,o)=y:=⟨_,rfl⟩
   rw[hy]at J e
   rw[Nat.zero_add]at J
   obtain⟨k1,k2,k3,k4⟩:=J (Nat.le_refl _)
   rw[List.take_length]at k3
   refine⟨g - 1,_,e,by rw[List.length_set]; omega,?_⟩
   have b6:(g - 1).toNat=g.toNat - 1:=by
    rw[UInt64.toNat_sub_of_le _ _ (by rw[UInt64.le_iff_toNat_le]; exact b3)]; rfl
   obtain⟨U,Z⟩:∃U,y.2.set (j+v.length) (y.2.getD (j+v.length) 0+y.1.toUInt32)=U:=⟨_,rfl⟩
   have b7:=ef y.2 (j+v.length) (y.2.getD (j+v.length) 0+y.1.toUInt32) (by omega)
   rw[Z]at b7 ⊢
   have b8:∀k,j+v.length+1<=k->U.getD k 0=0:=fun k M=>by
    rw[<-Z,dB (by omega),k2 k (by omega)]; exact Y k M
   have d4:=ny b8
   have hw:=cn (y.2.getD (j+v.length) 0)
   have O:(y.2.getD (j+v.length) 0+y.1.toUInt32).toNat+4294967296*(((y.2.getD (j+v.length) 0).toNat+y.1.toNat) / 4294967296)=(y.2.getD (j+v.length) 0).toNat+y.1.toNat:=by
    rw[UInt32.toNat_add,fe,Nat.mod_eq_of_lt (a:=y.1.toNat) (by omega)]; omega
   obtain⟨K,b9⟩:∃K,((y.2.getD (j+v.length) 0).toNat+y.1.toNat) / 4294967296=K:=⟨_,rfl⟩
   rw[b9]at O
   have ed:K<=1:=by omega
   have R:val U+4294967296^(j+v.length+1)*K=val o+4294967296^j*val v:=by
    have:=congrArg (4294967296^(j+v.length)*·) O
    simp only[Nat.mul_add]at this
    rw[Nat.pow_succ,Nat.mul_assoc]
    omega
   obtain⟨g',ab⟩:∃g',g.toNat=g'+1:=⟨g.toNat - 1,by omega⟩
   rw[b6,ab,Nat.add_sub_cancel]
   rw[ab,Nat.add_mul,Nat.one_mul,Nat.mul_add]at G h2
   have co:K=1:=by
    rcases Nat.eq_zero_or_pos K with h | h
    ·rw[h,Nat.mul_zero]at R; omega
    ·omega
   rw[co,Nat.mul_one]at R
   exact⟨by omega,by omega,by omega⟩
 have e:=cA (f:=F.H8 v (j:Int) g q) (fun (x:MS) i=>(x.1,x.2.1,(i:Int),x.2.2)) (fun i x=>i<=v.length->MSI g v u j i x) (msS g v j) 0 v.length
  (X:=fun x=>(ah (aC x.2.2 (wI ((j:Int)+(v.length:Int)):Int)) fun I=>bq ((I.toUInt64 - x.1) - x.2.1) fun A=>ah (aC x.2.2 (wI ((j:Int)+(v.length:Int)):Int)) fun ac=>
    bq (x.2.2.set (wI ((j:Int)+(v.length:Int)):Int).toNat A.toUInt32) fun B=>if ((aP A 63) != 0)=true then loop (F.HH v (j:Int) g q) (0,0,B) else F.H1 (j:Int) q (g,B)))
  (fun i x _ hi hx=>by
   have hx:=hx (by omega)
   refine⟨?_,fun _=>xD hg (by omega) hx⟩
   have ei:=hx.1
   have w3:wI ((i:Int)+(j:Int))=((j+i:Nat):Int):=by rw[aI (by omega) (by omega)]; omega
   have w4:wI ((i:Int)+1)=((i+1:Nat):Int):=by rw[aI (by omega) (by omega)]; rfl
   unfold F.H8
   dsimp only
   rw[if_pos (decide_eq_true (by omega)),aT hi 0,ae,aV,w3,aT (show j+i<x.2.2.length by omega) 0,ae,aV,ae,aV,Int.toNat_natCast,w4]
   rfl)
  (fun x hx=>by
   unfold F.H8
   dsimp only
   rw[if_neg (by simp)])
  v.length 0 (0,0,u) (Nat.le_refl _) (by omega) (fun _=>h0)
 have J:=cQ (fun i (x:MS)=>i<=v.length->MSI g v u j i x) (msS g v j) (fun i x hx=>fun hi=>xD hg (by omega) (hx (by omega))) v.length 0 (0,0,u) (fun _=>h0)
 rw[Nat.zero_add]at J
 obtain⟨d,z,r1,r2⟩:=a3 _ (J (Nat.le_refl _))
 exact⟨d,z,e.trans r1,r2⟩
end Go.Gk.Bn
end

section
namespace Go.Gk.Bn
open Go Go.Gk Go.Gk.Sh
theorem tP (x y:UInt32):((aF x.toUInt64 32) ||| y.toUInt64).toNat=4294967296*x.toNat+y.toNat:=by
 have:=cn x
 rw[vt _ _ (by rw[bY]; omega),bY]
theorem B6 (v u q:Q0) (j:Nat) (f o t:UInt32) (h K A V':Nat) (hn:2<=v.length) (hj:j+v.length<u.length) (hs:u.length<=70368744177664)
  (Z:u.getD (j+v.length - 2) 0=t) (M:val v=(f.toNat*4294967296+o.toNat)*K+V') (ab:A<K) (O:V'<K) (R:1<=f.toNat)
  (ac:(h*4294967296+t.toNat)*K+A<4294967296*val v) (hh:h<=f.toNat*4294967296+4294967295) :
  ∀(m:Nat) (g r:UInt64),g.toNat=m->h=g.toNat*f.toNat+r.toNat->r.toNat<=4294967295->(h*4294967296+t.toNat)*K+A<(g.toNat+1)*val v ->
   ∃z:UInt64,loop (F.IT v o (j:Int) u f q) (g,r)=F.Iu u v (j:Int) q z/\z.toNat<=4294967295/\(h*4294967296+t.toNat)*K+A<(z.toNat+1)*val v /\
    z.toNat*val v<(h*4294967296+t.toNat)*K+A+val v:=by
 have x1:=cn f; have x2:=cn o; have x3:=cn t
 have w0:wI ((wI ((j:Int)+(v.length:Int))) - 2)=((j+v.length - 2:Nat):Int):=by
  rw[aI (x:=(j:Int)+(v.length:Int)) (by omega) (by omega),aI (by omega) (by omega)]; omega
 intro m
 induction m using Nat.strongRecOn with
 | ind m ih=>
  intro g r hm B hr ad
  -- too great
  have G:F.IT v o (j:Int) u f q (g,r)=F.Hx f g r u v (j:Int) q true->(4294967296<=g.toNat\/r.toNat*4294967296+t.toNat<g.toNat*o.toNat) ->
    ∃z:UInt64,loop (F.IT v o (j:Int) u f q) (g,r)=F.Iu u v (j:Int) q z/\z.toNat<=4294967295/\(h*4294967296+t.toNat)*K+A<(z.toNat+1)*val v /\
    z.toNat*val v<(h*4294967296+t.toNat)*K+A+val v:=by
   intro i N
   have ap:1<=g.toNat:=by
    rcases Nat.eq_zero_or_pos g.toNat with V | V
    ·rw[V]at N; omega
    ·exact V
   have U:(g - 1).toNat=g.toNat - 1:=by
    rw[UInt64.toNat_sub_of_le _ _ (by rw[UInt64.le_iff_toNat_le]; exact ap)]; rfl
   have a0:(r+f.toUInt64).toNat=r.toNat+f.toNat:=by rw[gE _ _ (by rw[bY]; omega),bY]
   have hd:=uk (K:=K) (V':=V') B ab N (by rw[<-M]; exact ac)
   rw[<-M]at hd
   obtain⟨k,X⟩:∃k,g.toNat=k+1:=⟨g.toNat - 1,by omega⟩
   have I:h=(g - 1).toNat*f.toNat+(r+f.toUInt64).toNat:=by
    rw[U,a0,B,X,Nat.add_sub_cancel,Nat.add_mul]; omega
   have J:(h*4294967296+t.toNat)*K+A<((g - 1).toNat+1)*val v:=by
    rw[U,X,Nat.add_sub_cancel,<-X]; exact hd
   unfold F.Hx at i
   rw[if_pos rfl]at i
   by_cases hb:4294967295<(r+f.toUInt64).toNat
   ·rw[if_pos (decide_eq_true (by rw[UInt64.lt_iff_toNat_lt]; exact hb))]at i
    have a2:(g - 1).toNat<4294967296:=by
     have:(g - 1).toNat*f.toNat<4294967296*f.toNat:=by omega
     exact Nat.lt_of_mul_lt_mul_right this
    refine⟨g - 1,bu i,by omega,J,?_⟩
    rw[M]
    refine Ap I O R a2 ?_
    have:=Nat.mul_le_mul (show (g - 1).toNat<=4294967295 by omega) (show o.toNat<=4294967295 by omega)
    omega
   ·rw[if_neg (by simp only[decide_eq_true_eq,UInt64.lt_iff_toNat_lt]; exact hb)]at i
    obtain⟨z,q1,q2⟩:=ih (g - 1).toNat (by omega) (g - 1) (r+f.toUInt64) rfl I (by omega) J
    exact⟨z,(bB i).trans q1,q2⟩
  have i:F.IT v o (j:Int) u f q (g,r)=if (decide ((4294967295:UInt64)<g))=true then F.Hx f g r u v (j:Int) q true else
    ah (aC u (wI ((wI ((j:Int)+(v.length:Int))) - 2):Int)) fun Y=>F.Hx f g r u v (j:Int) q (decide (((aF r 32) ||| Y.toUInt64)<(g*o.toUInt64))):=rfl
  by_cases hg:4294967295<g.toNat
  ·rw[if_pos (decide_eq_true (by rw[UInt64.lt_iff_toNat_lt]; exact hg))]at i
   exact G i (.inl (by omega))
  ·rw[if_neg (by simp only[decide_eq_true_eq,UInt64.lt_iff_toNat_lt]; exact hg),w0,aT (show j+v.length - 2<u.length by omega) 0,ae,Z]at i
   have e1:((aF r 32) ||| t.toUInt64).toNat=4294967296*r.toNat+t.toNat:=vt _ _ hr
   have hp:=Nat.mul_le_mul (show g.toNat<=4294967295 by omega) (show o.toNat<=4294967295 by omega)
   have e2:(g*o.toUInt64).toNat=g.toNat*o.toNat:=by rw[oB _ _ (by rw[bY]; omega),bY]
   by_cases N:r.toNat*4294967296+t.toNat<g.toNat*o.toNat
   ·rw[show decide (((aF r 32) ||| t.toUInt64)<(g*o.toUInt64))=true from decide_eq_true (by rw[UInt64.lt_iff_toNat_lt,e1,e2]; omega)]at i
    exact G i (.inr N)
   ·rw[show decide (((aF r 32) ||| t.toUInt64)<(g*o.toUInt64))=false from decide_eq_false (by rw[UInt64.lt_iff_toNat_lt,e1,e2]; omega)]at i
    unfold F.Hx at i
    rw[if_neg (by decide)]at i
    refine⟨g,bu i,by omega,ad,?_⟩
    rw[M]
    exact Ap B O R (by omega) (by omega)
theorem A7 (s:UInt64) (v u q:Q0) (j:Nat) (hn:2<=v.length) (ac:2147483648<=(v.getD (v.length - 1) 0).toNat) (hj:j+v.length<u.length) (hq:j<q.length) (hs:u.length<=70368744177664) (b2:q.length<=70368744177664)
  (hu:val u<4294967296^(j+1)*val v) :
  ∃(d:UInt64) (z:Q0),F.IE s v (v.getD (v.length - 1) 0) (v.getD (v.length - 2) 0) ((j:Int),u,q)=some (.inl ((j:Int) - 1,z,q.set j d.toUInt32))/\z.length=u.length /\
   val z+4294967296^j*(d.toNat*val v)=val u/\val z<4294967296^j*val v/\d.toNat<=4294967295:=by
 obtain⟨f,B⟩:∃f,v.getD (v.length - 1) 0=f:=⟨_,rfl⟩
 obtain⟨o,M⟩:∃o,v.getD (v.length - 2) 0=o:=⟨_,rfl⟩
 obtain⟨i,N⟩:∃i,u.getD (j+v.length) 0=i:=⟨_,rfl⟩
 obtain⟨t,O⟩:∃t,u.getD (j+v.length - 1) 0=t:=⟨_,rfl⟩
 obtain⟨k,R⟩:∃k,u.getD (j+v.length - 2) 0=k:=⟨_,rfl⟩
 rw[B]at ac
 have x1:=cn f; have x2:=cn o; have y0:=cn i; have y1:=cn t; have y2:=cn k
 -- the divisor's parts
 have eV:val v=(f.toNat*4294967296+o.toNat)*4294967296^(v.length - 2)+val (v.take (v.length - 2)):=by
  have:=dz v (v.length - 2) (by omega)
  rw[cq,show v.length - 2+1=v.length - 1 by omega,cq,show v.length - 1+1=v.length by omega,List.drop_length,eh,B,M]at this
  rw[this,Nat.mul_zero,Nat.add_zero,Nat.mul_comm (4294967296^_),Nat.add_comm o.toNat,Nat.mul_comm 4294967296 f.toNat]
  omega
 have G:val (v.take (v.length - 2))<4294967296^(v.length - 2):=by
  have:=bD (v.take (v.length - 2))
  rwa [List.length_take,Nat.min_eq_left (by omega)]at this
 have b4:=bD v
 have U:val u<4294967296^(j+v.length+1):=by
  have:=Nat.mul_lt_mul_of_pos_left b4 (Nat.pow_pos (n:=j+1) (show 0<4294967296 by decide))
  rw[<-Nat.pow_add,show j+1+v.length=j+v.length+1 by omega]at this
  omega
 -- the dividend's parts
 obtain⟨K,hK⟩:∃K,4294967296^(v.length - 2)=K:=⟨_,rfl⟩
 obtain⟨A,V⟩:∃A,val ((u.drop j).take (v.length - 2))=A:=⟨_,rfl⟩
 have a0:A<K:=by
  have:=bD ((u.drop j).take (v.length - 2))
  rw[List.length_take,List.length_drop,Nat.min_eq_left (by omega)]at this
  rw[<-V,<-hK]; exact this
 obtain⟨h,hh⟩:∃h,i.toNat*4294967296+t.toNat=h:=⟨_,rfl⟩
 have eU:val u / 4294967296^j=(h*4294967296+k.toNat)*K+A:=by
  have I:=dz (u.drop j) (v.length - 2) (by rw[List.length_drop]; omega)
  rw[List.drop_drop,show j+(v.length - 2)=j+v.length - 2 by omega,cq u (j+v.length - 2),show j+v.length - 2+1=j+v.length - 1 by omega,cq u (j+v.length - 1),show j+v.length - 1+1=j+v.length by omega,cq u (j+v.length),iY U,V,hK,N,O,R]at I
  rw[fw,I,<-hh,Nat.mul_zero,Nat.add_zero,Nat.mul_comm K]
  have:k.toNat+4294967296*(t.toNat+4294967296*i.toNat)=(i.toNat*4294967296+t.toNat)*4294967296+k.toNat:=by omega
  rw[this]; omega
 rw[hK]at eV G
 have J:=Nat.pow_pos (n:=j) (show 0<4294967296 by decide)
 have a6:(h*4294967296+k.toNat)*K+A<4294967296*val v:=by
  rw[<-eU,Nat.div_lt_iff_lt_mul J,Nat.mul_comm]
  rw[Nat.pow_succ,Nat.mul_assoc]at hu
  exact hu
 -- the first word is no greater than the divisor's
 have cm:i.toNat<=f.toNat:=by
  rcases Nat.lt_or_ge f.toNat i.toNat with I | I
  ·exfalso
   have a1:(f.toNat*4294967296+o.toNat+1)*K<=(i.toNat*4294967296)*K:=Nat.mul_le_mul_right _ (by omega)
   have a2:val v<(f.toNat*4294967296+o.toNat+1)*K:=by rw[eV,Nat.add_mul (f.toNat*4294967296+o.toNat) 1 K,Nat.one_mul]; exact Nat.add_lt_add_left G _
   have a4:=Nat.mul_le_mul_right K (show 4294967296*(i.toNat*4294967296)<=h*4294967296+k.toNat by omega)
   rw[Nat.mul_assoc 4294967296]at a4
   omega
  ·exact I
 have X:¬f.toUInt64=0:=by
  intro h0
  have:=congrArg UInt64.toNat h0
  rw[bY]at this
  simp at this
  omega
 obtain⟨H,hH⟩:∃H,(aF i.toUInt64 32) ||| t.toUInt64=H:=⟨_,rfl⟩
 have Y:H.toNat=h:=by rw[<-hH,tP,<-hh]; omega
 have Z:(H / f.toUInt64).toNat=h / f.toNat:=by rw[UInt64.toNat_div,bY,Y]
 have ab:(H%f.toUInt64).toNat=h%f.toNat:=by rw[UInt64.toNat_mod,bY,Y]
 have c4:=Nat.div_add_mod h f.toNat
 have c5:=Nat.mod_lt h (show 0<f.toNat by omega)
 obtain⟨g,hg,g1,g2,g3⟩:=B6 v u q j f o k h K A (val (v.take (v.length - 2))) hn hj hs R eV a0 G (by omega) a6 (by omega) _ (H / f.toUInt64) (H%f.toUInt64) rfl
  (by rw[Z,ab,Nat.mul_comm]; omega) (by rw[ab]; omega) (by
   rw[Z]
   have a1:h+1<=(h / f.toNat+1)*f.toNat:=by rw[Nat.add_mul,Nat.mul_comm (h / f.toNat)]; omega
   have a2:(h+1)*(4294967296*K)<=(h / f.toNat+1)*f.toNat*(4294967296*K):=Nat.mul_le_mul_right _ a1
   have a3:(h / f.toNat+1)*(f.toNat*(4294967296*K))<=(h / f.toNat+1)*val v:=by
    refine Nat.mul_le_mul_left _ ?_
    rw[eV,Nat.add_mul,Nat.mul_assoc]; omega
   have a4:(h*4294967296+k.toNat+1)*K<=(h+1)*(4294967296*K):=by
    rw[<-Nat.mul_assoc]; exact Nat.mul_le_mul_right _ (by omega)
   rw[Nat.add_mul (h*4294967296+k.toNat) 1 K,Nat.one_mul]at a4
   rw[Nat.mul_assoc]at a2
   omega)
 have ct:=Nat.div_mul_le_self (val u) (4294967296^j)
 have c6:=Nat.lt_div_mul_add J (a:=val u)
 obtain⟨d,z,r1,r2⟩:=Es v u q j g g1 hj hq hs b2
  (by
   have:=Nat.mul_le_mul_left (4294967296^j) (show val u / 4294967296^j+1<=(g.toNat+1)*val v by rw[eU]; omega)
   rw[Nat.mul_add,Nat.mul_one,Nat.mul_comm _ (val u / _)]at this
   omega)
  (by
   have:=Nat.mul_le_mul_left (4294967296^j) (show g.toNat*val v<=val u / 4294967296^j+val v by rw[eU]; omega)
   rw[Nat.mul_add _ (val u / _),Nat.mul_comm _ (val u / _)]at this
   omega) U
 refine⟨d,z,?_,r2⟩
 have w2:wI ((j:Int)+(v.length:Int))=((j+v.length:Nat):Int):=by rw[aI (by omega) (by omega)]; rfl
 have w3:wI ((((j+v.length:Nat):Int)) - 1)=((j+v.length - 1:Nat):Int):=by rw[aI (by omega) (by omega)]; omega
 rw[B,M]
 unfold F.IE
 dsimp only
 rw[if_pos (decide_eq_true (by omega)),w2,w3,aT hj 0,ae,aT (show j+v.length - 1<u.length by omega) 0,ae,aV,N,O,hH,grd_true _ X,grd_true _ X,hg]
 unfold F.Iu
 exact r1
theorem Bu (s:UInt64) (v:Q0) (A:Nat) (hn:2<=v.length) (h:2147483648<=(v.getD (v.length - 1) 0).toNat) (z:s.toNat<32) :
  ∀(k:Nat) (u q:Q0),k+v.length<=u.length->k<=q.length->u.length<=70368744177664->q.length<=70368744177664->(∀i,i<k->q.getD i 0=0)->val q*val v+val u=A->val u<4294967296^k*val v ->
   loop (F.IE s v (v.getD (v.length - 1) 0) (v.getD (v.length - 2) 0)) ((k:Int) - 1,u,q)=some (ao (A / val v),ao (A%val v / 2^s.toNat)):=by
 have B:0<val v:=by
  rw[nt v (v.length - 1) (by omega)]
  have:=Nat.mul_pos (Nat.pow_pos (n:=v.length - 1) (show 0<4294967296 by decide)) (show 0<(v.getD (v.length - 1) 0).toNat+4294967296*val (v.drop (v.length - 1+1)) by omega)
  omega
 intro k
 induction k with
 | zero=>
  intro u q I J G j o g f
  rw[Nat.pow_zero,Nat.one_mul]at f
  have K:A / val v=val q:=by rw[<-g,Nat.add_comm,Nat.add_mul_div_right _ _ B,Nat.div_eq_of_lt f,Nat.zero_add]
  have M:A%val v=val u:=by rw[<-g,Nat.add_comm,Nat.add_mul_mod_self_right,Nat.mod_eq_of_lt f]
  refine cK ?_
  unfold F.IE
  dsimp only
  have V:(ao (val u)).length<=u.length:=ba (bD u)
  rw[if_neg (by decide),gn _ (by omega),ae,gn _ (by omega),ae,BE _ _ z (by omega),ae,aw,K,M]; rfl
 | succ k ih=>
  intro u q I J G j o g f
  have N:(((k+1:Nat):Int)) - 1=(k:Int):=by omega
  obtain⟨d,O,R,X,r3,U,Y⟩:=A7 s v u q k hn h (by omega) (by omega) G j f
  rw[N,bB R]
  refine ih O _ (by omega) (by simp; omega) (by omega) (by simpa using j) (fun i hi=>by rw[dB (by omega)]; exact o i (by omega)) ?_ U
  have t:=ef q k d.toUInt32 (by omega)
  rw[o k (by omega)]at t
  have z0:(0:UInt32).toNat=0:=rfl
  rw[z0,Nat.mul_zero,Nat.add_zero]at t
  rw[t,fe,Nat.mod_eq_of_lt (by omega),Nat.add_mul,Nat.mul_assoc,<-g]
  omega
theorem Fw (a b:Q0) (ha:Can a) (hb:Can b) (h0:b≠[]) (c2:a.length<=70368744177660) (c3:b.length<=70000000000) :
  F.Ia a b=some (ao (val a / val b),ao (val a%val b)):=by
 have J:b.length≠0:=fun h=>h0 (List.eq_nil_of_length_eq_zero h)
 have c4:0<val b:=by
  rcases Nat.eq_zero_or_pos (val b) with h | h
  ·exact absurd (EU hb si h) h0
  ·exact h
 unfold F.Ia
 rw[if_neg (by simpa using fun h=>J (by rw[h]; rfl)),qt a b ha hb (by omega) (by omega),ae]
 unfold cD
 by_cases h1:val a<val b
 ·rw[if_pos h1,if_pos (by decide)]
  have c5:a.length<=b.length:=by
   rcases Nat.lt_or_ge b.length a.length with h | h
   ·have:=oX ha h; omega
   ·exact h
  unfold F.HZ
  have ac:apO 4 [] a=some a:=by unfold apO; rw[if_pos (by simp; omega)]; simp
  rw[ac,ae,ae,Nat.div_eq_of_lt h1,Nat.mod_eq_of_lt h1,bG,jC a ha]
 ·rw[if_neg h1,if_neg (by split <;> decide)]
  have c6:b.length<=a.length:=by
   rcases Nat.lt_or_ge a.length b.length with h | h
   ·exact absurd (oX hb h) h1
   ·exact h
  by_cases h2:a.length<=2
  ·rw[if_pos (decide_eq_true (by omega))]
   obtain⟨x,hx,ex⟩:=uU a h2
   obtain⟨y,hy,R⟩:=uU b (by omega)
   have K:¬y=0:=fun h=>by rw[h]at R; simp at R; omega
   rw[hx,ae,hy,ae,grd_true _ K,jl,ae,grd_true _ K,jl,ae,UInt64.toNat_div,UInt64.toNat_mod,ex,R]
  ·rw[if_neg (by simp only[decide_eq_true_eq]; omega)]
   by_cases h3:b.length=1
   ·rw[if_pos (by simp[h3]),show (0:Int)=((0:Nat):Int) from rfl,aT (show 0<b.length by omega) 0,ae]
    have t:val b=(b.getD 0 0).toNat:=by
     match b,h3 with
     | [x],_=>simp[val]
    have hd:b.getD 0 0≠0:=fun h=>by rw[h]at t; simp at t; omega
    obtain⟨r,hr,er⟩:=B4 a (b.getD 0 0) hd (by omega)
    rw[hr,ae,gn _ (by simp),ae,<-t]
    rw[<-t]at er
    simp only[dg,eh,Nat.mul_zero,Nat.add_zero,er]
   ·rw[if_neg (by simpa using fun h=>h3 (by omega)),length_eq b (by omega),ae]
    have j:jx b=32*(b.length - 1)+nb (b.getD (b.length - 1) 0).toNat:=by unfold jx; rw[if_neg J]
    obtain⟨g,B⟩:∃g,b.getD (b.length - 1) 0=g:=⟨_,rfl⟩
    rw[B]at j
    have U:g≠0:=by
     intro h
     refine hb ?_
     rw[List.getLast?_eq_getElem?]
     rw[<-B,List.getD_eq_getElem?_getD,List.getElem?_eq_getElem (show b.length - 1<b.length by omega)]at h
     rw[List.getElem?_eq_getElem (show b.length - 1<b.length by omega),<-h]; rfl
    have ap:g.toNat≠0:=fun h=>U (UInt32.toNat_inj.1 h)
    obtain⟨n1,n2⟩:=c9 g.toNat
    obtain⟨n3,n4⟩:=n2 ap
    have n5:=BB g
    obtain⟨z,hz⟩:∃z,nb g.toNat=z:=⟨_,rfl⟩
    rw[hz]at n1 n3 n4 n5 j
    -- the shift
    have es:UInt64.ofInt (wI ((wI (32 - (Int.tmod (wI ((jx b:Int) - 1)) 32))) - 1))=UInt64.ofNat (32 - z):=by
     rw[aI (x:=(jx b:Int) - 1) (by omega) (by omega)]
     have:Int.tmod ((jx b:Int) - 1) 32=(z:Int) - 1:=by
      rw[j]
      have:((32*(b.length - 1)+z:Nat):Int) - 1=((32*(b.length - 1)+(z - 1):Nat):Int):=by omega
      rw[this,Int.tmod_eq_emod_of_nonneg (by omega)]
      omega
     rw[this,aI (x:=32 - ((z:Int) - 1)) (by omega) (by omega),aI (x:=32 - ((z:Int) - 1) - 1) (by omega) (by omega),show (32 - ((z:Int) - 1)) - 1=((32 - z:Nat):Int) by omega]
     apply UInt64.toNat_inj.1
     rw[UInt64.ofInt,UInt64.toNat_ofNat',UInt64.toNat_ofNat']; omega
    rw[es,aV]
    obtain⟨s,hs⟩:∃s,UInt64.ofNat (32 - z)=s:=⟨_,rfl⟩
    have M:s.toNat=32 - z:=by rw[<-hs,UInt64.toNat_ofNat']; omega
    have a3:s.toNat<32:=by omega
    rw[hs,rI b s (by omega) (by omega),ae]
    -- the divisor shifted
    have a4:2^z*2^(32 - z)=4294967296:=by rw[<-Nat.pow_add,show z+(32 - z)=32 by omega]
    have V:2^(z - 1)*2^(32 - z)=2147483648:=by rw[<-Nat.pow_add,show z - 1+(32 - z)=31 by omega]
    have ev:val b=val (b.take (b.length - 1))+4294967296^(b.length - 1)*g.toNat:=by
     have:=bM b (b.length - 1)
     rwa [show b.length - 1+1=b.length by omega,List.take_length,B]at this
    have dc:val (b.take (b.length - 1))<4294967296^(b.length - 1):=by
     have:=bD (b.take (b.length - 1))
     rwa [List.length_take,Nat.min_eq_left (by omega)]at this
    have a5:val b*2^s.toNat<4294967296^b.length:=by
     have f:val b<4294967296^(b.length - 1)*2^z:=by
      have:4294967296^(b.length - 1)*(g.toNat+1)<=4294967296^(b.length - 1)*2^z:=Nat.mul_le_mul_left _ n1
      rw[Nat.mul_add]at this
      omega
     have o:=Nat.mul_lt_mul_of_pos_right f (Nat.two_pow_pos (32 - z))
     rw[Nat.mul_assoc,a4,<-Nat.pow_succ,Nat.succ_eq_add_one,show b.length - 1+1=b.length by omega]at o
     rw[M]; exact o
    have G:4294967296^(b.length - 1)*2147483648<=val b*2^s.toNat:=by
     rw[M,<-V,<-Nat.mul_assoc]
     refine Nat.mul_le_mul_right _ ?_
     have:4294967296^(b.length - 1)*2^(z - 1)<=4294967296^(b.length - 1)*g.toNat:=Nat.mul_le_mul_left _ n3
     omega
    obtain⟨v,X⟩:∃v,ao (val b*2^s.toNat)=v:=⟨_,rfl⟩
    have N:val v=val b*2^s.toNat:=by rw[<-X,aw]
    have O:v.length=b.length:=by
     have f:=ba a5
     have o:=oa (n:=val b*2^s.toNat) (k:=b.length - 1) (by
      refine Nat.le_trans ?_ G
      exact Nat.le_mul_of_pos_right _ (by decide))
     rw[X]at f o
     omega
    have Y:2147483648<=(v.getD (v.length - 1) 0).toNat:=by
     have f:=bM v (v.length - 1)
     rw[show v.length - 1+1=v.length by omega,List.take_length]at f
     have o:=bD (v.take (v.length - 1))
     rw[List.length_take,Nat.min_eq_left (by omega)]at o
     rw[O]at f o ⊢
     rcases Nat.lt_or_ge (v.getD (b.length - 1) 0).toNat 2147483648 with h | h
     ·have:4294967296^(b.length - 1)*((v.getD (b.length - 1) 0).toNat+1)<=4294967296^(b.length - 1)*2147483648:=Nat.mul_le_mul_left _ h
      rw[Nat.mul_add]at this
      omega
     ·exact h
    rw[X]
    -- the dividend shifted
    have w2:wI ((a.length:Int)+2)=((a.length+2:Nat):Int):=by rw[aI (by omega) (by omega)]; rfl
    rw[w2,dv (by omega),ae,Int.toNat_natCast,rI a s (by omega) (by omega),ae]
    have Z:2^s.toNat<=4294967296:=by
     have:=Nat.pow_le_pow_right (show 0<2 by decide) (show s.toNat<=32 by omega)
     have e:(2:Nat)^32=4294967296:=rfl
     omega
    have I:val a*2^s.toNat<4294967296^(a.length+1):=by
     have f:=bD a
     have o:=Nat.mul_le_mul (show val a+1<=4294967296^a.length from f) Z
     rw[<-Nat.pow_succ,Nat.add_mul]at o
     have:=Nat.two_pow_pos s.toNat
     omega
    obtain⟨A,hA⟩:∃A,val a*2^s.toNat=A:=⟨_,rfl⟩
    rw[hA]at I ⊢
    have dd:=ba I
    have bx:cpL (List.replicate (a.length+2) (0:UInt32)) (ao A) 0 (List.replicate (a.length+2) (0:UInt32)).length=pad (ao A) (a.length+2):=by
     unfold cpL pad
     simp only[List.length_replicate,Nat.sub_zero,List.take_zero,List.nil_append,Nat.zero_add]
     rw[List.take_of_length_le (by omega),Nat.min_eq_left (by omega),List.drop_replicate]
    rw[bx,aV,gS (by omega)]
    have w5:wI ((wI (((a.length+2:Nat):Int) - (v.length:Int))) - 1)=((a.length+1 - b.length:Nat):Int):=by
     rw[O,aI (x:=((a.length+2:Nat):Int) - (b.length:Int)) (by omega) (by omega),aI (by omega) (by omega)]; omega
    have w6:wI (((a.length+1 - b.length:Nat):Int)+1)=((a.length+2 - b.length:Nat):Int):=by rw[aI (by omega) (by omega)]; omega
    have w7:wI ((v.length:Int) - 1)=((v.length - 1:Nat):Int):=by rw[aI (by omega) (by omega)]; omega
    have w8:wI ((v.length:Int) - 2)=((v.length - 2:Nat):Int):=by rw[aI (by omega) (by omega)]; omega
    rw[w5,aV,w6,dv (by omega),ae,Int.toNat_natCast,w7,aT (show v.length - 1<v.length by omega) 0,ae,w8,aT (show v.length - 2<v.length by omega) 0,ae]
    have b2:∀i,(List.replicate (a.length+2 - b.length) (0:UInt32)).getD i 0=0:=fun i=>by
     rw[List.getD_eq_getElem?_getD,List.getElem?_replicate]; split <;> rfl
    have hL:=Bu s v A (by omega) Y a3 (a.length+2 - b.length) (pad (ao A) (a.length+2)) (List.replicate (a.length+2 - b.length) 0)
     (by rw[gS (by omega)]; omega) (by simp) (by rw[gS (by omega)]; omega) (by simp; omega) (fun i _=>b2 i) (by rw[dn,l7,aw]; omega) (by
      rw[l7,aw]
      refine Nat.lt_of_lt_of_le I ?_
      have f:=Nat.mul_le_mul_left (4294967296^(a.length+2 - b.length)) (Nat.le_trans (Nat.le_mul_of_pos_right (4294967296^(b.length - 1)) (show 0<2147483648 by decide)) G)
      rw[<-N,<-Nat.pow_add,show a.length+2 - b.length+(b.length - 1)=a.length+1 by omega]at f
      exact f)
    rw[show (((a.length+2 - b.length:Nat):Int)) - 1=((a.length+1 - b.length:Nat):Int) by omega]at hL
    rw[hL,N,<-hA,Nat.mul_div_mul_right _ _ (Nat.two_pow_pos _),Nat.mul_mod_mul_right,Nat.mul_div_cancel _ (Nat.two_pow_pos _)]
end Go.Gk.Bn
end
