import Derived.Test.YtmegjloifgfldaaGreatDoorGkU6
import Derived.Test.YtmegjloifgfldaaGreatDoorGkFman
set_option linter.unusedVariables false
set_option linter.unusedSimpArgs false
set_option linter.unusedSectionVars false

section
namespace Go.Gk.Bn
open Go Go.Gk Go.Gk.Sh
def bi (z:Int):Bool×Q0:=(decide (z<0),aq z.natAbs)
def nl (z:Int):Nat:=(aq z.natAbs).length
theorem zR (n:Nat):bi (n:Int)=(false,aq n):=by
 unfold bi
 rw[decide_eq_false (by omega),Int.natAbs_natCast]
theorem bi1 {z:Int} (h:0<=z):(bi z).1=false:=decide_eq_false (by omega)
theorem bi2 (z:Int):(bi z).2=aq z.natAbs:=rfl
theorem bis (z:Int):(bi z).1=decide (z<0):=rfl
theorem my (z:Int):Can (bi z).2:=ta _
theorem mB (z:Int):val (bi z).2=z.natAbs:=aw _
theorem il {n:Nat}:aq n=[]↔n=0:=⟨fun h=>by have:=aw n; rw[h]at this; simpa [val] using this.symm,fun h=>by rw[h,bI]⟩
theorem ik {n:Nat}:0<(aq n).length↔n≠0:=by
 rw[List.length_pos_iff,Ne,il]
theorem dg {a b:Nat} (h:a<=b):(aq a).length<=(aq b).length:=
 bb (Nat.lt_of_le_of_lt h (by have:=bG (aq b); rwa [aw]at this))
theorem Dc {x y:Int} (h:x.natAbs<=y.natAbs):(bi x).2.length<=(bi y).2.length:=dg h
theorem iL (a b:Nat):(aq (a+b)).length<=max (aq a).length (aq b).length+1:=by
 refine bb ?_
 have f:=bG (aq a); have g:=bG (aq b)
 rw[aw]at f g
 have h:=Nat.pow_le_pow_right (show 0<4294967296 by decide) (Nat.le_max_left (aq a).length (aq b).length)
 have i:=Nat.pow_le_pow_right (show 0<4294967296 by decide) (Nat.le_max_right (aq a).length (aq b).length)
 rw[Nat.pow_succ]
 omega
theorem k7 (a b:Nat):(aq (a*b)).length<=(aq a).length+(aq b).length:=by
 by_cases hb:b=0
 ·subst hb; simp[bI]
 refine bb ?_
 have f:=bG (aq a); have g:=bG (aq b)
 rw[aw]at f g
 rw[Nat.pow_add]
 exact Nat.mul_lt_mul_of_lt_of_le f (Nat.le_of_lt g) (Nat.pos_of_ne_zero (by have:=Nat.pow_pos (n:=(aq b).length) (show 0<4294967296 by decide); omega))
theorem vd (x y:Int):nl (x*y)<=nl x+nl y:=by
 unfold nl; rw[Int.natAbs_mul]; exact k7 _ _
theorem u9 (x y:Int):nl (x+y)<=max (nl x) (nl y)+1:=by
 unfold nl
 exact Nat.le_trans (dg (Int.natAbs_add_le x y)) (iL _ _)
theorem zp (x:Int):nl (-x)=nl x:=by unfold nl; rw[Int.natAbs_neg]
theorem zQ (x y:Int):nl (x - y)<=max (nl x) (nl y)+1:=by
 rw[Int.sub_eq_add_neg,<-zp y]; exact u9 x (-y)
theorem fQ {x y:Int} (h:x.natAbs<=y.natAbs):nl x<=nl y:=dg h
theorem tN {z:Int} {k:Nat} (h:z.natAbs<4294967296^k):nl z<=k:=bb h
theorem nG (x:Int) {m:Int} (h:0<m):nl (x%m)<=nl m:=fQ (by
 have:=Int.emod_nonneg x (show m≠0 by omega); have:=Int.emod_lt_of_pos x h; omega)
theorem si (n0:Bool) (f:Q0) (b:Bool) (a:Q0):F.GJ n0 f b a=some (b&&decide (a≠[]),a):=by
 unfold F.GJ F.KY
 cases b with
 | false=>rfl
 | true=>
  simp only[if_true,Bool.true_and]
  congr 2
  cases a <;> simp
theorem fX (n0:Bool) (g:Q0) (b:Bool) (z:Int) (h:z≠0->(b=true↔z<0)):F.GJ n0 g b (aq z.natAbs)=some (bi z):=by
 rw[si]
 congr 1
 unfold bi
 congr 1
 by_cases h0:z=0
 ·subst h0
  rw[show aq (Int.natAbs 0)=[] from bI]
  simp
 ·have f:aq z.natAbs≠[]:=by rw[Ne,il]; omega
  simp only[ne_eq,f,not_false_eq_true,decide_true,Bool.and_true]
  have:=h h0
  cases b with
  | true=>exact (decide_eq_true (this.1 rfl)).symm
  | false=>exact (decide_eq_false (fun i=>by have:=this.2 i; cases this)).symm
theorem wn (x y:Int) (hx:nl x<=70000000000000) (hy:nl y<=70000000000000):∃b,F.He (bi x).1 (bi x).2 (bi y).1 (bi y).2=some (b,aq (x+y).natAbs)/\(x+y≠0->(b=true↔x+y<0)):=by
 unfold F.He
 have j:(bi x).2.length<=70000000000000:=hx
 have k:(bi y).2.length<=70000000000000:=hy
 have f:val (bi x).2=x.natAbs:=aw _
 have g:val (bi y).2=y.natAbs:=aw _
 have h:(bi x).1=decide (x<0):=rfl
 have i:(bi y).1=decide (y<0):=rfl
 by_cases hs:(decide (x<0))=(decide (y<0))
 ·rw[h,i,if_pos (by rw[hs]; exact beq_self_eq_true _),qS _ _ (by omega) (by omega),ae,f,g]
  have:(x<0)↔(y<0):=by simpa using hs
  refine⟨_,by rw[show (x+y).natAbs=x.natAbs+y.natAbs by omega],fun _=>?_⟩
  rw[decide_eq_true_eq]; omega
 ·have:¬((x<0)↔(y<0)):=by simpa using hs
  rw[h,i,if_neg (by simpa using hs),qx _ _ (my _) (my _) (by omega) (by omega),ae,f,g]
  unfold cE
  by_cases h1:x.natAbs<y.natAbs
  ·rw[if_pos h1,if_neg (by decide),wl _ _ (Dc (by omega)) (by rw[f,g]; omega) (by omega),ae,f,g]
   refine⟨_,by rw[show (x+y).natAbs=y.natAbs - x.natAbs by omega],fun _=>?_⟩
   rw[decide_eq_true_eq]; omega
  ·rw[if_neg h1,if_pos (by split <;> decide),wl _ _ (Dc (by omega)) (by rw[f,g]; omega) (by omega),ae,f,g]
   refine⟨_,by rw[show (x+y).natAbs=x.natAbs - y.natAbs by omega],fun _=>?_⟩
   rw[decide_eq_true_eq]; omega
theorem EO (n0:Bool) (f:Q0) (x y:Int) (hx:nl x<=70000000000000) (hy:nl y<=70000000000000):F.JT n0 f (bi x).1 (bi x).2 (bi y).1 (bi y).2=some (bi (x+y)):=by
 unfold F.JT
 obtain⟨b,g,h⟩:=wn x y hx hy
 rw[g,ae,fX _ _ _ _ h,ae]
theorem qI (x y:Int) (hx:nl x<=70000000000000) (hy:nl y<=70000000000000):F.HE (bi x).1 (bi x).2 (bi y).1 (bi y).2=some (bi (x+y)):=by
 unfold F.HE
 obtain⟨b,f,g⟩:=wn x y hx hy
 rw[f,ae,fX _ _ _ _ g,ae]
theorem sn (x y:Int) (hx:nl x<=70000000000000) (hy:nl y<=70000000000000):∃b,F.He (bi x).1 (bi x).2 (!(bi y).1) (bi y).2=some (b,aq (x - y).natAbs)/\(x - y≠0->(b=true↔x - y<0)):=by
 by_cases h0:y=0
 ·-- nought with a sign
  subst h0
  unfold F.He
  have t:(bi x).2.length<=70000000000000:=hx
  have i:(bi 0).2=[]:=bI
  have es:(bi 0).1=false:=rfl
  have g:val (bi x).2=x.natAbs:=aw _
  rw[i,es]
  have f:(bi x).1=decide (x<0):=rfl
  by_cases hs:x<0
  ·rw[f,if_pos (by rw[decide_eq_true hs]; rfl),qS _ _ (by omega) (by simp),ae,g,en]
   refine⟨_,by rw[show (x - 0).natAbs=x.natAbs+0 by omega],fun _=>by rw[decide_eq_true_eq]; omega⟩
  ·rw[f,if_neg (by rw[decide_eq_false hs]; decide),qx _ _ (my _) sq (by omega) (by simp),ae,g,en]
   have j:cE x.natAbs 0=if x.natAbs=0 then 0 else 1:=by unfold cE; rw[if_neg (by omega)]
   rw[j,if_pos (by split <;> decide),wl _ _ (by simp) (by rw[en]; omega) (by omega),ae,g,en]
   refine⟨_,by rw[show (x - 0).natAbs=x.natAbs - 0 by omega],fun _=>by rw[decide_eq_true_eq]; omega⟩
 ·have k:(!(bi y).1)=(bi (-y)).1:=by
   unfold bi
   by_cases h:y<0
   ·rw[decide_eq_true h,decide_eq_false (by omega)]; rfl
   ·rw[decide_eq_false h,decide_eq_true (by omega)]; rfl
  have o:(bi y).2=(bi (-y)).2:=by rw[bi2,bi2,Int.natAbs_neg]
  rw[k,o,Int.sub_eq_add_neg]
  exact wn x (-y) hx (by rw[zp]; exact hy)
theorem AO (n0:Bool) (f:Q0) (x y:Int) (hx:nl x<=70000000000000) (hy:nl y<=70000000000000):F.Jn n0 f (bi x).1 (bi x).2 (bi y).1 (bi y).2=some (bi (x - y)):=by
 unfold F.Jn
 obtain⟨b,g,h⟩:=sn x y hx hy
 rw[g,ae,fX _ _ _ _ h,ae]
theorem yk (x y:Int) (hx:nl x<=70000000000000) (hy:nl y<=70000000000000):F.HX (bi x).1 (bi x).2 (bi y).1 (bi y).2=some (bi (x - y)):=by
 unfold F.HX
 obtain⟨b,f,g⟩:=sn x y hx hy
 rw[f,ae,fX _ _ _ _ g,ae]
theorem yc (x y:Int) (hx:nl x<=70000000000000) (hy:nl y<=70000000000000):F.KZ (bi y).1 (bi y).2 (bi x).1 (bi x).2=some (bi (x - y)):=by
 unfold F.KZ
 obtain⟨b,f,g⟩:=sn x y hx hy
 rw[f,ae,fX _ _ _ _ g,ae]
theorem Ep (x y:Int) (h:x*y≠0):((decide (x<0) != decide (y<0))=true↔x*y<0):=by
 have hx:x≠0:=fun f=>h (by rw[f,Int.zero_mul])
 have hy:y≠0:=fun f=>h (by rw[f,Int.mul_zero])
 by_cases h1:x<0 <;> by_cases h2:y<0
 ·have:=Int.mul_pos_of_neg_of_neg h1 h2
  simp[h1,h2]; omega
 ·have:=Int.mul_neg_of_neg_of_pos h1 (show 0<y by omega)
  simp[h1,h2,this]
 ·have:=Int.mul_neg_of_pos_of_neg (show 0<x by omega) h2
  simp[h1,h2,this]
 ·have:=Int.mul_pos (show 0<x by omega) (show 0<y by omega)
  simp[h1,h2]; omega
theorem uU (n0:Bool) (f:Q0) (x y:Int) (h:nl x+nl y<=70368744177664):F.Iq n0 f (bi x).1 (bi x).2 (bi y).1 (bi y).2=some (bi (x*y)):=by
 unfold F.Iq
 have g:(bi x).2.length+(bi y).2.length<=70368744177664:=h
 rw[A8 _ _ (by omega),ae,mB,mB,<-Int.natAbs_mul,bis,bis,fX _ _ _ _ (Ep x y),ae]
theorem wK (n0:Bool) (g:Q0) (x:Int) (k:-9223372036854775808<=x) (o:x<=9223372036854775807):F.IY n0 g x=some (bi x):=by
 have f:∀u:UInt64,u.toNat=x.natAbs->F.Ku n0 g x u=some (bi x):=by
  intro u j
  unfold F.Ku
  dsimp only
  rw[jp,ae,j,fX _ _ _ _ (fun _=>by rw[decide_eq_true_eq]),ae]
 unfold F.IY
 have i:(UInt64.ofInt x).toNat=(x%18446744073709551616).toNat:=by
  rw[UInt64.ofInt,UInt64.toNat_ofNat']
  have:=Int.emod_nonneg x (show (18446744073709551616:Int)≠0 by decide)
  have:=Int.emod_lt_of_pos x (show (0:Int)<18446744073709551616 by decide)
  omega
 by_cases h:x<0
 ·rw[if_pos (decide_eq_true h)]
  refine f _ ?_
  rw[UInt64.toNat_sub,i]
  have:(0:UInt64).toNat=0:=rfl
  omega
 ·rw[if_neg (by simpa using h)]
  refine f _ ?_
  rw[i]; omega
theorem iQ (x:Int) (f:-9223372036854775808<=x) (g:x<=9223372036854775807):F.GV x=some (bi x):=by
 unfold F.GV
 rw[wK _ _ x f g,ae]
theorem xB (a:Q0) (h:a.length<=50000000000000):F.H5 a=some a:=by
 unfold F.H5
 have f:apO 4 [] a=some a:=by unfold apO; rw[if_pos (by simp; omega)]; simp
 rw[f,ae]
theorem vN (n0:Bool) (f:Q0) (x:Int) (h:nl x<=50000000000000):F.HJ n0 f (bi x).1 (bi x).2=some (bi x):=by
 unfold F.HJ
 rw[xB (bi x).2 h,ae,bi2,bis,fX _ _ _ _ (fun _=>by rw[decide_eq_true_eq]),ae]
theorem ux (x y:Int):(Int.tdiv x y).natAbs=x.natAbs / y.natAbs:=Int.natAbs_tdiv x y
theorem mI (x y:Int):(Int.tmod x y).natAbs=x.natAbs%y.natAbs:=Int.natAbs_tmod x y
theorem nI (n0 g:Bool) (i j:Q0) (x y:Int) (hy:y≠0) (k:nl x<=70368744177660) (o:nl y<=70000000000) :
  F.Jf n0 i (bi x).1 (bi x).2 (bi y).1 (bi y).2 g j=some ((bi (Int.tdiv x y)).1,(bi (Int.tdiv x y)).2,(bi (Int.tmod x y)).1,(bi (Int.tmod x y)).2):=by
 unfold F.Jf
 rw[FE _ _ (my _) (my _) (by rw[bi2,Ne,il]; omega) k o,ae,mB,mB]
 dsimp only
 rw[bis,bis,<-ux,<-mI,fX _ _ _ _ (fun h=>?_),ae,fX _ _ _ _ (fun h=>?_),ae]
 ·show decide (x<0)=true↔_
  rw[decide_eq_true_eq]
  rcases Int.lt_trichotomy x 0 with f | f | f
  ·have:=Int.tmod_nonneg y (show 0<=-x by omega)
   rw[Int.neg_tmod]at this
   omega
  ·subst f; simp at h
  ·have:=Int.tmod_nonneg y (show 0<=x by omega)
   omega
 ·have z:Int.tdiv x y≠0:=h
  show (decide (x<0) != decide (y<0))=true↔_
  by_cases hx:x<0 <;> by_cases hyn:y<0
  ·have:=Int.tdiv_nonneg_of_nonpos_of_nonpos (show x<=0 by omega) (show y<=0 by omega)
   simp[hx,hyn]; omega
  ·simp only[hx,hyn,decide_true,decide_false]
   have t:Int.tdiv x y<=0:=by
    have:=Int.tdiv_nonneg (a:=-x) (b:=y) (by omega) (by omega)
    rw[Int.neg_tdiv]at this; omega
   simp; omega
  ·have t:Int.tdiv x y<=0:=by
    have:=Int.tdiv_nonneg (a:=x) (b:=-y) (by omega) (by omega)
    rw[Int.tdiv_neg]at this; omega
   simp[hx,hyn]; omega
  ·have:=Int.tdiv_nonneg (a:=x) (b:=y) (by omega) (by omega)
   simp[hx,hyn]; omega
end Go.Gk.Bn
end

section
namespace Go.Gk.Bn
open Go Go.Gk Go.Gk.Sh
theorem AC {x y:Int} (hy:0<y) (h:Int.tmod x y<0):Int.tdiv x y - 1=x / y/\Int.tmod x y+y=x%y:=by
 have f:=Int.mul_tdiv_add_tmod x y
 have g:(Int.tmod x y).natAbs<y.natAbs:=by rw[mI]; exact Nat.mod_lt _ (by omega)
 have i:y*Int.tdiv x y=y*(Int.tdiv x y - 1)+y:=by rw[Int.mul_sub,Int.mul_one]; omega
 have:=(Int.ediv_emod_unique (a:=x) (b:=y) (q:=Int.tdiv x y - 1) (r:=Int.tmod x y+y) hy).2 ⟨by omega,by omega,by omega⟩
 exact⟨this.1.symm,this.2.symm⟩
theorem zl {x y:Int} (hy:0<y) (h:¬Int.tmod x y<0):Int.tdiv x y=x / y/\Int.tmod x y=x%y:=by
 have f:=Int.mul_tdiv_add_tmod x y
 have g:(Int.tmod x y).natAbs<y.natAbs:=by rw[mI]; exact Nat.mod_lt _ (by omega)
 have:=(Int.ediv_emod_unique (a:=x) (b:=y) (q:=Int.tdiv x y) (r:=Int.tmod x y) hy).2 ⟨by omega,by omega,by omega⟩
 exact⟨this.1.symm,this.2.symm⟩
theorem DE (x y:Int):nl (Int.tdiv x y)<=nl x:=fQ (by rw[ux]; exact Nat.div_le_self _ _)
theorem Es (x y:Int):nl (Int.tmod x y)<=nl x:=fQ (by rw[mI]; exact Nat.mod_le _ _)
theorem vm:nl 1<=1:=tN (by decide)
theorem tn (n0 j:Bool) (k o:Q0) (x y:Int) (hy:0<y) (t:nl x<=70368744177660) (z:nl y<=70000000000) (i:x<0->nl x<=70000000000000) :
  F.Jl n0 k (bi x).1 (bi x).2 (bi y).1 (bi y).2 j o=some ((bi (x / y)).1,(bi (x / y)).2,(bi (x%y)).1,(bi (x%y)).2):=by
 have A:=DE x y; have B:=Es x y; have G:=vm
 unfold F.Jl
 rw[vN _ _ _ (by omega),ae,nI _ _ _ _ _ _ (by omega) t z,ae]
 dsimp only
 by_cases h:Int.tmod x y<0
 ·obtain⟨f,g⟩:=AC hy h
  have i:=i (by rcases Int.lt_or_le x 0 with hx | hx; exact hx; have:=Int.tmod_nonneg y hx; omega)
  rw[if_pos (show (bi (Int.tmod x y)).1=true from decide_eq_true h),if_neg (by rw[bi1 (by omega)]; decide),iQ 1 (by decide) (by decide),ae,yk _ _ (by omega) (by omega),ae,qI _ _ (by omega) (by omega),ae,f,g]
  rfl
 ·obtain⟨f,g⟩:=zl hy h
  rw[if_neg (by rw[show (bi (Int.tmod x y)).1=false from decide_eq_false h]; decide),f,g]
  rfl
theorem tB (n0 f h:Bool) (i g j:Q0):F.L2 n0 i h j f g=F.Jl n0 i f g h j f g:=rfl
theorem AZ (n0:Bool) (f:Q0) (x y:Int) (hy:0<y) (g:nl x<=70368744177660) (h:nl y<=70000000000) (i:x<0->nl x<=70000000000000):F.KB n0 f (bi x).1 (bi x).2 (bi y).1 (bi y).2=some (bi (x%y)):=by
 unfold F.KB
 rw[tn _ _ _ _ x y hy g h i,ae]
theorem zj (x y:Int) (hy:0<y) (f:nl x<=70368744177660) (g:nl y<=70000000000) (h:x<0->nl x<=70000000000000):F.LP (bi x).1 (bi x).2 (bi y).1 (bi y).2=some (bi (x%y)):=by
 unfold F.LP
 rw[tB,tn _ _ _ _ x y hy f g h,ae]
def um (x y:Int):Int:=if x<y then -1 else if x=y then 0 else 1
theorem qB (x y:Int) (hx:nl x<=70368744177664) (hy:nl y<=70368744177664):F.HQ (bi x).1 (bi x).2 (bi y).1 (bi y).2=some (um x y):=by
 have k:(bi x).2.length<=70368744177664:=hx
 have o:(bi y).2.length<=70368744177664:=hy
 unfold F.HQ um
 rw[qx _ _ (my x) (my y) (by omega) (by omega),mB,mB]
 unfold cE
 have f:(bi x).1=decide (x<0):=rfl
 have g:(bi y).1=decide (y<0):=rfl
 obtain⟨t,i⟩:∃q,(bi x).1=q:=⟨_,rfl⟩
 obtain⟨z,j⟩:∃q,(bi y).1=q:=⟨_,rfl⟩
 rw[i]at f ⊢; rw[j]at g ⊢
 by_cases h1:x<0 <;> by_cases h2:y<0
 ·rw[decide_eq_true h1]at f; rw[decide_eq_true h2]at g; subst f; subst g
  rw[if_neg (by decide),ae,if_pos rfl]
  rcases Int.lt_trichotomy x y with h | h | h
  ·rw[if_pos h,if_neg (by omega),if_neg (by omega)]; rfl
  ·rw[if_neg (by omega),if_pos (by omega),if_neg (by omega),if_pos h]; rfl
  ·rw[if_pos (by omega),if_neg (by omega),if_neg (by omega)]; rfl
 ·rw[decide_eq_true h1]at f; rw[decide_eq_false h2]at g; subst f; subst g
  rw[if_pos (by decide),if_pos rfl,if_pos (by omega)]
 ·rw[decide_eq_false h1]at f; rw[decide_eq_true h2]at g; subst f; subst g
  rw[if_pos (by decide),if_neg (by decide),if_neg (by omega),if_neg (by omega)]
 ·rw[decide_eq_false h1]at f; rw[decide_eq_false h2]at g; subst f; subst g
  rw[if_neg (by decide),ae,if_neg (by decide)]
  rcases Int.lt_trichotomy x y with h | h | h
  ·rw[if_pos (by omega),if_pos h]
  ·rw[if_neg (by omega),if_pos (by omega),if_neg (by omega),if_pos h]
  ·rw[if_neg (by omega),if_neg (by omega),if_neg (by omega),if_neg (by omega)]
theorem rV (x:Int):F.GY (bi x).1 (bi x).2=some (if x=0 then 0 else if x<0 then -1 else 1):=by
 unfold F.GY
 by_cases h:x=0
 ·subst h; rw[if_pos rfl]; exact if_pos (by rw[bi2,show Int.natAbs 0=0 from rfl,bI]; rfl)
 ·have:(bi x).2.length≠0:=fun f=>h (by have:=List.eq_nil_of_length_eq_zero f; rw[bi2,il]at this; omega)
  rw[if_neg (by simpa using fun f=>this (by rw[f]; rfl)),if_neg h,bis]
  by_cases h1:x<0
  ·rw[if_pos (by simp[h1]),if_pos h1]
  ·rw[if_neg (by simp[h1]),if_neg h1]
def beN:Q1->Nat
 | []=>0
 | x :: l=>x.toNat*256^l.length+beN l
def beB:Nat->Nat->Q1
 | 0,_=>[]
 | k+1,n=>UInt8.ofNat (n / 256^k) :: beB k n
theorem gN:∀k n,(beB k n).length=k
 | 0,_=>rfl
 | k+1,n=>by simp[beB,gN k n]
theorem gn:∀l:Q1,beN l<256^l.length
 | []=>by simp[beN]
 | x :: l=>by
  have f:=gn l; have g:=x.toNat_lt
  have:(x.toNat+1)*256^l.length<=256*256^l.length:=Nat.mul_le_mul_right _ (by omega)
  rw[Nat.add_mul]at this
  rw[beN,List.length_cons,Nat.pow_succ,Nat.mul_comm (256^_) 256]
  omega
theorem rL:∀k n,beN (beB k n)=n%256^k
 | 0,n=>by simp[beB,beN,Nat.mod_one]
 | k+1,n=>by
  rw[beB,beN,gN,rL k n,UInt8.toNat_ofNat',show (2:Nat)^8=256 from rfl,Nat.mod_pow_succ,Nat.mul_comm (256^k),Nat.add_comm]
theorem mT:∀a b:Q1,beN (a++b)=beN a*256^b.length+beN b
 | [],b=>by simp[beN]
 | x :: a,b=>by
  rw[List.cons_append,beN,beN,mT a b,List.length_append,Nat.add_mul,Nat.pow_add,Nat.mul_assoc]; omega
theorem io (l:Q1) {i:Nat} (h:i<l.length):beN (l.take (i+1))=256*beN (l.take i)+(l.getD i 0).toNat:=by
 rw[List.take_add_one,List.getD_eq_getElem?_getD,List.getElem?_eq_getElem h,mT]
 simp[beN]; omega
theorem vK:∀(k n i:Nat),i<k->(beB k n).getD i 0=UInt8.ofNat (n / 256^(k - 1 - i))
 | 0,_,_,h=>by omega
 | k+1,n,0,_=>by simp[beB]
 | k+1,n,i+1,h=>by
  rw[beB,List.getD_cons_succ,vK k n i (by omega),show k+1 - 1 - (i+1)=k - 1 - i by omega]
theorem i0 {n k:Nat} (h:n<256^k):(aq n).length<=(k+3) / 4:=by
 refine bb (Nat.lt_of_lt_of_le h ?_)
 rw[show (4294967296:Nat)=256^4 from rfl,<-Nat.pow_mul]
 exact Nat.pow_le_pow_right (by decide) (by omega)
theorem lL (n0:Bool) (h:Q0) (b:Q1) (hb:b.length<=140737488351232):F.Ii n0 h b=some (bi (beN b:Nat)):=by
 unfold F.Ii
 have e:=cC (f:=F.JO n0 h b) (fun (x:Nat) i=>(aq x,(i:Int))) (fun i x=>i<=b.length->x=beN (b.take i)) (fun x i=>256*x+(b.getD i 0).toNat) 0 b.length
  (X:=fun x=>some (bi (x:Nat)))
  (fun i x _ hi hx=>by
   have hx:=hx (by omega)
   refine⟨?_,fun _=>by rw[hx,io b hi]⟩
   have k:wI ((i:Int)+1)=((i+1:Nat):Int):=by rw[aJ (by omega) (by omega)]; rfl
   have hl:(aq x).length<=(i+3) / 4:=by
    rw[hx]
    have:=gn (b.take i)
    rw[List.length_take,Nat.min_eq_left (by omega)]at this
    exact i0 this
   have j:(8:UInt64).toNat=8:=rfl
   unfold F.JO
   dsimp only
   rw[if_pos (decide_eq_true (by omega)),rO _ 8 (by rw[j]; omega) (by omega),ae,aU hi 0,ae,jp,ae,aw,j]
   have o:(aq (x*2^8)).length<=(i+3) / 4+1:=by
    have:=k7 x (2^8)
    have z:(aq (2^8)).length<=1:=bb (by decide)
    omega
   have t:(aq (b.getD i 0).toUInt64.toNat).length<=2:=bb (by have:=(b.getD i 0).toUInt64.toNat_lt; omega)
   rw[qS _ _ (by omega) (by omega),ae,aw,aw,k]
   have:(b.getD i 0).toUInt64.toNat=(b.getD i 0).toNat:=UInt8.toNat_toUInt64 _
   rw[this,show x*2^8=256*x by omega]; rfl)
  (fun x hx=>by
   unfold F.JO
   dsimp only
   rw[if_neg (by simp),si,ae,zR]; rfl)
  b.length 0 0 (Nat.le_refl _) (by omega) (fun _=>by simp[beN])
 have g:=cR (fun i (x:Nat)=>i<=b.length->x=beN (b.take i)) (fun x i=>256*x+(b.getD i 0).toNat) (fun i x hx=>fun hi=>by rw[hx (by omega),io b (by omega)]) b.length 0 0 (fun _=>by simp[beN])
 rw[Nat.zero_add]at g
 have g:=g (Nat.le_refl _)
 rw[g,List.take_length]at e
 rw[bI]at e
 exact e
end Go.Gk.Bn
end

section
namespace Go.Gk.Bn
open Go Go.Gk Go.Gk.Sh
theorem nA {n k:Nat} (f:n<2^k) (g:2^(k - 1)<=n) (i:1<=k):nb n=k:=by
 have j:=gx f
 rcases Nat.lt_or_ge (nb n) k with h | h
 ·have o:=(de n).1
  have t:=Nat.pow_le_pow_right (show 0<2 by decide) (show nb n<=k - 1 by omega)
  omega
 ·omega
theorem lM (n:Nat):jB (aq n)=nb n:=by
 unfold jB
 by_cases h0:n=0
 ·subst h0; rw[bI,if_pos (show ([]:Q0).length=0 from rfl),fU]
 ·obtain⟨l,hl⟩:∃l,aq n=l:=⟨_,rfl⟩
  have f:l.length≠0:=by have:=ik.2 h0; rw[hl]at this; omega
  have o:val l=n:=by rw[<-hl,aw]
  have hc:Can l:=by rw[<-hl]; exact ta n
  rw[hl,if_neg f]
  have g:=bN l (l.length - 1)
  rw[show l.length - 1+1=l.length by omega,List.take_length,o]at g
  have z:=bG (l.take (l.length - 1))
  rw[List.length_take,Nat.min_eq_left (by omega)]at z
  obtain⟨t,i⟩:∃t,l.getD (l.length - 1) 0=t:=⟨_,rfl⟩
  rw[i]at g ⊢
  have j:t.toNat≠0:=by
   intro h
   have h:t=0:=UInt32.toNat_inj.1 h
   refine hc ?_
   rw[List.getLast?_eq_getElem?]
   rw[<-i,List.getD_eq_getElem?_getD,List.getElem?_eq_getElem (show l.length - 1<l.length by omega)]at h
   rw[List.getElem?_eq_getElem (show l.length - 1<l.length by omega),<-h]; rfl
  obtain⟨n1,A⟩:=de t.toNat
  obtain⟨B,F⟩:=A j
  have k:(4294967296:Nat)^(l.length - 1)=2^(32*(l.length - 1)):=by rw[Nat.pow_mul]
  symm
  refine nA ?_ ?_ (by omega)
  ·rw[Nat.pow_add,<-k]
   have:4294967296^(l.length - 1)*(t.toNat+1)<=4294967296^(l.length - 1)*2^nb t.toNat:=Nat.mul_le_mul_left _ n1
   rw[Nat.mul_add]at this
   omega
  ·rw[show 32*(l.length - 1)+nb t.toNat - 1=32*(l.length - 1)+(nb t.toNat - 1) by omega,Nat.pow_add,<-k]
   have:4294967296^(l.length - 1)*2^(nb t.toNat - 1)<=4294967296^(l.length - 1)*t.toNat:=Nat.mul_le_mul_left _ B
   omega
def nby (n:Nat):Nat:=(nb n+7) / 8
theorem CS (k:Nat):(256:Nat)^k=2^(8*k):=by rw[Nat.pow_mul]
theorem rf (n:Nat):n<256^nby n:=by
 rw[CS]
 exact Nat.lt_of_lt_of_le (de n).1 (Nat.pow_le_pow_right (by decide) (by unfold nby; omega))
theorem zW {n i:Nat} (h:i<nby n):256^i<=n:=by
 rw[CS]
 have hn:n≠0:=by rintro rfl; unfold nby at h; rw[fU]at h; omega
 obtain⟨f,g⟩:=(de n).2 hn
 exact Nat.le_trans (Nat.pow_le_pow_right (by decide) (by unfold nby at h; omega)) f
theorem zZ {n k:Nat} (h:n<256^k):nby n<=k:=by
 rcases Nat.lt_or_ge k (nby n) with f | f
 ·have:=zW f; omega
 ·exact f
theorem ii (n:Nat):nb n<=32*(aq n).length:=by
 refine gx ?_
 have:=bG (aq n)
 rw[aw]at this
 rw[Nat.pow_mul]; exact this
theorem sO (l:Q0) (i:Nat):(bu (l.getD (i / 4) 0) (8*(i%4))).toUInt8=UInt8.ofNat (val l / 256^i):=by
 apply UInt8.toNat_inj.1
 rw[UInt32.toNat_toUInt8,gu,UInt8.toNat_ofNat']
 have e8:(2:Nat)^8=256:=rfl
 rw[e8]
 have f:(256:Nat)^i=4294967296^(i / 4)*256^(i%4):=by
  rw[show (4294967296:Nat)=256^4 from rfl,<-Nat.pow_mul,<-Nat.pow_add]; congr 1; omega
 rw[f,<-Nat.div_div_eq_div_mul,fy,cu]
 obtain⟨w,g⟩:∃w,(l.getD (i / 4) 0).toNat=w:=⟨_,rfl⟩
 obtain⟨R,j⟩:∃R,val (l.drop (i / 4+1))=R:=⟨_,rfl⟩
 rw[g,j]
 have:i%4=0\/i%4=1\/i%4=2\/i%4=3:=by omega
 rcases this with h | h | h | h <;> rw[h] <;> simp <;> omega
theorem Cq (x:Int) (hx:nl x<=1000000000):F.K7 (bi x).1 (bi x).2=some (beB (nby x.natAbs) x.natAbs):=by
 obtain⟨n,hn⟩:∃n,x.natAbs=n:=⟨_,rfl⟩
 have hl:(aq n).length<=1000000000:=by rw[<-hn]; exact hx
 have hb:=ii n
 obtain⟨m,hm⟩:∃m,nby n=m:=⟨_,rfl⟩
 have K:m<=4*(aq n).length:=by rw[<-hm]; unfold nby; omega
 unfold F.K7
 rw[bi2,hn,length_eq _ (by omega),ae,lM]
 have o:wI (Int.tdiv (wI ((nb n:Int)+7)) 8)=(m:Int):=by
  rw[aJ (x:=(nb n:Int)+7) (by omega) (by omega),Int.tdiv_eq_ediv_of_nonneg (by omega),aJ (by omega) (by omega),<-hm]; unfold nby; omega
 rw[o,aV,dy (by omega),ae,Int.toNat_natCast,hm]
 have e:=cC (f:=F.KQ (aq n) (m:Int)) (fun (y:Q1) i=>((i:Int),y)) (fun i y=>i<=m->y=List.replicate (m - i) 0++beB i n) (fun y i=>y.set (m - 1 - i) (UInt8.ofNat (n / 256^i))) 0 m
  (X:=fun y=>some y)
  (fun i y _ hi hy=>by
   have hy:=hy (by omega)
   have h:y.set (m - 1 - i) (UInt8.ofNat (n / 256^i))=List.replicate (m - (i+1)) 0++beB (i+1) n:=by
    rw[hy,show m - i=m - (i+1)+1 by omega,List.replicate_succ',List.append_assoc,show m - 1 - i=m - (i+1) by omega,List.set_append_right _ _ (by simp)]
    simp[beB]
   refine⟨?_,fun _=>h⟩
   have j:i / 4<(aq n).length:=by
    refine oh (k:=i / 4) ?_
    refine Nat.le_trans ?_ (zW (show i<nby n by omega))
    rw[show (4294967296:Nat)=256^4 from rfl,<-Nat.pow_mul]
    exact Nat.pow_le_pow_right (by decide) (by omega)
   have M:y.length=m:=by rw[hy]; simp[gN]; omega
   have t:wI ((i:Int)+1)=((i+1:Nat):Int):=by rw[aJ (by omega) (by omega)]; rfl
   have z:wI (Int.tdiv (i:Int) 4)=((i / 4:Nat):Int):=by rw[Int.tdiv_eq_ediv_of_nonneg (by omega),aJ (by omega) (by omega)]; omega
   have A:wI ((wI ((m:Int) - 1)) - (i:Int))=((m - 1 - i:Nat):Int):=by rw[aJ (x:=(m:Int) - 1) (by omega) (by omega),aJ (by omega) (by omega)]; omega
   have B:(8*((UInt64.ofInt (i:Int))%4)).toNat=8*(i%4):=by
    have G:(UInt64.ofInt (i:Int)).toNat=i:=by
     rw[UInt64.ofInt,UInt64.toNat_ofNat']
     omega
    have I:(4:UInt64).toNat=4:=rfl
    have J:(8:UInt64).toNat=8:=rfl
    rw[UInt64.toNat_mul,UInt64.toNat_mod,G,I,J]; omega
   unfold F.KQ
   dsimp only
   rw[if_pos (decide_eq_true (by omega)),z,aU j 0,ae,A,aU (show m - 1 - i<y.length by omega) 0,ae,aV,Int.toNat_natCast,B,sO,aw,t]
   rfl)
  (fun y hy=>by
   unfold F.KQ
   dsimp only
   rw[if_neg (by simp)])
  m 0 (List.replicate m 0) (Nat.le_refl _) (by omega) (fun _=>by simp[beB])
 have g:=cR (fun i (y:Q1)=>i<=m->y=List.replicate (m - i) 0++beB i n) (fun y i=>y.set (m - 1 - i) (UInt8.ofNat (n / 256^i)))
  (fun i y hy=>fun hi=>by
   rw[hy (by omega),show m - i=m - (i+1)+1 by omega,List.replicate_succ',List.append_assoc,show m - 1 - i=m - (i+1) by omega,List.set_append_right _ _ (by simp)]
   simp[beB]) m 0 (List.replicate m 0) (fun _=>by simp[beB])
 rw[Nat.zero_add]at g
 have g:=g (Nat.le_refl _)
 rw[g,Nat.sub_self,List.replicate_zero,List.nil_append]at e
 exact e
def lI (c:UInt8):Nat:=if c.toNat<=57 then c.toNat - 48 else c.toNat - 87
def fj (c:UInt8):Bool:=(48<=c.toNat&&c.toNat<=57) || (97<=c.toNat&&c.toNat<=102)
def dX:Q1->Nat
 | []=>0
 | x :: l=>lI x*16^l.length+dX l
theorem xX {c:UInt8} (h:fj c=true):lI c<16:=by
 unfold fj at h; unfold lI
 simp only[Bool.or_eq_true,Bool.and_eq_true,decide_eq_true_eq]at h
 split <;> omega
theorem pm:∀a b:Q1,dX (a++b)=dX a*16^b.length+dX b
 | [],b=>by simp[dX]
 | x :: a,b=>by
  rw[List.cons_append,dX,dX,pm a b,List.length_append,Nat.add_mul,Nat.pow_add,Nat.mul_assoc]; omega
theorem xG:∀l:Q1,l.all fj=true->dX l<16^l.length
 | [],_=>by simp[dX]
 | x :: l,h=>by
  rw[List.all_cons,Bool.and_eq_true]at h
  have f:=xG l h.2; have g:=xX h.1
  have:(lI x+1)*16^l.length<=16*16^l.length:=Nat.mul_le_mul_right _ (by omega)
  rw[Nat.add_mul]at this
  rw[dX,List.length_cons,Nat.pow_succ,Nat.mul_comm (16^_) 16]
  omega
theorem mn (l:Q1) {i:Nat} (h:i<l.length):dX (l.take (i+1))=16*dX (l.take i)+lI (l.getD i 0):=by
 rw[List.take_add_one,List.getD_eq_getElem?_getD,List.getElem?_eq_getElem h,pm]
 simp[dX]; omega
theorem vv {l:Q1} {p:UInt8->Bool} (h:l.all p=true) {i:Nat} (hi:i<l.length):p (l.getD i 0)=true:=by
 rw[List.getD_eq_getElem?_getD,List.getElem?_eq_getElem hi]
 exact List.all_eq_true.1 h _ (List.getElem_mem hi)
theorem Cm {l:Q1} {p:UInt8->Bool} (h:l.all p=true) (i:Nat):(l.take i).all p=true:=
 List.all_eq_true.2 fun x hx=>List.all_eq_true.1 h x (List.mem_of_mem_take hx)
theorem Cz (n0:Bool) (z:Q0) (sg:Bool) (s:Q1) (n i:Nat) (hs:s.all fj=true) (hi:i<s.length) (G:s.length<=1000000000) (hn:(aq n).length<=1000000000) :
  F.It n0 z sg s 16 (aq n,(i:Int))=some (.inl (aq (16*n+lI (s.getD i 0)),((i+1:Nat):Int))):=by
 have hc:=vv hs hi
 obtain⟨c,j⟩:∃c,s.getD i 0=c:=⟨_,rfl⟩
 rw[j]at hc ⊢
 have A:=xX hc
 have B:wI ((i:Int)+1)=((i+1:Nat):Int):=by rw[aJ (by omega) (by omega)]; rfl
 have k:∀d:Nat,d<16->F.HN 16 (aq n) (i:Int) (d:Int)=some (.inl (aq (16*n+d),((i+1:Nat):Int))):=by
  intro d A
  unfold F.HN
  have o:(UInt64.ofInt 16).toNat=16:=rfl
  have t:(UInt64.ofInt (d:Int)).toNat=d:=by rw[UInt64.ofInt,UInt64.toNat_ofNat']; omega
  have f:(aq 16).length<=1:=bb (by decide)
  have g:(aq d).length<=1:=bb (by omega)
  have I:=k7 n 16
  rw[if_neg (by simp only[decide_eq_true_eq]; omega),jp,ae,o,A8 _ _ (by omega),ae,jp,ae,t,aw,aw,qS _ _ (by omega) (by omega),ae,aw,aw,B,Nat.mul_comm n 16]
  rfl
 unfold F.It
 dsimp only
 rw[if_pos (decide_eq_true (by omega)),aU hi 0,ae,j]
 unfold fj at hc
 simp only[Bool.or_eq_true,Bool.and_eq_true,decide_eq_true_eq]at hc
 rw[if_pos (decide_eq_true (by rw[UInt8.le_iff_toNat_le]; have:(48:UInt8).toNat=48:=rfl; omega))]
 unfold F.Lr
 by_cases h:c.toNat<=57
 ·have f:(c - 48).toNat=c.toNat - 48:=UInt8.toNat_sub_of_le _ _ (by rw[UInt8.le_iff_toNat_le]; have:(48:UInt8).toNat=48:=rfl; omega)
  have g:lI c=c.toNat - 48:=if_pos h
  rw[if_pos (decide_eq_true (by rw[UInt8.le_iff_toNat_le]; exact h)),aV,f,g]
  exact k _ (by omega)
 ·have f:(c - 97).toNat=c.toNat - 97:=UInt8.toNat_sub_of_le _ _ (by rw[UInt8.le_iff_toNat_le]; have:(97:UInt8).toNat=97:=rfl; omega)
  have g:lI c=c.toNat - 87:=if_neg h
  rw[if_neg (by rw[decide_eq_true_eq,UInt8.le_iff_toNat_le]; exact h),if_pos (decide_eq_true (by rw[UInt8.le_iff_toNat_le]; have:(97:UInt8).toNat=97:=rfl; omega))]
  unfold F.Ld
  rw[if_pos (decide_eq_true (by rw[UInt8.le_iff_toNat_le]; have:(122:UInt8).toNat=122:=rfl; omega)),aV,f,aJ (by omega) (by omega),g,show ((c.toNat - 97:Nat):Int)+10=((c.toNat - 87:Nat):Int) by omega]
  exact k _ (by omega)
theorem ub (n0:Bool) (o:Q0) (s:Q1) (hs:s.all fj=true) (t:s≠[]) (z:s.length<=1000000000):F.K3 n0 o s 16=some (true,false,aq (dX s)):=by
 have hl:0<s.length:=List.length_pos_iff.2 t
 have hc:=vv hs hl
 unfold fj at hc
 simp only[Bool.or_eq_true,Bool.and_eq_true,decide_eq_true_eq]at hc
 have j:∀d:UInt8,d.toNat<48->(s.getD 0 0 == d)=false:=fun d G=>by
  rw[beq_eq_false_iff_ne]; intro h; rw[h]at hc; omega
 unfold F.K3
 rw[if_pos (decide_eq_true (by omega)),show (0:Int)=((0:Nat):Int) from rfl,aU hl 0,ae,if_neg (by rw[j 45 (by decide)]; decide),ae,j 43 (by decide)]
 unfold F.Kz F.LE
 rw[if_neg (by decide)]
 dsimp only
 rw[if_neg (by decide)]
 unfold F.Iu
 dsimp only
 rw[if_neg (by simpa using t),if_neg (by decide)]
 unfold F.Jm
 rw[if_neg (by decide)]
 have B:∀i,i<=s.length->(aq (dX (s.take i))).length<=1000000000:=fun i hi=>by
  have A:=xG (s.take i) (Cm hs i)
  rw[List.length_take,Nat.min_eq_left hi]at A
  have I:=i0 (k:=i) (Nat.lt_of_lt_of_le A (Nat.pow_le_pow_left (by decide) i))
  omega
 have e:=cC (f:=F.It n0 o false s 16) (fun (x:Nat) i=>(aq x,(i:Int))) (fun i x=>i<=s.length->x=dX (s.take i)) (fun x i=>16*x+lI (s.getD i 0)) 0 s.length
  (X:=fun x=>some (true,false,aq x))
  (fun i x _ hi hx=>by
   have hx:=hx (by omega)
   exact⟨Cz n0 o false s x i hs hi z (by rw[hx]; exact B i (by omega)),fun _=>by rw[hx,mn s hi]⟩)
  (fun x hx=>by
   unfold F.It
   dsimp only
   rw[if_neg (by simp),si,ae]; rfl)
  s.length 0 0 (Nat.le_refl _) (by omega) (fun _=>by simp[dX])
 have g:=cR (fun i (x:Nat)=>i<=s.length->x=dX (s.take i)) (fun x i=>16*x+lI (s.getD i 0)) (fun i x hx=>fun hi=>by rw[hx (by omega),mn s (by omega)]) s.length 0 0 (fun _=>by simp[dX])
 rw[Nat.zero_add]at g
 have g:=g (Nat.le_refl _)
 rw[g,List.take_length,bI]at e
 exact e
end Go.Gk.Bn
end

section
namespace Go.Gk.Bn
open Go Go.Gk Go.Gk.Sh
theorem px (a:Q0) (ha:a.length<=4611686018427387904):∀k,k<=a.length->(∀j,k<=j->a.getD j 0=0)->∃m,loop (F.Kv a) k=some m/\m<=a.length/\a.take m=aq (val a)
 | 0,_,hz=>by
  refine⟨0,?_,by omega,lc (by omega) hz (.inl rfl)⟩
  have h:F.Kv a 0=bA (grd (0<=(((a.take 0).length:Int):Int)/\(((a.take 0).length:Int):Int).toNat<=(a.take 0).length/\(((a.take 0).length:Int):Int)=((a.take 0).length:Int)) <| some ((((a.take 0).length:Int):Int).toNat)):=rfl
  rw[bv h,grd_true _ (by simp)]; rfl
 | k+1,hk,hz=>by
  have hl:(a.take (k+1)).length=k+1:=by rw[List.length_take]; omega
  have w:wI (((k+1:Nat):Int) - 1)=(k:Int):=by rw[aJ (by omega) (by omega)]; omega
  have hg:aC (a.take (k+1)) (k:Int)=some (a.getD k 0):=by
   rw[aU (show k<(a.take (k+1)).length by omega) 0]
   congr 1
   rw[List.getD_eq_getElem?_getD,List.getElem?_take,if_pos (by omega),<-List.getD_eq_getElem?_getD]
  have f:F.Kv a (k+1)=if (decide ((0:Int)<((a.take (k+1)).length:Int)))=true then ah (aC (a.take (k+1)) (wI (((a.take (k+1)).length:Int) - 1):Int)) fun g=>F.HT a (k+1) (g == 0) else F.HT a (k+1) false:=rfl
  rw[hl,if_pos (decide_eq_true (by omega)),w,hg,ae]at f
  by_cases h0:a.getD k 0=0
  ·obtain⟨m,i,o⟩:=px a ha k (by omega) (fun j t=>by
    rcases Nat.lt_or_ge k j with h | h
    ·exact hz j (by omega)
    ·rw[show j=k by omega]; exact h0)
   refine⟨m,?_,o⟩
   rw[<-i]
   refine bB ?_
   rw[f,h0]
   unfold F.HT
   rw[if_pos (by rfl),hl,w,grd_true _ (by omega)]; rfl
  ·refine⟨k+1,?_,hk,lc hk hz (.inr (by simpa using h0))⟩
   have hn:(a.getD k 0 == 0)=false:=by rw[beq_eq_false_iff_ne]; exact h0
   rw[hn]at f
   unfold F.HT at f
   rw[if_neg (by decide),hl]at f
   rw[bv f,grd_true _ (by omega)]; rfl
theorem et (a:Q0) (ha:a.length<=4611686018427387904):∃m,F.GX a=some m/\m<=a.length/\a.take m=aq (val a):=
 px a ha a.length (Nat.le_refl _) fun j f=>d7 f
theorem dH (a:Q0) (ha:a.length<=4611686018427387904):∃m,F.GM a=some m/\m<=a.length/\a.take m=aq (val a):=by
 obtain⟨m,f,g⟩:=et a ha
 exact⟨m,by unfold F.GM; rw[f,ae],g⟩
theorem uf {n k:Nat} (h:2^k<=n):nb n=nb (n / 2^k)+k:=by
 have f:=Nat.two_pow_pos k
 have g:n / 2^k≠0:=by
  have:=Nat.div_le_div_right (c:=2^k) h
  rw[Nat.div_self f]at this; omega
 obtain⟨i,j⟩:=de (n / 2^k)
 obtain⟨o,t⟩:=j g
 refine nA ?_ ?_ (by omega)
 ·rw[Nat.pow_add]; exact (Nat.div_lt_iff_lt_mul f).1 i
 ·rw[show nb (n / 2^k)+k - 1=nb (n / 2^k) - 1+k by omega,Nat.pow_add]
  exact (Nat.le_div_iff_mul_le f).1 o
def sd:Q1:=[0,1,2,2,3,3,3,3,4,4,4,4,4,4,4,4,5,5,5,5,5,5,5,5,5,5,5,5,5,5,5,5,6,6,6,6,6,6,6,6,6,6,6,6,6,6,6,6,6,6,6,6,6,6,6,6,6,6,6,6,6,6,6,6,7,7,7,7,7,7,7,7,7,7,7,7,7,7,7,7,7,7,7,7,7,7,7,7,7,7,7,7,7,7,7,7,7,7,7,7,7,7,7,7,7,7,7,7,7,7,7,7,7,7,7,7,7,7,7,7,7,7,7,7,7,7,7,7,8,8,8,8,8,8,8,8,8,8,8,8,8,8,8,8,8,8,8,8,8,8,8,8,8,8,8,8,8,8,8,8,8,8,8,8,8,8,8,8,8,8,8,8,8,8,8,8,8,8,8,8,8,8,8,8,8,8,8,8,8,8,8,8,8,8,8,8,8,8,8,8,8,8,8,8,8,8,8,8,8,8,8,8,8,8,8,8,8,8,8,8,8,8,8,8,8,8,8,8,8,8,8,8,8,8,8,8,8,8,8,8,8,8,8,8,8,8,8,8,8,8,8,8,8,8,8,8]
def ck (i:Nat) (t:Nat):Bool:=Nat.blt i (2^t)&&(Nat.beq i 0&&Nat.beq t 0 || Nat.ble (2^(t - 1)) i&&Nat.ble 1 t)
def ckA:Q1->Nat->Bool
 | [],_=>true
 | x :: l,i=>ck i x.toNat&&ckA l (i+1)
theorem Au:∀(l:Q1) (i j:Nat),ckA l i=true->j<l.length->ck (i+j) (l.getD j 0).toNat=true
 | [],_,_,_,h=>by simp at h
 | x :: l,i,0,h,_=>by
  rw[ckA,Bool.and_eq_true]at h
  exact h.1
 | x :: l,i,j+1,h,hj=>by
  rw[ckA,Bool.and_eq_true]at h
  have:=Au l (i+1) j h.2 (by simpa using hj)
  rw[List.getD_cons_succ,show i+(j+1)=i+1+j by omega]
  exact this
theorem DH:ckA sd 0=true:=by decide +kernel
theorem B2:Nat.beq sd.length 256=true:=by decide +kernel
theorem FA (b:Nat) (hb:b<256):∃t:UInt8,aC sd (b:Int)=some t/\t.toNat=nb b:=by
 have hl:=Nat.eq_of_beq_eq_true B2
 have h:=Au sd 0 b DH (by omega)
 rw[Nat.zero_add]at h
 unfold ck at h
 rw[Bool.and_eq_true,Bool.or_eq_true,Bool.and_eq_true,Bool.and_eq_true]at h
 obtain⟨i,f⟩:=h
 rw[Nat.blt_eq]at i
 refine⟨sd.getD b 0,aU (by omega) 0,?_⟩
 rcases f with⟨f,g⟩ | ⟨f,g⟩
 ·rw[Nat.eq_of_beq_eq_true f,fU]
  rw[Nat.eq_of_beq_eq_true f]at g
  exact Nat.eq_of_beq_eq_true g
 ·exact (nA i (Nat.le_of_ble_eq_true f) (Nat.le_of_ble_eq_true g)).symm
theorem wv (y:UInt32) (k:Int):F.JZ (y,k)=ah (aC sd (y.toUInt8.toNat:Int)) fun g=>bp (wI (k+(g.toNat:Int))) fun f=>some f:=rfl
theorem ug (x:UInt32):F.KA x=some (nb x.toNat:Int):=by
 have hx:=cq x
 have g:∀(y:UInt32) (k:Nat),y.toNat<256->k<=24->F.JZ (y,(k:Int))=some ((nb y.toNat+k:Nat):Int):=by
  intro y k hy j
  have f:y.toUInt8.toNat=y.toNat:=by rw[UInt32.toNat_toUInt8]; omega
  obtain⟨t,o,z⟩:=FA y.toNat hy
  have A:=gx (n:=y.toNat) (k:=8) hy
  rw[wv,f,o,ae,aV,z,aJ (by omega) (by omega)]
  congr 1; omega
 have i:∀(y:UInt32) (k:Nat),y.toNat<65536->k<=16->F.J0 (y,(k:Int))=some ((nb y.toNat+k:Nat):Int):=by
  intro y k hy j
  unfold F.J0
  dsimp only
  by_cases h:256<=y.toNat
  ·have f:(bu y 8).toNat=y.toNat / 2^8:=by rw[gu]; rfl
   rw[if_pos (decide_eq_true (by rw[UInt32.le_iff_toNat_le]; exact h)),aJ (by omega) (by omega),show (k:Int)+8=((k+8:Nat):Int) by omega,g _ _ (by rw[f]; omega) (by omega),f,uf (n:=y.toNat) (k:=8) (by omega)]
   congr 1; omega
  ·rw[if_neg (by rw[decide_eq_true_eq,UInt32.le_iff_toNat_le]; exact h)]
   exact g y k (by omega) (by omega)
 unfold F.KA
 by_cases h:65536<=x.toNat
 ·have f:(bu x 16).toNat=x.toNat / 2^16:=by rw[gu]; rfl
  rw[if_pos (decide_eq_true (by rw[UInt32.le_iff_toNat_le]; exact h)),show (16:Int)=((16:Nat):Int) from rfl,i _ _ (by rw[f]; omega) (by omega),f,uf (n:=x.toNat) (k:=16) (by omega)]
 ·rw[if_neg (by rw[decide_eq_true_eq,UInt32.le_iff_toNat_le]; exact h),show (0:Int)=((0:Nat):Int) from rfl,i _ _ (by omega) (by omega),Nat.add_zero]
theorem eA (a:Q0) (ha:a.length<=100000000000000):F.GR a=some (nb (val a):Int):=by
 obtain⟨m,f,j,g⟩:=dH a (by omega)
 have hl:(aq (val a)).length<=a.length:=bb (bG a)
 unfold F.GR
 rw[f,ae,g,<-lM]
 unfold jB
 by_cases h0:(aq (val a)).length=0
 ·rw[if_pos (by rw[h0]; rfl),if_pos h0]; rfl
 ·have i:wI (((aq (val a)).length:Int) - 1)=(((aq (val a)).length - 1:Nat):Int):=by rw[aJ (by omega) (by omega)]; omega
  have k:=BI ((aq (val a)).getD ((aq (val a)).length - 1) 0)
  rw[if_neg (by simpa using fun h=>h0 (by rw[h]; rfl)),if_neg h0,i,aU (by omega) 0,ae,ug,ae,aJ (x:=32*_) (by omega) (by omega),aJ (by omega) (by omega)]
  congr 1
theorem x4 (o:Q1) (a:Q0) (Y:o.length<=1000000000000000) (ha:a.length<=100000000000000):F.JE o a=some (beB o.length (val a)):=by
 unfold F.JE
 have e:=cC (f:=F.KK o a) (fun (y:Q1) i=>((i:Int),y)) (fun i y=>i<=o.length->y.length=o.length/\∀k,k<i->y.getD k 0=UInt8.ofNat (val a / 256^(o.length - 1 - k))) (fun y i=>y.set i (UInt8.ofNat (val a / 256^(o.length - 1 - i)))) 0 o.length
  (X:=fun y=>some y)
  (fun i y _ hi hy=>by
   obtain⟨hl,hy⟩:=hy (by omega)
   refine⟨?_,fun _=>⟨by simpa using hl,fun k A=>?_⟩⟩
   ·have G:wI ((i:Int)+1)=((i+1:Nat):Int):=by rw[aJ (by omega) (by omega)]; rfl
    obtain⟨g,z⟩:∃t,o.length - 1 - i=t:=⟨_,rfl⟩
    have M:wI ((wI ((y.length:Int) - 1)) - (i:Int))=(g:Int):=by rw[hl,aJ (x:=(o.length:Int) - 1) (by omega) (by omega),aJ (by omega) (by omega)]; omega
    have N:wI (Int.tdiv (g:Int) 4)=((g / 4:Nat):Int):=by rw[Int.tdiv_eq_ediv_of_nonneg (by omega),aJ (by omega) (by omega)]; omega
    have O:wI (8*(Int.tmod (g:Int) 4))=((8*(g%4):Nat):Int):=by rw[Int.tmod_eq_emod_of_nonneg (by omega),aJ (by omega) (by omega)]; omega
    unfold F.KK
    dsimp only
    rw[if_pos (decide_eq_true (by omega)),M,aV,aU (show i<y.length by omega) 0,ae,aV,N,Int.toNat_natCast]
    by_cases h:g / 4<a.length
    ·rw[if_pos (decide_eq_true (by omega)),aU h 0,ae,O,grd_true _ (by omega),aU (show i<(y.set i 0).length by simp; omega) 0,ae,aV,Int.toNat_natCast,sO,z]
     unfold F.KF
     rw[G,List.set_set]; rfl
    ·rw[if_neg (by simp only[decide_eq_true_eq]; omega)]
     unfold F.KF
     have R:val a / 256^g=0:=by
      refine Nat.div_eq_of_lt (Nat.lt_of_lt_of_le (bG a) ?_)
      rw[show (4294967296:Nat)=256^4 from rfl,<-Nat.pow_mul]
      exact Nat.pow_le_pow_right (by decide) (by omega)
     rw[G,z,R]; rfl
   ·rw[List.getD_eq_getElem?_getD,List.getElem?_set]
    by_cases j:i=k
    ·subst j; rw[if_pos rfl,if_pos (by omega)]; rfl
    ·rw[if_neg j,<-List.getD_eq_getElem?_getD]; exact hy k (by omega))
  (fun y hy=>by
   unfold F.KK
   dsimp only
   rw[if_neg (by simp)])
  o.length 0 o (Nat.le_refl _) (by omega) (fun _=>⟨rfl,fun k A=>by omega⟩)
 have B:=cR (fun i (y:Q1)=>i<=o.length->y.length=o.length/\∀k,k<i->y.getD k 0=UInt8.ofNat (val a / 256^(o.length - 1 - k))) (fun y i=>y.set i (UInt8.ofNat (val a / 256^(o.length - 1 - i))))
  (fun i y hy=>fun hi=>by
   obtain⟨hl,hy⟩:=hy (by omega)
   refine⟨by simpa using hl,fun k A=>?_⟩
   rw[List.getD_eq_getElem?_getD,List.getElem?_set]
   by_cases j:i=k
   ·subst j; rw[if_pos rfl,if_pos (by omega)]; rfl
   ·rw[if_neg j,<-List.getD_eq_getElem?_getD]; exact hy k (by omega)) o.length 0 o (fun _=>⟨rfl,fun k A=>by omega⟩)
 rw[Nat.zero_add]at B
 obtain⟨y,hy⟩:∃y,(List.range' 0 o.length).foldl (fun y i=>y.set i (UInt8.ofNat (val a / 256^(o.length - 1 - i)))) o=y:=⟨_,rfl⟩
 rw[hy]at B e
 obtain⟨U,V⟩:=B (Nat.le_refl _)
 refine e.trans ?_
 congr 1
 refine List.ext_getElem (by rw[U,gN]) fun k I j=>?_
 have J:=V k (by omega)
 have K:=vK o.length (val a) k (by omega)
 rw[List.getD_eq_getElem?_getD,List.getElem?_eq_getElem I]at J
 rw[List.getD_eq_getElem?_getD,List.getElem?_eq_getElem j]at K
 exact J.trans K.symm
theorem A5 (a:Q0) (ha:a.length<=35184372087808):F.Ll a=some (beB (nby (val a)) (val a)):=by
 obtain⟨m,f,i,g⟩:=dH a (by omega)
 have hl:(aq (val a)).length<=a.length:=bb (bG a)
 have hb:=ii (val a)
 have h:wI (Int.tdiv (wI ((nb (val a):Int)+7)) 8)=(nby (val a):Int):=by
  rw[aJ (x:=(nb (val a):Int)+7) (by omega) (by omega),Int.tdiv_eq_ediv_of_nonneg (by omega),aJ (by omega) (by omega)]; unfold nby; omega
 have hn:nby (val a)<=4*(aq (val a)).length:=by unfold nby; omega
 unfold F.Ll
 rw[eA a (by omega),ae,h,aV,dy (by omega),ae,f,ae,g,x4 _ _ (by simp; omega) (by omega),ae,Int.toNat_natCast,List.length_replicate,aw]
theorem Ee (x y:UInt32) (t:Nat) (hy:y.toNat<256) (f:t<4) (hx:x.toNat%256^(t+1)=0):(x ||| cv y (8*t)).toNat=x.toNat+y.toNat*256^t:=by
 have hs:(cv y (8*t)).toNat=y.toNat*256^t:=by
  rw[pq,Nat.min_eq_left (by omega),Nat.pow_mul,show (2:Nat)^8=256 from rfl,Nat.mod_eq_of_lt]
  have:t=0\/t=1\/t=2\/t=3:=by omega
  rcases this with h | h | h | h <;> subst h <;> simp <;> omega
 rw[UInt32.toNat_or,hs]
 refine gC (8*(t+1)) (by rw[Nat.pow_mul]; exact hx) ?_
 rw[Nat.pow_mul,Nat.pow_succ,Nat.mul_comm]
 exact Nat.mul_lt_mul_of_pos_left hy (Nat.pow_pos (by decide))
theorem CX {l:Q0} {q t:Nat} (i:t<=4) (h:val l%256^(4*q+t)=0):(l.getD q 0).toNat%256^t=0:=by
 have g:val l / 256^(4*q)%256^t=0:=by
  rw[Nat.pow_add]at h
  have:=Nat.mod_mul_right_div_self (val l) (256^(4*q)) (256^t)
  rw[h,Nat.zero_div]at this
  exact this.symm
 rw[Nat.pow_mul,show (256:Nat)^4=4294967296 from rfl,fy,cu]at g
 have:t=0\/t=1\/t=2\/t=3\/t=4:=by omega
 rcases this with f | f | f | f | f <;> subst f <;> simp at g ⊢ <;> omega
theorem cA (b:Q1) (hb:b.length<=140737488351232):F.GN b=some (aq (beN b)):=by
 obtain⟨n,hn⟩:∃n,(b.length+3) / 4=n:=⟨_,rfl⟩
 have w0:wI (Int.tdiv (wI ((b.length:Int)+3)) 4)=(n:Int):=by
  rw[aJ (x:=(b.length:Int)+3) (by omega) (by omega),Int.tdiv_eq_ediv_of_nonneg (by omega),aJ (by omega) (by omega)]; omega
 unfold F.GN
 rw[w0,dy (by omega),ae,Int.toNat_natCast]
 have h:∀(i:Nat) (y:Q0),i<b.length->(y.length=n/\val y=beN (b.take i)*256^(b.length - i)) ->
   ((y.set ((b.length - 1 - i) / 4) (y.getD ((b.length - 1 - i) / 4) 0 ||| cv (b.getD i 0).toUInt32 (8*((b.length - 1 - i)%4)))).length=n /\
    val (y.set ((b.length - 1 - i) / 4) (y.getD ((b.length - 1 - i) / 4) 0 ||| cv (b.getD i 0).toUInt32 (8*((b.length - 1 - i)%4))))=beN (b.take (i+1))*256^(b.length - (i+1))):=by
  rintro i y hi ⟨k,A⟩
  obtain⟨t,o⟩:∃t,b.length - 1 - i=t:=⟨_,rfl⟩
  rw[o]
  have j:(b.getD i 0).toUInt32.toNat=(b.getD i 0).toNat:=UInt8.toNat_toUInt32 _
  have N:=(b.getD i 0).toNat_lt
  have B:=eh y (t / 4) (y.getD (t / 4) 0 ||| cv (b.getD i 0).toUInt32 (8*(t%4))) (by omega)
  have hm:(y.getD (t / 4) 0).toNat%256^(t%4+1)=0:=by
   refine CX (by omega) ?_
   rw[show 4*(t / 4)+(t%4+1)=b.length - i by omega,A,Nat.mul_mod_left]
  rw[Ee _ _ _ (by rw[j]; omega) (by omega) hm,j,Nat.mul_add]at B
  refine⟨by simpa using k,?_⟩
  have G:4294967296^(t / 4)*((b.getD i 0).toNat*256^(t%4))=(b.getD i 0).toNat*256^t:=by
   rw[show (4294967296:Nat)=256^4 from rfl,<-Nat.pow_mul,Nat.mul_left_comm,<-Nat.pow_add]; congr 2; omega
  rw[G]at B
  rw[io b hi,show b.length - (i+1)=t by omega,Nat.add_mul]
  have z:256*beN (b.take i)*256^t=beN (b.take i)*256^(b.length - i):=by
   rw[show b.length - i=t+1 by omega,Nat.pow_succ,Nat.mul_comm 256,Nat.mul_assoc,Nat.mul_comm 256]
  rw[z]
  omega
 have e:=cC (f:=F.Jw b) (fun (y:Q0) i=>((i:Int),y)) (fun i y=>i<=b.length->y.length=n/\val y=beN (b.take i)*256^(b.length - i))
  (fun y i=>y.set ((b.length - 1 - i) / 4) (y.getD ((b.length - 1 - i) / 4) 0 ||| cv (b.getD i 0).toUInt32 (8*((b.length - 1 - i)%4)))) 0 b.length
  (X:=fun y=>some (aq (val y)))
  (fun i y _ hi hy=>by
   have hy:=hy (by omega)
   refine⟨?_,fun _=>h i y hi hy⟩
   obtain⟨t,o⟩:∃t,b.length - 1 - i=t:=⟨_,rfl⟩
   rw[o]
   have O:=hy.1
   have I:wI ((i:Int)+1)=((i+1:Nat):Int):=by rw[aJ (by omega) (by omega)]; rfl
   have J:wI ((wI ((b.length:Int) - 1)) - (i:Int))=(t:Int):=by rw[aJ (x:=(b.length:Int) - 1) (by omega) (by omega),aJ (by omega) (by omega)]; omega
   have K:wI (Int.tdiv (t:Int) 4)=((t / 4:Nat):Int):=by rw[Int.tdiv_eq_ediv_of_nonneg (by omega),aJ (by omega) (by omega)]; omega
   have M:wI (8*(Int.tmod (t:Int) 4))=((8*(t%4):Nat):Int):=by rw[Int.tmod_eq_emod_of_nonneg (by omega),aJ (by omega) (by omega)]; omega
   unfold F.Jw
   dsimp only
   rw[if_pos (decide_eq_true (by omega)),aU hi 0,ae,J,aV,K,aU (show t / 4<y.length by omega) 0,ae,M,grd_true _ (by omega),ae,aV,Int.toNat_natCast,Int.toNat_natCast,I]
   rfl)
  (fun y hy=>by
   obtain⟨m,k,A,z⟩:=et y (by have:=(hy (Nat.le_refl _)).1; omega)
   unfold F.Jw
   dsimp only
   rw[if_neg (by simp),k,ae,z])
  b.length 0 (List.replicate n 0) (Nat.le_refl _) (by omega) (fun _=>⟨by simp,by rw[dr]; simp[beN]⟩)
 have g:=cR (fun i (y:Q0)=>i<=b.length->y.length=n/\val y=beN (b.take i)*256^(b.length - i)) (fun y i=>y.set ((b.length - 1 - i) / 4) (y.getD ((b.length - 1 - i) / 4) 0 ||| cv (b.getD i 0).toUInt32 (8*((b.length - 1 - i)%4))))
  (fun i y hy=>fun hi=>h i y (by omega) (hy (by omega))) b.length 0 (List.replicate n 0) (fun _=>⟨by simp,by rw[dr]; simp[beN]⟩)
 rw[Nat.zero_add]at g
 have g:=(g (Nat.le_refl _)).2
 rw[g,Nat.sub_self,Nat.pow_zero,Nat.mul_one,List.take_length]at e
 exact e
end Go.Gk.Bn
end
