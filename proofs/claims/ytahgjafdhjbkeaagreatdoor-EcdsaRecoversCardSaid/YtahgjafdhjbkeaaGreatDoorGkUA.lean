import Derived.Test.YtahgjafdhjbkeaaGreatDoorGkU6
import Derived.Test.YtahgjafdhjbkeaaGreatDoorGkFman
set_option linter.unusedVariables false
set_option linter.unusedSimpArgs false
set_option linter.unusedSectionVars false

section
namespace Go.Gk.Bn
open Go Go.Gk Go.Gk.Sh
def bi (z:Int):Bool×L0:=(decide (z<0),an z.natAbs)
def nl (z:Int):Nat:=(an z.natAbs).length
theorem xq (n:Nat):bi (n:Int)=(false,an n):=by
 unfold bi
 rw[decide_eq_false (by omega),Int.natAbs_natCast]
theorem bi1 {z:Int} (h:0<=z):(bi z).1=false:=decide_eq_false (by omega)
theorem bi2 (z:Int):(bi z).2=an z.natAbs:=rfl
theorem bis (z:Int):(bi z).1=decide (z<0):=rfl
theorem lJ (z:Int):Can (bi z).2:=rC _
theorem lL (z:Int):val (bi z).2=z.natAbs:=ar _
theorem gR {n:Nat}:an n=[]↔n=0:=⟨fun h=>by have:=ar n; rw[h]at this; simpa [val] using this.symm,fun h=>by rw[h,bR]⟩
theorem fu {n:Nat}:0<(an n).length↔n≠0:=by
 rw[List.length_pos_iff,Ne,gR]
theorem c6 {a b:Nat} (h:a<=b):(an a).length<=(an b).length:=
 bl (Nat.lt_of_le_of_lt h (by have:=bv (an b); rwa [ar]at this))
theorem Au {x y:Int} (h:x.natAbs<=y.natAbs):(bi x).2.length<=(bi y).2.length:=c6 h
theorem fS (a b:Nat):(an (a+b)).length<=max (an a).length (an b).length+1:=by
 refine bl ?_
 have f:=bv (an a); have g:=bv (an b)
 rw[ar]at f g
 have h:=Nat.pow_le_pow_right (show 0<4294967296 by decide) (Nat.le_max_left (an a).length (an b).length)
 have i:=Nat.pow_le_pow_right (show 0<4294967296 by decide) (Nat.le_max_right (an a).length (an b).length)
 rw[Nat.pow_succ]
 omega
theorem ij (a b:Nat):(an (a*b)).length<=(an a).length+(an b).length:=by
 by_cases hb:b=0
 ·subst hb; simp[bR]
 refine bl ?_
 have f:=bv (an a); have g:=bv (an b)
 rw[ar]at f g
 rw[Nat.pow_add]
 exact Nat.mul_lt_mul_of_lt_of_le f (Nat.le_of_lt g) (Nat.pos_of_ne_zero (by have:=Nat.pow_pos (n:=(an b).length) (show 0<4294967296 by decide); omega))
theorem tu (x y:Int):nl (x*y)<=nl x+nl y:=by
 unfold nl; rw[Int.natAbs_mul]; exact ij _ _
theorem tr (x y:Int):nl (x+y)<=max (nl x) (nl y)+1:=by
 unfold nl
 exact Nat.le_trans (c6 (Int.natAbs_add_le x y)) (fS _ _)
theorem wX (x:Int):nl (-x)=nl x:=by unfold nl; rw[Int.natAbs_neg]
theorem xp (x y:Int):nl (x - y)<=max (nl x) (nl y)+1:=by
 rw[Int.sub_eq_add_neg,<-wX y]; exact tr x (-y)
theorem fb {x y:Int} (h:x.natAbs<=y.natAbs):nl x<=nl y:=c6 h
theorem r9 {z:Int} {k:Nat} (h:z.natAbs<4294967296^k):nl z<=k:=bl h
theorem mJ (x:Int) {m:Int} (h:0<m):nl (x%m)<=nl m:=fb (by
 have:=Int.emod_nonneg x (show m≠0 by omega); have:=Int.emod_lt_of_pos x h; omega)
theorem qQ (n0:Bool) (f:L0) (b:Bool) (a:L0):F.DA n0 f b a=some (b&&decide (a≠[]),a):=by
 unfold F.DA F.H7
 cases b with
 | false=>rfl
 | true=>
  simp only[if_true,Bool.true_and]
  congr 2
  cases a <;> simp
theorem fN (n0:Bool) (g:L0) (b:Bool) (z:Int) (h:z≠0->(b=true↔z<0)):F.DA n0 g b (an z.natAbs)=some (bi z):=by
 rw[qQ]
 congr 1
 unfold bi
 congr 1
 by_cases h0:z=0
 ·subst h0
  rw[show an (Int.natAbs 0)=[] from bR]
  simp
 ·have f:an z.natAbs≠[]:=by rw[Ne,gR]; omega
  simp only[ne_eq,f,not_false_eq_true,decide_true,Bool.and_true]
  have:=h h0
  cases b with
  | true=>exact (decide_eq_true (this.1 rfl)).symm
  | false=>exact (decide_eq_false (fun i=>by have:=this.2 i; cases this)).symm
theorem uk (x y:Int) (j:nl x<=70000000000000) (k:nl y<=70000000000000):∃b,F.DZ (bi x).1 (bi x).2 (bi y).1 (bi y).2=some (b,an (x+y).natAbs)/\(x+y≠0->(b=true↔x+y<0)):=by
 unfold F.DZ
 have m:(bi x).2.length<=70000000000000:=j
 have o:(bi y).2.length<=70000000000000:=k
 have f:val (bi x).2=x.natAbs:=ar _
 have g:val (bi y).2=y.natAbs:=ar _
 have h:(bi x).1=decide (x<0):=rfl
 have i:(bi y).1=decide (y<0):=rfl
 by_cases hs:(decide (x<0))=(decide (y<0))
 ·rw[h,i,if_pos (by rw[hs]; exact beq_self_eq_true _),pR _ _ (by omega) (by omega),ae,f,g]
  have:(x<0)↔(y<0):=by simpa using hs
  refine⟨_,by rw[show (x+y).natAbs=x.natAbs+y.natAbs by omega],fun _=>?_⟩
  rw[decide_eq_true_eq]; omega
 ·have:¬((x<0)↔(y<0)):=by simpa using hs
  rw[h,i,if_neg (by simpa using hs),pn _ _ (lJ _) (lJ _) (by omega) (by omega),ae,f,g]
  unfold cD
  by_cases h1:x.natAbs<y.natAbs
  ·rw[if_pos h1,if_neg (by decide),uj _ _ (Au (by omega)) (by rw[f,g]; omega) (by omega),ae,f,g]
   refine⟨_,by rw[show (x+y).natAbs=y.natAbs - x.natAbs by omega],fun _=>?_⟩
   rw[decide_eq_true_eq]; omega
  ·rw[if_neg h1,if_pos (by split <;> decide),uj _ _ (Au (by omega)) (by rw[f,g]; omega) (by omega),ae,f,g]
   refine⟨_,by rw[show (x+y).natAbs=x.natAbs - y.natAbs by omega],fun _=>?_⟩
   rw[decide_eq_true_eq]; omega
theorem B0 (n0:Bool) (f:L0) (x y:Int) (g:nl x<=70000000000000) (h:nl y<=70000000000000):F.G4 n0 f (bi x).1 (bi x).2 (bi y).1 (bi y).2=some (bi (x+y)):=by
 unfold F.G4
 obtain⟨b,i,j⟩:=uk x y g h
 rw[i,ae,fN _ _ _ _ j,ae]
theorem pJ (x y:Int) (f:nl x<=70000000000000) (g:nl y<=70000000000000):F.Eo (bi x).1 (bi x).2 (bi y).1 (bi y).2=some (bi (x+y)):=by
 unfold F.Eo
 obtain⟨b,h,i⟩:=uk x y f g
 rw[h,ae,fN _ _ _ _ i,ae]
theorem qT (x y:Int) (i:nl x<=70000000000000) (j:nl y<=70000000000000):∃b,F.DZ (bi x).1 (bi x).2 (!(bi y).1) (bi y).2=some (b,an (x - y).natAbs)/\(x - y≠0->(b=true↔x - y<0)):=by
 by_cases h0:y=0
 ·-- nought with a sign
  subst h0
  unfold F.DZ
  have t:(bi x).2.length<=70000000000000:=i
  have k:(bi 0).2=[]:=bR
  have es:(bi 0).1=false:=rfl
  have g:val (bi x).2=x.natAbs:=ar _
  rw[k,es]
  have f:(bi x).1=decide (x<0):=rfl
  by_cases hs:x<0
  ·rw[f,if_pos (by rw[decide_eq_true hs]; rfl),pR _ _ (by omega) (by simp),ae,g,d8]
   refine⟨_,by rw[show (x - 0).natAbs=x.natAbs+0 by omega],fun _=>by rw[decide_eq_true_eq]; omega⟩
  ·rw[f,if_neg (by rw[decide_eq_false hs]; decide),pn _ _ (lJ _) qV (by omega) (by simp),ae,g,d8]
   have m:cD x.natAbs 0=if x.natAbs=0 then 0 else 1:=by unfold cD; rw[if_neg (by omega)]
   rw[m,if_pos (by split <;> decide),uj _ _ (by simp) (by rw[d8]; omega) (by omega),ae,g,d8]
   refine⟨_,by rw[show (x - 0).natAbs=x.natAbs - 0 by omega],fun _=>by rw[decide_eq_true_eq]; omega⟩
 ·have o:(!(bi y).1)=(bi (-y)).1:=by
   unfold bi
   by_cases h:y<0
   ·rw[decide_eq_true h,decide_eq_false (by omega)]; rfl
   ·rw[decide_eq_false h,decide_eq_true (by omega)]; rfl
  have q:(bi y).2=(bi (-y)).2:=by rw[bi2,bi2,Int.natAbs_neg]
  rw[o,q,Int.sub_eq_add_neg]
  exact uk x (-y) i (by rw[wX]; exact j)
theorem yl (n0:Bool) (f:L0) (x y:Int) (g:nl x<=70000000000000) (h:nl y<=70000000000000):F.Gl n0 f (bi x).1 (bi x).2 (bi y).1 (bi y).2=some (bi (x - y)):=by
 unfold F.Gl
 obtain⟨b,i,j⟩:=qT x y g h
 rw[i,ae,fN _ _ _ _ j,ae]
theorem vX (x y:Int) (f:nl x<=70000000000000) (g:nl y<=70000000000000):F.EJ (bi x).1 (bi x).2 (bi y).1 (bi y).2=some (bi (x - y)):=by
 unfold F.EJ
 obtain⟨b,h,i⟩:=qT x y f g
 rw[h,ae,fN _ _ _ _ i,ae]
theorem vR (x y:Int) (f:nl x<=70000000000000) (g:nl y<=70000000000000):F.H8 (bi y).1 (bi y).2 (bi x).1 (bi x).2=some (bi (x - y)):=by
 unfold F.H8
 obtain⟨b,h,i⟩:=qT x y f g
 rw[h,ae,fN _ _ _ _ i,ae]
theorem BD (x y:Int) (h:x*y≠0):((decide (x<0) != decide (y<0))=true↔x*y<0):=by
 have g:x≠0:=fun f=>h (by rw[f,Int.zero_mul])
 have i:y≠0:=fun f=>h (by rw[f,Int.mul_zero])
 by_cases h1:x<0 <;> by_cases h2:y<0
 ·have:=Int.mul_pos_of_neg_of_neg h1 h2
  simp[h1,h2]; omega
 ·have:=Int.mul_neg_of_neg_of_pos h1 (show 0<y by omega)
  simp[h1,h2,this]
 ·have:=Int.mul_neg_of_pos_of_neg (show 0<x by omega) h2
  simp[h1,h2,this]
 ·have:=Int.mul_pos (show 0<x by omega) (show 0<y by omega)
  simp[h1,h2]; omega
theorem tf (n0:Bool) (f:L0) (x y:Int) (h:nl x+nl y<=70368744177664):F.Fh n0 f (bi x).1 (bi x).2 (bi y).1 (bi y).2=some (bi (x*y)):=by
 unfold F.Fh
 have g:(bi x).2.length+(bi y).2.length<=70368744177664:=h
 rw[yG _ _ (by omega),ae,lL,lL,<-Int.natAbs_mul,bis,bis,fN _ _ _ _ (BD x y),ae]
theorem uH (n0:Bool) (g:L0) (x:Int) (k:-9223372036854775808<=x) (m:x<=9223372036854775807):F.FS n0 g x=some (bi x):=by
 have f:∀u:UInt64,u.toNat=x.natAbs->F.Hy n0 g x u=some (bi x):=by
  intro u j
  unfold F.Hy
  dsimp only
  rw[iW,ae,j,fN _ _ _ _ (fun _=>by rw[decide_eq_true_eq]),ae]
 unfold F.FS
 have i:(UInt64.ofInt x).toNat=(x%18446744073709551616).toNat:=by
  rw[UInt64.ofInt,UInt64.toNat_ofNat']
  have:=Int.emod_nonneg x (show (18446744073709551616:Int)≠0 by decide)
  have:=Int.emod_lt_of_pos x (show (0:Int)<18446744073709551616 by decide)
  omega
 by_cases h:x<0
 ·rw[if_pos (decide_eq_true h)]
  refine f _ ?_
  rw[UInt64.toNat_sub,i]
  have:(0:UInt64).toNat=0:=rfl
  omega
 ·rw[if_neg (by simpa using h)]
  refine f _ ?_
  rw[i]; omega
theorem iq (x:Int) (f:-9223372036854775808<=x) (g:x<=9223372036854775807):F.DI x=some (bi x):=by
 unfold F.DI
 rw[uH _ _ x f g,ae]
theorem vm (a:L0) (h:a.length<=50000000000000):F.EX a=some a:=by
 unfold F.EX
 have f:apO 4 [] a=some a:=by unfold apO; rw[if_pos (by simp; omega)]; simp
 rw[f,ae]
theorem tR (n0:Bool) (f:L0) (x:Int) (h:nl x<=50000000000000):F.Ev n0 f (bi x).1 (bi x).2=some (bi x):=by
 unfold F.Ev
 rw[vm (bi x).2 h,ae,bi2,bis,fN _ _ _ _ (fun _=>by rw[decide_eq_true_eq]),ae]
theorem sI (x y:Int):(Int.tdiv x y).natAbs=x.natAbs / y.natAbs:=Int.natAbs_tdiv x y
theorem lU (x y:Int):(Int.tmod x y).natAbs=x.natAbs%y.natAbs:=Int.natAbs_tmod x y
theorem mO (n0 g:Bool) (i j:L0) (x y:Int) (q:y≠0) (k:nl x<=70368744177660) (m:nl y<=70000000000) :
  F.Ga n0 i (bi x).1 (bi x).2 (bi y).1 (bi y).2 g j=some ((bi (Int.tdiv x y)).1,(bi (Int.tdiv x y)).2,(bi (Int.tmod x y)).1,(bi (Int.tmod x y)).2):=by
 unfold F.Ga
 rw[CO _ _ (lJ _) (lJ _) (by rw[bi2,Ne,gR]; omega) k m,ae,lL,lL]
 dsimp only
 rw[bis,bis,<-sI,<-lU,fN _ _ _ _ (fun h=>?_),ae,fN _ _ _ _ (fun h=>?_),ae]
 ·show decide (x<0)=true↔_
  rw[decide_eq_true_eq]
  rcases Int.lt_trichotomy x 0 with f | f | f
  ·have:=Int.tmod_nonneg y (show 0<=-x by omega)
   rw[Int.neg_tmod]at this
   omega
  ·subst f; simp at h
  ·have:=Int.tmod_nonneg y (show 0<=x by omega)
   omega
 ·have t:Int.tdiv x y≠0:=h
  show (decide (x<0) != decide (y<0))=true↔_
  by_cases hx:x<0 <;> by_cases hyn:y<0
  ·have:=Int.tdiv_nonneg_of_nonpos_of_nonpos (show x<=0 by omega) (show y<=0 by omega)
   simp[hx,hyn]; omega
  ·simp only[hx,hyn,decide_true,decide_false]
   have o:Int.tdiv x y<=0:=by
    have:=Int.tdiv_nonneg (a:=-x) (b:=y) (by omega) (by omega)
    rw[Int.neg_tdiv]at this; omega
   simp; omega
  ·have o:Int.tdiv x y<=0:=by
    have:=Int.tdiv_nonneg (a:=x) (b:=-y) (by omega) (by omega)
    rw[Int.tdiv_neg]at this; omega
   simp[hx,hyn]; omega
  ·have:=Int.tdiv_nonneg (a:=x) (b:=y) (by omega) (by omega)
   simp[hx,hyn]; omega
end Go.Gk.Bn
end

section
namespace Go.Gk.Bn
open Go Go.Gk Go.Gk.Sh
theorem x7 {x y:Int} (f:0<y) (h:Int.tmod x y<0):Int.tdiv x y - 1=x / y/\Int.tmod x y+y=x%y:=by
 have g:=Int.mul_tdiv_add_tmod x y
 have i:(Int.tmod x y).natAbs<y.natAbs:=by rw[lU]; exact Nat.mod_lt _ (by omega)
 have j:y*Int.tdiv x y=y*(Int.tdiv x y - 1)+y:=by rw[Int.mul_sub,Int.mul_one]; omega
 have:=(Int.ediv_emod_unique (a:=x) (b:=y) (q:=Int.tdiv x y - 1) (r:=Int.tmod x y+y) f).2 ⟨by omega,by omega,by omega⟩
 exact⟨this.1.symm,this.2.symm⟩
theorem wP {x y:Int} (f:0<y) (h:¬Int.tmod x y<0):Int.tdiv x y=x / y/\Int.tmod x y=x%y:=by
 have g:=Int.mul_tdiv_add_tmod x y
 have i:(Int.tmod x y).natAbs<y.natAbs:=by rw[lU]; exact Nat.mod_lt _ (by omega)
 have:=(Int.ediv_emod_unique (a:=x) (b:=y) (q:=Int.tdiv x y) (r:=Int.tmod x y) f).2 ⟨by omega,by omega,by omega⟩
 exact⟨this.1.symm,this.2.symm⟩
theorem AM (x y:Int):nl (Int.tdiv x y)<=nl x:=fb (by rw[sI]; exact Nat.div_le_self _ _)
theorem BF (x y:Int):nl (Int.tmod x y)<=nl x:=fb (by rw[lU]; exact Nat.mod_le _ _)
theorem tB:nl 1<=1:=r9 (by decide)
theorem rL (n0 m:Bool) (o q:L0) (x y:Int) (j:0<y) (t:nl x<=70368744177660) (z:nl y<=70000000000) (k:x<0->nl x<=70000000000000) :
  F.Gg n0 o (bi x).1 (bi x).2 (bi y).1 (bi y).2 m q=some ((bi (x / y)).1,(bi (x / y)).2,(bi (x%y)).1,(bi (x%y)).2):=by
 have A:=AM x y; have B:=BF x y; have G:=tB
 unfold F.Gg
 rw[tR _ _ _ (by omega),ae,mO _ _ _ _ _ _ (by omega) t z,ae]
 dsimp only
 by_cases h:Int.tmod x y<0
 ·obtain⟨f,g⟩:=x7 j h
  have k:=k (by rcases Int.lt_or_le x 0 with i | i; exact i; have:=Int.tmod_nonneg y i; omega)
  rw[if_pos (show (bi (Int.tmod x y)).1=true from decide_eq_true h),if_neg (by rw[bi1 (by omega)]; decide),iq 1 (by decide) (by decide),ae,vX _ _ (by omega) (by omega),ae,pJ _ _ (by omega) (by omega),ae,f,g]
  rfl
 ·obtain⟨f,g⟩:=wP j h
  rw[if_neg (by rw[show (bi (Int.tmod x y)).1=false from decide_eq_false h]; decide),f,g]
  rfl
theorem rY (n0 f h:Bool) (i g j:L0):F.Jj n0 i h j f g=F.Gg n0 i f g h j f g:=rfl
theorem yx (n0:Bool) (f:L0) (x y:Int) (g:0<y) (h:nl x<=70368744177660) (i:nl y<=70000000000) (j:x<0->nl x<=70000000000000):F.HF n0 f (bi x).1 (bi x).2 (bi y).1 (bi y).2=some (bi (x%y)):=by
 unfold F.HF
 rw[rL _ _ _ _ x y g h i j,ae]
theorem wN (x y:Int) (f:0<y) (g:nl x<=70368744177660) (h:nl y<=70000000000) (i:x<0->nl x<=70000000000000):F.I6 (bi x).1 (bi x).2 (bi y).1 (bi y).2=some (bi (x%y)):=by
 unfold F.I6
 rw[rY,rL _ _ _ _ x y f g h i,ae]
def sA (x y:Int):Int:=if x<y then -1 else if x=y then 0 else 1
theorem px (x y:Int) (i:nl x<=70368744177664) (j:nl y<=70368744177664):F.ED (bi x).1 (bi x).2 (bi y).1 (bi y).2=some (sA x y):=by
 have o:(bi x).2.length<=70368744177664:=i
 have t:(bi y).2.length<=70368744177664:=j
 unfold F.ED sA
 rw[pn _ _ (lJ x) (lJ y) (by omega) (by omega),lL,lL]
 unfold cD
 have f:(bi x).1=decide (x<0):=rfl
 have g:(bi y).1=decide (y<0):=rfl
 obtain⟨z,k⟩:∃q,(bi x).1=q:=⟨_,rfl⟩
 obtain⟨A,m⟩:∃q,(bi y).1=q:=⟨_,rfl⟩
 rw[k]at f ⊢; rw[m]at g ⊢
 by_cases h1:x<0 <;> by_cases h2:y<0
 ·rw[decide_eq_true h1]at f; rw[decide_eq_true h2]at g; subst f; subst g
  rw[if_neg (by decide),ae,if_pos rfl]
  rcases Int.lt_trichotomy x y with h | h | h
  ·rw[if_pos h,if_neg (by omega),if_neg (by omega)]; rfl
  ·rw[if_neg (by omega),if_pos (by omega),if_neg (by omega),if_pos h]; rfl
  ·rw[if_pos (by omega),if_neg (by omega),if_neg (by omega)]; rfl
 ·rw[decide_eq_true h1]at f; rw[decide_eq_false h2]at g; subst f; subst g
  rw[if_pos (by decide),if_pos rfl,if_pos (by omega)]
 ·rw[decide_eq_false h1]at f; rw[decide_eq_true h2]at g; subst f; subst g
  rw[if_pos (by decide),if_neg (by decide),if_neg (by omega),if_neg (by omega)]
 ·rw[decide_eq_false h1]at f; rw[decide_eq_false h2]at g; subst f; subst g
  rw[if_neg (by decide),ae,if_neg (by decide)]
  rcases Int.lt_trichotomy x y with h | h | h
  ·rw[if_pos (by omega),if_pos h]
  ·rw[if_neg (by omega),if_pos (by omega),if_neg (by omega),if_pos h]
  ·rw[if_neg (by omega),if_neg (by omega),if_neg (by omega),if_neg (by omega)]
theorem nV (x:Int):F.DD (bi x).1 (bi x).2=some (if x=0 then 0 else if x<0 then -1 else 1):=by
 unfold F.DD
 by_cases h:x=0
 ·subst h; rw[if_pos rfl]; exact if_pos (by rw[bi2,show Int.natAbs 0=0 from rfl,bR]; rfl)
 ·have:(bi x).2.length≠0:=fun f=>h (by have:=List.eq_nil_of_length_eq_zero f; rw[bi2,gR]at this; omega)
  rw[if_neg (by simpa using fun f=>this (by rw[f]; rfl)),if_neg h,bis]
  by_cases h1:x<0
  ·rw[if_pos (by simp[h1]),if_pos h1]
  ·rw[if_neg (by simp[h1]),if_neg h1]
def beN:L1->Nat
 | []=>0
 | x :: l=>x.toNat*256^l.length+beN l
def beB:Nat->Nat->L1
 | 0,_=>[]
 | k+1,n=>UInt8.ofNat (n / 256^k) :: beB k n
theorem eE:∀k n,(beB k n).length=k
 | 0,_=>rfl
 | k+1,n=>by simp[beB,eE k n]
theorem kg:∀l:L1,beN l<256^l.length
 | []=>by simp[beN]
 | x :: l=>by
  have f:=kg l; have g:=x.toNat_lt
  have:(x.toNat+1)*256^l.length<=256*256^l.length:=Nat.mul_le_mul_right _ (by omega)
  rw[Nat.add_mul]at this
  rw[beN,List.length_cons,Nat.pow_succ,Nat.mul_comm (256^_) 256]
  omega
theorem kZ:∀k n,beN (beB k n)=n%256^k
 | 0,n=>by simp[beB,beN,Nat.mod_one]
 | k+1,n=>by
  rw[beB,beN,eE,kZ k n,UInt8.toNat_ofNat',show (2:Nat)^8=256 from rfl,Nat.mod_pow_succ,Nat.mul_comm (256^k),Nat.add_comm]
theorem pX:∀a b:L1,beN (a++b)=beN a*256^b.length+beN b
 | [],b=>by simp[beN]
 | x :: a,b=>by
  rw[List.cons_append,beN,beN,pX a b,List.length_append,Nat.add_mul,Nat.pow_add,Nat.mul_assoc]; omega
theorem vg:∀{a b:L1},a.length=b.length->beN a=beN b->a=b
 | [],[],_,_=>rfl
 | [],_ :: _,h,_=>by simp at h
 | _ :: _,[],h,_=>by simp at h
 | x :: a,y :: b,h,h2=>by
  have f:a.length=b.length:=by simpa using h
  rw[beN,beN,f]at h2
  have g:=kg a; have j:=kg b
  rw[f]at g
  have i:0<256^b.length:=Nat.pow_pos (by decide)
  have k:(x.toNat*256^b.length+beN a) / 256^b.length=x.toNat:=by rw[Nat.add_comm,Nat.add_mul_div_right _ _ i,Nat.div_eq_of_lt g,Nat.zero_add]
  have m:(y.toNat*256^b.length+beN b) / 256^b.length=y.toNat:=by rw[Nat.add_comm,Nat.add_mul_div_right _ _ i,Nat.div_eq_of_lt j,Nat.zero_add]
  have:x.toNat=y.toNat:=by rw[<-k,<-m,h2]
  have o:x=y:=UInt8.toNat_inj.1 this
  subst o
  rw[vg f (by omega)]
theorem ra:∀(k:Nat) (l:L1),beN (List.replicate k 0++l)=beN l
 | 0,l=>rfl
 | k+1,l=>by rw[List.replicate_succ,List.cons_append,beN,ra k l]; simp
theorem jx (l:L1) {i:Nat} (h:i<l.length):beN (l.take (i+1))=256*beN (l.take i)+(l.getD i 0).toNat:=by
 rw[List.take_add_one,List.getD_eq_getElem?_getD,List.getElem?_eq_getElem h,pX]
 simp[beN]; omega
theorem tN:∀(k n i:Nat),i<k->(beB k n).getD i 0=UInt8.ofNat (n / 256^(k - 1 - i))
 | 0,_,_,h=>by omega
 | k+1,n,0,_=>by simp[beB]
 | k+1,n,i+1,h=>by
  rw[beB,List.getD_cons_succ,tN k n i (by omega),show k+1 - 1 - (i+1)=k - 1 - i by omega]
theorem kw {n k:Nat} (h:n<256^k):(an n).length<=(k+3) / 4:=by
 refine bl (Nat.lt_of_lt_of_le h ?_)
 rw[show (4294967296:Nat)=256^4 from rfl,<-Nat.pow_mul]
 exact Nat.pow_le_pow_right (by decide) (by omega)
theorem uA (n0:Bool) (j:L0) (b:L1) (t:b.length<=140737488351232):F.H4 n0 j b=some (bi (beN b:Nat)):=by
 unfold F.H4
 have e:=ca (f:=F.GW n0 j b) (fun (x:Nat) i=>(an x,(i:Int))) (fun i x=>i<=b.length->x=beN (b.take i)) (fun x i=>256*x+(b.getD i 0).toNat) 0 b.length
  (X:=fun x=>some (bi (x:Nat)))
  (fun i x _ hi g=>by
   have g:=g (by omega)
   refine⟨?_,fun _=>by rw[g,jx b hi]⟩
   have m:wI ((i:Int)+1)=((i+1:Nat):Int):=by rw[aJ (by omega) (by omega)]; rfl
   have y:(an x).length<=(i+3) / 4:=by
    rw[g]
    have:=kg (b.take i)
    rw[List.length_take,Nat.min_eq_left (by omega)]at this
    exact kw this
   have k:(8:UInt64).toNat=8:=rfl
   unfold F.GW
   dsimp only
   rw[if_pos (decide_eq_true (by omega)),qu _ 8 (by rw[k]; omega) (by omega),ae,aP hi 0,ae,iW,ae,ar,k]
   have o:(an (x*2^8)).length<=(i+3) / 4+1:=by
    have:=ij x (2^8)
    have z:(an (2^8)).length<=1:=bl (by decide)
    omega
   have q:(an (b.getD i 0).toUInt64.toNat).length<=2:=bl (by have:=(b.getD i 0).toUInt64.toNat_lt; omega)
   rw[pR _ _ (by omega) (by omega),ae,ar,ar,m]
   have:(b.getD i 0).toUInt64.toNat=(b.getD i 0).toNat:=UInt8.toNat_toUInt64 _
   rw[this,show x*2^8=256*x by omega]; rfl)
  (fun x g=>by
   unfold F.GW
   dsimp only
   rw[if_neg (by simp),qQ,ae,xq]; rfl)
  b.length 0 0 (Nat.le_refl _) (by omega) (fun _=>by simp[beN])
 have h:=cG (fun i (x:Nat)=>i<=b.length->x=beN (b.take i)) (fun x i=>256*x+(b.getD i 0).toNat) (fun i x g=>fun hi=>by rw[g (by omega),jx b (by omega)]) b.length 0 0 (fun _=>by simp[beN])
 rw[Nat.zero_add]at h
 have h:=h (Nat.le_refl _)
 rw[h,List.take_length]at e
 rw[bR]at e
 exact e
end Go.Gk.Bn
end

section
namespace Go.Gk.Bn
open Go Go.Gk Go.Gk.Sh
theorem mF {n k:Nat} (f:n<2^k) (g:2^(k - 1)<=n) (i:1<=k):nb n=k:=by
 have j:=mc f
 rcases Nat.lt_or_ge (nb n) k with h | h
 ·have m:=(d7 n).1
  have o:=Nat.pow_le_pow_right (show 0<2 by decide) (show nb n<=k - 1 by omega)
  omega
 ·omega
theorem kT (n:Nat):ja (an n)=nb n:=by
 unfold ja
 by_cases h0:n=0
 ·subst h0; rw[bR,if_pos (show ([]:L0).length=0 from rfl),ge]
 ·obtain⟨l,f⟩:∃l,an n=l:=⟨_,rfl⟩
  have g:l.length≠0:=by have:=fu.2 h0; rw[f]at this; omega
  have o:val l=n:=by rw[<-f,ar]
  have hc:Can l:=by rw[<-f]; exact rC n
  rw[f,if_neg g]
  have i:=bO l (l.length - 1)
  rw[show l.length - 1+1=l.length by omega,List.take_length,o]at i
  have q:=bv (l.take (l.length - 1))
  rw[List.length_take,Nat.min_eq_left (by omega)]at q
  obtain⟨t,j⟩:∃t,l.getD (l.length - 1) 0=t:=⟨_,rfl⟩
  rw[j]at i ⊢
  have k:t.toNat≠0:=by
   intro h
   have h:t=0:=UInt32.toNat_inj.1 h
   refine hc ?_
   rw[List.getLast?_eq_getElem?]
   rw[<-j,List.getD_eq_getElem?_getD,List.getElem?_eq_getElem (show l.length - 1<l.length by omega)]at h
   rw[List.getElem?_eq_getElem (show l.length - 1<l.length by omega),<-h]; rfl
  obtain⟨n1,x⟩:=d7 t.toNat
  obtain⟨y,z⟩:=x k
  have m:(4294967296:Nat)^(l.length - 1)=2^(32*(l.length - 1)):=by rw[Nat.pow_mul]
  symm
  refine mF ?_ ?_ (by omega)
  ·rw[Nat.pow_add,<-m]
   have:4294967296^(l.length - 1)*(t.toNat+1)<=4294967296^(l.length - 1)*2^nb t.toNat:=Nat.mul_le_mul_left _ n1
   rw[Nat.mul_add]at this
   omega
  ·rw[show 32*(l.length - 1)+nb t.toNat - 1=32*(l.length - 1)+(nb t.toNat - 1) by omega,Nat.pow_add,<-m]
   have:4294967296^(l.length - 1)*2^(nb t.toNat - 1)<=4294967296^(l.length - 1)*t.toNat:=Nat.mul_le_mul_left _ y
   omega
def nby (n:Nat):Nat:=(nb n+7) / 8
theorem uf (k:Nat):(256:Nat)^k=2^(8*k):=by rw[Nat.pow_mul]
theorem tO (n:Nat):n<256^nby n:=by
 rw[uf]
 exact Nat.lt_of_lt_of_le (d7 n).1 (Nat.pow_le_pow_right (by decide) (by unfold nby; omega))
theorem xt {n i:Nat} (h:i<nby n):256^i<=n:=by
 rw[uf]
 have f:n≠0:=by rintro rfl; unfold nby at h; rw[ge]at h; omega
 obtain⟨g,j⟩:=(d7 n).2 f
 exact Nat.le_trans (Nat.pow_le_pow_right (by decide) (by unfold nby at h; omega)) g
theorem Cb {n k:Nat} (h:n<256^k):nby n<=k:=by
 rcases Nat.lt_or_ge k (nby n) with f | f
 ·have:=xt f; omega
 ·exact f
theorem jo (n:Nat):nb n<=32*(an n).length:=by
 refine mc ?_
 have:=bv (an n)
 rw[ar]at this
 rw[Nat.pow_mul]; exact this
theorem ng (l:L0) (i:Nat):(bA (l.getD (i / 4) 0) (8*(i%4))).toUInt8=UInt8.ofNat (val l / 256^i):=by
 apply UInt8.toNat_inj.1
 rw[UInt32.toNat_toUInt8,fH,UInt8.toNat_ofNat']
 have e8:(2:Nat)^8=256:=rfl
 rw[e8]
 have f:(256:Nat)^i=4294967296^(i / 4)*256^(i%4):=by
  rw[show (4294967296:Nat)=256^4 from rfl,<-Nat.pow_mul,<-Nat.pow_add]; congr 1; omega
 rw[f,<-Nat.div_div_eq_div_mul,fe,ch]
 obtain⟨w,g⟩:∃w,(l.getD (i / 4) 0).toNat=w:=⟨_,rfl⟩
 obtain⟨R,j⟩:∃R,val (l.drop (i / 4+1))=R:=⟨_,rfl⟩
 rw[g,j]
 have:i%4=0\/i%4=1\/i%4=2\/i%4=3:=by omega
 rcases this with h | h | h | h <;> rw[h] <;> simp <;> omega
theorem tC (x:Int) (z:nl x<=1000000000):F.GN (bi x).1 (bi x).2=some (beB (nby x.natAbs) x.natAbs):=by
 obtain⟨n,o⟩:∃n,x.natAbs=n:=⟨_,rfl⟩
 have U:(an n).length<=1000000000:=by rw[<-o]; exact z
 have V:=jo n
 obtain⟨m,j⟩:∃m,nby n=m:=⟨_,rfl⟩
 have O:m<=4*(an n).length:=by rw[<-j]; unfold nby; omega
 unfold F.GN
 rw[bi2,o,length_eq _ (by omega),ae,kT]
 have A:wI (Int.tdiv (wI ((nb n:Int)+7)) 8)=(m:Int):=by
  rw[aJ (x:=(nb n:Int)+7) (by omega) (by omega),Int.tdiv_eq_ediv_of_nonneg (by omega),aJ (by omega) (by omega),<-j]; unfold nby; omega
 rw[A,aS,dK (by omega),ae,Int.toNat_natCast,j]
 have e:=ca (f:=F.HU (an n) (m:Int)) (fun (y:L1) i=>((i:Int),y)) (fun i y=>i<=m->y=List.replicate (m - i) 0++beB i n) (fun y i=>y.set (m - 1 - i) (UInt8.ofNat (n / 256^i))) 0 m
  (X:=fun y=>some y)
  (fun i y _ hi g=>by
   have g:=g (by omega)
   have q:y.set (m - 1 - i) (UInt8.ofNat (n / 256^i))=List.replicate (m - (i+1)) 0++beB (i+1) n:=by
    rw[g,show m - i=m - (i+1)+1 by omega,List.replicate_succ',List.append_assoc,show m - 1 - i=m - (i+1) by omega,List.set_append_right _ _ (by simp)]
    simp[beB]
   refine⟨?_,fun _=>q⟩
   have t:i / 4<(an n).length:=by
    refine nB (k:=i / 4) ?_
    refine Nat.le_trans ?_ (xt (show i<nby n by omega))
    rw[show (4294967296:Nat)=256^4 from rfl,<-Nat.pow_mul]
    exact Nat.pow_le_pow_right (by decide) (by omega)
   have R:y.length=m:=by rw[g]; simp[eE]; omega
   have B:wI ((i:Int)+1)=((i+1:Nat):Int):=by rw[aJ (by omega) (by omega)]; rfl
   have G:wI (Int.tdiv (i:Int) 4)=((i / 4:Nat):Int):=by rw[Int.tdiv_eq_ediv_of_nonneg (by omega),aJ (by omega) (by omega)]; omega
   have I:wI ((wI ((m:Int) - 1)) - (i:Int))=((m - 1 - i:Nat):Int):=by rw[aJ (x:=(m:Int) - 1) (by omega) (by omega),aJ (by omega) (by omega)]; omega
   have J:(8*((UInt64.ofInt (i:Int))%4)).toNat=8*(i%4):=by
    have K:(UInt64.ofInt (i:Int)).toNat=i:=by
     rw[UInt64.ofInt,UInt64.toNat_ofNat']
     omega
    have M:(4:UInt64).toNat=4:=rfl
    have N:(8:UInt64).toNat=8:=rfl
    rw[UInt64.toNat_mul,UInt64.toNat_mod,K,M,N]; omega
   unfold F.HU
   dsimp only
   rw[if_pos (decide_eq_true (by omega)),G,aP t 0,ae,I,aP (show m - 1 - i<y.length by omega) 0,ae,aS,Int.toNat_natCast,J,ng,ar,B]
   rfl)
  (fun y g=>by
   unfold F.HU
   dsimp only
   rw[if_neg (by simp)])
  m 0 (List.replicate m 0) (Nat.le_refl _) (by omega) (fun _=>by simp[beB])
 have h:=cG (fun i (y:L1)=>i<=m->y=List.replicate (m - i) 0++beB i n) (fun y i=>y.set (m - 1 - i) (UInt8.ofNat (n / 256^i)))
  (fun i y g=>fun hi=>by
   rw[g (by omega),show m - i=m - (i+1)+1 by omega,List.replicate_succ',List.append_assoc,show m - 1 - i=m - (i+1) by omega,List.set_append_right _ _ (by simp)]
   simp[beB]) m 0 (List.replicate m 0) (fun _=>by simp[beB])
 rw[Nat.zero_add]at h
 have h:=h (Nat.le_refl _)
 rw[h,Nat.sub_self,List.replicate_zero,List.nil_append]at e
 exact e
def iT (c:UInt8):Nat:=if c.toNat<=57 then c.toNat - 48 else c.toNat - 87
def ep (c:UInt8):Bool:=(48<=c.toNat&&c.toNat<=57) || (97<=c.toNat&&c.toNat<=102)
def dM:L1->Nat
 | []=>0
 | x :: l=>iT x*16^l.length+dM l
theorem qP {c:UInt8} (h:ep c=true):iT c<16:=by
 unfold ep at h; unfold iT
 simp only[Bool.or_eq_true,Bool.and_eq_true,decide_eq_true_eq]at h
 split <;> omega
theorem kP:∀a b:L1,dM (a++b)=dM a*16^b.length+dM b
 | [],b=>by simp[dM]
 | x :: a,b=>by
  rw[List.cons_append,dM,dM,kP a b,List.length_append,Nat.add_mul,Nat.pow_add,Nat.mul_assoc]; omega
theorem qF:∀l:L1,l.all ep=true->dM l<16^l.length
 | [],_=>by simp[dM]
 | x :: l,h=>by
  rw[List.all_cons,Bool.and_eq_true]at h
  have f:=qF l h.2; have g:=qP h.1
  have:(iT x+1)*16^l.length<=16*16^l.length:=Nat.mul_le_mul_right _ (by omega)
  rw[Nat.add_mul]at this
  rw[dM,List.length_cons,Nat.pow_succ,Nat.mul_comm (16^_) 16]
  omega
theorem i2 (l:L1) {i:Nat} (h:i<l.length):dM (l.take (i+1))=16*dM (l.take i)+iT (l.getD i 0):=by
 rw[List.take_add_one,List.getD_eq_getElem?_getD,List.getElem?_eq_getElem h,kP]
 simp[dM]; omega
theorem pa {l:L1} {p:UInt8->Bool} (h:l.all p=true) {i:Nat} (hi:i<l.length):p (l.getD i 0)=true:=by
 rw[List.getD_eq_getElem?_getD,List.getElem?_eq_getElem hi]
 exact List.all_eq_true.1 h _ (List.getElem_mem hi)
theorem zK {l:L1} {p:UInt8->Bool} (h:l.all p=true) (i:Nat):(l.take i).all p=true:=
 List.all_eq_true.2 fun x f=>List.all_eq_true.1 h x (List.mem_of_mem_take f)
theorem zW (n0:Bool) (q:L0) (t:Bool) (s:L1) (n i:Nat) (x:s.all ep=true) (hi:i<s.length) (A:s.length<=1000000000) (B:(an n).length<=1000000000) :
  F.Fk n0 q t s 16 (an n,(i:Int))=some (.inl (an (16*n+iT (s.getD i 0)),((i+1:Nat):Int))):=by
 have hc:=pa x hi
 obtain⟨c,j⟩:∃c,s.getD i 0=c:=⟨_,rfl⟩
 rw[j]at hc ⊢
 have y:=qP hc
 have z:wI ((i:Int)+1)=((i+1:Nat):Int):=by rw[aJ (by omega) (by omega)]; rfl
 have k:∀d:Nat,d<16->F.EB 16 (an n) (i:Int) (d:Int)=some (.inl (an (16*n+d),((i+1:Nat):Int))):=by
  intro d y
  unfold F.EB
  have m:(UInt64.ofInt 16).toNat=16:=rfl
  have o:(UInt64.ofInt (d:Int)).toNat=d:=by rw[UInt64.ofInt,UInt64.toNat_ofNat']; omega
  have f:(an 16).length<=1:=bl (by decide)
  have g:(an d).length<=1:=bl (by omega)
  have G:=ij n 16
  rw[if_neg (by simp only[decide_eq_true_eq]; omega),iW,ae,m,yG _ _ (by omega),ae,iW,ae,o,ar,ar,pR _ _ (by omega) (by omega),ae,ar,ar,z,Nat.mul_comm n 16]
  rfl
 unfold F.Fk
 dsimp only
 rw[if_pos (decide_eq_true (by omega)),aP hi 0,ae,j]
 unfold ep at hc
 simp only[Bool.or_eq_true,Bool.and_eq_true,decide_eq_true_eq]at hc
 rw[if_pos (decide_eq_true (by rw[UInt8.le_iff_toNat_le]; have:(48:UInt8).toNat=48:=rfl; omega))]
 unfold F.IG
 by_cases h:c.toNat<=57
 ·have f:(c - 48).toNat=c.toNat - 48:=UInt8.toNat_sub_of_le _ _ (by rw[UInt8.le_iff_toNat_le]; have:(48:UInt8).toNat=48:=rfl; omega)
  have g:iT c=c.toNat - 48:=if_pos h
  rw[if_pos (decide_eq_true (by rw[UInt8.le_iff_toNat_le]; exact h)),aS,f,g]
  exact k _ (by omega)
 ·have f:(c - 97).toNat=c.toNat - 97:=UInt8.toNat_sub_of_le _ _ (by rw[UInt8.le_iff_toNat_le]; have:(97:UInt8).toNat=97:=rfl; omega)
  have g:iT c=c.toNat - 87:=if_neg h
  rw[if_neg (by rw[decide_eq_true_eq,UInt8.le_iff_toNat_le]; exact h),if_pos (decide_eq_true (by rw[UInt8.le_iff_toNat_le]; have:(97:UInt8).toNat=97:=rfl; omega))]
  unfold F.Ip
  rw[if_pos (decide_eq_true (by rw[UInt8.le_iff_toNat_le]; have:(122:UInt8).toNat=122:=rfl; omega)),aS,f,aJ (by omega) (by omega),g,show ((c.toNat - 97:Nat):Int)+10=((c.toNat - 87:Nat):Int) by omega]
  exact k _ (by omega)
theorem sk (n0:Bool) (o:L0) (s:L1) (q:s.all ep=true) (t:s≠[]) (y:s.length<=1000000000):F.Ib n0 o s 16=some (true,false,an (dM s)):=by
 have z:0<s.length:=List.length_pos_iff.2 t
 have hc:=pa q z
 unfold ep at hc
 simp only[Bool.or_eq_true,Bool.and_eq_true,decide_eq_true_eq]at hc
 have m:∀d:UInt8,d.toNat<48->(s.getD 0 0 == d)=false:=fun d G=>by
  rw[beq_eq_false_iff_ne]; intro h; rw[h]at hc; omega
 unfold F.Ib
 rw[if_pos (decide_eq_true (by omega)),show (0:Int)=((0:Nat):Int) from rfl,aP z 0,ae,if_neg (by rw[m 45 (by decide)]; decide),ae,m 43 (by decide)]
 unfold F.HD F.IR
 rw[if_neg (by decide)]
 dsimp only
 rw[if_neg (by decide)]
 unfold F.Fl
 dsimp only
 rw[if_neg (by simpa using t),if_neg (by decide)]
 unfold F.Gh
 rw[if_neg (by decide)]
 have B:∀i,i<=s.length->(an (dM (s.take i))).length<=1000000000:=fun i hi=>by
  have A:=qF (s.take i) (zK q i)
  rw[List.length_take,Nat.min_eq_left hi]at A
  have I:=kw (k:=i) (Nat.lt_of_lt_of_le A (Nat.pow_le_pow_left (by decide) i))
  omega
 have e:=ca (f:=F.Fk n0 o false s 16) (fun (x:Nat) i=>(an x,(i:Int))) (fun i x=>i<=s.length->x=dM (s.take i)) (fun x i=>16*x+iT (s.getD i 0)) 0 s.length
  (X:=fun x=>some (true,false,an x))
  (fun i x _ hi g=>by
   have g:=g (by omega)
   exact⟨zW n0 o false s x i q hi y (by rw[g]; exact B i (by omega)),fun _=>by rw[g,i2 s hi]⟩)
  (fun x g=>by
   unfold F.Fk
   dsimp only
   rw[if_neg (by simp),qQ,ae]; rfl)
  s.length 0 0 (Nat.le_refl _) (by omega) (fun _=>by simp[dM])
 have j:=cG (fun i (x:Nat)=>i<=s.length->x=dM (s.take i)) (fun x i=>16*x+iT (s.getD i 0)) (fun i x g=>fun hi=>by rw[g (by omega),i2 s (by omega)]) s.length 0 0 (fun _=>by simp[dM])
 rw[Nat.zero_add]at j
 have j:=j (Nat.le_refl _)
 rw[j,List.take_length,bR]at e
 exact e
end Go.Gk.Bn
end

section
namespace Go.Gk.Bn
open Go Go.Gk Go.Gk.Sh
theorem oG (a:L0) (o:a.length<=4611686018427387904):∀k,k<=a.length->(∀j,k<=j->a.getD j 0=0)->∃m,loop (F.HA a) k=some m/\m<=a.length/\a.take m=an (val a)
 | 0,_,hz=>by
  refine⟨0,?_,by omega,kx (by omega) hz (.inl rfl)⟩
  have h:F.HA a 0=bn (grd (0<=(((a.take 0).length:Int):Int)/\(((a.take 0).length:Int):Int).toNat<=(a.take 0).length/\(((a.take 0).length:Int):Int)=((a.take 0).length:Int)) <| some ((((a.take 0).length:Int):Int).toNat)):=rfl
  rw[bL h,grd_true _ (by simp)]; rfl
 | k+1,hk,hz=>by
  have g:(a.take (k+1)).length=k+1:=by rw[List.length_take]; omega
  have w:wI (((k+1:Nat):Int) - 1)=(k:Int):=by rw[aJ (by omega) (by omega)]; omega
  have q:aA (a.take (k+1)) (k:Int)=some (a.getD k 0):=by
   rw[aP (show k<(a.take (k+1)).length by omega) 0]
   congr 1
   rw[List.getD_eq_getElem?_getD,List.getElem?_take,if_pos (by omega),<-List.getD_eq_getElem?_getD]
  have f:F.HA a (k+1)=if (decide ((0:Int)<((a.take (k+1)).length:Int)))=true then ah (aA (a.take (k+1)) (wI (((a.take (k+1)).length:Int) - 1):Int)) fun i=>F.EF a (k+1) (i == 0) else F.EF a (k+1) false:=rfl
  rw[g,if_pos (decide_eq_true (by omega)),w,q,ae]at f
  by_cases h0:a.getD k 0=0
  ·obtain⟨m,t,x⟩:=oG a o k (by omega) (fun j z=>by
    rcases Nat.lt_or_ge k j with h | h
    ·exact hz j (by omega)
    ·rw[show j=k by omega]; exact h0)
   refine⟨m,?_,x⟩
   rw[<-t]
   refine bJ ?_
   rw[f,h0]
   unfold F.EF
   rw[if_pos (by rfl),g,w,grd_true _ (by omega)]; rfl
  ·refine⟨k+1,?_,hk,kx hk hz (.inr (by simpa using h0))⟩
   have y:(a.getD k 0 == 0)=false:=by rw[beq_eq_false_iff_ne]; exact h0
   rw[y]at f
   unfold F.EF at f
   rw[if_neg (by decide),g]at f
   rw[bL f,grd_true _ (by omega)]; rfl
theorem eZ (a:L0) (f:a.length<=4611686018427387904):∃m,F.DN a=some m/\m<=a.length/\a.take m=an (val a):=
 oG a f a.length (Nat.le_refl _) fun j g=>dU g
theorem eG (a:L0) (f:a.length<=4611686018427387904):∃m,F.DC a=some m/\m<=a.length/\a.take m=an (val a):=by
 obtain⟨m,g,h⟩:=eZ a f
 exact⟨m,by unfold F.DC; rw[g,ae],h⟩
theorem sn {n k:Nat} (h:2^k<=n):nb n=nb (n / 2^k)+k:=by
 have f:=Nat.two_pow_pos k
 have g:n / 2^k≠0:=by
  have:=Nat.div_le_div_right (c:=2^k) h
  rw[Nat.div_self f]at this; omega
 obtain⟨i,j⟩:=d7 (n / 2^k)
 obtain⟨m,o⟩:=j g
 refine mF ?_ ?_ (by omega)
 ·rw[Nat.pow_add]; exact (Nat.div_lt_iff_lt_mul f).1 i
 ·rw[show nb (n / 2^k)+k - 1=nb (n / 2^k) - 1+k by omega,Nat.pow_add]
  exact (Nat.le_div_iff_mul_le f).1 m
def qK:L1:=[0,1,2,2,3,3,3,3,4,4,4,4,4,4,4,4,5,5,5,5,5,5,5,5,5,5,5,5,5,5,5,5,6,6,6,6,6,6,6,6,6,6,6,6,6,6,6,6,6,6,6,6,6,6,6,6,6,6,6,6,6,6,6,6,7,7,7,7,7,7,7,7,7,7,7,7,7,7,7,7,7,7,7,7,7,7,7,7,7,7,7,7,7,7,7,7,7,7,7,7,7,7,7,7,7,7,7,7,7,7,7,7,7,7,7,7,7,7,7,7,7,7,7,7,7,7,7,7,8,8,8,8,8,8,8,8,8,8,8,8,8,8,8,8,8,8,8,8,8,8,8,8,8,8,8,8,8,8,8,8,8,8,8,8,8,8,8,8,8,8,8,8,8,8,8,8,8,8,8,8,8,8,8,8,8,8,8,8,8,8,8,8,8,8,8,8,8,8,8,8,8,8,8,8,8,8,8,8,8,8,8,8,8,8,8,8,8,8,8,8,8,8,8,8,8,8,8,8,8,8,8,8,8,8,8,8,8,8,8,8,8,8,8,8,8,8,8,8,8,8,8,8,8,8,8,8]
def ck (i:Nat) (t:Nat):Bool:=Nat.blt i (2^t)&&(Nat.beq i 0&&Nat.beq t 0 || Nat.ble (2^(t - 1)) i&&Nat.ble 1 t)
def ckA:L1->Nat->Bool
 | [],_=>true
 | x :: l,i=>ck i x.toNat&&ckA l (i+1)
theorem xX:∀(l:L1) (i j:Nat),ckA l i=true->j<l.length->ck (i+j) (l.getD j 0).toNat=true
 | [],_,_,_,h=>by simp at h
 | x :: l,i,0,h,_=>by
  rw[ckA,Bool.and_eq_true]at h
  exact h.1
 | x :: l,i,j+1,h,hj=>by
  rw[ckA,Bool.and_eq_true]at h
  have:=xX l (i+1) j h.2 (by simpa using hj)
  rw[List.getD_cons_succ,show i+(j+1)=i+1+j by omega]
  exact this
theorem AR:ckA qK 0=true:=by decide +kernel
theorem zv:Nat.beq qK.length 256=true:=by decide +kernel
theorem jA (b:Nat) (j:b<256):∃t:UInt8,aA qK (b:Int)=some t/\t.toNat=nb b:=by
 have k:=Nat.eq_of_beq_eq_true zv
 have h:=xX qK 0 b AR (by omega)
 rw[Nat.zero_add]at h
 unfold ck at h
 rw[Bool.and_eq_true,Bool.or_eq_true,Bool.and_eq_true,Bool.and_eq_true]at h
 obtain⟨i,f⟩:=h
 rw[Nat.blt_eq]at i
 refine⟨qK.getD b 0,aP (by omega) 0,?_⟩
 rcases f with⟨f,g⟩ | ⟨f,g⟩
 ·rw[Nat.eq_of_beq_eq_true f,ge]
  rw[Nat.eq_of_beq_eq_true f]at g
  exact Nat.eq_of_beq_eq_true g
 ·exact (mF i (Nat.le_of_ble_eq_true f) (Nat.le_of_ble_eq_true g)).symm
theorem up (y:UInt32) (k:Int):F.G9 (y,k)=ah (aA qK (y.toUInt8.toNat:Int)) fun g=>bq (wI (k+(g.toNat:Int))) fun f=>some f:=rfl
theorem sq (x:UInt32):F.HE x=some (nb x.toNat:Int):=by
 have z:=cC x
 have i:∀(y:UInt32) (k:Nat),y.toNat<256->k<=24->F.G9 (y,(k:Int))=some ((nb y.toNat+k:Nat):Int):=by
  intro y k g m
  have f:y.toUInt8.toNat=y.toNat:=by rw[UInt32.toNat_toUInt8]; omega
  obtain⟨t,o,q⟩:=jA y.toNat g
  have A:=mc (n:=y.toNat) (k:=8) g
  rw[up,f,o,ae,aS,q,aJ (by omega) (by omega)]
  congr 1; omega
 have j:∀(y:UInt32) (k:Nat),y.toNat<65536->k<=16->F.Ha (y,(k:Int))=some ((nb y.toNat+k:Nat):Int):=by
  intro y k g m
  unfold F.Ha
  dsimp only
  by_cases h:256<=y.toNat
  ·have f:(bA y 8).toNat=y.toNat / 2^8:=by rw[fH]; rfl
   rw[if_pos (decide_eq_true (by rw[UInt32.le_iff_toNat_le]; exact h)),aJ (by omega) (by omega),show (k:Int)+8=((k+8:Nat):Int) by omega,i _ _ (by rw[f]; omega) (by omega),f,sn (n:=y.toNat) (k:=8) (by omega)]
   congr 1; omega
  ·rw[if_neg (by rw[decide_eq_true_eq,UInt32.le_iff_toNat_le]; exact h)]
   exact i y k (by omega) (by omega)
 unfold F.HE
 by_cases h:65536<=x.toNat
 ·have f:(bA x 16).toNat=x.toNat / 2^16:=by rw[fH]; rfl
  rw[if_pos (decide_eq_true (by rw[UInt32.le_iff_toNat_le]; exact h)),show (16:Int)=((16:Nat):Int) from rfl,j _ _ (by rw[f]; omega) (by omega),f,sn (n:=x.toNat) (k:=16) (by omega)]
 ·rw[if_neg (by rw[decide_eq_true_eq,UInt32.le_iff_toNat_le]; exact h),show (0:Int)=((0:Nat):Int) from rfl,j _ _ (by omega) (by omega),Nat.add_zero]
theorem i3 (a:L0) (j:a.length<=100000000000000):F.D8 a=some (nb (val a):Int):=by
 obtain⟨m,f,k,g⟩:=eG a (by omega)
 have o:(an (val a)).length<=a.length:=bl (bv a)
 unfold F.D8
 rw[f,ae,g,<-kT]
 unfold ja
 by_cases h0:(an (val a)).length=0
 ·rw[if_pos (by rw[h0]; rfl),if_pos h0]; rfl
 ·have i:wI (((an (val a)).length:Int) - 1)=(((an (val a)).length - 1:Nat):Int):=by rw[aJ (by omega) (by omega)]; omega
  have q:=zg ((an (val a)).getD ((an (val a)).length - 1) 0)
  rw[if_neg (by simpa using fun h=>h0 (by rw[h]; rfl)),if_neg h0,i,aP (by omega) 0,ae,sq,ae,aJ (x:=32*_) (by omega) (by omega),aJ (by omega) (by omega)]
  congr 1
theorem BI (o:L1) (a:L0) (Y:o.length<=1000000000000000) (Z:a.length<=100000000000000):F.Ie o a=some (beB o.length (val a)):=by
 unfold F.Ie
 have e:=ca (f:=F.HL o a) (fun (y:L1) i=>((i:Int),y)) (fun i y=>i<=o.length->y.length=o.length/\∀k,k<i->y.getD k 0=UInt8.ofNat (val a / 256^(o.length - 1 - k))) (fun y i=>y.set i (UInt8.ofNat (val a / 256^(o.length - 1 - i)))) 0 o.length
  (X:=fun y=>some y)
  (fun i y _ hi m=>by
   obtain⟨q,m⟩:=m (by omega)
   refine⟨?_,fun _=>⟨by simpa using q,fun k A=>?_⟩⟩
   ·have G:wI ((i:Int)+1)=((i+1:Nat):Int):=by rw[aJ (by omega) (by omega)]; rfl
    obtain⟨g,z⟩:∃t,o.length - 1 - i=t:=⟨_,rfl⟩
    have M:wI ((wI ((y.length:Int) - 1)) - (i:Int))=(g:Int):=by rw[q,aJ (x:=(o.length:Int) - 1) (by omega) (by omega),aJ (by omega) (by omega)]; omega
    have N:wI (Int.tdiv (g:Int) 4)=((g / 4:Nat):Int):=by rw[Int.tdiv_eq_ediv_of_nonneg (by omega),aJ (by omega) (by omega)]; omega
    have O:wI (8*(Int.tmod (g:Int) 4))=((8*(g%4):Nat):Int):=by rw[Int.tmod_eq_emod_of_nonneg (by omega),aJ (by omega) (by omega)]; omega
    unfold F.HL
    dsimp only
    rw[if_pos (decide_eq_true (by omega)),M,aS,aP (show i<y.length by omega) 0,ae,aS,N,Int.toNat_natCast]
    by_cases h:g / 4<a.length
    ·rw[if_pos (decide_eq_true (by omega)),aP h 0,ae,O,grd_true _ (by omega),aP (show i<(y.set i 0).length by simp; omega) 0,ae,aS,Int.toNat_natCast,ng,z]
     unfold F.HI
     rw[G,List.set_set]; rfl
    ·rw[if_neg (by simp only[decide_eq_true_eq]; omega)]
     unfold F.HI
     have R:val a / 256^g=0:=by
      refine Nat.div_eq_of_lt (Nat.lt_of_lt_of_le (bv a) ?_)
      rw[show (4294967296:Nat)=256^4 from rfl,<-Nat.pow_mul]
      exact Nat.pow_le_pow_right (by decide) (by omega)
     rw[G,z,R]; rfl
   ·rw[List.getD_eq_getElem?_getD,List.getElem?_set]
    by_cases j:i=k
    ·subst j; rw[if_pos rfl,if_pos (by omega)]; rfl
    ·rw[if_neg j,<-List.getD_eq_getElem?_getD]; exact m k (by omega))
  (fun y m=>by
   unfold F.HL
   dsimp only
   rw[if_neg (by simp)])
  o.length 0 o (Nat.le_refl _) (by omega) (fun _=>⟨rfl,fun k A=>by omega⟩)
 have B:=cG (fun i (y:L1)=>i<=o.length->y.length=o.length/\∀k,k<i->y.getD k 0=UInt8.ofNat (val a / 256^(o.length - 1 - k))) (fun y i=>y.set i (UInt8.ofNat (val a / 256^(o.length - 1 - i))))
  (fun i y m=>fun hi=>by
   obtain⟨q,m⟩:=m (by omega)
   refine⟨by simpa using q,fun k A=>?_⟩
   rw[List.getD_eq_getElem?_getD,List.getElem?_set]
   by_cases j:i=k
   ·subst j; rw[if_pos rfl,if_pos (by omega)]; rfl
   ·rw[if_neg j,<-List.getD_eq_getElem?_getD]; exact m k (by omega)) o.length 0 o (fun _=>⟨rfl,fun k A=>by omega⟩)
 rw[Nat.zero_add]at B
 obtain⟨y,m⟩:∃y,(List.range' 0 o.length).foldl (fun y i=>y.set i (UInt8.ofNat (val a / 256^(o.length - 1 - i)))) o=y:=⟨_,rfl⟩
 rw[m]at B e
 obtain⟨U,V⟩:=B (Nat.le_refl _)
 refine e.trans ?_
 congr 1
 refine List.ext_getElem (by rw[U,eE]) fun k I j=>?_
 have J:=V k (by omega)
 have K:=tN o.length (val a) k (by omega)
 rw[List.getD_eq_getElem?_getD,List.getElem?_eq_getElem I]at J
 rw[List.getD_eq_getElem?_getD,List.getElem?_eq_getElem j]at K
 exact J.trans K.symm
theorem yz (a:L0) (i:a.length<=35184372087808):F.IC a=some (beB (nby (val a)) (val a)):=by
 obtain⟨m,f,j,g⟩:=eG a (by omega)
 have k:(an (val a)).length<=a.length:=bl (bv a)
 have o:=jo (val a)
 have h:wI (Int.tdiv (wI ((nb (val a):Int)+7)) 8)=(nby (val a):Int):=by
  rw[aJ (x:=(nb (val a):Int)+7) (by omega) (by omega),Int.tdiv_eq_ediv_of_nonneg (by omega),aJ (by omega) (by omega)]; unfold nby; omega
 have q:nby (val a)<=4*(an (val a)).length:=by unfold nby; omega
 unfold F.IC
 rw[i3 a (by omega),ae,h,aS,dK (by omega),ae,f,ae,g,BI _ _ (by simp; omega) (by omega),ae,Int.toNat_natCast,List.length_replicate,ar]
theorem Bo (x y:UInt32) (t:Nat) (f:y.toNat<256) (j:t<4) (g:x.toNat%256^(t+1)=0):(x ||| bP y (8*t)).toNat=x.toNat+y.toNat*256^t:=by
 have i:(bP y (8*t)).toNat=y.toNat*256^t:=by
  rw[i9,Nat.min_eq_left (by omega),Nat.pow_mul,show (2:Nat)^8=256 from rfl,Nat.mod_eq_of_lt]
  have:t=0\/t=1\/t=2\/t=3:=by omega
  rcases this with h | h | h | h <;> subst h <;> simp <;> omega
 rw[UInt32.toNat_or,i]
 refine nD (8*(t+1)) (by rw[Nat.pow_mul]; exact g) ?_
 rw[Nat.pow_mul,Nat.pow_succ,Nat.mul_comm]
 exact Nat.mul_lt_mul_of_pos_left f (Nat.pow_pos (by decide))
theorem Ad {l:L0} {q t:Nat} (i:t<=4) (h:val l%256^(4*q+t)=0):(l.getD q 0).toNat%256^t=0:=by
 have g:val l / 256^(4*q)%256^t=0:=by
  rw[Nat.pow_add]at h
  have:=Nat.mod_mul_right_div_self (val l) (256^(4*q)) (256^t)
  rw[h,Nat.zero_div]at this
  exact this.symm
 rw[Nat.pow_mul,show (256:Nat)^4=4294967296 from rfl,fe,ch]at g
 have:t=0\/t=1\/t=2\/t=3\/t=4:=by omega
 rcases this with f | f | f | f | f <;> subst f <;> simp at g ⊢ <;> omega
theorem nk (b:L1) (U:b.length<=140737488351232):F.GO b=some (an (beN b)):=by
 obtain⟨n,V⟩:∃n,(b.length+3) / 4=n:=⟨_,rfl⟩
 have w0:wI (Int.tdiv (wI ((b.length:Int)+3)) 4)=(n:Int):=by
  rw[aJ (x:=(b.length:Int)+3) (by omega) (by omega),Int.tdiv_eq_ediv_of_nonneg (by omega),aJ (by omega) (by omega)]; omega
 unfold F.GO
 rw[w0,dK (by omega),ae,Int.toNat_natCast]
 have j:∀(i:Nat) (y:L0),i<b.length->(y.length=n/\val y=beN (b.take i)*256^(b.length - i)) ->
   ((y.set ((b.length - 1 - i) / 4) (y.getD ((b.length - 1 - i) / 4) 0 ||| bP (b.getD i 0).toUInt32 (8*((b.length - 1 - i)%4)))).length=n /\
    val (y.set ((b.length - 1 - i) / 4) (y.getD ((b.length - 1 - i) / 4) 0 ||| bP (b.getD i 0).toUInt32 (8*((b.length - 1 - i)%4))))=beN (b.take (i+1))*256^(b.length - (i+1))):=by
  rintro i y hi ⟨o,A⟩
  obtain⟨t,q⟩:∃t,b.length - 1 - i=t:=⟨_,rfl⟩
  rw[q]
  have k:(b.getD i 0).toUInt32.toNat=(b.getD i 0).toNat:=UInt8.toNat_toUInt32 _
  have O:=(b.getD i 0).toNat_lt
  have B:=dB y (t / 4) (y.getD (t / 4) 0 ||| bP (b.getD i 0).toUInt32 (8*(t%4))) (by omega)
  have G:(y.getD (t / 4) 0).toNat%256^(t%4+1)=0:=by
   refine Ad (by omega) ?_
   rw[show 4*(t / 4)+(t%4+1)=b.length - i by omega,A,Nat.mul_mod_left]
  rw[Bo _ _ _ (by rw[k]; omega) (by omega) G,k,Nat.mul_add]at B
  refine⟨by simpa using o,?_⟩
  have I:4294967296^(t / 4)*((b.getD i 0).toNat*256^(t%4))=(b.getD i 0).toNat*256^t:=by
   rw[show (4294967296:Nat)=256^4 from rfl,<-Nat.pow_mul,Nat.mul_left_comm,<-Nat.pow_add]; congr 2; omega
  rw[I]at B
  rw[jx b hi,show b.length - (i+1)=t by omega,Nat.add_mul]
  have z:256*beN (b.take i)*256^t=beN (b.take i)*256^(b.length - i):=by
   rw[show b.length - i=t+1 by omega,Nat.pow_succ,Nat.mul_comm 256,Nat.mul_assoc,Nat.mul_comm 256]
  rw[z]
  omega
 have e:=ca (f:=F.Gz b) (fun (y:L0) i=>((i:Int),y)) (fun i y=>i<=b.length->y.length=n/\val y=beN (b.take i)*256^(b.length - i))
  (fun y i=>y.set ((b.length - 1 - i) / 4) (y.getD ((b.length - 1 - i) / 4) 0 ||| bP (b.getD i 0).toUInt32 (8*((b.length - 1 - i)%4)))) 0 b.length
  (X:=fun y=>some (an (val y)))
  (fun i y _ hi g=>by
   have g:=g (by omega)
   refine⟨?_,fun _=>j i y hi g⟩
   obtain⟨t,q⟩:∃t,b.length - 1 - i=t:=⟨_,rfl⟩
   rw[q]
   have R:=g.1
   have J:wI ((i:Int)+1)=((i+1:Nat):Int):=by rw[aJ (by omega) (by omega)]; rfl
   have K:wI ((wI ((b.length:Int) - 1)) - (i:Int))=(t:Int):=by rw[aJ (x:=(b.length:Int) - 1) (by omega) (by omega),aJ (by omega) (by omega)]; omega
   have M:wI (Int.tdiv (t:Int) 4)=((t / 4:Nat):Int):=by rw[Int.tdiv_eq_ediv_of_nonneg (by omega),aJ (by omega) (by omega)]; omega
   have N:wI (8*(Int.tmod (t:Int) 4))=((8*(t%4):Nat):Int):=by rw[Int.tmod_eq_emod_of_nonneg (by omega),aJ (by omega) (by omega)]; omega
   unfold F.Gz
   dsimp only
   rw[if_pos (decide_eq_true (by omega)),aP hi 0,ae,K,aS,M,aP (show t / 4<y.length by omega) 0,ae,N,grd_true _ (by omega),ae,aS,Int.toNat_natCast,Int.toNat_natCast,J]
   rfl)
  (fun y g=>by
   obtain⟨m,o,A,z⟩:=eZ y (by have:=(g (Nat.le_refl _)).1; omega)
   unfold F.Gz
   dsimp only
   rw[if_neg (by simp),o,ae,z])
  b.length 0 (List.replicate n 0) (Nat.le_refl _) (by omega) (fun _=>⟨by simp,by rw[cn]; simp[beN]⟩)
 have h:=cG (fun i (y:L0)=>i<=b.length->y.length=n/\val y=beN (b.take i)*256^(b.length - i)) (fun y i=>y.set ((b.length - 1 - i) / 4) (y.getD ((b.length - 1 - i) / 4) 0 ||| bP (b.getD i 0).toUInt32 (8*((b.length - 1 - i)%4))))
  (fun i y g=>fun hi=>j i y (by omega) (g (by omega))) b.length 0 (List.replicate n 0) (fun _=>⟨by simp,by rw[cn]; simp[beN]⟩)
 rw[Nat.zero_add]at h
 have h:=(h (Nat.le_refl _)).2
 rw[h,Nat.sub_self,Nat.pow_zero,Nat.mul_one,List.take_length]at e
 exact e
end Go.Gk.Bn
end
