import Derived.Test.YtahgjafdhjbkeaaGreatDoorGkU6
import Derived.Test.YtahgjafdhjbkeaaGreatDoorGkFman
set_option linter.unusedVariables false
set_option linter.unusedSimpArgs false
set_option linter.unusedSectionVars false

section
namespace Go.Gk.Bn
open Go Go.Gk Go.Gk.Sh
def bi (z:Int):Bool×List UInt32:=(decide (z<0),am z.natAbs)
def nl (z:Int):Nat:=(am z.natAbs).length
theorem wW (n:Nat):bi (n:Int)=(false,am n):=by
 unfold bi
 rw [decide_eq_false (by omega),Int.natAbs_natCast]
theorem bi1 {z:Int} (h:0≤z):(bi z).1=false:=decide_eq_false (by omega)
theorem bi2 (z:Int):(bi z).2=am z.natAbs:=rfl
theorem bis (z:Int):(bi z).1=decide (z<0):=rfl
theorem li (z:Int):Can (bi z).2:=qV _
theorem lA (z:Int):val (bi z).2=z.natAbs:=aq _
theorem gH {n:Nat}:am n=[]↔n=0:=⟨fun h=>by have:=aq n; rw [h]at this; simpa [val] using this.symm,fun h=>by rw [h,bS]⟩
theorem fc {n:Nat}:0<(am n).length↔n≠0:=by
 rw [List.length_pos_iff,Ne,gH]
theorem c0 {a b:Nat} (h:a≤b):(am a).length≤(am b).length:=
 bj (Nat.lt_of_le_of_lt h (by have:=bv (am b); rwa [aq]at this))
theorem z8 {x y:Int} (h:x.natAbs≤y.natAbs):(bi x).2.length≤(bi y).2.length:=c0 h
theorem fL (a b:Nat):(am (a+b)).length≤max (am a).length (am b).length+1:=by
 refine bj ?_
 have f:=bv (am a); have g:=bv (am b)
 rw [aq]at f g
 have h:=Nat.pow_le_pow_right (show 0<4294967296 by decide) (Nat.le_max_left (am a).length (am b).length)
 have i:=Nat.pow_le_pow_right (show 0<4294967296 by decide) (Nat.le_max_right (am a).length (am b).length)
 rw [Nat.pow_succ]
 omega
theorem g8 (a b:Nat):(am (a*b)).length≤(am a).length+(am b).length:=by
 by_cases hb:b=0
 ·subst hb; simp [bS]
 refine bj ?_
 have f:=bv (am a); have g:=bv (am b)
 rw [aq]at f g
 rw [Nat.pow_add]
 exact Nat.mul_lt_mul_of_lt_of_le f (Nat.le_of_lt g) (Nat.pos_of_ne_zero (by have:=Nat.pow_pos (n:=(am b).length) (show 0<4294967296 by decide); omega))
theorem sR (x y:Int):nl (x*y)≤nl x+nl y:=by
 unfold nl; rw [Int.natAbs_mul]; exact g8 _ _
theorem sP (x y:Int):nl (x+y)≤max (nl x) (nl y)+1:=by
 unfold nl
 exact Nat.le_trans (c0 (Int.natAbs_add_le x y)) (fL _ _)
theorem wz (x:Int):nl (-x)=nl x:=by unfold nl; rw [Int.natAbs_neg]
theorem wV (x y:Int):nl (x - y)≤max (nl x) (nl y)+1:=by
 rw [Int.sub_eq_add_neg,←wz y]; exact sP x (-y)
theorem fw {x y:Int} (h:x.natAbs≤y.natAbs):nl x≤nl y:=c0 h
theorem rB {z:Int} {k:Nat} (h:z.natAbs<4294967296^k):nl z≤k:=bj h
theorem mA (x:Int) {m:Int} (h:0<m):nl (x%m)≤nl m:=fw (by
 have:=Int.emod_nonneg x (show m≠0 by omega); have:=Int.emod_lt_of_pos x h; omega)
theorem qp (n0:Bool) (f:List UInt32) (b:Bool) (a:List UInt32):F.C7 n0 f b a=some (b&&decide (a≠[]),a):=by
 unfold F.C7 F.Ho
 cases b with
 | false=>rfl
 | true=>
  simp only [if_true,Bool.true_and]
  congr 2
  cases a <;> simp
theorem fI (n0:Bool) (g:List UInt32) (b:Bool) (z:Int) (h:z≠0→(b=true↔z<0)):F.C7 n0 g b (am z.natAbs)=some (bi z):=by
 rw [qp]
 congr 1
 unfold bi
 congr 1
 by_cases h0:z=0
 ·subst h0
  rw [show am (Int.natAbs 0)=[] from bS]
  simp
 ·have f:am z.natAbs≠[]:=by rw [Ne,gH]; omega
  simp only [ne_eq,f,not_false_eq_true,decide_true,Bool.and_true]
  have:=h h0
  cases b with
  | true=>exact (decide_eq_true (this.1 rfl)).symm
  | false=>exact (decide_eq_false (fun i=>by have:=this.2 i; cases this)).symm
theorem tM (x y:Int) (j:nl x≤70000000000000) (k:nl y≤70000000000000):∃b,F.Dw (bi x).1 (bi x).2 (bi y).1 (bi y).2=some (b,am (x+y).natAbs)∧(x+y≠0→(b=true↔x+y<0)):=by
 unfold F.Dw
 have m:(bi x).2.length≤70000000000000:=j
 have o:(bi y).2.length≤70000000000000:=k
 have f:val (bi x).2=x.natAbs:=aq _
 have g:val (bi y).2=y.natAbs:=aq _
 have h:(bi x).1=decide (x<0):=rfl
 have i:(bi y).1=decide (y<0):=rfl
 by_cases hs:(decide (x<0))=(decide (y<0))
 ·rw [h,i,if_pos (by rw [hs]; exact beq_self_eq_true _),pt _ _ (by omega) (by omega),ae,f,g]
  have:(x<0)↔(y<0):=by simpa using hs
  refine ⟨_,by rw [show (x+y).natAbs=x.natAbs+y.natAbs by omega],fun _=>?_⟩
  rw [decide_eq_true_eq]; omega
 ·have:¬((x<0)↔(y<0)):=by simpa using hs
  rw [h,i,if_neg (by simpa using hs),o3 _ _ (li _) (li _) (by omega) (by omega),ae,f,g]
  unfold cv
  by_cases h1:x.natAbs<y.natAbs
  ·rw [if_pos h1,if_neg (by decide),tL _ _ (z8 (by omega)) (by rw [f,g]; omega) (by omega),ae,f,g]
   refine ⟨_,by rw [show (x+y).natAbs=y.natAbs - x.natAbs by omega],fun _=>?_⟩
   rw [decide_eq_true_eq]; omega
  ·rw [if_neg h1,if_pos (by split <;> decide),tL _ _ (z8 (by omega)) (by rw [f,g]; omega) (by omega),ae,f,g]
   refine ⟨_,by rw [show (x+y).natAbs=x.natAbs - y.natAbs by omega],fun _=>?_⟩
   rw [decide_eq_true_eq]; omega
theorem BA (n0:Bool) (f:List UInt32) (x y:Int) (g:nl x≤70000000000000) (h:nl y≤70000000000000):F.Gp n0 f (bi x).1 (bi x).2 (bi y).1 (bi y).2=some (bi (x+y)):=by
 unfold F.Gp
 obtain ⟨b,i,j⟩:=tM x y g h
 rw [i,ae,fI _ _ _ _ j,ae]
theorem pi (x y:Int) (f:nl x≤70000000000000) (g:nl y≤70000000000000):F.DQ (bi x).1 (bi x).2 (bi y).1 (bi y).2=some (bi (x+y)):=by
 unfold F.DQ
 obtain ⟨b,h,i⟩:=tM x y f g
 rw [h,ae,fI _ _ _ _ i,ae]
theorem qt (x y:Int) (i:nl x≤70000000000000) (j:nl y≤70000000000000):∃b,F.Dw (bi x).1 (bi x).2 (!(bi y).1) (bi y).2=some (b,am (x - y).natAbs)∧(x - y≠0→(b=true↔x - y<0)):=by
 by_cases h0:y=0
 ·-- nought with a sign
  subst h0
  unfold F.Dw
  have t:(bi x).2.length≤70000000000000:=i
  have k:(bi 0).2=[]:=bS
  have es:(bi 0).1=false:=rfl
  have g:val (bi x).2=x.natAbs:=aq _
  rw [k,es]
  have f:(bi x).1=decide (x<0):=rfl
  by_cases hs:x<0
  ·rw [f,if_pos (by rw [decide_eq_true hs]; rfl),pt _ _ (by omega) (by simp),ae,g,eh]
   refine ⟨_,by rw [show (x - 0).natAbs=x.natAbs+0 by omega],fun _=>by rw [decide_eq_true_eq]; omega⟩
  ·rw [f,if_neg (by rw [decide_eq_false hs]; decide),o3 _ _ (li _) qv (by omega) (by simp),ae,g,eh]
   have m:cv x.natAbs 0=if x.natAbs=0 then 0 else 1:=by unfold cv; rw [if_neg (by omega)]
   rw [m,if_pos (by split <;> decide),tL _ _ (by simp) (by rw [eh]; omega) (by omega),ae,g,eh]
   refine ⟨_,by rw [show (x - 0).natAbs=x.natAbs - 0 by omega],fun _=>by rw [decide_eq_true_eq]; omega⟩
 ·have o:(!(bi y).1)=(bi (-y)).1:=by
   unfold bi
   by_cases h:y<0
   ·rw [decide_eq_true h,decide_eq_false (by omega)]; rfl
   ·rw [decide_eq_false h,decide_eq_true (by omega)]; rfl
  have q:(bi y).2=(bi (-y)).2:=by rw [bi2,bi2,Int.natAbs_neg]
  rw [o,q,Int.sub_eq_add_neg]
  exact tM x (-y) i (by rw [wz]; exact j)
theorem xR (n0:Bool) (f:List UInt32) (x y:Int) (g:nl x≤70000000000000) (h:nl y≤70000000000000):F.FN n0 f (bi x).1 (bi x).2 (bi y).1 (bi y).2=some (bi (x - y)):=by
 unfold F.FN
 obtain ⟨b,i,j⟩:=qt x y g h
 rw [i,ae,fI _ _ _ _ j,ae]
theorem vo (x y:Int) (f:nl x≤70000000000000) (g:nl y≤70000000000000):F.Ee (bi x).1 (bi x).2 (bi y).1 (bi y).2=some (bi (x - y)):=by
 unfold F.Ee
 obtain ⟨b,h,i⟩:=qt x y f g
 rw [h,ae,fI _ _ _ _ i,ae]
theorem vi (x y:Int) (f:nl x≤70000000000000) (g:nl y≤70000000000000):F.Hp (bi y).1 (bi y).2 (bi x).1 (bi x).2=some (bi (x - y)):=by
 unfold F.Hp
 obtain ⟨b,h,i⟩:=qt x y f g
 rw [h,ae,fI _ _ _ _ i,ae]
theorem Bb (x y:Int) (h:x*y≠0):((decide (x<0) != decide (y<0))=true↔x*y<0):=by
 have g:x≠0:=fun f=>h (by rw [f,Int.zero_mul])
 have i:y≠0:=fun f=>h (by rw [f,Int.mul_zero])
 by_cases h1:x<0 <;> by_cases h2:y<0
 ·have:=Int.mul_pos_of_neg_of_neg h1 h2
  simp [h1,h2]; omega
 ·have:=Int.mul_neg_of_neg_of_pos h1 (show 0<y by omega)
  simp [h1,h2,this]
 ·have:=Int.mul_neg_of_pos_of_neg (show 0<x by omega) h2
  simp [h1,h2,this]
 ·have:=Int.mul_pos (show 0<x by omega) (show 0<y by omega)
  simp [h1,h2]; omega
theorem sH (n0:Bool) (f:List UInt32) (x y:Int) (h:nl x+nl y≤70368744177664):F.EP n0 f (bi x).1 (bi x).2 (bi y).1 (bi y).2=some (bi (x*y)):=by
 unfold F.EP
 have g:(bi x).2.length+(bi y).2.length≤70368744177664:=h
 rw [ye _ _ (by omega),ae,lA,lA,←Int.natAbs_mul,bis,bis,fI _ _ _ _ (Bb x y),ae]
theorem ug (n0:Bool) (g:List UInt32) (x:Int) (k:-9223372036854775808≤x) (m:x≤9223372036854775807):F.Fo n0 g x=some (bi x):=by
 have f:∀u:UInt64,u.toNat=x.natAbs→F.GU n0 g x u=some (bi x):=by
  intro u j
  unfold F.GU
  dsimp only
  rw [iM,ae,j,fI _ _ _ _ (fun _=>by rw [decide_eq_true_eq]),ae]
 unfold F.Fo
 have i:(UInt64.ofInt x).toNat=(x%18446744073709551616).toNat:=by
  rw [UInt64.ofInt,UInt64.toNat_ofNat']
  have:=Int.emod_nonneg x (show (18446744073709551616:Int)≠0 by decide)
  have:=Int.emod_lt_of_pos x (show (0:Int)<18446744073709551616 by decide)
  omega
 by_cases h:x<0
 ·rw [if_pos (decide_eq_true h)]
  refine f _ ?_
  rw [UInt64.toNat_sub,i]
  have:(0:UInt64).toNat=0:=rfl
  omega
 ·rw [if_neg (by simpa using h)]
  refine f _ ?_
  rw [i]; omega
theorem ic (x:Int) (f:-9223372036854775808≤x) (g:x≤9223372036854775807):F.De x=some (bi x):=by
 unfold F.De
 rw [ug _ _ x f g,ae]
theorem uN (a:List UInt32) (h:a.length≤50000000000000):F.Eo a=some a:=by
 unfold F.Eo
 have f:apO 4 [] a=some a:=by unfold apO; rw [if_pos (by simp; omega)]; simp
 rw [f,ae]
theorem tq (n0:Bool) (f:List UInt32) (x:Int) (h:nl x≤50000000000000):F.DY n0 f (bi x).1 (bi x).2=some (bi x):=by
 unfold F.DY
 rw [uN (bi x).2 h,ae,bi2,bis,fI _ _ _ _ (fun _=>by rw [decide_eq_true_eq]),ae]
theorem r7 (x y:Int):(Int.tdiv x y).natAbs=x.natAbs / y.natAbs:=Int.natAbs_tdiv x y
theorem lI (x y:Int):(Int.tmod x y).natAbs=x.natAbs%y.natAbs:=Int.natAbs_tmod x y
theorem mE (n0 g:Bool) (i j:List UInt32) (x y:Int) (q:y≠0) (k:nl x≤70368744177660) (m:nl y≤70000000000) :
  F.FF n0 i (bi x).1 (bi x).2 (bi y).1 (bi y).2 g j=some ((bi (Int.tdiv x y)).1,(bi (Int.tdiv x y)).2,(bi (Int.tmod x y)).1,(bi (Int.tmod x y)).2):=by
 unfold F.FF
 rw [Cm _ _ (li _) (li _) (by rw [bi2,Ne,gH]; omega) k m,ae,lA,lA]
 dsimp only
 rw [bis,bis,←r7,←lI,fI _ _ _ _ (fun h=>?_),ae,fI _ _ _ _ (fun h=>?_),ae]
 ·show decide (x<0)=true↔_
  rw [decide_eq_true_eq]
  rcases Int.lt_trichotomy x 0 with f | f | f
  ·have:=Int.tmod_nonneg y (show 0≤-x by omega)
   rw [Int.neg_tmod]at this
   omega
  ·subst f; simp at h
  ·have:=Int.tmod_nonneg y (show 0≤x by omega)
   omega
 ·have t:Int.tdiv x y≠0:=h
  show (decide (x<0) != decide (y<0))=true↔_
  by_cases hx:x<0 <;> by_cases hyn:y<0
  ·have:=Int.tdiv_nonneg_of_nonpos_of_nonpos (show x≤0 by omega) (show y≤0 by omega)
   simp [hx,hyn]; omega
  ·simp only [hx,hyn,decide_true,decide_false]
   have o:Int.tdiv x y≤0:=by
    have:=Int.tdiv_nonneg (a:=-x) (b:=y) (by omega) (by omega)
    rw [Int.neg_tdiv]at this; omega
   simp; omega
  ·have o:Int.tdiv x y≤0:=by
    have:=Int.tdiv_nonneg (a:=x) (b:=-y) (by omega) (by omega)
    rw [Int.tdiv_neg]at this; omega
   simp [hx,hyn]; omega
  ·have:=Int.tdiv_nonneg (a:=x) (b:=y) (by omega) (by omega)
   simp [hx,hyn]; omega
end Go.Gk.Bn
end

section
namespace Go.Gk.Bn
open Go Go.Gk Go.Gk.Sh
theorem xD {x y:Int} (f:0<y) (h:Int.tmod x y<0):Int.tdiv x y - 1=x / y∧Int.tmod x y+y=x%y:=by
 have g:=Int.mul_tdiv_add_tmod x y
 have i:(Int.tmod x y).natAbs<y.natAbs:=by rw [lI]; exact Nat.mod_lt _ (by omega)
 have j:y*Int.tdiv x y=y*(Int.tdiv x y - 1)+y:=by rw [Int.mul_sub,Int.mul_one]; omega
 have:=(Int.ediv_emod_unique (a:=x) (b:=y) (q:=Int.tdiv x y - 1) (r:=Int.tmod x y+y) f).2 ⟨by omega,by omega,by omega⟩
 exact ⟨this.1.symm,this.2.symm⟩
theorem wr {x y:Int} (f:0<y) (h:¬Int.tmod x y<0):Int.tdiv x y=x / y∧Int.tmod x y=x%y:=by
 have g:=Int.mul_tdiv_add_tmod x y
 have i:(Int.tmod x y).natAbs<y.natAbs:=by rw [lI]; exact Nat.mod_lt _ (by omega)
 have:=(Int.ediv_emod_unique (a:=x) (b:=y) (q:=Int.tdiv x y) (r:=Int.tmod x y) f).2 ⟨by omega,by omega,by omega⟩
 exact ⟨this.1.symm,this.2.symm⟩
theorem Aq (x y:Int):nl (Int.tdiv x y)≤nl x:=fw (by rw [r7]; exact Nat.div_le_self _ _)
theorem Bd (x y:Int):nl (Int.tmod x y)≤nl x:=fw (by rw [lI]; exact Nat.mod_le _ _)
theorem sX:nl 1≤1:=rB (by decide)
theorem ra (n0 m:Bool) (o q:List UInt32) (x y:Int) (j:0<y) (t:nl x≤70368744177660) (z:nl y≤70000000000) (k:x<0→nl x≤70000000000000) :
  F.FK n0 o (bi x).1 (bi x).2 (bi y).1 (bi y).2 m q=some ((bi (x / y)).1,(bi (x / y)).2,(bi (x%y)).1,(bi (x%y)).2):=by
 have A:=Aq x y; have B:=Bd x y; have G:=sX
 unfold F.FK
 rw [tq _ _ _ (by omega),ae,mE _ _ _ _ _ _ (by omega) t z,ae]
 dsimp only
 by_cases h:Int.tmod x y<0
 ·obtain ⟨f,g⟩:=xD j h
  have k:=k (by rcases Int.lt_or_le x 0 with i | i; exact i; have:=Int.tmod_nonneg y i; omega)
  rw [if_pos (show (bi (Int.tmod x y)).1=true from decide_eq_true h),if_neg (by rw [bi1 (by omega)]; decide),ic 1 (by decide) (by decide),ae,vo _ _ (by omega) (by omega),ae,pi _ _ (by omega) (by omega),ae,f,g]
  rfl
 ·obtain ⟨f,g⟩:=wr j h
  rw [if_neg (by rw [show (bi (Int.tmod x y)).1=false from decide_eq_false h]; decide),f,g]
  rfl
theorem rv (n0 f h:Bool) (i g j:List UInt32):F.IE n0 i h j f g=F.FK n0 i f g h j f g:=rfl
theorem x7 (n0:Bool) (f:List UInt32) (x y:Int) (g:0<y) (h:nl x≤70368744177660) (i:nl y≤70000000000) (j:x<0→nl x≤70000000000000):F.G2 n0 f (bi x).1 (bi x).2 (bi y).1 (bi y).2=some (bi (x%y)):=by
 unfold F.G2
 rw [ra _ _ _ _ x y g h i j,ae]
theorem wn (x y:Int) (f:0<y) (g:nl x≤70368744177660) (h:nl y≤70000000000) (i:x<0→nl x≤70000000000000):F.Ip (bi x).1 (bi x).2 (bi y).1 (bi y).2=some (bi (x%y)):=by
 unfold F.Ip
 rw [rv,ra _ _ _ _ x y f g h i,ae]
def rS (x y:Int):Int:=if x<y then -1 else if x=y then 0 else 1
theorem o8 (x y:Int) (i:nl x≤70368744177664) (j:nl y≤70368744177664):F.D7 (bi x).1 (bi x).2 (bi y).1 (bi y).2=some (rS x y):=by
 have o:(bi x).2.length≤70368744177664:=i
 have t:(bi y).2.length≤70368744177664:=j
 unfold F.D7 rS
 rw [o3 _ _ (li x) (li y) (by omega) (by omega),lA,lA]
 unfold cv
 have f:(bi x).1=decide (x<0):=rfl
 have g:(bi y).1=decide (y<0):=rfl
 obtain ⟨z,k⟩:∃q,(bi x).1=q:=⟨_,rfl⟩
 obtain ⟨A,m⟩:∃q,(bi y).1=q:=⟨_,rfl⟩
 rw [k]at f ⊢; rw [m]at g ⊢
 by_cases h1:x<0 <;> by_cases h2:y<0
 ·rw [decide_eq_true h1]at f; rw [decide_eq_true h2]at g; subst f; subst g
  rw [if_neg (by decide),ae,if_pos rfl]
  rcases Int.lt_trichotomy x y with h | h | h
  ·rw [if_pos h,if_neg (by omega),if_neg (by omega)]; rfl
  ·rw [if_neg (by omega),if_pos (by omega),if_neg (by omega),if_pos h]; rfl
  ·rw [if_pos (by omega),if_neg (by omega),if_neg (by omega)]; rfl
 ·rw [decide_eq_true h1]at f; rw [decide_eq_false h2]at g; subst f; subst g
  rw [if_pos (by decide),if_pos rfl,if_pos (by omega)]
 ·rw [decide_eq_false h1]at f; rw [decide_eq_true h2]at g; subst f; subst g
  rw [if_pos (by decide),if_neg (by decide),if_neg (by omega),if_neg (by omega)]
 ·rw [decide_eq_false h1]at f; rw [decide_eq_false h2]at g; subst f; subst g
  rw [if_neg (by decide),ae,if_neg (by decide)]
  rcases Int.lt_trichotomy x y with h | h | h
  ·rw [if_pos (by omega),if_pos h]
  ·rw [if_neg (by omega),if_pos (by omega),if_neg (by omega),if_pos h]
  ·rw [if_neg (by omega),if_neg (by omega),if_neg (by omega),if_neg (by omega)]
theorem p9 (x:Int):F.Dk (bi x).1 (bi x).2=some (if x=0 then 0 else if x<0 then -1 else 1):=by
 unfold F.Dk
 by_cases h:x=0
 ·subst h; rw [if_pos rfl]; exact if_pos (by rw [bi2,show Int.natAbs 0=0 from rfl,bS]; rfl)
 ·have:(bi x).2.length≠0:=fun f=>h (by have:=List.eq_nil_of_length_eq_zero f; rw [bi2,gH]at this; omega)
  rw [if_neg (by simpa using fun f=>this (by rw [f]; rfl)),if_neg h,bis]
  by_cases h1:x<0
  ·rw [if_pos (by simp [h1]),if_pos h1]
  ·rw [if_neg (by simp [h1]),if_neg h1]
def beN:List UInt8→Nat
 | []=>0
 | x :: l=>x.toNat*256^l.length+beN l
def beB:Nat→Nat→List UInt8
 | 0,_=>[]
 | k+1,n=>UInt8.ofNat (n / 256^k) :: beB k n
theorem jH:∀k n,(beB k n).length=k
 | 0,_=>rfl
 | k+1,n=>by simp [beB,jH k n]
theorem gF:∀l:List UInt8,beN l<256^l.length
 | []=>by simp [beN]
 | x :: l=>by
  have f:=gF l; have g:=x.toNat_lt
  have:(x.toNat+1)*256^l.length≤256*256^l.length:=Nat.mul_le_mul_right _ (by omega)
  rw [Nat.add_mul]at this
  rw [beN,List.length_cons,Nat.pow_succ,Nat.mul_comm (256^_) 256]
  omega
theorem pT:∀k n,beN (beB k n)=n%256^k
 | 0,n=>by simp [beB,beN,Nat.mod_one]
 | k+1,n=>by
  rw [beB,beN,jH,pT k n,UInt8.toNat_ofNat',show (2:Nat)^8=256 from rfl,Nat.mod_pow_succ,Nat.mul_comm (256^k),Nat.add_comm]
theorem lT:∀a b:List UInt8,beN (a++b)=beN a*256^b.length+beN b
 | [],b=>by simp [beN]
 | x :: a,b=>by
  rw [List.cons_append,beN,beN,lT a b,List.length_append,Nat.add_mul,Nat.pow_add,Nat.mul_assoc]; omega
theorem gK (l:List UInt8) {i:Nat} (h:i<l.length):beN (l.take (i+1))=256*beN (l.take i)+(l.getD i 0).toNat:=by
 rw [List.take_add_one,List.getD_eq_getElem?_getD,List.getElem?_eq_getElem h,lT]
 simp [beN]; omega
theorem tl:∀(k n i:Nat),i<k→(beB k n).getD i 0=UInt8.ofNat (n / 256^(k - 1 - i))
 | 0,_,_,h=>by omega
 | k+1,n,0,_=>by simp [beB]
 | k+1,n,i+1,h=>by
  rw [beB,List.getD_cons_succ,tl k n i (by omega),show k+1 - 1 - (i+1)=k - 1 - i by omega]
theorem fj {n k:Nat} (h:n<256^k):(am n).length≤(k+3) / 4:=by
 refine bj (Nat.lt_of_lt_of_le h ?_)
 rw [show (4294967296:Nat)=256^4 from rfl,←Nat.pow_mul]
 exact Nat.pow_le_pow_right (by decide) (by omega)
theorem kI (n0:Bool) (j:List UInt32) (b:List UInt8) (t:b.length≤140737488351232):F.EF n0 j b=some (bi (beN b:Nat)):=by
 unfold F.EF
 have e:=bY (f:=F.Gf n0 j b) (fun (x:Nat) i=>(am x,(i:Int))) (fun i x=>i≤b.length→x=beN (b.take i)) (fun x i=>256*x+(b.getD i 0).toNat) 0 b.length
  (X:=fun x=>some (bi (x:Nat)))
  (fun i x _ hi g=>by
   have g:=g (by omega)
   refine ⟨?_,fun _=>by rw [g,gK b hi]⟩
   have m:wI ((i:Int)+1)=((i+1:Nat):Int):=by rw [aJ (by omega) (by omega)]; rfl
   have y:(am x).length≤(i+3) / 4:=by
    rw [g]
    have:=gF (b.take i)
    rw [List.length_take,Nat.min_eq_left (by omega)]at this
    exact fj this
   have k:(8:UInt64).toNat=8:=rfl
   unfold F.Gf
   dsimp only
   rw [if_pos (decide_eq_true (by omega)),pY _ 8 (by rw [k]; omega) (by omega),ae,aO hi 0,ae,iM,ae,aq,k]
   have o:(am (x*2^8)).length≤(i+3) / 4+1:=by
    have:=g8 x (2^8)
    have z:(am (2^8)).length≤1:=bj (by decide)
    omega
   have q:(am (b.getD i 0).toUInt64.toNat).length≤2:=bj (by have:=(b.getD i 0).toUInt64.toNat_lt; omega)
   rw [pt _ _ (by omega) (by omega),ae,aq,aq,m]
   have:(b.getD i 0).toUInt64.toNat=(b.getD i 0).toNat:=UInt8.toNat_toUInt64 _
   rw [this,show x*2^8=256*x by omega]; rfl)
  (fun x g=>by
   unfold F.Gf
   dsimp only
   rw [if_neg (by simp),qp,ae,wW]; rfl)
  b.length 0 0 (Nat.le_refl _) (by omega) (fun _=>by simp [beN])
 have h:=cD (fun i (x:Nat)=>i≤b.length→x=beN (b.take i)) (fun x i=>256*x+(b.getD i 0).toNat) (fun i x g=>fun hi=>by rw [g (by omega),gK b (by omega)]) b.length 0 0 (fun _=>by simp [beN])
 rw [Nat.zero_add]at h
 have h:=h (Nat.le_refl _)
 rw [h,List.take_length]at e
 rw [bS]at e
 exact e
end Go.Gk.Bn
end

section
namespace Go.Gk.Bn
open Go Go.Gk Go.Gk.Sh
theorem mu {n k:Nat} (f:n<2^k) (g:2^(k - 1)≤n) (i:1≤k):nb n=k:=by
 have j:=lO f
 rcases Nat.lt_or_ge (nb n) k with h | h
 ·have m:=(dS n).1
  have o:=Nat.pow_le_pow_right (show 0<2 by decide) (show nb n≤k - 1 by omega)
  omega
 ·omega
theorem kJ (n:Nat):i0 (am n)=nb n:=by
 unfold i0
 by_cases h0:n=0
 ·subst h0; rw [bS,if_pos (show ([]:List UInt32).length=0 from rfl),gm]
 ·obtain ⟨l,f⟩:∃l,am n=l:=⟨_,rfl⟩
  have g:l.length≠0:=by have:=fc.2 h0; rw [f]at this; omega
  have o:val l=n:=by rw [←f,aq]
  have hc:Can l:=by rw [←f]; exact qV n
  rw [f,if_neg g]
  have i:=bL l (l.length - 1)
  rw [show l.length - 1+1=l.length by omega,List.take_length,o]at i
  have q:=bv (l.take (l.length - 1))
  rw [List.length_take,Nat.min_eq_left (by omega)]at q
  obtain ⟨t,j⟩:∃t,l.getD (l.length - 1) 0=t:=⟨_,rfl⟩
  rw [j]at i ⊢
  have k:t.toNat≠0:=by
   intro h
   have h:t=0:=UInt32.toNat_inj.1 h
   refine hc ?_
   rw [List.getLast?_eq_getElem?]
   rw [←j,List.getD_eq_getElem?_getD,List.getElem?_eq_getElem (show l.length - 1<l.length by omega)]at h
   rw [List.getElem?_eq_getElem (show l.length - 1<l.length by omega),←h]; rfl
  obtain ⟨n1,x⟩:=dS t.toNat
  obtain ⟨y,z⟩:=x k
  have m:(4294967296:Nat)^(l.length - 1)=2^(32*(l.length - 1)):=by rw [Nat.pow_mul]
  symm
  refine mu ?_ ?_ (by omega)
  ·rw [Nat.pow_add,←m]
   have:4294967296^(l.length - 1)*(t.toNat+1)≤4294967296^(l.length - 1)*2^nb t.toNat:=Nat.mul_le_mul_left _ n1
   rw [Nat.mul_add]at this
   omega
  ·rw [show 32*(l.length - 1)+nb t.toNat - 1=32*(l.length - 1)+(nb t.toNat - 1) by omega,Nat.pow_add,←m]
   have:4294967296^(l.length - 1)*2^(nb t.toNat - 1)≤4294967296^(l.length - 1)*t.toNat:=Nat.mul_le_mul_left _ y
   omega
def nby (n:Nat):Nat:=(nb n+7) / 8
theorem tG (k:Nat):(256:Nat)^k=2^(8*k):=by rw [Nat.pow_mul]
theorem x6 (n:Nat):n<256^nby n:=by
 rw [tG]
 exact Nat.lt_of_lt_of_le (dS n).1 (Nat.pow_le_pow_right (by decide) (by unfold nby; omega))
theorem BI {n i:Nat} (h:i<nby n):256^i≤n:=by
 rw [tG]
 have f:n≠0:=by rintro rfl; unfold nby at h; rw [gm]at h; omega
 obtain ⟨g,j⟩:=(dS n).2 f
 exact Nat.le_trans (Nat.pow_le_pow_right (by decide) (by unfold nby at h; omega)) g
theorem je (n:Nat):nb n≤32*(am n).length:=by
 refine lO ?_
 have:=bv (am n)
 rw [aq]at this
 rw [Nat.pow_mul]; exact this
theorem qK (l:List UInt32) (i:Nat):(bu (l.getD (i / 4) 0) (8*(i%4))).toUInt8=UInt8.ofNat (val l / 256^i):=by
 apply UInt8.toNat_inj.1
 rw [UInt32.toNat_toUInt8,f9,UInt8.toNat_ofNat']
 have e8:(2:Nat)^8=256:=rfl
 rw [e8]
 have f:(256:Nat)^i=4294967296^(i / 4)*256^(i%4):=by
  rw [show (4294967296:Nat)=256^4 from rfl,←Nat.pow_mul,←Nat.pow_add]; congr 1; omega
 rw [f,←Nat.div_div_eq_div_mul,eN,cg]
 obtain ⟨w,g⟩:∃w,(l.getD (i / 4) 0).toNat=w:=⟨_,rfl⟩
 obtain ⟨R,j⟩:∃R,val (l.drop (i / 4+1))=R:=⟨_,rfl⟩
 rw [g,j]
 have:i%4=0∨i%4=1∨i%4=2∨i%4=3:=by omega
 rcases this with h | h | h | h <;> rw [h] <;> simp <;> omega
theorem zl (x:Int) (z:nl x≤1000000000):F.Hv (bi x).1 (bi x).2=some (beB (nby x.natAbs) x.natAbs):=by
 obtain ⟨n,o⟩:∃n,x.natAbs=n:=⟨_,rfl⟩
 have U:(am n).length≤1000000000:=by rw [←o]; exact z
 have V:=je n
 obtain ⟨m,j⟩:∃m,nby n=m:=⟨_,rfl⟩
 have O:m≤4*(am n).length:=by rw [←j]; unfold nby; omega
 unfold F.Hv
 rw [bi2,o,length_eq _ (by omega),ae,kJ]
 have A:wI (Int.tdiv (wI ((nb n:Int)+7)) 8)=(m:Int):=by
  rw [aJ (x:=(nb n:Int)+7) (by omega) (by omega),Int.tdiv_eq_ediv_of_nonneg (by omega),aJ (by omega) (by omega),←j]; unfold nby; omega
 rw [A,aS,dQ (by omega),ae,Int.toNat_natCast,j]
 have e:=bY (f:=F.Hh (am n) (m:Int)) (fun (y:List UInt8) i=>((i:Int),y)) (fun i y=>i≤m→y=List.replicate (m - i) 0++beB i n) (fun y i=>y.set (m - 1 - i) (UInt8.ofNat (n / 256^i))) 0 m
  (X:=fun y=>some y)
  (fun i y _ hi g=>by
   have g:=g (by omega)
   have q:y.set (m - 1 - i) (UInt8.ofNat (n / 256^i))=List.replicate (m - (i+1)) 0++beB (i+1) n:=by
    rw [g,show m - i=m - (i+1)+1 by omega,List.replicate_succ',List.append_assoc,show m - 1 - i=m - (i+1) by omega,List.set_append_right _ _ (by simp)]
    simp [beB]
   refine ⟨?_,fun _=>q⟩
   have t:i / 4<(am n).length:=by
    refine nk (k:=i / 4) ?_
    refine Nat.le_trans ?_ (BI (show i<nby n by omega))
    rw [show (4294967296:Nat)=256^4 from rfl,←Nat.pow_mul]
    exact Nat.pow_le_pow_right (by decide) (by omega)
   have R:y.length=m:=by rw [g]; simp [jH]; omega
   have B:wI ((i:Int)+1)=((i+1:Nat):Int):=by rw [aJ (by omega) (by omega)]; rfl
   have G:wI (Int.tdiv (i:Int) 4)=((i / 4:Nat):Int):=by rw [Int.tdiv_eq_ediv_of_nonneg (by omega),aJ (by omega) (by omega)]; omega
   have I:wI ((wI ((m:Int) - 1)) - (i:Int))=((m - 1 - i:Nat):Int):=by rw [aJ (x:=(m:Int) - 1) (by omega) (by omega),aJ (by omega) (by omega)]; omega
   have J:(8*((UInt64.ofInt (i:Int))%4)).toNat=8*(i%4):=by
    have K:(UInt64.ofInt (i:Int)).toNat=i:=by
     rw [UInt64.ofInt,UInt64.toNat_ofNat']
     omega
    have M:(4:UInt64).toNat=4:=rfl
    have N:(8:UInt64).toNat=8:=rfl
    rw [UInt64.toNat_mul,UInt64.toNat_mod,K,M,N]; omega
   unfold F.Hh
   dsimp only
   rw [if_pos (decide_eq_true (by omega)),G,aO t 0,ae,I,aO (show m - 1 - i<y.length by omega) 0,ae,aS,Int.toNat_natCast,J,qK,aq,B]
   rfl)
  (fun y g=>by
   unfold F.Hh
   dsimp only
   rw [if_neg (by simp)])
  m 0 (List.replicate m 0) (Nat.le_refl _) (by omega) (fun _=>by simp [beB])
 have h:=cD (fun i (y:List UInt8)=>i≤m→y=List.replicate (m - i) 0++beB i n) (fun y i=>y.set (m - 1 - i) (UInt8.ofNat (n / 256^i)))
  (fun i y g=>fun hi=>by
   rw [g (by omega),show m - i=m - (i+1)+1 by omega,List.replicate_succ',List.append_assoc,show m - 1 - i=m - (i+1) by omega,List.set_append_right _ _ (by simp)]
   simp [beB]) m 0 (List.replicate m 0) (fun _=>by simp [beB])
 rw [Nat.zero_add]at h
 have h:=h (Nat.le_refl _)
 rw [h,Nat.sub_self,List.replicate_zero,List.nil_append]at e
 exact e
def iI (c:UInt8):Nat:=if c.toNat≤57 then c.toNat - 48 else c.toNat - 87
def ef (c:UInt8):Bool:=(48≤c.toNat&&c.toNat≤57) || (97≤c.toNat&&c.toNat≤102)
def dF:List UInt8→Nat
 | []=>0
 | x :: l=>iI x*16^l.length+dF l
theorem qo {c:UInt8} (h:ef c=true):iI c<16:=by
 unfold ef at h; unfold iI
 simp only [Bool.or_eq_true,Bool.and_eq_true,decide_eq_true_eq]at h
 split <;> omega
theorem kD:∀a b:List UInt8,dF (a++b)=dF a*16^b.length+dF b
 | [],b=>by simp [dF]
 | x :: a,b=>by
  rw [List.cons_append,dF,dF,kD a b,List.length_append,Nat.add_mul,Nat.pow_add,Nat.mul_assoc]; omega
theorem qd:∀l:List UInt8,l.all ef=true→dF l<16^l.length
 | [],_=>by simp [dF]
 | x :: l,h=>by
  rw [List.all_cons,Bool.and_eq_true]at h
  have f:=qd l h.2; have g:=qo h.1
  have:(iI x+1)*16^l.length≤16*16^l.length:=Nat.mul_le_mul_right _ (by omega)
  rw [Nat.add_mul]at this
  rw [dF,List.length_cons,Nat.pow_succ,Nat.mul_comm (16^_) 16]
  omega
theorem iQ (l:List UInt8) {i:Nat} (h:i<l.length):dF (l.take (i+1))=16*dF (l.take i)+iI (l.getD i 0):=by
 rw [List.take_add_one,List.getD_eq_getElem?_getD,List.getElem?_eq_getElem h,kD]
 simp [dF]; omega
theorem oS {l:List UInt8} {p:UInt8→Bool} (h:l.all p=true) {i:Nat} (hi:i<l.length):p (l.getD i 0)=true:=by
 rw [List.getD_eq_getElem?_getD,List.getElem?_eq_getElem hi]
 exact List.all_eq_true.1 h _ (List.getElem_mem hi)
theorem zi {l:List UInt8} {p:UInt8→Bool} (h:l.all p=true) (i:Nat):(l.take i).all p=true:=
 List.all_eq_true.2 fun x f=>List.all_eq_true.1 h x (List.mem_of_mem_take f)
theorem zv (n0:Bool) (q:List UInt32) (t:Bool) (s:List UInt8) (n i:Nat) (x:s.all ef=true) (hi:i<s.length) (A:s.length≤1000000000) (B:(am n).length≤1000000000) :
  F.ES n0 q t s 16 (am n,(i:Int))=some (.inl (am (16*n+iI (s.getD i 0)),((i+1:Nat):Int))):=by
 have hc:=oS x hi
 obtain ⟨c,j⟩:∃c,s.getD i 0=c:=⟨_,rfl⟩
 rw [j]at hc ⊢
 have y:=qo hc
 have z:wI ((i:Int)+1)=((i+1:Nat):Int):=by rw [aJ (by omega) (by omega)]; rfl
 have k:∀d:Nat,d<16→F.D5 16 (am n) (i:Int) (d:Int)=some (.inl (am (16*n+d),((i+1:Nat):Int))):=by
  intro d y
  unfold F.D5
  have m:(UInt64.ofInt 16).toNat=16:=rfl
  have o:(UInt64.ofInt (d:Int)).toNat=d:=by rw [UInt64.ofInt,UInt64.toNat_ofNat']; omega
  have f:(am 16).length≤1:=bj (by decide)
  have g:(am d).length≤1:=bj (by omega)
  have G:=g8 n 16
  rw [if_neg (by simp only [decide_eq_true_eq]; omega),iM,ae,m,ye _ _ (by omega),ae,iM,ae,o,aq,aq,pt _ _ (by omega) (by omega),ae,aq,aq,z,Nat.mul_comm n 16]
  rfl
 unfold F.ES
 dsimp only
 rw [if_pos (decide_eq_true (by omega)),aO hi 0,ae,j]
 unfold ef at hc
 simp only [Bool.or_eq_true,Bool.and_eq_true,decide_eq_true_eq]at hc
 rw [if_pos (decide_eq_true (by rw [UInt8.le_iff_toNat_le]; have:(48:UInt8).toNat=48:=rfl; omega))]
 unfold F.HZ
 by_cases h:c.toNat≤57
 ·have f:(c - 48).toNat=c.toNat - 48:=UInt8.toNat_sub_of_le _ _ (by rw [UInt8.le_iff_toNat_le]; have:(48:UInt8).toNat=48:=rfl; omega)
  have g:iI c=c.toNat - 48:=if_pos h
  rw [if_pos (decide_eq_true (by rw [UInt8.le_iff_toNat_le]; exact h)),aS,f,g]
  exact k _ (by omega)
 ·have f:(c - 97).toNat=c.toNat - 97:=UInt8.toNat_sub_of_le _ _ (by rw [UInt8.le_iff_toNat_le]; have:(97:UInt8).toNat=97:=rfl; omega)
  have g:iI c=c.toNat - 87:=if_neg h
  rw [if_neg (by rw [decide_eq_true_eq,UInt8.le_iff_toNat_le]; exact h),if_pos (decide_eq_true (by rw [UInt8.le_iff_toNat_le]; have:(97:UInt8).toNat=97:=rfl; omega))]
  unfold F.HI
  rw [if_pos (decide_eq_true (by rw [UInt8.le_iff_toNat_le]; have:(122:UInt8).toNat=122:=rfl; omega)),aS,f,aJ (by omega) (by omega),g,show ((c.toNat - 97:Nat):Int)+10=((c.toNat - 87:Nat):Int) by omega]
  exact k _ (by omega)
theorem rL (n0:Bool) (o:List UInt32) (s:List UInt8) (q:s.all ef=true) (t:s≠[]) (y:s.length≤1000000000):F.Hs n0 o s 16=some (true,false,am (dF s)):=by
 have z:0<s.length:=List.length_pos_iff.2 t
 have hc:=oS q z
 unfold ef at hc
 simp only [Bool.or_eq_true,Bool.and_eq_true,decide_eq_true_eq]at hc
 have m:∀d:UInt8,d.toNat<48→(s.getD 0 0 == d)=false:=fun d G=>by
  rw [beq_eq_false_iff_ne]; intro h; rw [h]at hc; omega
 unfold F.Hs
 rw [if_pos (decide_eq_true (by omega)),show (0:Int)=((0:Nat):Int) from rfl,aO z 0,ae,if_neg (by rw [m 45 (by decide)]; decide),ae,m 43 (by decide)]
 unfold F.G0 F.Ic
 rw [if_neg (by decide)]
 dsimp only
 rw [if_neg (by decide)]
 unfold F.ET
 dsimp only
 rw [if_neg (by simpa using t),if_neg (by decide)]
 unfold F.FL
 rw [if_neg (by decide)]
 have B:∀i,i≤s.length→(am (dF (s.take i))).length≤1000000000:=fun i hi=>by
  have A:=qd (s.take i) (zi q i)
  rw [List.length_take,Nat.min_eq_left hi]at A
  have I:=fj (k:=i) (Nat.lt_of_lt_of_le A (Nat.pow_le_pow_left (by decide) i))
  omega
 have e:=bY (f:=F.ES n0 o false s 16) (fun (x:Nat) i=>(am x,(i:Int))) (fun i x=>i≤s.length→x=dF (s.take i)) (fun x i=>16*x+iI (s.getD i 0)) 0 s.length
  (X:=fun x=>some (true,false,am x))
  (fun i x _ hi g=>by
   have g:=g (by omega)
   exact ⟨zv n0 o false s x i q hi y (by rw [g]; exact B i (by omega)),fun _=>by rw [g,iQ s hi]⟩)
  (fun x g=>by
   unfold F.ES
   dsimp only
   rw [if_neg (by simp),qp,ae]; rfl)
  s.length 0 0 (Nat.le_refl _) (by omega) (fun _=>by simp [dF])
 have j:=cD (fun i (x:Nat)=>i≤s.length→x=dF (s.take i)) (fun x i=>16*x+iI (s.getD i 0)) (fun i x g=>fun hi=>by rw [g (by omega),iQ s (by omega)]) s.length 0 0 (fun _=>by simp [dF])
 rw [Nat.zero_add]at j
 have j:=j (Nat.le_refl _)
 rw [j,List.take_length,bS]at e
 exact e
end Go.Gk.Bn
end

section
namespace Go.Gk.Bn
open Go Go.Gk Go.Gk.Sh
theorem ou (a:List UInt32) (o:a.length≤4611686018427387904):∀k,k≤a.length→(∀j,k≤j→a.getD j 0=0)→∃m,loop (F.GX a) k=some m∧m≤a.length∧a.take m=am (val a)
 | 0,_,hz=>by
  refine ⟨0,?_,by omega,kl (by omega) hz (.inl rfl)⟩
  have h:F.GX a 0=bo (grd (0≤(((a.take 0).length:Int):Int)∧(((a.take 0).length:Int):Int).toNat≤(a.take 0).length∧(((a.take 0).length:Int):Int)=((a.take 0).length:Int)) <| some ((((a.take 0).length:Int):Int).toNat)):=rfl
  rw [bO h,grd_true _ (by simp)]; rfl
 | k+1,hk,hz=>by
  have g:(a.take (k+1)).length=k+1:=by rw [List.length_take]; omega
  have w:wI (((k+1:Nat):Int) - 1)=(k:Int):=by rw [aJ (by omega) (by omega)]; omega
  have q:aA (a.take (k+1)) (k:Int)=some (a.getD k 0):=by
   rw [aO (show k<(a.take (k+1)).length by omega) 0]
   congr 1
   rw [List.getD_eq_getElem?_getD,List.getElem?_take,if_pos (by omega),←List.getD_eq_getElem?_getD]
  have f:F.GX a (k+1)=if (decide ((0:Int)<((a.take (k+1)).length:Int)))=true then ah (aA (a.take (k+1)) (wI (((a.take (k+1)).length:Int) - 1):Int)) fun i=>F.D9 a (k+1) (i == 0) else F.D9 a (k+1) false:=rfl
  rw [g,if_pos (decide_eq_true (by omega)),w,q,ae]at f
  by_cases h0:a.getD k 0=0
  ·obtain ⟨m,t,x⟩:=ou a o k (by omega) (fun j z=>by
    rcases Nat.lt_or_ge k j with h | h
    ·exact hz j (by omega)
    ·rw [show j=k by omega]; exact h0)
   refine ⟨m,?_,x⟩
   rw [←t]
   refine bI ?_
   rw [f,h0]
   unfold F.D9
   rw [if_pos (by rfl),g,w,grd_true _ (by omega)]; rfl
  ·refine ⟨k+1,?_,hk,kl hk hz (.inr (by simpa using h0))⟩
   have y:(a.getD k 0 == 0)=false:=by rw [beq_eq_false_iff_ne]; exact h0
   rw [y]at f
   unfold F.D9 at f
   rw [if_neg (by decide),g]at f
   rw [bO f,grd_true _ (by omega)]; rfl
theorem eJ (a:List UInt32) (f:a.length≤4611686018427387904):∃m,F.Dj a=some m∧m≤a.length∧a.take m=am (val a):=
 ou a f a.length (Nat.le_refl _) fun j g=>dN g
theorem eu (a:List UInt32) (f:a.length≤4611686018427387904):∃m,F.C9 a=some m∧m≤a.length∧a.take m=am (val a):=by
 obtain ⟨m,g,h⟩:=eJ a f
 exact ⟨m,by unfold F.C9; rw [g,ae],h⟩
theorem rN {n k:Nat} (h:2^k≤n):nb n=nb (n / 2^k)+k:=by
 have f:=Nat.two_pow_pos k
 have g:n / 2^k≠0:=by
  have:=Nat.div_le_div_right (c:=2^k) h
  rw [Nat.div_self f]at this; omega
 obtain ⟨i,j⟩:=dS (n / 2^k)
 obtain ⟨m,o⟩:=j g
 refine mu ?_ ?_ (by omega)
 ·rw [Nat.pow_add]; exact (Nat.div_lt_iff_lt_mul f).1 i
 ·rw [show nb (n / 2^k)+k - 1=nb (n / 2^k) - 1+k by omega,Nat.pow_add]
  exact (Nat.le_div_iff_mul_le f).1 m
def qj:List UInt8:=[0,1,2,2,3,3,3,3,4,4,4,4,4,4,4,4,5,5,5,5,5,5,5,5,5,5,5,5,5,5,5,5,6,6,6,6,6,6,6,6,6,6,6,6,6,6,6,6,6,6,6,6,6,6,6,6,6,6,6,6,6,6,6,6,7,7,7,7,7,7,7,7,7,7,7,7,7,7,7,7,7,7,7,7,7,7,7,7,7,7,7,7,7,7,7,7,7,7,7,7,7,7,7,7,7,7,7,7,7,7,7,7,7,7,7,7,7,7,7,7,7,7,7,7,7,7,7,7,8,8,8,8,8,8,8,8,8,8,8,8,8,8,8,8,8,8,8,8,8,8,8,8,8,8,8,8,8,8,8,8,8,8,8,8,8,8,8,8,8,8,8,8,8,8,8,8,8,8,8,8,8,8,8,8,8,8,8,8,8,8,8,8,8,8,8,8,8,8,8,8,8,8,8,8,8,8,8,8,8,8,8,8,8,8,8,8,8,8,8,8,8,8,8,8,8,8,8,8,8,8,8,8,8,8,8,8,8,8,8,8,8,8,8,8,8,8,8,8,8,8,8,8,8,8,8,8]
def ck (i:Nat) (t:Nat):Bool:=Nat.blt i (2^t)&&(Nat.beq i 0&&Nat.beq t 0 || Nat.ble (2^(t - 1)) i&&Nat.ble 1 t)
def ckA:List UInt8→Nat→Bool
 | [],_=>true
 | x :: l,i=>ck i x.toNat&&ckA l (i+1)
theorem xw:∀(l:List UInt8) (i j:Nat),ckA l i=true→j<l.length→ck (i+j) (l.getD j 0).toNat=true
 | [],_,_,_,h=>by simp at h
 | x :: l,i,0,h,_=>by
  rw [ckA,Bool.and_eq_true]at h
  exact h.1
 | x :: l,i,j+1,h,hj=>by
  rw [ckA,Bool.and_eq_true]at h
  have:=xw l (i+1) j h.2 (by simpa using hj)
  rw [List.getD_cons_succ,show i+(j+1)=i+1+j by omega]
  exact this
theorem Av:ckA qj 0=true:=by decide +kernel
theorem yY:Nat.beq qj.length 256=true:=by decide +kernel
theorem jp (b:Nat) (j:b<256):∃t:UInt8,aA qj (b:Int)=some t∧t.toNat=nb b:=by
 have k:=Nat.eq_of_beq_eq_true yY
 have h:=xw qj 0 b Av (by omega)
 rw [Nat.zero_add]at h
 unfold ck at h
 rw [Bool.and_eq_true,Bool.or_eq_true,Bool.and_eq_true,Bool.and_eq_true]at h
 obtain ⟨i,f⟩:=h
 rw [Nat.blt_eq]at i
 refine ⟨qj.getD b 0,aO (by omega) 0,?_⟩
 rcases f with ⟨f,g⟩ | ⟨f,g⟩
 ·rw [Nat.eq_of_beq_eq_true f,gm]
  rw [Nat.eq_of_beq_eq_true f]at g
  exact Nat.eq_of_beq_eq_true g
 ·exact (mu i (Nat.le_of_ble_eq_true f) (Nat.le_of_ble_eq_true g)).symm
theorem tP (y:UInt32) (k:Int):F.Gv (y,k)=ah (aA qj (y.toUInt8.toNat:Int)) fun g=>br (wI (k+(g.toNat:Int))) fun f=>some f:=rfl
theorem rO (x:UInt32):F.G1 x=some (nb x.toNat:Int):=by
 have z:=cw x
 have i:∀(y:UInt32) (k:Nat),y.toNat<256→k≤24→F.Gv (y,(k:Int))=some ((nb y.toNat+k:Nat):Int):=by
  intro y k g m
  have f:y.toUInt8.toNat=y.toNat:=by rw [UInt32.toNat_toUInt8]; omega
  obtain ⟨t,o,q⟩:=jp y.toNat g
  have A:=lO (n:=y.toNat) (k:=8) g
  rw [tP,f,o,ae,aS,q,aJ (by omega) (by omega)]
  congr 1; omega
 have j:∀(y:UInt32) (k:Nat),y.toNat<65536→k≤16→F.Gw (y,(k:Int))=some ((nb y.toNat+k:Nat):Int):=by
  intro y k g m
  unfold F.Gw
  dsimp only
  by_cases h:256≤y.toNat
  ·have f:(bu y 8).toNat=y.toNat / 2^8:=by rw [f9]; rfl
   rw [if_pos (decide_eq_true (by rw [UInt32.le_iff_toNat_le]; exact h)),aJ (by omega) (by omega),show (k:Int)+8=((k+8:Nat):Int) by omega,i _ _ (by rw [f]; omega) (by omega),f,rN (n:=y.toNat) (k:=8) (by omega)]
   congr 1; omega
  ·rw [if_neg (by rw [decide_eq_true_eq,UInt32.le_iff_toNat_le]; exact h)]
   exact i y k (by omega) (by omega)
 unfold F.G1
 by_cases h:65536≤x.toNat
 ·have f:(bu x 16).toNat=x.toNat / 2^16:=by rw [f9]; rfl
  rw [if_pos (decide_eq_true (by rw [UInt32.le_iff_toNat_le]; exact h)),show (16:Int)=((16:Nat):Int) from rfl,j _ _ (by rw [f]; omega) (by omega),f,rN (n:=x.toNat) (k:=16) (by omega)]
 ·rw [if_neg (by rw [decide_eq_true_eq,UInt32.le_iff_toNat_le]; exact h),show (0:Int)=((0:Nat):Int) from rfl,j _ _ (by omega) (by omega),Nat.add_zero]
theorem iR (a:List UInt32) (j:a.length≤100000000000000):F.DD a=some (nb (val a):Int):=by
 obtain ⟨m,f,k,g⟩:=eu a (by omega)
 have o:(am (val a)).length≤a.length:=bj (bv a)
 unfold F.DD
 rw [f,ae,g,←kJ]
 unfold i0
 by_cases h0:(am (val a)).length=0
 ·rw [if_pos (by rw [h0]; rfl),if_pos h0]; rfl
 ·have i:wI (((am (val a)).length:Int) - 1)=(((am (val a)).length - 1:Nat):Int):=by rw [aJ (by omega) (by omega)]; omega
  have q:=yI ((am (val a)).getD ((am (val a)).length - 1) 0)
  rw [if_neg (by simpa using fun h=>h0 (by rw [h]; rfl)),if_neg h0,i,aO (by omega) 0,ae,rO,ae,aJ (x:=32*_) (by omega) (by omega),aJ (by omega) (by omega)]
  congr 1
theorem Bg (o:List UInt8) (a:List UInt32) (Y:o.length≤1000000000000000) (Z:a.length≤100000000000000):F.Hu o a=some (beB o.length (val a)):=by
 unfold F.Hu
 have e:=bY (f:=F.G8 o a) (fun (y:List UInt8) i=>((i:Int),y)) (fun i y=>i≤o.length→y.length=o.length∧∀k,k<i→y.getD k 0=UInt8.ofNat (val a / 256^(o.length - 1 - k))) (fun y i=>y.set i (UInt8.ofNat (val a / 256^(o.length - 1 - i)))) 0 o.length
  (X:=fun y=>some y)
  (fun i y _ hi m=>by
   obtain ⟨q,m⟩:=m (by omega)
   refine ⟨?_,fun _=>⟨by simpa using q,fun k A=>?_⟩⟩
   ·have G:wI ((i:Int)+1)=((i+1:Nat):Int):=by rw [aJ (by omega) (by omega)]; rfl
    obtain ⟨g,z⟩:∃t,o.length - 1 - i=t:=⟨_,rfl⟩
    have M:wI ((wI ((y.length:Int) - 1)) - (i:Int))=(g:Int):=by rw [q,aJ (x:=(o.length:Int) - 1) (by omega) (by omega),aJ (by omega) (by omega)]; omega
    have N:wI (Int.tdiv (g:Int) 4)=((g / 4:Nat):Int):=by rw [Int.tdiv_eq_ediv_of_nonneg (by omega),aJ (by omega) (by omega)]; omega
    have O:wI (8*(Int.tmod (g:Int) 4))=((8*(g%4):Nat):Int):=by rw [Int.tmod_eq_emod_of_nonneg (by omega),aJ (by omega) (by omega)]; omega
    unfold F.G8
    dsimp only
    rw [if_pos (decide_eq_true (by omega)),M,aS,aO (show i<y.length by omega) 0,ae,aS,N,Int.toNat_natCast]
    by_cases h:g / 4<a.length
    ·rw [if_pos (decide_eq_true (by omega)),aO h 0,ae,O,grd_true _ (by omega),aO (show i<(y.set i 0).length by simp; omega) 0,ae,aS,Int.toNat_natCast,qK,z]
     unfold F.G5
     rw [G,List.set_set]; rfl
    ·rw [if_neg (by simp only [decide_eq_true_eq]; omega)]
     unfold F.G5
     have R:val a / 256^g=0:=by
      refine Nat.div_eq_of_lt (Nat.lt_of_lt_of_le (bv a) ?_)
      rw [show (4294967296:Nat)=256^4 from rfl,←Nat.pow_mul]
      exact Nat.pow_le_pow_right (by decide) (by omega)
     rw [G,z,R]; rfl
   ·rw [List.getD_eq_getElem?_getD,List.getElem?_set]
    by_cases j:i=k
    ·subst j; rw [if_pos rfl,if_pos (by omega)]; rfl
    ·rw [if_neg j,←List.getD_eq_getElem?_getD]; exact m k (by omega))
  (fun y m=>by
   unfold F.G8
   dsimp only
   rw [if_neg (by simp)])
  o.length 0 o (Nat.le_refl _) (by omega) (fun _=>⟨rfl,fun k A=>by omega⟩)
 have B:=cD (fun i (y:List UInt8)=>i≤o.length→y.length=o.length∧∀k,k<i→y.getD k 0=UInt8.ofNat (val a / 256^(o.length - 1 - k))) (fun y i=>y.set i (UInt8.ofNat (val a / 256^(o.length - 1 - i))))
  (fun i y m=>fun hi=>by
   obtain ⟨q,m⟩:=m (by omega)
   refine ⟨by simpa using q,fun k A=>?_⟩
   rw [List.getD_eq_getElem?_getD,List.getElem?_set]
   by_cases j:i=k
   ·subst j; rw [if_pos rfl,if_pos (by omega)]; rfl
   ·rw [if_neg j,←List.getD_eq_getElem?_getD]; exact m k (by omega)) o.length 0 o (fun _=>⟨rfl,fun k A=>by omega⟩)
 rw [Nat.zero_add]at B
 obtain ⟨y,m⟩:∃y,(List.range' 0 o.length).foldl (fun y i=>y.set i (UInt8.ofNat (val a / 256^(o.length - 1 - i)))) o=y:=⟨_,rfl⟩
 rw [m]at B e
 obtain ⟨U,V⟩:=B (Nat.le_refl _)
 refine e.trans ?_
 congr 1
 refine List.ext_getElem (by rw [U,jH]) fun k I j=>?_
 have J:=V k (by omega)
 have K:=tl o.length (val a) k (by omega)
 rw [List.getD_eq_getElem?_getD,List.getElem?_eq_getElem I]at J
 rw [List.getD_eq_getElem?_getD,List.getElem?_eq_getElem j]at K
 exact J.trans K.symm
theorem x8 (a:List UInt32) (i:a.length≤35184372087808):F.HV a=some (beB (nby (val a)) (val a)):=by
 obtain ⟨m,f,j,g⟩:=eu a (by omega)
 have k:(am (val a)).length≤a.length:=bj (bv a)
 have o:=je (val a)
 have h:wI (Int.tdiv (wI ((nb (val a):Int)+7)) 8)=(nby (val a):Int):=by
  rw [aJ (x:=(nb (val a):Int)+7) (by omega) (by omega),Int.tdiv_eq_ediv_of_nonneg (by omega),aJ (by omega) (by omega)]; unfold nby; omega
 have q:nby (val a)≤4*(am (val a)).length:=by unfold nby; omega
 unfold F.HV
 rw [iR a (by omega),ae,h,aS,dQ (by omega),ae,f,ae,g,Bg _ _ (by simp; omega) (by omega),ae,Int.toNat_natCast,List.length_replicate,aq]
theorem AX (x y:UInt32) (t:Nat) (f:y.toNat<256) (j:t<4) (g:x.toNat%256^(t+1)=0):(x ||| bN y (8*t)).toNat=x.toNat+y.toNat*256^t:=by
 have i:(bN y (8*t)).toNat=y.toNat*256^t:=by
  rw [iZ,Nat.min_eq_left (by omega),Nat.pow_mul,show (2:Nat)^8=256 from rfl,Nat.mod_eq_of_lt]
  have:t=0∨t=1∨t=2∨t=3:=by omega
  rcases this with h | h | h | h <;> subst h <;> simp <;> omega
 rw [UInt32.toNat_or,i]
 refine nm (8*(t+1)) (by rw [Nat.pow_mul]; exact g) ?_
 rw [Nat.pow_mul,Nat.pow_succ,Nat.mul_comm]
 exact Nat.mul_lt_mul_of_pos_left f (Nat.pow_pos (by decide))
theorem zJ {l:List UInt32} {q t:Nat} (i:t≤4) (h:val l%256^(4*q+t)=0):(l.getD q 0).toNat%256^t=0:=by
 have g:val l / 256^(4*q)%256^t=0:=by
  rw [Nat.pow_add]at h
  have:=Nat.mod_mul_right_div_self (val l) (256^(4*q)) (256^t)
  rw [h,Nat.zero_div]at this
  exact this.symm
 rw [Nat.pow_mul,show (256:Nat)^4=4294967296 from rfl,eN,cg]at g
 have:t=0∨t=1∨t=2∨t=3∨t=4:=by omega
 rcases this with f | f | f | f | f <;> subst f <;> simp at g ⊢ <;> omega
theorem fC (b:List UInt8) (U:b.length≤140737488351232):F.Dy b=some (am (beN b)):=by
 obtain ⟨n,V⟩:∃n,(b.length+3) / 4=n:=⟨_,rfl⟩
 have w0:wI (Int.tdiv (wI ((b.length:Int)+3)) 4)=(n:Int):=by
  rw [aJ (x:=(b.length:Int)+3) (by omega) (by omega),Int.tdiv_eq_ediv_of_nonneg (by omega),aJ (by omega) (by omega)]; omega
 unfold F.Dy
 rw [w0,dQ (by omega),ae,Int.toNat_natCast]
 have j:∀(i:Nat) (y:List UInt32),i<b.length→(y.length=n∧val y=beN (b.take i)*256^(b.length - i)) →
   ((y.set ((b.length - 1 - i) / 4) (y.getD ((b.length - 1 - i) / 4) 0 ||| bN (b.getD i 0).toUInt32 (8*((b.length - 1 - i)%4)))).length=n ∧
    val (y.set ((b.length - 1 - i) / 4) (y.getD ((b.length - 1 - i) / 4) 0 ||| bN (b.getD i 0).toUInt32 (8*((b.length - 1 - i)%4))))=beN (b.take (i+1))*256^(b.length - (i+1))):=by
  rintro i y hi ⟨o,A⟩
  obtain ⟨t,q⟩:∃t,b.length - 1 - i=t:=⟨_,rfl⟩
  rw [q]
  have k:(b.getD i 0).toUInt32.toNat=(b.getD i 0).toNat:=UInt8.toNat_toUInt32 _
  have O:=(b.getD i 0).toNat_lt
  have B:=dx y (t / 4) (y.getD (t / 4) 0 ||| bN (b.getD i 0).toUInt32 (8*(t%4))) (by omega)
  have G:(y.getD (t / 4) 0).toNat%256^(t%4+1)=0:=by
   refine zJ (by omega) ?_
   rw [show 4*(t / 4)+(t%4+1)=b.length - i by omega,A,Nat.mul_mod_left]
  rw [AX _ _ _ (by rw [k]; omega) (by omega) G,k,Nat.mul_add]at B
  refine ⟨by simpa using o,?_⟩
  have I:4294967296^(t / 4)*((b.getD i 0).toNat*256^(t%4))=(b.getD i 0).toNat*256^t:=by
   rw [show (4294967296:Nat)=256^4 from rfl,←Nat.pow_mul,Nat.mul_left_comm,←Nat.pow_add]; congr 2; omega
  rw [I]at B
  rw [gK b hi,show b.length - (i+1)=t by omega,Nat.add_mul]
  have z:256*beN (b.take i)*256^t=beN (b.take i)*256^(b.length - i):=by
   rw [show b.length - i=t+1 by omega,Nat.pow_succ,Nat.mul_comm 256,Nat.mul_assoc,Nat.mul_comm 256]
  rw [z]
  omega
 have e:=bY (f:=F.FY b) (fun (y:List UInt32) i=>((i:Int),y)) (fun i y=>i≤b.length→y.length=n∧val y=beN (b.take i)*256^(b.length - i))
  (fun y i=>y.set ((b.length - 1 - i) / 4) (y.getD ((b.length - 1 - i) / 4) 0 ||| bN (b.getD i 0).toUInt32 (8*((b.length - 1 - i)%4)))) 0 b.length
  (X:=fun y=>some (am (val y)))
  (fun i y _ hi g=>by
   have g:=g (by omega)
   refine ⟨?_,fun _=>j i y hi g⟩
   obtain ⟨t,q⟩:∃t,b.length - 1 - i=t:=⟨_,rfl⟩
   rw [q]
   have R:=g.1
   have J:wI ((i:Int)+1)=((i+1:Nat):Int):=by rw [aJ (by omega) (by omega)]; rfl
   have K:wI ((wI ((b.length:Int) - 1)) - (i:Int))=(t:Int):=by rw [aJ (x:=(b.length:Int) - 1) (by omega) (by omega),aJ (by omega) (by omega)]; omega
   have M:wI (Int.tdiv (t:Int) 4)=((t / 4:Nat):Int):=by rw [Int.tdiv_eq_ediv_of_nonneg (by omega),aJ (by omega) (by omega)]; omega
   have N:wI (8*(Int.tmod (t:Int) 4))=((8*(t%4):Nat):Int):=by rw [Int.tmod_eq_emod_of_nonneg (by omega),aJ (by omega) (by omega)]; omega
   unfold F.FY
   dsimp only
   rw [if_pos (decide_eq_true (by omega)),aO hi 0,ae,K,aS,M,aO (show t / 4<y.length by omega) 0,ae,N,grd_true _ (by omega),ae,aS,Int.toNat_natCast,Int.toNat_natCast,J]
   rfl)
  (fun y g=>by
   obtain ⟨m,o,A,z⟩:=eJ y (by have:=(g (Nat.le_refl _)).1; omega)
   unfold F.FY
   dsimp only
   rw [if_neg (by simp),o,ae,z])
  b.length 0 (List.replicate n 0) (Nat.le_refl _) (by omega) (fun _=>⟨by simp,by rw [cn]; simp [beN]⟩)
 have h:=cD (fun i (y:List UInt32)=>i≤b.length→y.length=n∧val y=beN (b.take i)*256^(b.length - i)) (fun y i=>y.set ((b.length - 1 - i) / 4) (y.getD ((b.length - 1 - i) / 4) 0 ||| bN (b.getD i 0).toUInt32 (8*((b.length - 1 - i)%4))))
  (fun i y g=>fun hi=>j i y (by omega) (g (by omega))) b.length 0 (List.replicate n 0) (fun _=>⟨by simp,by rw [cn]; simp [beN]⟩)
 rw [Nat.zero_add]at h
 have h:=(h (Nat.le_refl _)).2
 rw [h,Nat.sub_self,Nat.pow_zero,Nat.mul_one,List.take_length]at e
 exact e
end Go.Gk.Bn
end
