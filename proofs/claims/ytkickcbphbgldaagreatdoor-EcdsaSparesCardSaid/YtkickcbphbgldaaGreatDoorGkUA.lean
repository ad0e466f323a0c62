import Derived.Test.YtkickcbphbgldaaGreatDoorGkU6
import Derived.Test.YtkickcbphbgldaaGreatDoorGkFman
set_option linter.unusedVariables false
set_option linter.unusedSimpArgs false
set_option linter.unusedSectionVars false

section
namespace Go.Gk.Bn
open Go Go.Gk Go.Gk.Sh
def bi (z:Int):Bool×List UInt32:=(decide (z<0),aA z.natAbs)
def nl (z:Int):Nat:=(aA z.natAbs).length
theorem u5 (n:Nat):bi (n:Int)=(false,aA n):=by
 unfold bi
 rw [decide_eq_false (by omega),Int.natAbs_natCast]
theorem bi1 {z:Int} (h:0≤z):(bi z).1=false:=decide_eq_false (by omega)
theorem bi2 (z:Int):(bi z).2=aA z.natAbs:=rfl
theorem bis (z:Int):(bi z).1=decide (z<0):=rfl
theorem kD (z:Int):Can (bi z).2:=pn _
theorem kB (z:Int):val (bi z).2=z.natAbs:=aE _
theorem fT {n:Nat}:aA n=[]↔n=0:=⟨fun h=>by have:=aE n; rw [h]at this; simpa [val] using this.symm,fun h=>by rw [h,bG]⟩
theorem fV {n:Nat}:0<(aA n).length↔n≠0:=by
 rw [List.length_pos_iff,Ne,fT]
theorem dD {a b:Nat} (h:a≤b):(aA a).length≤(aA b).length:=
 bm (Nat.lt_of_le_of_lt h (by have:=bB (aA b); rwa [aE]at this))
theorem yu {x y:Int} (h:x.natAbs≤y.natAbs):(bi x).2.length≤(bi y).2.length:=dD h
theorem lC (a b:Nat):(aA (a+b)).length≤max (aA a).length (aA b).length+1:=by
 refine bm ?_
 have h1:=bB (aA a); have h2:=bB (aA b)
 rw [aE]at h1 h2
 have h3:=Nat.pow_le_pow_right (show 0<4294967296 by decide) (Nat.le_max_left (aA a).length (aA b).length)
 have h4:=Nat.pow_le_pow_right (show 0<4294967296 by decide) (Nat.le_max_right (aA a).length (aA b).length)
 rw [Nat.pow_succ]
 omega
theorem lJ (a b:Nat):(aA (a*b)).length≤(aA a).length+(aA b).length:=by
 by_cases hb:b=0
 ·subst hb; simp [bG]
 refine bm ?_
 have h1:=bB (aA a); have h2:=bB (aA b)
 rw [aE]at h1 h2
 rw [Nat.pow_add]
 exact Nat.mul_lt_mul_of_lt_of_le h1 (Nat.le_of_lt h2) (Nat.pos_of_ne_zero (by have:=Nat.pow_pos (n:=(aA b).length) (show 0<4294967296 by decide); omega))
theorem rs (x y:Int):nl (x*y)≤nl x+nl y:=by
 unfold nl; rw [Int.natAbs_mul]; exact lJ _ _
theorem rP (x y:Int):nl (x+y)≤max (nl x) (nl y)+1:=by
 unfold nl
 exact Nat.le_trans (dD (Int.natAbs_add_le x y)) (lC _ _)
theorem vV (x:Int):nl (-x)=nl x:=by unfold nl; rw [Int.natAbs_neg]
theorem wL (x y:Int):nl (x - y)≤max (nl x) (nl y)+1:=by
 rw [Int.sub_eq_add_neg,←vV y]; exact rP x (-y)
theorem d6 {x y:Int} (h:x.natAbs≤y.natAbs):nl x≤nl y:=dD h
theorem p8 {z:Int} {k:Nat} (h:z.natAbs<4294967296^k):nl z≤k:=bm h
theorem k7 (x:Int) {m:Int} (h:0<m):nl (x%m)≤nl m:=d6 (by
 have:=Int.emod_nonneg x (show m≠0 by omega); have:=Int.emod_lt_of_pos x h; omega)
theorem ot (n0:Bool) (l0:List UInt32) (b:Bool) (a:List UInt32):F.BO n0 l0 b a=some (b&&decide (a≠[]),a):=by
 unfold F.BO F.E8
 cases b with
 | false=>rfl
 | true=>
  simp only [if_true,Bool.true_and]
  congr 2
  cases a <;> simp
theorem eB (n0:Bool) (l0:List UInt32) (b:Bool) (z:Int) (h:z≠0→(b=true↔z<0)):F.BO n0 l0 b (aA z.natAbs)=some (bi z):=by
 rw [ot]
 congr 1
 unfold bi
 congr 1
 by_cases h0:z=0
 ·subst h0
  rw [show aA (Int.natAbs 0)=[] from bG]
  simp
 ·have hne:aA z.natAbs≠[]:=by rw [Ne,fT]; omega
  simp only [ne_eq,hne,not_false_eq_true,decide_true,Bool.and_true]
  have:=h h0
  cases b with
  | true=>exact (decide_eq_true (this.1 rfl)).symm
  | false=>exact (decide_eq_false (fun hz=>by have:=this.2 hz; cases this)).symm
theorem qp (x y:Int) (hx:nl x≤70000000000000) (hy:nl y≤70000000000000):∃b,F.B1 (bi x).1 (bi x).2 (bi y).1 (bi y).2=some (b,aA (x+y).natAbs)∧(x+y≠0→(b=true↔x+y<0)):=by
 unfold F.B1
 have hx2:(bi x).2.length≤70000000000000:=hx
 have hy2:(bi y).2.length≤70000000000000:=hy
 have vx:val (bi x).2=x.natAbs:=aE _
 have vy:val (bi y).2=y.natAbs:=aE _
 have hsx:(bi x).1=decide (x<0):=rfl
 have hsy:(bi y).1=decide (y<0):=rfl
 by_cases hs:(decide (x<0))=(decide (y<0))
 ·rw [hsx,hsy,if_pos (by rw [hs]; exact beq_self_eq_true _),oo _ _ (by omega) (by omega),ak,vx,vy]
  have:(x<0)↔(y<0):=by simpa using hs
  refine ⟨_,by rw [show (x+y).natAbs=x.natAbs+y.natAbs by omega],fun _=>?_⟩
  rw [decide_eq_true_eq]; omega
 ·have:¬((x<0)↔(y<0)):=by simpa using hs
  rw [hsx,hsy,if_neg (by simpa using hs),oh _ _ (kD _) (kD _) (by omega) (by omega),ak,vx,vy]
  unfold dN
  by_cases h1:x.natAbs<y.natAbs
  ·rw [if_pos h1,if_neg (by decide),sa _ _ (yu (by omega)) (by rw [vx,vy]; omega) (by omega),ak,vx,vy]
   refine ⟨_,by rw [show (x+y).natAbs=y.natAbs - x.natAbs by omega],fun _=>?_⟩
   rw [decide_eq_true_eq]; omega
  ·rw [if_neg h1,if_pos (by split <;> decide),sa _ _ (yu (by omega)) (by rw [vx,vy]; omega) (by omega),ak,vx,vy]
   refine ⟨_,by rw [show (x+y).natAbs=x.natAbs - y.natAbs by omega],fun _=>?_⟩
   rw [decide_eq_true_eq]; omega
theorem AE (n0:Bool) (l0:List UInt32) (x y:Int) (hx:nl x≤70000000000000) (hy:nl y≤70000000000000):F.EO n0 l0 (bi x).1 (bi x).2 (bi y).1 (bi y).2=some (bi (x+y)):=by
 unfold F.EO
 obtain ⟨b,h1,h2⟩:=qp x y hx hy
 rw [h1,ak,eB _ _ _ _ h2,ak]
theorem nT (x y:Int) (hx:nl x≤70000000000000) (hy:nl y≤70000000000000):F.Cd (bi x).1 (bi x).2 (bi y).1 (bi y).2=some (bi (x+y)):=by
 unfold F.Cd
 obtain ⟨b,h1,h2⟩:=qp x y hx hy
 rw [h1,ak,eB _ _ _ _ h2,ak]
theorem oy (x y:Int) (hx:nl x≤70000000000000) (hy:nl y≤70000000000000):∃b,F.B1 (bi x).1 (bi x).2 (!(bi y).1) (bi y).2=some (b,aA (x - y).natAbs)∧(x - y≠0→(b=true↔x - y<0)):=by
 by_cases h0:y=0
 ·-- nought with a sign
  subst h0
  unfold F.B1
  have hx2:(bi x).2.length≤70000000000000:=hx
  have e0:(bi 0).2=[]:=bG
  have es:(bi 0).1=false:=rfl
  have vx:val (bi x).2=x.natAbs:=aE _
  rw [e0,es]
  have hsx:(bi x).1=decide (x<0):=rfl
  by_cases hs:x<0
  ·rw [hsx,if_pos (by rw [decide_eq_true hs]; rfl),oo _ _ (by omega) (by simp),ak,vx,dl]
   refine ⟨_,by rw [show (x - 0).natAbs=x.natAbs+0 by omega],fun _=>by rw [decide_eq_true_eq]; omega⟩
  ·rw [hsx,if_neg (by rw [decide_eq_false hs]; decide),oh _ _ (kD _) oF (by omega) (by simp),ak,vx,dl]
   have ec:dN x.natAbs 0=if x.natAbs=0 then 0 else 1:=by unfold dN; rw [if_neg (by omega)]
   rw [ec,if_pos (by split <;> decide),sa _ _ (by simp) (by rw [dl]; omega) (by omega),ak,vx,dl]
   refine ⟨_,by rw [show (x - 0).natAbs=x.natAbs - 0 by omega],fun _=>by rw [decide_eq_true_eq]; omega⟩
 ·have e1:(!(bi y).1)=(bi (-y)).1:=by
   unfold bi
   by_cases h:y<0
   ·rw [decide_eq_true h,decide_eq_false (by omega)]; rfl
   ·rw [decide_eq_false h,decide_eq_true (by omega)]; rfl
  have e2:(bi y).2=(bi (-y)).2:=by rw [bi2,bi2,Int.natAbs_neg]
  rw [e1,e2,Int.sub_eq_add_neg]
  exact qp x (-y) hx (by rw [vV]; exact hy)
theorem vP (n0:Bool) (l0:List UInt32) (x y:Int) (hx:nl x≤70000000000000) (hy:nl y≤70000000000000):F.D9 n0 l0 (bi x).1 (bi x).2 (bi y).1 (bi y).2=some (bi (x - y)):=by
 unfold F.D9
 obtain ⟨b,h1,h2⟩:=oy x y hx hy
 rw [h1,ak,eB _ _ _ _ h2,ak]
theorem ul (x y:Int) (hx:nl x≤70000000000000) (hy:nl y≤70000000000000):F.Cq (bi x).1 (bi x).2 (bi y).1 (bi y).2=some (bi (x - y)):=by
 unfold F.Cq
 obtain ⟨b,h1,h2⟩:=oy x y hx hy
 rw [h1,ak,eB _ _ _ _ h2,ak]
theorem t7 (x y:Int) (hx:nl x≤70000000000000) (hy:nl y≤70000000000000):F.FE (bi y).1 (bi y).2 (bi x).1 (bi x).2=some (bi (x - y)):=by
 unfold F.FE
 obtain ⟨b,h1,h2⟩:=oy x y hx hy
 rw [h1,ak,eB _ _ _ _ h2,ak]
theorem yY (x y:Int) (h:x*y≠0):((decide (x<0) != decide (y<0))=true↔x*y<0):=by
 have hx:x≠0:=fun h0=>h (by rw [h0,Int.zero_mul])
 have hy:y≠0:=fun h0=>h (by rw [h0,Int.mul_zero])
 by_cases h1:x<0 <;> by_cases h2:y<0
 ·have:=Int.mul_pos_of_neg_of_neg h1 h2
  simp [h1,h2]; omega
 ·have:=Int.mul_neg_of_neg_of_pos h1 (show 0<y by omega)
  simp [h1,h2,this]
 ·have:=Int.mul_neg_of_pos_of_neg (show 0<x by omega) h2
  simp [h1,h2,this]
 ·have:=Int.mul_pos (show 0<x by omega) (show 0<y by omega)
  simp [h1,h2]; omega
theorem rt (n0:Bool) (l0:List UInt32) (x y:Int) (h:nl x+nl y≤70368744177664):F.DD n0 l0 (bi x).1 (bi x).2 (bi y).1 (bi y).2=some (bi (x*y)):=by
 unfold F.DD
 have h2:(bi x).2.length+(bi y).2.length≤70368744177664:=h
 rw [wm _ _ (by omega),ak,kB,kB,←Int.natAbs_mul,bis,bis,eB _ _ _ _ (yY x y),ak]
theorem sH (n0:Bool) (l0:List UInt32) (x:Int) (h1:-9223372036854775808≤x) (h2:x≤9223372036854775807):F.Da n0 l0 x=some (bi x):=by
 have key:∀u:UInt64,u.toNat=x.natAbs→F.Es n0 l0 x u=some (bi x):=by
  intro u hu
  unfold F.Es
  dsimp only
  rw [gM,ak,hu,eB _ _ _ _ (fun _=>by rw [decide_eq_true_eq]),ak]
 unfold F.Da
 have hN:(UInt64.ofInt x).toNat=(x%18446744073709551616).toNat:=by
  rw [UInt64.ofInt,UInt64.toNat_ofNat']
  have:=Int.emod_nonneg x (show (18446744073709551616:Int)≠0 by decide)
  have:=Int.emod_lt_of_pos x (show (0:Int)<18446744073709551616 by decide)
  omega
 by_cases h:x<0
 ·rw [if_pos (decide_eq_true h)]
  refine key _ ?_
  rw [UInt64.toNat_sub,hN]
  have:(0:UInt64).toNat=0:=rfl
  omega
 ·rw [if_neg (by simpa using h)]
  refine key _ ?_
  rw [hN]; omega
theorem gh (x:Int) (h1:-9223372036854775808≤x) (h2:x≤9223372036854775807):F.BT x=some (bi x):=by
 unfold F.BT
 rw [sH _ _ x h1 h2,ak]
theorem s9 (a:List UInt32) (h:a.length≤50000000000000):F.CC a=some a:=by
 unfold F.CC
 have hap:apO 4 [] a=some a:=by unfold apO; rw [if_pos (by simp; omega)]; simp
 rw [hap,ak]
theorem sh (n0:Bool) (l0:List UInt32) (x:Int) (h:nl x≤50000000000000):F.Cr n0 l0 (bi x).1 (bi x).2=some (bi x):=by
 unfold F.Cr
 rw [s9 (bi x).2 h,ak,bi2,bis,eB _ _ _ _ (fun _=>by rw [decide_eq_true_eq]),ak]
theorem qt (x y:Int):(Int.tdiv x y).natAbs=x.natAbs / y.natAbs:=Int.natAbs_tdiv x y
theorem ky (x y:Int):(Int.tmod x y).natAbs=x.natAbs%y.natAbs:=Int.natAbs_tmod x y
theorem k0 (n0 n3:Bool) (l0 l3:List UInt32) (x y:Int) (hy:y≠0) (h1:nl x≤70368744177660) (h2:nl y≤70000000000) :
  F.Dh n0 l0 (bi x).1 (bi x).2 (bi y).1 (bi y).2 n3 l3=some ((bi (Int.tdiv x y)).1,(bi (Int.tdiv x y)).2,(bi (Int.tmod x y)).1,(bi (Int.tmod x y)).2):=by
 unfold F.Dh
 rw [Aq _ _ (kD _) (kD _) (by rw [bi2,Ne,fT]; omega) h1 h2,ak,kB,kB]
 dsimp only
 rw [bis,bis,←qt,←ky,eB _ _ _ _ (fun h=>?_),ak,eB _ _ _ _ (fun h=>?_),ak]
 ·show decide (x<0)=true↔_
  rw [decide_eq_true_eq]
  rcases Int.lt_trichotomy x 0 with h0 | h0 | h0
  ·have:=Int.tmod_nonneg y (show 0≤-x by omega)
   rw [Int.neg_tmod]at this
   omega
  ·subst h0; simp at h
  ·have:=Int.tmod_nonneg y (show 0≤x by omega)
   omega
 ·have hp:Int.tdiv x y≠0:=h
  show (decide (x<0) != decide (y<0))=true↔_
  by_cases hx:x<0 <;> by_cases hyn:y<0
  ·have:=Int.tdiv_nonneg_of_nonpos_of_nonpos (show x≤0 by omega) (show y≤0 by omega)
   simp [hx,hyn]; omega
  ·simp only [hx,hyn,decide_true,decide_false]
   have h3:Int.tdiv x y≤0:=by
    have:=Int.tdiv_nonneg (a:=-x) (b:=y) (by omega) (by omega)
    rw [Int.neg_tdiv]at this; omega
   simp; omega
  ·have h3:Int.tdiv x y≤0:=by
    have:=Int.tdiv_nonneg (a:=x) (b:=-y) (by omega) (by omega)
    rw [Int.tdiv_neg]at this; omega
   simp [hx,hyn]; omega
  ·have:=Int.tdiv_nonneg (a:=x) (b:=y) (by omega) (by omega)
   simp [hx,hyn]; omega
end Go.Gk.Bn
end

section
namespace Go.Gk.Bn
open Go Go.Gk Go.Gk.Sh
theorem vk {x y:Int} (hy:0<y) (h:Int.tmod x y<0):Int.tdiv x y - 1=x / y∧Int.tmod x y+y=x%y:=by
 have h1:=Int.mul_tdiv_add_tmod x y
 have h2:(Int.tmod x y).natAbs<y.natAbs:=by rw [ky]; exact Nat.mod_lt _ (by omega)
 have h3:y*Int.tdiv x y=y*(Int.tdiv x y - 1)+y:=by rw [Int.mul_sub,Int.mul_one]; omega
 have:=(Int.ediv_emod_unique (a:=x) (b:=y) (q:=Int.tdiv x y - 1) (r:=Int.tmod x y+y) hy).2 ⟨by omega,by omega,by omega⟩
 exact ⟨this.1.symm,this.2.symm⟩
theorem uL {x y:Int} (hy:0<y) (h:¬Int.tmod x y<0):Int.tdiv x y=x / y∧Int.tmod x y=x%y:=by
 have h1:=Int.mul_tdiv_add_tmod x y
 have h2:(Int.tmod x y).natAbs<y.natAbs:=by rw [ky]; exact Nat.mod_lt _ (by omega)
 have:=(Int.ediv_emod_unique (a:=x) (b:=y) (q:=Int.tdiv x y) (r:=Int.tmod x y) hy).2 ⟨by omega,by omega,by omega⟩
 exact ⟨this.1.symm,this.2.symm⟩
theorem zD (x y:Int):nl (Int.tdiv x y)≤nl x:=d6 (by rw [qt]; exact Nat.div_le_self _ _)
theorem yL (x y:Int):nl (Int.tmod x y)≤nl x:=d6 (by rw [ky]; exact Nat.mod_le _ _)
theorem qO:nl 1≤1:=p8 (by decide)
theorem pM (n0 n3:Bool) (l0 l3:List UInt32) (x y:Int) (hy:0<y) (h1:nl x≤70368744177660) (h2:nl y≤70000000000) (h3:x<0→nl x≤70000000000000) :
  F.EN n0 l0 (bi x).1 (bi x).2 (bi y).1 (bi y).2 n3 l3=some ((bi (x / y)).1,(bi (x / y)).2,(bi (x%y)).1,(bi (x%y)).2):=by
 have q1:=zD x y; have q2:=yL x y; have q3:=qO
 unfold F.EN
 rw [sh _ _ _ (by omega),ak,k0 _ _ _ _ _ _ (by omega) h1 h2,ak]
 dsimp only
 by_cases h:Int.tmod x y<0
 ·obtain ⟨e1,e2⟩:=vk hy h
  have h3:=h3 (by rcases Int.lt_or_le x 0 with hx | hx; exact hx; have:=Int.tmod_nonneg y hx; omega)
  rw [if_pos (show (bi (Int.tmod x y)).1=true from decide_eq_true h),if_neg (by rw [bi1 (by omega)]; decide),gh 1 (by decide) (by decide),ak,ul _ _ (by omega) (by omega),ak,nT _ _ (by omega) (by omega),ak,e1,e2]
  rfl
 ·obtain ⟨e1,e2⟩:=uL hy h
  rw [if_neg (by rw [show (bi (Int.tmod x y)).1=false from decide_eq_false h]; decide),e1,e2]
  rfl
theorem pQ (n0 n3 n2:Bool) (l0 l3 l2:List UInt32):F.F1 n0 l0 n2 l2 n3 l3=F.EN n0 l0 n3 l3 n2 l2 n3 l3:=rfl
theorem vZ (n0:Bool) (l0:List UInt32) (x y:Int) (hy:0<y) (h1:nl x≤70368744177660) (h2:nl y≤70000000000) (h3:x<0→nl x≤70000000000000):F.EL n0 l0 (bi x).1 (bi x).2 (bi y).1 (bi y).2=some (bi (x%y)):=by
 unfold F.EL
 rw [pM _ _ _ _ x y hy h1 h2 h3,ak]
theorem up (x y:Int) (hy:0<y) (h1:nl x≤70368744177660) (h2:nl y≤70000000000) (h3:x<0→nl x≤70000000000000):F.EU (bi x).1 (bi x).2 (bi y).1 (bi y).2=some (bi (x%y)):=by
 unfold F.EU
 rw [pQ,pM _ _ _ _ x y hy h1 h2 h3,ak]
def sn (x y:Int):Int:=if x<y then -1 else if x=y then 0 else 1
theorem nB (x y:Int) (hx:nl x≤70368744177664) (hy:nl y≤70368744177664):F.CA (bi x).1 (bi x).2 (bi y).1 (bi y).2=some (sn x y):=by
 have hx2:(bi x).2.length≤70368744177664:=hx
 have hy2:(bi y).2.length≤70368744177664:=hy
 unfold F.CA sn
 rw [oh _ _ (kD x) (kD y) (by omega) (by omega),kB,kB]
 unfold dN
 have sx:(bi x).1=decide (x<0):=rfl
 have sy:(bi y).1=decide (y<0):=rfl
 obtain ⟨sx',ex⟩:∃q,(bi x).1=q:=⟨_,rfl⟩
 obtain ⟨sy',ey⟩:∃q,(bi y).1=q:=⟨_,rfl⟩
 rw [ex]at sx ⊢; rw [ey]at sy ⊢
 by_cases h1:x<0 <;> by_cases h2:y<0
 ·rw [decide_eq_true h1]at sx; rw [decide_eq_true h2]at sy; subst sx; subst sy
  rw [if_neg (by decide),ak,if_pos rfl]
  rcases Int.lt_trichotomy x y with h | h | h
  ·rw [if_pos h,if_neg (by omega),if_neg (by omega)]; rfl
  ·rw [if_neg (by omega),if_pos (by omega),if_neg (by omega),if_pos h]; rfl
  ·rw [if_pos (by omega),if_neg (by omega),if_neg (by omega)]; rfl
 ·rw [decide_eq_true h1]at sx; rw [decide_eq_false h2]at sy; subst sx; subst sy
  rw [if_pos (by decide),if_pos rfl,if_pos (by omega)]
 ·rw [decide_eq_false h1]at sx; rw [decide_eq_true h2]at sy; subst sx; subst sy
  rw [if_pos (by decide),if_neg (by decide),if_neg (by omega),if_neg (by omega)]
 ·rw [decide_eq_false h1]at sx; rw [decide_eq_false h2]at sy; subst sx; subst sy
  rw [if_neg (by decide),ak,if_neg (by decide)]
  rcases Int.lt_trichotomy x y with h | h | h
  ·rw [if_pos (by omega),if_pos h]
  ·rw [if_neg (by omega),if_pos (by omega),if_neg (by omega),if_pos h]
  ·rw [if_neg (by omega),if_neg (by omega),if_neg (by omega),if_neg (by omega)]
theorem mf (x:Int):F.BR (bi x).1 (bi x).2=some (if x=0 then 0 else if x<0 then -1 else 1):=by
 unfold F.BR
 by_cases h:x=0
 ·subst h; rw [if_pos rfl]; exact if_pos (by rw [bi2,show Int.natAbs 0=0 from rfl,bG]; rfl)
 ·have:(bi x).2.length≠0:=fun h0=>h (by have:=List.eq_nil_of_length_eq_zero h0; rw [bi2,fT]at this; omega)
  rw [if_neg (by simpa using fun h0=>this (by rw [h0]; rfl)),if_neg h,bis]
  by_cases h1:x<0
  ·rw [if_pos (by simp [h1]),if_pos h1]
  ·rw [if_neg (by simp [h1]),if_neg h1]
def beN:List UInt8→Nat
 | []=>0
 | x :: l=>x.toNat*256^l.length+beN l
def beB:Nat→Nat→List UInt8
 | 0,_=>[]
 | k+1,n=>UInt8.ofNat (n / 256^k) :: beB k n
theorem cF:∀k n,(beB k n).length=k
 | 0,_=>rfl
 | k+1,n=>by simp [beB,cF k n]
theorem ig:∀l:List UInt8,beN l<256^l.length
 | []=>by simp [beN]
 | x :: l=>by
  have h1:=ig l; have h2:=x.toNat_lt
  have:(x.toNat+1)*256^l.length≤256*256^l.length:=Nat.mul_le_mul_right _ (by omega)
  rw [Nat.add_mul]at this
  rw [beN,List.length_cons,Nat.pow_succ,Nat.mul_comm (256^_) 256]
  omega
theorem iV:∀k n,beN (beB k n)=n%256^k
 | 0,n=>by simp [beB,beN,Nat.mod_one]
 | k+1,n=>by
  rw [beB,beN,cF,iV k n,UInt8.toNat_ofNat',show (2:Nat)^8=256 from rfl,Nat.mod_pow_succ,Nat.mul_comm (256^k),Nat.add_comm]
theorem nH:∀a b:List UInt8,beN (a++b)=beN a*256^b.length+beN b
 | [],b=>by simp [beN]
 | x :: a,b=>by
  rw [List.cons_append,beN,beN,nH a b,List.length_append,Nat.add_mul,Nat.pow_add,Nat.mul_assoc]; omega
theorem tf:∀{a b:List UInt8},a.length=b.length→beN a=beN b→a=b
 | [],[],_,_=>rfl
 | [],_ :: _,h,_=>by simp at h
 | _ :: _,[],h,_=>by simp at h
 | x :: a,y :: b,h,h2=>by
  have hl:a.length=b.length:=by simpa using h
  rw [beN,beN,hl]at h2
  have h3:=ig a; have h4:=ig b
  rw [hl]at h3
  have hp:0<256^b.length:=Nat.pow_pos (by decide)
  have e1:(x.toNat*256^b.length+beN a) / 256^b.length=x.toNat:=by rw [Nat.add_comm,Nat.add_mul_div_right _ _ hp,Nat.div_eq_of_lt h3,Nat.zero_add]
  have e2:(y.toNat*256^b.length+beN b) / 256^b.length=y.toNat:=by rw [Nat.add_comm,Nat.add_mul_div_right _ _ hp,Nat.div_eq_of_lt h4,Nat.zero_add]
  have:x.toNat=y.toNat:=by rw [←e1,←e2,h2]
  have hx:x=y:=UInt8.toNat_inj.1 this
  subst hx
  rw [tf hl (by omega)]
theorem pt:∀(k:Nat) (l:List UInt8),beN (List.replicate k 0++l)=beN l
 | 0,l=>rfl
 | k+1,l=>by rw [List.replicate_succ,List.cons_append,beN,pt k l]; simp
theorem iF (l:List UInt8) {i:Nat} (h:i<l.length):beN (l.take (i+1))=256*beN (l.take i)+(l.getD i 0).toNat:=by
 rw [List.take_add_one,List.getD_eq_getElem?_getD,List.getElem?_eq_getElem h,nH]
 simp [beN]; omega
theorem sd:∀(k n i:Nat),i<k→(beB k n).getD i 0=UInt8.ofNat (n / 256^(k - 1 - i))
 | 0,_,_,h=>by omega
 | k+1,n,0,_=>by simp [beB]
 | k+1,n,i+1,h=>by
  rw [beB,List.getD_cons_succ,sd k n i (by omega),show k+1 - 1 - (i+1)=k - 1 - i by omega]
theorem gn {n k:Nat} (h:n<256^k):(aA n).length≤(k+3) / 4:=by
 refine bm (Nat.lt_of_lt_of_le h ?_)
 rw [show (4294967296:Nat)=256^4 from rfl,←Nat.pow_mul]
 exact Nat.pow_le_pow_right (by decide) (by omega)
theorem jL (n0:Bool) (l0:List UInt32) (b:List UInt8) (hb:b.length≤140737488351232):F.Do n0 l0 b=some (bi (beN b:Nat)):=by
 unfold F.Do
 have e:=cu (f:=F.Ep n0 l0 b) (fun (x:Nat) i=>(aA x,(i:Int))) (fun i x=>i≤b.length→x=beN (b.take i)) (fun x i=>256*x+(b.getD i 0).toNat) 0 b.length
  (X:=fun x=>some (bi (x:Nat)))
  (fun i x _ hi hx=>by
   have hx:=hx (by omega)
   refine ⟨?_,fun _=>by rw [hx,iF b hi]⟩
   have w4:wI ((i:Int)+1)=((i+1:Nat):Int):=by rw [aV (by omega) (by omega)]; rfl
   have hl:(aA x).length≤(i+3) / 4:=by
    rw [hx]
    have:=ig (b.take i)
    rw [List.length_take,Nat.min_eq_left (by omega)]at this
    exact gn this
   have h8:(8:UInt64).toNat=8:=rfl
   unfold F.Ep
   dsimp only
   rw [if_pos (decide_eq_true (by omega)),oA _ 8 (by rw [h8]; omega) (by omega),ak,a7 hi 0,ak,gM,ak,aE,h8]
   have hl2:(aA (x*2^8)).length≤(i+3) / 4+1:=by
    have:=lJ x (2^8)
    have h3:(aA (2^8)).length≤1:=bm (by decide)
    omega
   have hl3:(aA (b.getD i 0).toUInt64.toNat).length≤2:=bm (by have:=(b.getD i 0).toUInt64.toNat_lt; omega)
   rw [oo _ _ (by omega) (by omega),ak,aE,aE,w4]
   have:(b.getD i 0).toUInt64.toNat=(b.getD i 0).toNat:=UInt8.toNat_toUInt64 _
   rw [this,show x*2^8=256*x by omega]; rfl)
  (fun x hx=>by
   unfold F.Ep
   dsimp only
   rw [if_neg (by simp),ot,ak,u5]; rfl)
  b.length 0 0 (Nat.le_refl _) (by omega) (fun _=>by simp [beN])
 have hI:=cK (fun i (x:Nat)=>i≤b.length→x=beN (b.take i)) (fun x i=>256*x+(b.getD i 0).toNat) (fun i x hx=>fun hi=>by rw [hx (by omega),iF b (by omega)]) b.length 0 0 (fun _=>by simp [beN])
 rw [Nat.zero_add]at hI
 have hI:=hI (Nat.le_refl _)
 rw [hI,List.take_length]at e
 rw [bG]at e
 exact e
end Go.Gk.Bn
end

section
namespace Go.Gk.Bn
open Go Go.Gk Go.Gk.Sh
theorem lL {n k:Nat} (h1:n<2^k) (h2:2^(k - 1)≤n) (h3:1≤k):nb n=k:=by
 have a1:=kM h1
 rcases Nat.lt_or_ge (nb n) k with h | h
 ·have a2:=(c6 n).1
  have a3:=Nat.pow_le_pow_right (show 0<2 by decide) (show nb n≤k - 1 by omega)
  omega
 ·omega
theorem jR (n:Nat):hU (aA n)=nb n:=by
 unfold hU
 by_cases h0:n=0
 ·subst h0; rw [bG,if_pos (show ([]:List UInt32).length=0 from rfl),fc]
 ·obtain ⟨l,hl⟩:∃l,aA n=l:=⟨_,rfl⟩
  have hlen:l.length≠0:=by have:=fV.2 h0; rw [hl]at this; omega
  have hv:val l=n:=by rw [←hl,aE]
  have hc:Can l:=by rw [←hl]; exact pn n
  rw [hl,if_neg hlen]
  have h1:=bD l (l.length - 1)
  rw [show l.length - 1+1=l.length by omega,List.take_length,hv]at h1
  have h2:=bB (l.take (l.length - 1))
  rw [List.length_take,Nat.min_eq_left (by omega)]at h2
  obtain ⟨t,ht⟩:∃t,l.getD (l.length - 1) 0=t:=⟨_,rfl⟩
  rw [ht]at h1 ⊢
  have ht0:t.toNat≠0:=by
   intro h
   have h:t=0:=UInt32.toNat_inj.1 h
   refine hc ?_
   rw [List.getLast?_eq_getElem?]
   rw [←ht,List.getD_eq_getElem?_getD,List.getElem?_eq_getElem (show l.length - 1<l.length by omega)]at h
   rw [List.getElem?_eq_getElem (show l.length - 1<l.length by omega),←h]; rfl
  obtain ⟨n1,n2⟩:=c6 t.toNat
  obtain ⟨n3,n4⟩:=n2 ht0
  have hp:(4294967296:Nat)^(l.length - 1)=2^(32*(l.length - 1)):=by rw [Nat.pow_mul]
  symm
  refine lL ?_ ?_ (by omega)
  ·rw [Nat.pow_add,←hp]
   have:4294967296^(l.length - 1)*(t.toNat+1)≤4294967296^(l.length - 1)*2^nb t.toNat:=Nat.mul_le_mul_left _ n1
   rw [Nat.mul_add]at this
   omega
  ·rw [show 32*(l.length - 1)+nb t.toNat - 1=32*(l.length - 1)+(nb t.toNat - 1) by omega,Nat.pow_add,←hp]
   have:4294967296^(l.length - 1)*2^(nb t.toNat - 1)≤4294967296^(l.length - 1)*t.toNat:=Nat.mul_le_mul_left _ n3
   omega
def nby (n:Nat):Nat:=(nb n+7) / 8
theorem x7 (k:Nat):(256:Nat)^k=2^(8*k):=by rw [Nat.pow_mul]
theorem qW (n:Nat):n<256^nby n:=by
 rw [x7]
 exact Nat.lt_of_lt_of_le (c6 n).1 (Nat.pow_le_pow_right (by decide) (by unfold nby; omega))
theorem vl {n i:Nat} (h:i<nby n):256^i≤n:=by
 rw [x7]
 have hn:n≠0:=by rintro rfl; unfold nby at h; rw [fc]at h; omega
 obtain ⟨h1,h2⟩:=(c6 n).2 hn
 exact Nat.le_trans (Nat.pow_le_pow_right (by decide) (by unfold nby at h; omega)) h1
theorem wE {n k:Nat} (h:n<256^k):nby n≤k:=by
 rcases Nat.lt_or_ge k (nby n) with h1 | h1
 ·have:=vl h1; omega
 ·exact h1
theorem jh (n:Nat):nb n≤32*(aA n).length:=by
 refine kM ?_
 have:=bB (aA n)
 rw [aE]at this
 rw [Nat.pow_mul]; exact this
theorem pF (l:List UInt32) (i:Nat):(bC (l.getD (i / 4) 0) (8*(i%4))).toUInt8=UInt8.ofNat (val l / 256^i):=by
 apply UInt8.toNat_inj.1
 rw [UInt32.toNat_toUInt8,fS,UInt8.toNat_ofNat']
 have e8:(2:Nat)^8=256:=rfl
 rw [e8]
 have h1:(256:Nat)^i=4294967296^(i / 4)*256^(i%4):=by
  rw [show (4294967296:Nat)=256^4 from rfl,←Nat.pow_mul,←Nat.pow_add]; congr 1; omega
 rw [h1,←Nat.div_div_eq_div_mul,ek,cf]
 obtain ⟨w,hw⟩:∃w,(l.getD (i / 4) 0).toNat=w:=⟨_,rfl⟩
 obtain ⟨R,hR⟩:∃R,val (l.drop (i / 4+1))=R:=⟨_,rfl⟩
 rw [hw,hR]
 have:i%4=0∨i%4=1∨i%4=2∨i%4=3:=by omega
 rcases this with h | h | h | h <;> rw [h] <;> simp <;> omega
theorem qR (x:Int) (hx:nl x≤1000000000):F.Eo (bi x).1 (bi x).2=some (beB (nby x.natAbs) x.natAbs):=by
 obtain ⟨n,hn⟩:∃n,x.natAbs=n:=⟨_,rfl⟩
 have hl:(aA n).length≤1000000000:=by rw [←hn]; exact hx
 have hb:=jh n
 obtain ⟨m,hm⟩:∃m,nby n=m:=⟨_,rfl⟩
 have hm8:m≤4*(aA n).length:=by rw [←hm]; unfold nby; omega
 unfold F.Eo
 rw [bi2,hn,length_eq _ (by omega),ak,jR]
 have w1:wI (Int.tdiv (wI ((nb n:Int)+7)) 8)=(m:Int):=by
  rw [aV (x:=(nb n:Int)+7) (by omega) (by omega),Int.tdiv_eq_ediv_of_nonneg (by omega),aV (by omega) (by omega),←hm]; unfold nby; omega
 rw [w1,a8,dw (by omega),ak,Int.toNat_natCast,hm]
 have e:=cu (f:=F.Er (aA n) (m:Int)) (fun (y:List UInt8) i=>((i:Int),y)) (fun i y=>i≤m→y=List.replicate (m - i) 0++beB i n) (fun y i=>y.set (m - 1 - i) (UInt8.ofNat (n / 256^i))) 0 m
  (X:=fun y=>some y)
  (fun i y _ hi hy=>by
   have hy:=hy (by omega)
   have stp:y.set (m - 1 - i) (UInt8.ofNat (n / 256^i))=List.replicate (m - (i+1)) 0++beB (i+1) n:=by
    rw [hy,show m - i=m - (i+1)+1 by omega,List.replicate_succ',List.append_assoc,show m - 1 - i=m - (i+1) by omega,List.set_append_right _ _ (by simp)]
    simp [beB]
   refine ⟨?_,fun _=>stp⟩
   have hil:i / 4<(aA n).length:=by
    refine lD (k:=i / 4) ?_
    refine Nat.le_trans ?_ (vl (show i<nby n by omega))
    rw [show (4294967296:Nat)=256^4 from rfl,←Nat.pow_mul]
    exact Nat.pow_le_pow_right (by decide) (by omega)
   have hyl:y.length=m:=by rw [hy]; simp [cF]; omega
   have w4:wI ((i:Int)+1)=((i+1:Nat):Int):=by rw [aV (by omega) (by omega)]; rfl
   have w5:wI (Int.tdiv (i:Int) 4)=((i / 4:Nat):Int):=by rw [Int.tdiv_eq_ediv_of_nonneg (by omega),aV (by omega) (by omega)]; omega
   have w6:wI ((wI ((m:Int) - 1)) - (i:Int))=((m - 1 - i:Nat):Int):=by rw [aV (x:=(m:Int) - 1) (by omega) (by omega),aV (by omega) (by omega)]; omega
   have w7:(8*((UInt64.ofInt (i:Int))%4)).toNat=8*(i%4):=by
    have h1:(UInt64.ofInt (i:Int)).toNat=i:=by
     rw [UInt64.ofInt,UInt64.toNat_ofNat']
     omega
    have h4:(4:UInt64).toNat=4:=rfl
    have h8:(8:UInt64).toNat=8:=rfl
    rw [UInt64.toNat_mul,UInt64.toNat_mod,h1,h4,h8]; omega
   unfold F.Er
   dsimp only
   rw [if_pos (decide_eq_true (by omega)),w5,a7 hil 0,ak,w6,a7 (show m - 1 - i<y.length by omega) 0,ak,a8,Int.toNat_natCast,w7,pF,aE,w4]
   rfl)
  (fun y hy=>by
   unfold F.Er
   dsimp only
   rw [if_neg (by simp)])
  m 0 (List.replicate m 0) (Nat.le_refl _) (by omega) (fun _=>by simp [beB])
 have hI:=cK (fun i (y:List UInt8)=>i≤m→y=List.replicate (m - i) 0++beB i n) (fun y i=>y.set (m - 1 - i) (UInt8.ofNat (n / 256^i)))
  (fun i y hy=>fun hi=>by
   rw [hy (by omega),show m - i=m - (i+1)+1 by omega,List.replicate_succ',List.append_assoc,show m - 1 - i=m - (i+1) by omega,List.set_append_right _ _ (by simp)]
   simp [beB]) m 0 (List.replicate m 0) (fun _=>by simp [beB])
 rw [Nat.zero_add]at hI
 have hI:=hI (Nat.le_refl _)
 rw [hI,Nat.sub_self,List.replicate_zero,List.nil_append]at e
 exact e
def jN (c:UInt8):Nat:=if c.toNat≤57 then c.toNat - 48 else c.toNat - 87
def ef (c:UInt8):Bool:=(48≤c.toNat&&c.toNat≤57) || (97≤c.toNat&&c.toNat≤102)
def dm:List UInt8→Nat
 | []=>0
 | x :: l=>jN x*16^l.length+dm l
theorem ta {c:UInt8} (h:ef c=true):jN c<16:=by
 unfold ef at h; unfold jN
 simp only [Bool.or_eq_true,Bool.and_eq_true,decide_eq_true_eq]at h
 split <;> omega
theorem mT:∀a b:List UInt8,dm (a++b)=dm a*16^b.length+dm b
 | [],b=>by simp [dm]
 | x :: a,b=>by
  rw [List.cons_append,dm,dm,mT a b,List.length_append,Nat.add_mul,Nat.pow_add,Nat.mul_assoc]; omega
theorem tB:∀l:List UInt8,l.all ef=true→dm l<16^l.length
 | [],_=>by simp [dm]
 | x :: l,h=>by
  rw [List.all_cons,Bool.and_eq_true]at h
  have h1:=tB l h.2; have h2:=ta h.1
  have:(jN x+1)*16^l.length≤16*16^l.length:=Nat.mul_le_mul_right _ (by omega)
  rw [Nat.add_mul]at this
  rw [dm,List.length_cons,Nat.pow_succ,Nat.mul_comm (16^_) 16]
  omega
theorem j4 (l:List UInt8) {i:Nat} (h:i<l.length):dm (l.take (i+1))=16*dm (l.take i)+jN (l.getD i 0):=by
 rw [List.take_add_one,List.getD_eq_getElem?_getD,List.getElem?_eq_getElem h,mT]
 simp [dm]; omega
theorem qX {l:List UInt8} {p:UInt8→Bool} (h:l.all p=true) {i:Nat} (hi:i<l.length):p (l.getD i 0)=true:=by
 rw [List.getD_eq_getElem?_getD,List.getElem?_eq_getElem hi]
 exact List.all_eq_true.1 h _ (List.getElem_mem hi)
theorem wQ {l:List UInt8} {p:UInt8→Bool} (h:l.all p=true) (i:Nat):(l.take i).all p=true:=
 List.all_eq_true.2 fun x hx=>List.all_eq_true.1 h x (List.mem_of_mem_take hx)
theorem xc (n0:Bool) (l0:List UInt32) (sg:Bool) (s:List UInt8) (n i:Nat) (hs:s.all ef=true) (hi:i<s.length) (hsl:s.length≤1000000000) (hn:(aA n).length≤1000000000) :
  F.Dw n0 l0 sg s 16 (aA n,(i:Int))=some (.inl (aA (16*n+jN (s.getD i 0)),((i+1:Nat):Int))):=by
 have hc:=qX hs hi
 obtain ⟨c,hcc⟩:∃c,s.getD i 0=c:=⟨_,rfl⟩
 rw [hcc]at hc ⊢
 have hd:=ta hc
 have w4:wI ((i:Int)+1)=((i+1:Nat):Int):=by rw [aV (by omega) (by omega)]; rfl
 have k4:∀d:Nat,d<16→F.CG 16 (aA n) (i:Int) (d:Int)=some (.inl (aA (16*n+d),((i+1:Nat):Int))):=by
  intro d hd
  unfold F.CG
  have h16:(UInt64.ofInt 16).toNat=16:=rfl
  have hdd:(UInt64.ofInt (d:Int)).toNat=d:=by rw [UInt64.ofInt,UInt64.toNat_ofNat']; omega
  have e1:(aA 16).length≤1:=bm (by decide)
  have e2:(aA d).length≤1:=bm (by omega)
  have e3:=lJ n 16
  rw [if_neg (by simp only [decide_eq_true_eq]; omega),gM,ak,h16,wm _ _ (by omega),ak,gM,ak,hdd,aE,aE,oo _ _ (by omega) (by omega),ak,aE,aE,w4,Nat.mul_comm n 16]
  rfl
 unfold F.Dw
 dsimp only
 rw [if_pos (decide_eq_true (by omega)),a7 hi 0,ak,hcc]
 unfold ef at hc
 simp only [Bool.or_eq_true,Bool.and_eq_true,decide_eq_true_eq]at hc
 rw [if_pos (decide_eq_true (by rw [UInt8.le_iff_toNat_le]; have:(48:UInt8).toNat=48:=rfl; omega))]
 unfold F.Ff
 by_cases h:c.toNat≤57
 ·have e1:(c - 48).toNat=c.toNat - 48:=UInt8.toNat_sub_of_le _ _ (by rw [UInt8.le_iff_toNat_le]; have:(48:UInt8).toNat=48:=rfl; omega)
  have e2:jN c=c.toNat - 48:=if_pos h
  rw [if_pos (decide_eq_true (by rw [UInt8.le_iff_toNat_le]; exact h)),a8,e1,e2]
  exact k4 _ (by omega)
 ·have e1:(c - 97).toNat=c.toNat - 97:=UInt8.toNat_sub_of_le _ _ (by rw [UInt8.le_iff_toNat_le]; have:(97:UInt8).toNat=97:=rfl; omega)
  have e2:jN c=c.toNat - 87:=if_neg h
  rw [if_neg (by rw [decide_eq_true_eq,UInt8.le_iff_toNat_le]; exact h),if_pos (decide_eq_true (by rw [UInt8.le_iff_toNat_le]; have:(97:UInt8).toNat=97:=rfl; omega))]
  unfold F.Fv
  rw [if_pos (decide_eq_true (by rw [UInt8.le_iff_toNat_le]; have:(122:UInt8).toNat=122:=rfl; omega)),a8,e1,aV (by omega) (by omega),e2,show ((c.toNat - 97:Nat):Int)+10=((c.toNat - 87:Nat):Int) by omega]
  exact k4 _ (by omega)
theorem rF (n0:Bool) (l0:List UInt32) (s:List UInt8) (hs:s.all ef=true) (h0:s≠[]) (hsl:s.length≤1000000000):F.E0 n0 l0 s 16=some (true,false,aA (dm s)):=by
 have hl:0<s.length:=List.length_pos_iff.2 h0
 have hc:=qX hs hl
 unfold ef at hc
 simp only [Bool.or_eq_true,Bool.and_eq_true,decide_eq_true_eq]at hc
 have hne:∀d:UInt8,d.toNat<48→(s.getD 0 0 == d)=false:=fun d hd=>by
  rw [beq_eq_false_iff_ne]; intro h; rw [h]at hc; omega
 unfold F.E0
 rw [if_pos (decide_eq_true (by omega)),show (0:Int)=((0:Nat):Int) from rfl,a7 hl 0,ak,if_neg (by rw [hne 45 (by decide)]; decide),ak,hne 43 (by decide)]
 unfold F.Ey F.E9
 rw [if_neg (by decide)]
 dsimp only
 rw [if_neg (by decide)]
 unfold F.DP
 dsimp only
 rw [if_neg (by simpa using h0),if_neg (by decide)]
 unfold F.DU
 rw [if_neg (by decide)]
 have hk:∀i,i≤s.length→(aA (dm (s.take i))).length≤1000000000:=fun i hi=>by
  have h1:=tB (s.take i) (wQ hs i)
  rw [List.length_take,Nat.min_eq_left hi]at h1
  have h2:=gn (k:=i) (Nat.lt_of_lt_of_le h1 (Nat.pow_le_pow_left (by decide) i))
  omega
 have e:=cu (f:=F.Dw n0 l0 false s 16) (fun (x:Nat) i=>(aA x,(i:Int))) (fun i x=>i≤s.length→x=dm (s.take i)) (fun x i=>16*x+jN (s.getD i 0)) 0 s.length
  (X:=fun x=>some (true,false,aA x))
  (fun i x _ hi hx=>by
   have hx:=hx (by omega)
   exact ⟨xc n0 l0 false s x i hs hi hsl (by rw [hx]; exact hk i (by omega)),fun _=>by rw [hx,j4 s hi]⟩)
  (fun x hx=>by
   unfold F.Dw
   dsimp only
   rw [if_neg (by simp),ot,ak]; rfl)
  s.length 0 0 (Nat.le_refl _) (by omega) (fun _=>by simp [dm])
 have hI:=cK (fun i (x:Nat)=>i≤s.length→x=dm (s.take i)) (fun x i=>16*x+jN (s.getD i 0)) (fun i x hx=>fun hi=>by rw [hx (by omega),j4 s (by omega)]) s.length 0 0 (fun _=>by simp [dm])
 rw [Nat.zero_add]at hI
 have hI:=hI (Nat.le_refl _)
 rw [hI,List.take_length,bG]at e
 exact e
end Go.Gk.Bn
end

section
namespace Go.Gk.Bn
open Go Go.Gk Go.Gk.Sh
theorem mL (a:List UInt32) (ha:a.length≤4611686018427387904):∀k,k≤a.length→(∀j,k≤j→a.getD j 0=0)→∃m,loop (F.ED a) k=some m∧m≤a.length∧a.take m=aA (val a)
 | 0,_,hz=>by
  refine ⟨0,?_,by omega,jA (by omega) hz (.inl rfl)⟩
  have h:F.ED a 0=bl (grd (0≤(((a.take 0).length:Int):Int)∧(((a.take 0).length:Int):Int).toNat≤(a.take 0).length∧(((a.take 0).length:Int):Int)=((a.take 0).length:Int)) <| some ((((a.take 0).length:Int):Int).toNat)):=rfl
  rw [bE h,grd_true _ (by simp)]; rfl
 | k+1,hk,hz=>by
  have hl:(a.take (k+1)).length=k+1:=by rw [List.length_take]; omega
  have w:wI (((k+1:Nat):Int) - 1)=(k:Int):=by rw [aV (by omega) (by omega)]; omega
  have hg:aB (a.take (k+1)) (k:Int)=some (a.getD k 0):=by
   rw [a7 (show k<(a.take (k+1)).length by omega) 0]
   congr 1
   rw [List.getD_eq_getElem?_getD,List.getElem?_take,if_pos (by omega),←List.getD_eq_getElem?_getD]
  have hL:F.ED a (k+1)=if (decide ((0:Int)<((a.take (k+1)).length:Int)))=true then an (aB (a.take (k+1)) (wI (((a.take (k+1)).length:Int) - 1):Int)) fun x_7=>F.CJ a (k+1) (x_7 == 0) else F.CJ a (k+1) false:=rfl
  rw [hl,if_pos (decide_eq_true (by omega)),w,hg,ak]at hL
  by_cases h0:a.getD k 0=0
  ·obtain ⟨m,h1,h2⟩:=mL a ha k (by omega) (fun j hj=>by
    rcases Nat.lt_or_ge k j with h | h
    ·exact hz j (by omega)
    ·rw [show j=k by omega]; exact h0)
   refine ⟨m,?_,h2⟩
   rw [←h1]
   refine bI ?_
   rw [hL,h0]
   unfold F.CJ
   rw [if_pos (by rfl),hl,w,grd_true _ (by omega)]; rfl
  ·refine ⟨k+1,?_,hk,jA hk hz (.inr (by simpa using h0))⟩
   have hn:(a.getD k 0 == 0)=false:=by rw [beq_eq_false_iff_ne]; exact h0
   rw [hn]at hL
   unfold F.CJ at hL
   rw [if_neg (by decide),hl]at hL
   rw [bE hL,grd_true _ (by omega)]; rfl
theorem dW (a:List UInt32) (ha:a.length≤4611686018427387904):∃m,F.BU a=some m∧m≤a.length∧a.take m=aA (val a):=
 mL a ha a.length (Nat.le_refl _) fun j hj=>dn hj
theorem dt (a:List UInt32) (ha:a.length≤4611686018427387904):∃m,F.BQ a=some m∧m≤a.length∧a.take m=aA (val a):=by
 obtain ⟨m,h1,h2⟩:=dW a ha
 exact ⟨m,by unfold F.BQ; rw [h1,ak],h2⟩
theorem rB {n k:Nat} (h:2^k≤n):nb n=nb (n / 2^k)+k:=by
 have hp:=Nat.two_pow_pos k
 have h0:n / 2^k≠0:=by
  have:=Nat.div_le_div_right (c:=2^k) h
  rw [Nat.div_self hp]at this; omega
 obtain ⟨h1,h2⟩:=c6 (n / 2^k)
 obtain ⟨h3,h4⟩:=h2 h0
 refine lL ?_ ?_ (by omega)
 ·rw [Nat.pow_add]; exact (Nat.div_lt_iff_lt_mul hp).1 h1
 ·rw [show nb (n / 2^k)+k - 1=nb (n / 2^k) - 1+k by omega,Nat.pow_add]
  exact (Nat.le_div_iff_mul_le hp).1 h3
def o7:List UInt8:=[0,1,2,2,3,3,3,3,4,4,4,4,4,4,4,4,5,5,5,5,5,5,5,5,5,5,5,5,5,5,5,5,6,6,6,6,6,6,6,6,6,6,6,6,6,6,6,6,6,6,6,6,6,6,6,6,6,6,6,6,6,6,6,6,7,7,7,7,7,7,7,7,7,7,7,7,7,7,7,7,7,7,7,7,7,7,7,7,7,7,7,7,7,7,7,7,7,7,7,7,7,7,7,7,7,7,7,7,7,7,7,7,7,7,7,7,7,7,7,7,7,7,7,7,7,7,7,7,8,8,8,8,8,8,8,8,8,8,8,8,8,8,8,8,8,8,8,8,8,8,8,8,8,8,8,8,8,8,8,8,8,8,8,8,8,8,8,8,8,8,8,8,8,8,8,8,8,8,8,8,8,8,8,8,8,8,8,8,8,8,8,8,8,8,8,8,8,8,8,8,8,8,8,8,8,8,8,8,8,8,8,8,8,8,8,8,8,8,8,8,8,8,8,8,8,8,8,8,8,8,8,8,8,8,8,8,8,8,8,8,8,8,8,8,8,8,8,8,8,8,8,8,8,8,8,8]
def ck (i:Nat) (t:Nat):Bool:=Nat.blt i (2^t)&&(Nat.beq i 0&&Nat.beq t 0 || Nat.ble (2^(t - 1)) i&&Nat.ble 1 t)
def ckA:List UInt8→Nat→Bool
 | [],_=>true
 | x :: l,i=>ck i x.toNat&&ckA l (i+1)
theorem vw:∀(l:List UInt8) (i j:Nat),ckA l i=true→j<l.length→ck (i+j) (l.getD j 0).toNat=true
 | [],_,_,_,h=>by simp at h
 | x :: l,i,0,h,_=>by
  rw [ckA,Bool.and_eq_true]at h
  exact h.1
 | x :: l,i,j+1,h,hj=>by
  rw [ckA,Bool.and_eq_true]at h
  have:=vw l (i+1) j h.2 (by simpa using hj)
  rw [List.getD_cons_succ,show i+(j+1)=i+1+j by omega]
  exact this
theorem zn:ckA o7 0=true:=by decide +kernel
theorem yd:Nat.beq o7.length 256=true:=by decide +kernel
theorem BB (b:Nat) (hb:b<256):∃t:UInt8,aB o7 (b:Int)=some t∧t.toNat=nb b:=by
 have hl:=Nat.eq_of_beq_eq_true yd
 have h:=vw o7 0 b zn (by omega)
 rw [Nat.zero_add]at h
 unfold ck at h
 rw [Bool.and_eq_true,Bool.or_eq_true,Bool.and_eq_true,Bool.and_eq_true]at h
 obtain ⟨h1,h2⟩:=h
 rw [Nat.blt_eq]at h1
 refine ⟨o7.getD b 0,a7 (by omega) 0,?_⟩
 rcases h2 with ⟨h2,h3⟩ | ⟨h2,h3⟩
 ·rw [Nat.eq_of_beq_eq_true h2,fc]
  rw [Nat.eq_of_beq_eq_true h2]at h3
  exact Nat.eq_of_beq_eq_true h3
 ·exact (lL h1 (Nat.le_of_ble_eq_true h2) (Nat.le_of_ble_eq_true h3)).symm
theorem ss (y:UInt32) (k:Int):F.Ek (y,k)=an (aB o7 (y.toUInt8.toNat:Int)) fun x_9=>bq (wI (k+(x_9.toNat:Int))) fun x_10=>some x_10:=rfl
theorem sf (x:UInt32):F.EP x=some (nb x.toNat:Int):=by
 have hx:=ce x
 have k2:∀(y:UInt32) (k:Nat),y.toNat<256→k≤24→F.Ek (y,(k:Int))=some ((nb y.toNat+k:Nat):Int):=by
  intro y k hy hk
  have e1:y.toUInt8.toNat=y.toNat:=by rw [UInt32.toNat_toUInt8]; omega
  obtain ⟨t,h1,h2⟩:=BB y.toNat hy
  have h3:=kM (n:=y.toNat) (k:=8) hy
  rw [ss,e1,h1,ak,a8,h2,aV (by omega) (by omega)]
  congr 1; omega
 have k1:∀(y:UInt32) (k:Nat),y.toNat<65536→k≤16→F.EA (y,(k:Int))=some ((nb y.toNat+k:Nat):Int):=by
  intro y k hy hk
  unfold F.EA
  dsimp only
  by_cases h:256≤y.toNat
  ·have e1:(bC y 8).toNat=y.toNat / 2^8:=by rw [fS]; rfl
   rw [if_pos (decide_eq_true (by rw [UInt32.le_iff_toNat_le]; exact h)),aV (by omega) (by omega),show (k:Int)+8=((k+8:Nat):Int) by omega,k2 _ _ (by rw [e1]; omega) (by omega),e1,rB (n:=y.toNat) (k:=8) (by omega)]
   congr 1; omega
  ·rw [if_neg (by rw [decide_eq_true_eq,UInt32.le_iff_toNat_le]; exact h)]
   exact k2 y k (by omega) (by omega)
 unfold F.EP
 by_cases h:65536≤x.toNat
 ·have e1:(bC x 16).toNat=x.toNat / 2^16:=by rw [fS]; rfl
  rw [if_pos (decide_eq_true (by rw [UInt32.le_iff_toNat_le]; exact h)),show (16:Int)=((16:Nat):Int) from rfl,k1 _ _ (by rw [e1]; omega) (by omega),e1,rB (n:=x.toNat) (k:=16) (by omega)]
 ·rw [if_neg (by rw [decide_eq_true_eq,UInt32.le_iff_toNat_le]; exact h),show (0:Int)=((0:Nat):Int) from rfl,k1 _ _ (by omega) (by omega),Nat.add_zero]
theorem gg (a:List UInt32) (ha:a.length≤100000000000000):F.B0 a=some (nb (val a):Int):=by
 obtain ⟨m,h1,h2,h3⟩:=dt a (by omega)
 have hl:(aA (val a)).length≤a.length:=bm (bB a)
 unfold F.B0
 rw [h1,ak,h3,←jR]
 unfold hU
 by_cases h0:(aA (val a)).length=0
 ·rw [if_pos (by rw [h0]; rfl),if_pos h0]; rfl
 ·have w1:wI (((aA (val a)).length:Int) - 1)=(((aA (val a)).length - 1:Nat):Int):=by rw [aV (by omega) (by omega)]; omega
  have n5:=yb ((aA (val a)).getD ((aA (val a)).length - 1) 0)
  rw [if_neg (by simpa using fun h=>h0 (by rw [h]; rfl)),if_neg h0,w1,a7 (by omega) 0,ak,sf,ak,aV (x:=32*_) (by omega) (by omega),aV (by omega) (by omega)]
  congr 1
theorem tD (o:List UInt8) (a:List UInt32) (ho:o.length≤1000000000000000) (ha:a.length≤100000000000000):F.EH o a=some (beB o.length (val a)):=by
 unfold F.EH
 have e:=cu (f:=F.Ex o a) (fun (y:List UInt8) i=>((i:Int),y)) (fun i y=>i≤o.length→y.length=o.length∧∀k,k<i→y.getD k 0=UInt8.ofNat (val a / 256^(o.length - 1 - k))) (fun y i=>y.set i (UInt8.ofNat (val a / 256^(o.length - 1 - i)))) 0 o.length
  (X:=fun y=>some y)
  (fun i y _ hi hy=>by
   obtain ⟨hl,hy⟩:=hy (by omega)
   refine ⟨?_,fun _=>⟨by simpa using hl,fun k hk=>?_⟩⟩
   ·have w4:wI ((i:Int)+1)=((i+1:Nat):Int):=by rw [aV (by omega) (by omega)]; rfl
    obtain ⟨at_,hat⟩:∃t,o.length - 1 - i=t:=⟨_,rfl⟩
    have w6:wI ((wI ((y.length:Int) - 1)) - (i:Int))=(at_:Int):=by rw [hl,aV (x:=(o.length:Int) - 1) (by omega) (by omega),aV (by omega) (by omega)]; omega
    have w5:wI (Int.tdiv (at_:Int) 4)=((at_ / 4:Nat):Int):=by rw [Int.tdiv_eq_ediv_of_nonneg (by omega),aV (by omega) (by omega)]; omega
    have w7:wI (8*(Int.tmod (at_:Int) 4))=((8*(at_%4):Nat):Int):=by rw [Int.tmod_eq_emod_of_nonneg (by omega),aV (by omega) (by omega)]; omega
    unfold F.Ex
    dsimp only
    rw [if_pos (decide_eq_true (by omega)),w6,a8,a7 (show i<y.length by omega) 0,ak,a8,w5,Int.toNat_natCast]
    by_cases h:at_ / 4<a.length
    ·rw [if_pos (decide_eq_true (by omega)),a7 h 0,ak,w7,grd_true _ (by omega),a7 (show i<(y.set i 0).length by simp; omega) 0,ak,a8,Int.toNat_natCast,pF,hat]
     unfold F.Eh
     rw [w4,List.set_set]; rfl
    ·rw [if_neg (by simp only [decide_eq_true_eq]; omega)]
     unfold F.Eh
     have hz:val a / 256^at_=0:=by
      refine Nat.div_eq_of_lt (Nat.lt_of_lt_of_le (bB a) ?_)
      rw [show (4294967296:Nat)=256^4 from rfl,←Nat.pow_mul]
      exact Nat.pow_le_pow_right (by decide) (by omega)
     rw [w4,hat,hz]; rfl
   ·rw [List.getD_eq_getElem?_getD,List.getElem?_set]
    by_cases hk2:i=k
    ·subst hk2; rw [if_pos rfl,if_pos (by omega)]; rfl
    ·rw [if_neg hk2,←List.getD_eq_getElem?_getD]; exact hy k (by omega))
  (fun y hy=>by
   unfold F.Ex
   dsimp only
   rw [if_neg (by simp)])
  o.length 0 o (Nat.le_refl _) (by omega) (fun _=>⟨rfl,fun k hk=>by omega⟩)
 have hI:=cK (fun i (y:List UInt8)=>i≤o.length→y.length=o.length∧∀k,k<i→y.getD k 0=UInt8.ofNat (val a / 256^(o.length - 1 - k))) (fun y i=>y.set i (UInt8.ofNat (val a / 256^(o.length - 1 - i))))
  (fun i y hy=>fun hi=>by
   obtain ⟨hl,hy⟩:=hy (by omega)
   refine ⟨by simpa using hl,fun k hk=>?_⟩
   rw [List.getD_eq_getElem?_getD,List.getElem?_set]
   by_cases hk2:i=k
   ·subst hk2; rw [if_pos rfl,if_pos (by omega)]; rfl
   ·rw [if_neg hk2,←List.getD_eq_getElem?_getD]; exact hy k (by omega)) o.length 0 o (fun _=>⟨rfl,fun k hk=>by omega⟩)
 rw [Nat.zero_add]at hI
 obtain ⟨y,hy⟩:∃y,(List.range' 0 o.length).foldl (fun y i=>y.set i (UInt8.ofNat (val a / 256^(o.length - 1 - i)))) o=y:=⟨_,rfl⟩
 rw [hy]at hI e
 obtain ⟨h1,h2⟩:=hI (Nat.le_refl _)
 refine e.trans ?_
 congr 1
 refine List.ext_getElem (by rw [h1,cF]) fun k hk1 hk2=>?_
 have a1:=h2 k (by omega)
 have a2:=sd o.length (val a) k (by omega)
 rw [List.getD_eq_getElem?_getD,List.getElem?_eq_getElem hk1]at a1
 rw [List.getD_eq_getElem?_getD,List.getElem?_eq_getElem hk2]at a2
 exact a1.trans a2.symm
theorem vA (a:List UInt32) (ha:a.length≤35184372087808):F.Fo a=some (beB (nby (val a)) (val a)):=by
 obtain ⟨m,h1,h2,h3⟩:=dt a (by omega)
 have hl:(aA (val a)).length≤a.length:=bm (bB a)
 have hb:=jh (val a)
 have w1:wI (Int.tdiv (wI ((nb (val a):Int)+7)) 8)=(nby (val a):Int):=by
  rw [aV (x:=(nb (val a):Int)+7) (by omega) (by omega),Int.tdiv_eq_ediv_of_nonneg (by omega),aV (by omega) (by omega)]; unfold nby; omega
 have hn:nby (val a)≤4*(aA (val a)).length:=by unfold nby; omega
 unfold F.Fo
 rw [gg a (by omega),ak,w1,a8,dw (by omega),ak,h1,ak,h3,tD _ _ (by simp; omega) (by omega),ak,Int.toNat_natCast,List.length_replicate,aE]
theorem yM (x y:UInt32) (t:Nat) (hy:y.toNat<256) (ht:t<4) (hx:x.toNat%256^(t+1)=0):(x ||| ch y (8*t)).toNat=x.toNat+y.toNat*256^t:=by
 have hs:(ch y (8*t)).toNat=y.toNat*256^t:=by
  rw [mO,Nat.min_eq_left (by omega),Nat.pow_mul,show (2:Nat)^8=256 from rfl,Nat.mod_eq_of_lt]
  have:t=0∨t=1∨t=2∨t=3:=by omega
  rcases this with h | h | h | h <;> subst h <;> simp <;> omega
 rw [UInt32.toNat_or,hs]
 refine ql (8*(t+1)) (by rw [Nat.pow_mul]; exact hx) ?_
 rw [Nat.pow_mul,Nat.pow_succ,Nat.mul_comm]
 exact Nat.mul_lt_mul_of_pos_left hy (Nat.pow_pos (by decide))
theorem xD {l:List UInt32} {q t:Nat} (ht:t≤4) (h:val l%256^(4*q+t)=0):(l.getD q 0).toNat%256^t=0:=by
 have h1:val l / 256^(4*q)%256^t=0:=by
  rw [Nat.pow_add]at h
  have:=Nat.mod_mul_right_div_self (val l) (256^(4*q)) (256^t)
  rw [h,Nat.zero_div]at this
  exact this.symm
 rw [Nat.pow_mul,show (256:Nat)^4=4294967296 from rfl,ek,cf]at h1
 have:t=0∨t=1∨t=2∨t=3∨t=4:=by omega
 rcases this with h2 | h2 | h2 | h2 | h2 <;> subst h2 <;> simp at h1 ⊢ <;> omega
theorem eE (b:List UInt8) (hb:b.length≤140737488351232):F.B5 b=some (aA (beN b)):=by
 obtain ⟨n,hn⟩:∃n,(b.length+3) / 4=n:=⟨_,rfl⟩
 have w0:wI (Int.tdiv (wI ((b.length:Int)+3)) 4)=(n:Int):=by
  rw [aV (x:=(b.length:Int)+3) (by omega) (by omega),Int.tdiv_eq_ediv_of_nonneg (by omega),aV (by omega) (by omega)]; omega
 unfold F.B5
 rw [w0,dw (by omega),ak,Int.toNat_natCast]
 have key:∀(i:Nat) (y:List UInt32),i<b.length→(y.length=n∧val y=beN (b.take i)*256^(b.length - i)) →
   ((y.set ((b.length - 1 - i) / 4) (y.getD ((b.length - 1 - i) / 4) 0 ||| ch (b.getD i 0).toUInt32 (8*((b.length - 1 - i)%4)))).length=n ∧
    val (y.set ((b.length - 1 - i) / 4) (y.getD ((b.length - 1 - i) / 4) 0 ||| ch (b.getD i 0).toUInt32 (8*((b.length - 1 - i)%4))))=beN (b.take (i+1))*256^(b.length - (i+1))):=by
  rintro i y hi ⟨h1,h2⟩
  obtain ⟨t,ht⟩:∃t,b.length - 1 - i=t:=⟨_,rfl⟩
  rw [ht]
  have hbb:(b.getD i 0).toUInt32.toNat=(b.getD i 0).toNat:=UInt8.toNat_toUInt32 _
  have hbl:=(b.getD i 0).toNat_lt
  have hv:=dB y (t / 4) (y.getD (t / 4) 0 ||| ch (b.getD i 0).toUInt32 (8*(t%4))) (by omega)
  have hm:(y.getD (t / 4) 0).toNat%256^(t%4+1)=0:=by
   refine xD (by omega) ?_
   rw [show 4*(t / 4)+(t%4+1)=b.length - i by omega,h2,Nat.mul_mod_left]
  rw [yM _ _ _ (by rw [hbb]; omega) (by omega) hm,hbb,Nat.mul_add]at hv
  refine ⟨by simpa using h1,?_⟩
  have hp:4294967296^(t / 4)*((b.getD i 0).toNat*256^(t%4))=(b.getD i 0).toNat*256^t:=by
   rw [show (4294967296:Nat)=256^4 from rfl,←Nat.pow_mul,Nat.mul_left_comm,←Nat.pow_add]; congr 2; omega
  rw [hp]at hv
  rw [iF b hi,show b.length - (i+1)=t by omega,Nat.add_mul]
  have h3:256*beN (b.take i)*256^t=beN (b.take i)*256^(b.length - i):=by
   rw [show b.length - i=t+1 by omega,Nat.pow_succ,Nat.mul_comm 256,Nat.mul_assoc,Nat.mul_comm 256]
  rw [h3]
  omega
 have e:=cu (f:=F.Ei b) (fun (y:List UInt32) i=>((i:Int),y)) (fun i y=>i≤b.length→y.length=n∧val y=beN (b.take i)*256^(b.length - i))
  (fun y i=>y.set ((b.length - 1 - i) / 4) (y.getD ((b.length - 1 - i) / 4) 0 ||| ch (b.getD i 0).toUInt32 (8*((b.length - 1 - i)%4)))) 0 b.length
  (X:=fun y=>some (aA (val y)))
  (fun i y _ hi hy=>by
   have hy:=hy (by omega)
   refine ⟨?_,fun _=>key i y hi hy⟩
   obtain ⟨t,ht⟩:∃t,b.length - 1 - i=t:=⟨_,rfl⟩
   rw [ht]
   have hyl:=hy.1
   have w4:wI ((i:Int)+1)=((i+1:Nat):Int):=by rw [aV (by omega) (by omega)]; rfl
   have w6:wI ((wI ((b.length:Int) - 1)) - (i:Int))=(t:Int):=by rw [aV (x:=(b.length:Int) - 1) (by omega) (by omega),aV (by omega) (by omega)]; omega
   have w5:wI (Int.tdiv (t:Int) 4)=((t / 4:Nat):Int):=by rw [Int.tdiv_eq_ediv_of_nonneg (by omega),aV (by omega) (by omega)]; omega
   have w7:wI (8*(Int.tmod (t:Int) 4))=((8*(t%4):Nat):Int):=by rw [Int.tmod_eq_emod_of_nonneg (by omega),aV (by omega) (by omega)]; omega
   unfold F.Ei
   dsimp only
   rw [if_pos (decide_eq_true (by omega)),a7 hi 0,ak,w6,a8,w5,a7 (show t / 4<y.length by omega) 0,ak,w7,grd_true _ (by omega),ak,a8,Int.toNat_natCast,Int.toNat_natCast,w4]
   rfl)
  (fun y hy=>by
   obtain ⟨m,h1,h2,h3⟩:=dW y (by have:=(hy (Nat.le_refl _)).1; omega)
   unfold F.Ei
   dsimp only
   rw [if_neg (by simp),h1,ak,h3])
  b.length 0 (List.replicate n 0) (Nat.le_refl _) (by omega) (fun _=>⟨by simp,by rw [cT]; simp [beN]⟩)
 have hI:=cK (fun i (y:List UInt32)=>i≤b.length→y.length=n∧val y=beN (b.take i)*256^(b.length - i)) (fun y i=>y.set ((b.length - 1 - i) / 4) (y.getD ((b.length - 1 - i) / 4) 0 ||| ch (b.getD i 0).toUInt32 (8*((b.length - 1 - i)%4))))
  (fun i y hy=>fun hi=>key i y (by omega) (hy (by omega))) b.length 0 (List.replicate n 0) (fun _=>⟨by simp,by rw [cT]; simp [beN]⟩)
 rw [Nat.zero_add]at hI
 have hI:=(hI (Nat.le_refl _)).2
 rw [hI,Nat.sub_self,Nat.pow_zero,Nat.mul_one,List.take_length]at e
 exact e
end Go.Gk.Bn
end
