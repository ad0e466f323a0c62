import Derived.Test.YtahgjafdhjbkeaaGreatDoorGkX5
import Derived.Test.YtahgjafdhjbkeaaGreatDoorGkFman
import Derived.Test.YtahgjafdhjbkeaaGreatDoorGkW4
import Derived.Test.YtahgjafdhjbkeaaGreatDoorGkP0
set_option linter.unusedVariables false
set_option linter.unusedSimpArgs false
set_option linter.unusedSectionVars false

section
namespace Go.Gk.Bn
open Go Go.Gk Go.Gk.Sh Go.Gk.Ec Go.Gk.Pr
theorem mN (l:List UInt32) (k:Nat):val (l.drop k)=val l / 4294967296^k:=by
 rcases Nat.le_total k l.length with h | h
 ·have g:=db l k h
  have f:=bv (l.take k)
  rw [List.length_take,Nat.min_eq_left h]at f
  rw [g,Nat.add_mul_div_left _ _ (Nat.pow_pos (by decide)),Nat.div_eq_of_lt f,Nat.zero_add]
 ·rw [List.drop_of_length_le h,eh,Nat.div_eq_of_lt]
  exact Nat.lt_of_lt_of_le (bv l) (Nat.pow_le_pow_right (by decide) h)
theorem tr (l:List UInt32) (k:Nat):F.GG l (k:Int)=some (l.drop k):=by
 unfold F.GG
 by_cases h:l.length≤k
 ·rw [if_pos (decide_eq_true (by omega)),List.drop_of_length_le h]
 ·rw [if_neg (by rw [decide_eq_true_eq]; omega),mL (by omega),ae]
def kN (c:Int):Nat:=(am (cP c)).length
def B2 (c:Int):Nat:=4294967296^(2*kN c)
def muN (c:Int):Nat:=B2 c / cP c
theorem iF (c:Int):1≤kN c∧kN c≤12∧(am (muN c)).length≤25∧0<cP c:=by
 have h:=dp c
 have l:=dT c (Nat.le_refl (cP c))
 have f:(am (cP c)).length≠0:=fun q=>by have:=(eL _).1 q; omega
 refine ⟨by unfold kN; omega,l,?_,by omega⟩
 unfold muN B2
 refine bj (Nat.lt_of_le_of_lt (Nat.div_le_self _ _) ?_)
 exact Nat.pow_lt_pow_right (by decide) (by unfold kN; omega)
theorem vC (c:Int) (hc:isC c):F.HT c=some (am (cP c),am (muN c),((kN c:Nat):Int)):=by
 obtain ⟨i,j,x,y⟩:=iF c
 obtain ⟨k,f⟩:∃k,kN c=k:=⟨_,rfl⟩
 have m:(am (cP c)).length=k:=f
 unfold F.HT
 rw [i8,if_pos hc,ae,m]
 rw [f]at i j
 have o:wI (2*(k:Int))=((2*k:Nat):Int):=by rw [aJ (by omega) (by omega)]; omega
 have q:wI (((2*k:Nat):Int)+1)=((2*k+1:Nat):Int):=by rw [aJ (by omega) (by omega)]; omega
 have g:mkO 4 ((2*k+1:Nat):Int) ((2*k+1:Nat):Int) (0:UInt32)=some (List.replicate (2*k+1) 0):=by
  unfold mkO
  rw [if_pos ⟨by omega,by omega,by omega,by omega⟩,Int.toNat_natCast]
 have t:val ((List.replicate (2*k+1) (0:UInt32)).set (2*k) 1)=4294967296^(2*k):=by
  have h:=dx (List.replicate (2*k+1) (0:UInt32)) (2*k) 1 (by simp)
  rw [cn,tc]at h
  simpa using h
 rw [o,q,g,ae,aO (show 2*k<(List.replicate (2*k+1) (0:UInt32)).length by simp) 0,ae,aS,Int.toNat_natCast,
  ku _ _ (by simp; omega) (by omega) (by rw [aq]; omega),ae,t,aq]
 unfold muN B2
 rw [f]
theorem AD {x A B C p:Nat} (f:A*C=B) (g:0<C):x / A*(B / p) / C*p≤x:=by
 have h:x / A*(B / p) / C*C≤x / A*(B / p):=Nat.div_mul_le_self _ _
 have i:B / p*p≤B:=Nat.div_mul_le_self _ _
 have j:x / A*A≤x:=Nat.div_mul_le_self _ _
 refine Nat.le_of_mul_le_mul_right ?_ g
 calc x / A*(B / p) / C*p*C=x / A*(B / p) / C*C*p:=by rw [Nat.mul_right_comm]
  _≤x / A*(B / p)*p:=Nat.mul_le_mul_right _ h
  _=x / A*(B / p*p):=Nat.mul_assoc _ _ _
  _≤x / A*B:=Nat.mul_le_mul_left _ i
  _=x / A*A*C:=by rw [←f,Nat.mul_assoc]
  _≤x*C:=Nat.mul_le_mul_right _ j
theorem yK {p:Nat} (j:0<p) (k:(am p).length≤1000):∀r:Nat,(am r).length≤1000→loop (F.Hb (am p)) (am r)=some (am (r%p)):=by
 intro r
 induction r using Nat.strongRecOn with
 | _ r ih=>
  intro f
  by_cases h:r<p
  ·rw [Nat.mod_eq_of_lt h]
   refine bO ?_
   unfold F.Hb
   dsimp only
   rw [f0 _ _ (by omega) (by omega),ae,aq,aq]
   unfold cv
   rw [if_pos h,if_neg (by decide)]
  ·have g:=dl (show r - p≤r by omega) f
   have i:0≤cv r p:=by unfold cv; rw [if_neg h]; split <;> decide
   rw [bI (s':=am (r - p)) (by
    unfold F.Hb
    dsimp only
    rw [f0 _ _ (by omega) (by omega),ae,aq,aq,if_pos (decide_eq_true i),gh _ _ (by omega) (by rw [aq,aq]; omega),ae,aq,aq]
    rfl),ih (r - p) (by omega) g,←Nat.mod_eq_sub_mod (by omega)]
theorem BN (c:Int) (x:List UInt32) (i:x.length≤100):F.Hy (am (cP c)) (am (muN c)) ((kN c:Nat):Int) x=some (am (val x%cP c)):=by
 obtain ⟨G,I,J,j⟩:=iF c
 have l:=dT c (Nat.le_refl (cP c))
 have k:wI (((kN c:Nat):Int) - 1)=((kN c - 1:Nat):Int):=by rw [aJ (by omega) (by omega)]; omega
 have m:wI (((kN c:Nat):Int)+1)=((kN c+1:Nat):Int):=by rw [aJ (by omega) (by omega)]; omega
 have K:(x.drop (kN c - 1)).length≤100:=by rw [List.length_drop]; omega
 have o:val (x.drop (kN c - 1))=val x / 4294967296^(kN c - 1):=mN _ _
 have lt:(am (val (x.drop (kN c - 1))*muN c)).length≤125:=bj (by
  have t:=bv (x.drop (kN c - 1)); have g:=bv (am (muN c))
  rw [aq]at g
  have:=Nat.mul_lt_mul'' t g
  rw [←Nat.pow_add]at this
  exact Nat.lt_of_lt_of_le this (Nat.pow_le_pow_right (by decide) (by omega)))
 have f:=AD (x:=val x) (p:=cP c) (A:=4294967296^(kN c - 1)) (B:=B2 c) (C:=4294967296^(kN c+1)) (by unfold B2; rw [←Nat.pow_add]; congr 1; omega) (Nat.pow_pos (by decide))
 rw [←o]at f
 have y:val ((am (val (x.drop (kN c - 1))*muN c)).drop (kN c+1))=val (x.drop (kN c - 1))*(B2 c / cP c) / 4294967296^(kN c+1):=by
  rw [mN,aq]; rfl
 have z:((am (val (x.drop (kN c - 1))*muN c)).drop (kN c+1)).length≤125:=by rw [List.length_drop]; omega
 unfold F.Hy
 rw [k,m,tr,ae,iS _ _ (by omega),ae,aq,tr,ae,iS _ _ (by omega),ae,aq,y,gh _ _ (by omega) (by rw [aq]; exact f),ae,aq]
 have lx:(am (val x)).length≤100:=Nat.le_trans (bj (bv x)) i
 rw [yK j (by omega) _ (Nat.le_trans (c0 (Nat.sub_le _ _)) (by omega))]
 congr 2
 generalize val (x.drop (kN c - 1))*(B2 c / cP c) / 4294967296^(kN c+1)=q at f
 have h:(val x - q*cP c+q*cP c)%cP c=val x%cP c:=by rw [Nat.sub_add_cancel f]
 rw [Nat.add_mul_mod_self_right]at h
 exact h
theorem tn (c:Int) {a b:Nat} (h:a<cP c) (i:b<cP c):F.CZ (am (cP c)) (am (muN c)) ((kN c:Nat):Int) (am a) (am b)=some (am (a*b%cP c)):=by
 have j:=dT c (Nat.le_of_lt h)
 have k:=dT c (Nat.le_of_lt i)
 have lt:(am (a*b)).length≤24:=bj (by
  have f:=bv (am a); have g:=bv (am b)
  rw [aq]at f g
  have:=Nat.mul_lt_mul'' f g
  rw [←Nat.pow_add]at this
  exact Nat.lt_of_lt_of_le this (Nat.pow_le_pow_right (by decide) (by omega)))
 unfold F.CZ
 rw [iS _ _ (by omega),ae,aq,aq,BN c _ (by omega),ae,aq]
section
variable (c:Int)
theorem m12 (u v:Fin (cP c)):F.CZ (am (cP c)) (am (muN c)) ((kN c:Nat):Int) (rl u) (rl v)=some (rl (u*v)):=tn c u.isLt v.isLt
theorem a12 (m:List UInt32) (k:Int) (u v:Fin (cP c)):F.Dc (am (cP c)) m k (rl u) (rl v)=some (rl (u+v)):=by
 have j:=(iF c).2.2.2
 have l:=dT c (Nat.le_refl (cP c))
 have g:=j2 c u; have i:=j2 c v
 have o:(am (u.val+v.val)).length≤13:=by
  have:=fL u.val v.val
  unfold rl at g i
  omega
 have q:=u.isLt; have t:=v.isLt
 unfold F.Dc
 rw [k8 _ _ (by omega) (by omega),ae,fV,fV,f0 _ _ (by omega) (by omega),ae,aq,aq]
 have e:rl (u+v)=am ((u.val+v.val)%cP c):=rfl
 rw [e]
 by_cases h:u.val+v.val<cP c
 ·have f:¬0≤cv (u.val+v.val) (cP c):=by unfold cv; rw [if_pos h]; decide
  rw [if_neg (by rw [decide_eq_true_eq]; exact f),Nat.mod_eq_of_lt h]
 ·have f:0≤cv (u.val+v.val) (cP c):=by unfold cv; rw [if_neg h]; split <;> decide
  rw [if_pos (decide_eq_true f),gh _ _ (by omega) (by rw [aq,aq]; omega),ae,aq,aq,Nat.mod_eq_sub_mod (by omega),Nat.mod_eq_of_lt (by omega)]
theorem s12 (m:List UInt32) (k:Int) (u v:Fin (cP c)):F.Dd (am (cP c)) m k (rl u) (rl v)=some (rl (u - v)):=by
 have j:=(iF c).2.2.2
 have l:=dT c (Nat.le_refl (cP c))
 have g:=j2 c u; have i:=j2 c v
 have o:=u.isLt; have q:=v.isLt
 unfold F.Dd
 rw [f0 _ _ (by omega) (by omega),ae,fV,fV]
 have e:rl (u - v)=am ((cP c - v.val+u.val)%cP c):=rfl
 rw [e]
 by_cases h:u.val<v.val
 ·have f:¬0≤cv u.val v.val:=by unfold cv; rw [if_pos h]; decide
  have t:(am (u.val+cP c)).length≤13:=by
   have:=fL u.val (cP c)
   unfold rl at g i
   omega
  rw [if_neg (by rw [decide_eq_true_eq]; exact f),k8 _ _ (by omega) (by omega),ae,fV,aq,gh _ _ (by omega) (by rw [aq,fV]; omega),ae,aq,fV,Nat.mod_eq_of_lt (by omega)]
  congr 2; omega
 ·have f:0≤cv u.val v.val:=by unfold cv; rw [if_neg h]; split <;> decide
  rw [if_pos (decide_eq_true f),gh _ _ (by omega) (by rw [fV,fV]; omega),ae,fV,fV,show cP c - v.val+u.val=(u.val - v.val)+cP c by omega,Nat.add_mod_right,Nat.mod_eq_of_lt (by omega)]
theorem jQ (u:Fin (cP c)):(((rl u).length:Int) == 0)=decide (u=0):=by
 have h:=eL u.val
 by_cases hu:u=0
 ·subst hu
  rw [decide_eq_true rfl,beq_iff_eq]
  have:(rl (0:Fin (cP c))).length=0:=h.2 (by simp)
  omega
 ·rw [decide_eq_false hu,beq_eq_false_iff_ne]
  intro q
  refine hu (Fin.ext ?_)
  have:u.val=0:=h.1 (by unfold rl at q; omega)
  rw [this]; simp
abbrev T3F (c:Int):=Fin (cP c)×Fin (cP c)×Fin (cP c)
def r3 (t:T3F c):List UInt32×List UInt32×List UInt32:=(rl t.1,rl t.2.1,rl t.2.2)
def lL (t:T3F c):T3F c:=
 if t.2.2=0∨t.2.1=0 then (0,0,0) else
  let zz:=t.2.2*t.2.2; let m0:=(t.1 - zz)*(t.1+zz); let m:=m0+(m0+m0); let yy:=t.2.1*t.2.1; let t0:=t.1*yy; let t2:=t0+t0; let t4:=t2+t2; let x:=m*m - (t4+t4)
  let w:=yy*yy; let w2:=w+w; let w4:=w2+w2; let w8:=w4+w4
  (x,m*(t4 - x) - w8,t.2.1*t.2.2+t.2.1*t.2.2)
theorem Cp:rl (0:Fin (cP c))=[]:=List.eq_nil_of_length_eq_zero ((eL _).2 (by simp))
theorem nH:r3 c (0,0,0)=([],[],[]):=by unfold r3; rw [Cp]
theorem u5 (t:T3F c):F.GK (am (cP c)) (am (muN c)) ((kN c:Nat):Int) (rl t.1) (rl t.2.1) (rl t.2.2)=some (r3 c (lL c t)):=by
 obtain ⟨X,Y,Z⟩:=t
 unfold F.GK lL
 dsimp only
 rw [jQ]
 by_cases hz:Z=0
 ·rw [if_pos (decide_eq_true hz),if_pos (.inl hz),nH]; rfl
 ·rw [if_neg (by rw [decide_eq_true_eq]; exact hz),jQ]
  by_cases hy:Y=0
  ·rw [decide_eq_true hy,if_pos (.inr hy),nH]; rfl
  ·rw [decide_eq_false hy,if_neg (fun q=>q.elim hz hy)]
   unfold F.Ia
   rw [if_neg (by decide)]
   rw [m12,ae,s12,ae,a12,ae,m12,ae,a12,ae,a12,ae,m12,ae,m12,ae,a12,ae,a12,ae,m12,ae,a12,ae,s12,ae,m12,ae,a12,ae,a12,ae,a12,ae,s12,ae,m12,ae,s12,ae,m12,ae,a12,ae]
   rfl
def ko (t u:T3F c):T3F c:=
 if t.2.2=0 then u else if u.2.2=0 then t else
  let ss:=t.2.2*t.2.2; let qq:=u.2.2*u.2.2; let u1:=t.1*qq; let h:=u.1*ss - u1; let v:=t.2.1*(qq*u.2.2); let r:=u.2.1*(ss*t.2.2) - v
  if h=0 then (if r=0 then lL c t else (0,0,0)) else
   let hh:=h*h; let hhh:=hh*h; let w:=u1*hh; let x:=r*r - hhh - (w+w)
   (x,r*(w - x) - v*hhh,h*(t.2.2*u.2.2))
theorem pp (t u:T3F c):F.DH (am (cP c)) (am (muN c)) ((kN c:Nat):Int) (rl t.1) (rl t.2.1) (rl t.2.2) (rl u.1) (rl u.2.1) (rl u.2.2)=some (r3 c (ko c t u)):=by
 obtain ⟨h,i,f⟩:=t
 obtain ⟨j,k,g⟩:=u
 unfold F.DH ko
 dsimp only
 rw [jQ]
 by_cases h1:f=0
 ·rw [if_pos (decide_eq_true h1),if_pos h1]; rfl
 rw [if_neg (by rw [decide_eq_true_eq]; exact h1),if_neg h1,jQ]
 by_cases h2:g=0
 ·rw [if_pos (decide_eq_true h2),if_pos h2]; rfl
 rw [if_neg (by rw [decide_eq_true_eq]; exact h2),if_neg h2]
 rw [m12,ae,m12,ae,m12,ae,m12,ae,s12,ae,m12,ae,m12,ae,m12,ae,m12,ae,s12,ae,jQ,jQ]
 by_cases h3:j*(f*f) - h*(g*g)=0
 ·rw [if_pos (decide_eq_true h3),if_pos h3]
  by_cases h4:k*(f*f*f) - i*(g*g*g)=0
  ·rw [if_pos (decide_eq_true h4),if_pos h4,u5 c (h,i,f),ae]
  ·rw [if_neg (by rw [decide_eq_true_eq]; exact h4),if_neg h4,nH]
 ·rw [if_neg (by rw [decide_eq_true_eq]; exact h3),if_neg h3]
  rw [m12,ae,m12,ae,m12,ae,m12,ae,s12,ae,a12,ae,s12,ae,s12,ae,m12,ae,m12,ae,s12,ae,m12,ae,m12,ae]
  rfl
theorem sa (t:T3F c):jpt (lL c t)=Ec.add (-3) (jpt t) (jpt t):=by
 rw [←n7 (iz c) t]
 obtain ⟨X,Y,Z⟩:=t
 unfold lL lC
 dsimp only
 by_cases hz:Z=0
 ·subst hz
  rw [if_pos (.inl rfl),if_pos rfl]
  show jac 0 0 0=jac X Y 0
  rw [d7,d7]
 ·rw [if_neg hz]
  by_cases hy:Y=0
  ·subst hy
   rw [if_pos (.inr rfl)]
   have e:(2:Fin (cP c))*(0*Z)=0:=by grobner
   show jac 0 0 0=jac _ _ ((2:Fin (cP c))*(0*Z))
   rw [e,d7,d7]
  ·rw [if_neg (fun q=>q.elim hz hy)]
   congr 1
   refine Prod.ext ?_ (Prod.ext ?_ ?_)
   ·dsimp only; grobner
   ·dsimp only; grobner
   ·dsimp only; grobner
theorem lB (t u:T3F c) (i:On (-3) (bF c) (jpt t)) (j:On (-3) (bF c) (jpt u)):jpt (ko c t u)=Ec.add (-3) (jpt t) (jpt u):=by
 rw [←ql (iz c) t u i j]
 obtain ⟨m,h,f⟩:=t
 obtain ⟨q,k,g⟩:=u
 unfold ko j4
 dsimp only
 by_cases h1:f=0
 ·rw [if_pos h1,if_pos h1]
 rw [if_neg h1,if_neg h1]
 by_cases h2:g=0
 ·rw [if_pos h2,if_pos h2]
 rw [if_neg h2,if_neg h2]
 have o:k*(f*f*f) - h*(g*g*g)=k*(f*(f*f)) - h*(g*(g*g)):=by clear i j; grobner
 by_cases h3:q*(f*f) - m*(g*g)=0
 ·rw [if_pos h3,if_pos h3,o]
  by_cases h4:k*(f*(f*f)) - h*(g*(g*g))=0
  ·rw [if_pos h4,if_pos h4,sa]
   exact (n7 (iz c) (m,h,f)).symm
  ·rw [if_neg h4,if_neg h4]
 ·rw [if_neg h3,if_neg h3]
  congr 1
  clear i j h3 h1 h2 o
  refine Prod.ext ?_ (Prod.ext ?_ ?_)
  ·dsimp only; grobner
  ·dsimp only; grobner
  ·dsimp only
end
end Go.Gk.Bn
end

section
namespace Go.Gk.Bn
open Go Go.Gk Go.Gk.Sh Go.Gk.Ec Go.Gk.Pr
theorem AP (e i:Nat):e / 2^i=2*(e / 2^(i+1))+(if decide (e / 2^i%2=1)=true then 1 else 0):=AK e i
theorem pQ (c:Int) (z:Nat) (k:z<cP c) (e:List UInt32):∀i:Nat,i≤100000→loop (F.GM (am (cP c)) (am (muN c)) ((kN c:Nat):Int) (am z) e) (am (z^(val e / 2^i)%cP c),(i:Int) - 1)=some (am (z^val e%cP c))
 | 0,_=>by
  rw [Nat.pow_zero,Nat.div_one]
  refine bO ?_
  unfold F.GM
  dsimp only
  rw [if_neg (by decide)]
 | i+1,hi=>by
  have m:=(iF c).2.2.2
  have j:∀x,x%cP c<cP c:=fun x=>Nat.mod_lt _ m
  have o:(((i+1:Nat):Int)) - 1=(i:Int):=by omega
  have w:wI ((i:Int) - 1)=(i:Int) - 1:=aJ (by omega) (by omega)
  rw [o,←pQ c z k e i (by omega)]
  refine bI ?_
  unfold F.GM
  dsimp only
  rw [if_pos (decide_eq_true (by omega)),tn c (j _) (j _),ae,nR _ _ (by omega),ae]
  have f:=AP (val e) i
  have g:z^(val e / 2^(i+1))%cP c*(z^(val e / 2^(i+1))%cP c)%cP c=z^(2*(val e / 2^(i+1)))%cP c:=by
   rw [←Nat.mul_mod,←Nat.pow_add]; congr 2; omega
  by_cases h:val e / 2^i%2=1
  ·rw [if_pos (decide_eq_true h)]at f ⊢
   rw [tn c (j _) k,ae]
   unfold F.Gy
   dsimp only
   rw [w,g,Nat.mod_mul_mod,←Nat.pow_succ,Nat.succ_eq_add_one,←f]
   rfl
  ·have q:¬decide (val e / 2^i%2=1)=true:=by rw [decide_eq_true_eq]; exact h
   rw [if_neg q]at f ⊢
   unfold F.Gy
   dsimp only
   rw [w,g,←Nat.add_zero (2*(val e / 2^(i+1))),←f]
   rfl
theorem wD (c:Int) (Z:Fin (cP c)) (h:Z≠0):F.Hn (am (cP c)) (am (muN c)) ((kN c:Nat):Int) (rl Z)=some (rl (rcp Z)):=by
 have k:=(iF c).2.2.2
 have l:=dT c (Nat.le_refl (cP c))
 have f:=iP c
 have G:=(dp c).2.2.2.2.2.1
 have g:val ([2]:List UInt32)=2:=rfl
 have le:=dT c (show cP c - 2≤cP c by omega)
 have B:Z.val≠0:=fun q=>h (Fin.ext (by rw [q]; simp))
 have i:¬cP c ∣ Z.val:=fun m=>by have:=Nat.le_of_dvd (by omega) m; have:=Z.isLt; omega
 have o:Z.val*(Z.val^(cP c - 2)%cP c)%cP c=1:=by
  rw [Nat.mul_mod_mod,Nat.mul_comm,←Nat.pow_succ,show (cP c - 2).succ=cP c - 1 by omega,rZ f i]
 have t:=xp (iz c) f (Nat.mod_lt _ k) o
 have x:wI (32*((am (cP c - 2)).length:Int))=((32*(am (cP c - 2)).length:Nat):Int):=by rw [aJ (by omega) (by omega)]; omega
 have y:wI (((32*(am (cP c - 2)).length:Nat):Int) - 1)=((32*(am (cP c - 2)).length:Nat):Int) - 1:=aJ (by omega) (by omega)
 have z:am (1%cP c)=[1]:=by rw [Nat.mod_eq_of_lt (by omega),fM (by decide),show 1 / 4294967296=0 by decide,bS]; rfl
 have A:cP c - 2<2^(32*(am (cP c - 2)).length):=by
  have:=bv (am (cP c - 2))
  rw [aq]at this
  rw [Nat.pow_mul]
  exact this
 unfold F.Hn
 rw [gh _ _ (by omega) (by rw [aq,g]; omega),ae,aq,g,x,y,aS]
 have j:=pQ c Z.val Z.isLt (am (cP c - 2)) (32*(am (cP c - 2)).length) (by omega)
 rw [aq,Nat.div_eq_of_lt A,Nat.pow_zero,z]at j
 refine Eq.trans j ?_
 rw [←t]
 rfl
theorem AC (c:Int) (t:T3F c):F.HR (am (cP c)) (am (muN c)) ((kN c:Nat):Int) (rl t.1) (rl t.2.1) (rl t.2.2)=some (rep (jpt t)):=by
 obtain ⟨X,Y,Z⟩:=t
 unfold F.HR jpt jac
 dsimp only
 rw [jQ]
 by_cases h:Z=0
 ·rw [if_pos (decide_eq_true h),if_pos h]; rfl
 ·rw [if_neg (by rw [decide_eq_true_eq]; exact h),if_neg h,wD c Z h,ae,m12,ae,m12,ae,m12,ae,m12,ae]
  have e:rcp Z*rcp Z*rcp Z=rcp Z*(rcp Z*rcp Z):=by grobner
  rw [e]
  rfl
def fE {c:Int} (P:Pt (cP c)):T3F c:=match P with
 | none=>(0,0,0)
 | some (x,y)=>(x,y,1)
theorem hU {c:Int} (P:Pt (cP c)):jpt (fE P)=P:=by
 cases P with
 | none=>exact d7 _ _
 | some q=>
  obtain ⟨x,y⟩:=q
  show jac x y 1=_
  unfold jac
  rw [if_neg (px c)]
  have f:rcp (1:Fin (cP c))=1:=by
   have:=(iz c).mul_iv (px c)
   generalize rcp (1:Fin (cP c))=i at this
   grobner
  rw [f]
  congr 2
  ·grobner
  ·grobner
theorem Bx (c:Int):rl (1:Fin (cP c))=[1]:=by
 have f:=(dp c).2.2.2.2.2.1
 have:(1:Fin (cP c)).val=1:=by
  show 1%cP c=1
  exact Nat.mod_eq_of_lt (by omega)
 unfold rl
 rw [this,fM (by decide),show 1 / 4294967296=0 by decide,bS]; rfl
theorem uV {c:Int} {X Y:List UInt32} {q:Bool} (h:onS c X Y q=true) (f:X.length≤50000000000000) (g:Y.length≤50000000000000):F.GS X Y q=some (r3 c (fE (eE c X Y q))):=by
 unfold F.GS
 cases q with
 | true=>rw [if_pos rfl]; exact congrArg some (nH c).symm
 | false=>
  obtain ⟨i,j,_⟩:=pX h
  rw [if_neg (by decide),dI X f,ae,dI Y g,ae]
  show _=some (rl (fz (val X:Int)),rl (fz (val Y:Int)),rl 1)
  rw [Bx]
  unfold rl
  rw [pe _ i,pe _ j]
end Go.Gk.Bn
end

section
namespace Go.Gk.Ec
variable {p:Nat} [NeZero p] {a b:Fin p}
noncomputable def wq (a:Fin p) (P Q:Pt p) (x y:Bool):Pt p:=if x&&y then add a P Q else if y then Q else if x then P else none
noncomputable def jq (a:Fin p) (P Q:Pt p) (m n:Nat):Nat→Pt p→Pt p
 | 0,T=>T
 | i+1,T=>jq a P Q m n i (add a (add a T T) (wq a P Q (decide (m / 2^i%2=1)) (decide (n / 2^i%2=1))))
theorem Ab (C:Fld p) {P Q:Pt p} (f:On a b P) (g:On a b Q) (x y:Bool):On a b (wq a P Q x y):=by
 unfold wq
 split
 ·exact C.on_add f g
 ·split
  ·exact g
  ·split
   ·exact f
   ·trivial
theorem uy (a:Fin p) (P Q:Pt p) (m n k:Nat) (f:m<2^k) (g:n<2^k):∀d,jq a P Q m n (k+d) none=jq a P Q m n k none
 | 0=>rfl
 | d+1=>by
  have z:∀q,q<2^k→decide (q / 2^(k+d)%2=1)=false:=fun q h=>by
   rw [Nat.div_eq_of_lt (Nat.lt_of_lt_of_le h (Nat.pow_le_pow_right (by decide) (by omega)))]; rfl
  show jq a P Q m n (k+d) (add a (add a none none) (wq a P Q (decide (m / 2^(k+d)%2=1)) (decide (n / 2^(k+d)%2=1))))=_
  rw [z m f,z n g]
  exact uy a P Q m n k f g d
end Go.Gk.Ec
namespace Go.Gk.Bn
open Go Go.Gk Go.Gk.Sh Go.Gk.Ec Go.Gk.Pr
theorem zP {c:Int} (hc:isC c) {q:J3 c} (f:On (-3) (bF c) (jpt q)) (x y:Bool):jpt (whJ c q x y)=wq (-3) (gP c) (jpt q) x y:=by
 have g:=wg c hc
 unfold whJ wq
 cases x <;> cases y
 ·exact d7 _ _
 ·rfl
 ·show jpt (gJ c)=_
  rw [vu]; rfl
 ·show jpt (j4 _ _ _ _ _ _)=_
  rw [ql (b:=bF c) (iz c) _ _ (by rw [vu]; exact g) f,vu]
  rfl
theorem x4 {c:Int} (hc:isC c) (m n:Nat) {q:J3 c} (f:On (-3) (bF c) (jpt q)):∀(i:Nat) (t:J3 c),On (-3) (bF c) (jpt t)→jpt (qf c m n q i t)=jq (-3) (gP c) (jpt q) m n i (jpt t)
 | 0,t,h=>rfl
 | i+1,t,h=>by
  have g:=Ab (iz c) (wg c hc) f (decide (m / 2^i%2=1)) (decide (n / 2^i%2=1))
  have e:=zH (b:=bF c) (iz c) h (q:=whJ c q (decide (m / 2^i%2=1)) (decide (n / 2^i%2=1))) (by rw [zP hc f]; exact g) true
  rw [if_pos rfl,zP hc f]at e
  unfold qf
  rw [x4 hc m n f i _ (by rw [e]; exact (iz c).on_add ((iz c).on_add h h) g),e]
  rfl
noncomputable def JQ {c:Int} (P Q:Pt (cP c)) (m n:Nat):Pt (cP c):=jq (-3) P Q m n (max (nb m) (nb n)) none
theorem Cw {c:Int} (P Q:Pt (cP c)) (m n k:Nat) (h:max (nb m) (nb n)≤k):jq (-3) P Q m n k none=JQ P Q m n:=by
 have f:∀q,nb q≤max (nb m) (nb n)→q<2^max (nb m) (nb n):=fun q g=>Nat.lt_of_lt_of_le (dS q).1 (Nat.pow_le_pow_right (by decide) g)
 have e:=uy (-3) P Q m n (max (nb m) (nb n)) (f m (Nat.le_max_left _ _)) (f n (Nat.le_max_right _ _)) (k - max (nb m) (nb n))
 rw [Nat.add_sub_cancel' h]at e
 exact e
theorem ur {c:Int}:On (-3) (bF c) (jpt ((0,0,0):J3 c)):=by
 have:jpt ((0,0,0):J3 c)=none:=d7 _ _
 rw [this]; trivial
theorem A6 {c:Int} {a k X Y:List UInt32} {q:Bool} (g:onS c X Y q=true) (i:nb (val a)≤1024) (h:nb (val k)≤1024) (x:a.length≤35184372087808) (y:k.length≤35184372087808) (z:X.length≤35184372087808) (A:Y.length≤35184372087808) :
  F.IB c a k X Y q=some (res (JQ (gP c) (eE c X Y q) (val a) (val k))):=by
 have n1:¬(!true)=true:=by decide
 have hc:=vG g
 unfold F.IB
 rw [yG c X Y q z A,ae,qU a x,qU k y,if_pos hc]
 dsimp only [iX]
 rw [g,if_neg n1,ae,ae]
 dsimp only
 rw [decide_eq_true i,if_neg n1,decide_eq_true h,Co g]
 show F.GC (gQ c (jT c X Y q)) _ _ _=_
 unfold F.GC
 dsimp only
 rw [if_neg n1,ic 1 (by decide) (by decide),ae]
 have f:=CA c (gJ c) (jT c X Y q)
 have j:=u6 c (jT c X Y q)
 rw [←j]at f
 rw [show F.DL (gQ c (jT c X Y q)).1 (gQ c (jT c X Y q)).2.1 (gQ c (jT c X Y q)).2.2.1 (gQ c (jT c X Y q)).2.2.2.1 (gQ c (jT c X Y q)).2.2.2.2.1 (gQ c (jT c X Y q)).2.2.2.2.2.1 (gQ c (jT c X Y q)).2.2.2.2.2.2.1 (gQ c (jT c X Y q)).2.2.2.2.2.2.2.1 (gQ c (jT c X Y q)).2.2.2.2.2.2.2.2.1 (gQ c (jT c X Y q)).2.2.2.2.2.2.2.2.2.1 (gQ c (jT c X Y q)).2.2.2.2.2.2.2.2.2.2.1
  (gQ c (jT c X Y q)).2.2.2.2.2.2.1 (gQ c (jT c X Y q)).2.2.2.2.2.2.2.1 (gQ c (jT c X Y q)).2.2.2.2.2.2.2.2.1 (gQ c (jT c X Y q)).2.2.2.2.2.2.2.2.2.1 (bi 1).1 (bi 1).2
  (gQ c (jT c X Y q)).2.2.2.2.2.2.2.2.2.2.2.1 (gQ c (jT c X Y q)).2.2.2.2.2.2.2.2.2.2.2.2.1 (gQ c (jT c X Y q)).2.2.2.2.2.2.2.2.2.2.2.2.2.1 (gQ c (jT c X Y q)).2.2.2.2.2.2.2.2.2.2.2.2.2.2.1 (gQ c (jT c X Y q)).2.2.2.2.2.2.2.2.2.2.2.2.2.2.2.1 (gQ c (jT c X Y q)).2.2.2.2.2.2.2.2.2.2.2.2.2.2.2.2=_ from f,ae]
 unfold F.Dx
 have G:=uO i; have lk:=uO h
 rw [ae,q7 _ (by omega),ae,q7 _ (by omega),ae]
 have m:wI (max ((nb (val a):Nat):Int) ((nb (val k):Nat):Int) - 1)=((max (nb (val a)) (nb (val k)):Nat):Int) - 1:=by
  rw [aJ (by omega) (by omega)]; omega
 rw [m]
 have o:=oY c (val a) (val k) (by omega) (by omega) (jT c X Y q) true true (max (nb (val a)) (nb (val k))) (0,0,0) (by omega)
 rw [ux]at o
 refine o.trans ?_
 have t:On (-3) (bF c) (jpt (jT c X Y q)):=by rw [zU]; exact tg g
 have B:jpt ((0,0,0):J3 c)=none:=d7 _ _
 rw [x4 hc _ _ t _ _ ur,zU,B]
 rfl
theorem sK {c:Int} {P Q:Pt (cP c)} (j:On (-3) (bF c) P) (k:On (-3) (bF c) Q) (a b:List UInt32) (f:T3F c) (o:jpt f=Ec.add (-3) P Q):∀(i:Nat) (t:T3F c),i≤100000→On (-3) (bF c) (jpt t) →
  loop (F.Fi a b (am (cP c),am (muN c),((kN c:Nat):Int)) (r3 c (fE P)) (r3 c (fE Q)) (r3 c f)) ((i:Int) - 1,rl t.1,rl t.2.1,rl t.2.2)=some (rep (jq (-3) P Q (val a) (val b) i (jpt t)))
 | 0,t,_,h=>by
  refine bO ?_
  unfold F.Fi
  dsimp only
  rw [if_neg (by decide),AC,ae]
  rfl
 | i+1,t,hi,h=>by
  have C:=iz c
  have A:(((i+1:Nat):Int)) - 1=(i:Int):=by omega
  have w:wI ((i:Int) - 1)=(i:Int) - 1:=aJ (by omega) (by omega)
  have q:=sa c t
  have g:On (-3) (bF c) (jpt (lL c t)):=by
   rw [q]
   exact C.on_add h h
  have m:∃t':T3F c,F.Fi a b (am (cP c),am (muN c),((kN c:Nat):Int)) (r3 c (fE P)) (r3 c (fE Q)) (r3 c f) ((i:Int),rl t.1,rl t.2.1,rl t.2.2)=some (.inl ((i:Int) - 1,rl t'.1,rl t'.2.1,rl t'.2.2)) ∧
    jpt t'=Ec.add (-3) (Ec.add (-3) (jpt t) (jpt t)) (wq (-3) P Q (decide (val a / 2^i%2=1)) (decide (val b / 2^i%2=1))):=by
   unfold F.Fi
   dsimp only
   rw [if_pos (decide_eq_true (by omega)),u5,ae,nR _ _ (by omega),ae,nR _ _ (by omega),ae,←q]
   generalize lL c t=d at g ⊢
   generalize decide (val a / 2^i%2=1)=x
   generalize decide (val b / 2^i%2=1)=y
   unfold F.H1 F.EX
   dsimp only
   rw [w]
   cases x with
   | true=>
    rw [if_pos rfl]
    cases y with
    | true=>
     rw [if_pos rfl]
     refine ⟨ko c d f,?_,?_⟩
     ·have:=pp c d f
      unfold r3 at this ⊢
      dsimp only
      rw [this,ae]
      rfl
     ·rw [lB c d f g (by rw [o]; exact C.on_add j k),o]
      rfl
    | false=>
     rw [if_neg (by decide),if_pos rfl]
     refine ⟨ko c d (fE P),?_,?_⟩
     ·have:=pp c d (fE P)
      unfold r3 at this ⊢
      dsimp only
      rw [this,ae]
      rfl
     ·rw [lB c d _ g (by rw [hU]; exact j),hU]
      rfl
   | false=>
    rw [if_neg (by decide),if_neg (by decide),if_neg (by decide)]
    cases y with
    | true=>
     rw [if_pos rfl]
     refine ⟨ko c d (fE Q),?_,?_⟩
     ·have:=pp c d (fE Q)
      unfold r3 at this ⊢
      dsimp only
      rw [this,ae]
      rfl
     ·rw [lB c d _ g (by rw [hU]; exact k),hU]
      rfl
    | false=>
     rw [if_neg (by decide)]
     refine ⟨d,rfl,?_⟩
     show _=Ec.add (-3) (jpt d) none
     rw [d6]
  obtain ⟨t',B,z⟩:=m
  rw [A,bI B,sK j k a b f o i t' (by omega) (by rw [z]; exact C.on_add (C.on_add h h) (Ab C j k _ _)),z]
  rfl
theorem xj {c:Int} (hc:isC c) (a b:List UInt32) {X Y:List UInt32} {q:Bool} {f g:List UInt32} {i:Bool} (h:onS c X Y q=true) (k:onS c f g i=true) (M:a.length≤1000) (N:b.length≤1000)
  (y:X.length≤50000000000000) (z:Y.length≤50000000000000) (m:f.length≤50000000000000) (o:g.length≤50000000000000) :
  F.HQ c a b X Y q f g i=some (rep (JQ (eE c X Y q) (eE c f g i) (val a) (val b))):=by
 have t:=tg h
 have x:=tg k
 have A:wI (32*max (a.length:Int) (b.length:Int))=((32*max a.length b.length:Nat):Int):=by rw [aJ (by omega) (by omega)]; omega
 have B:wI (((32*max a.length b.length:Nat):Int) - 1)=((32*max a.length b.length:Nat):Int) - 1:=aJ (by omega) (by omega)
 unfold F.HQ
 rw [vC c hc,ae,uV h y z,ae,uV k m o,ae]
 have hpl:=pp c (fE (eE c X Y q)) (fE (eE c f g i))
 have e:F.DH (am (cP c)) (am (muN c)) ((kN c:Nat):Int) (r3 c (fE (eE c X Y q))).1 (r3 c (fE (eE c X Y q))).2.1 (r3 c (fE (eE c X Y q))).2.2 (r3 c (fE (eE c f g i))).1 (r3 c (fE (eE c f g i))).2.1 (r3 c (fE (eE c f g i))).2.2=_:=hpl
 dsimp only
 rw [e,ae,A,B,aS]
 have G:jpt (ko c (fE (eE c X Y q)) (fE (eE c f g i)))=Ec.add (-3) (eE c X Y q) (eE c f g i):=by
  rw [lB c _ _ (by rw [hU]; exact t) (by rw [hU]; exact x),hU,hU]
 have J:nb (val a)≤32*a.length:=Nat.le_trans (je _) (Nat.mul_le_mul_left 32 (bj (bv a)))
 have K:nb (val b)≤32*b.length:=Nat.le_trans (je _) (Nat.mul_le_mul_left 32 (bj (bv b)))
 have j:=sK t x a b _ G (32*max a.length b.length) (0,0,0) (by omega) ur
 have I:jpt ((0,0,0):J3 c)=none:=d7 _ _
 have z0:=Cp c
 dsimp only at j
 rw [z0,I,Cw _ _ _ _ _ (by omega)]at j
 exact j
end Go.Gk.Bn
end

section
namespace Go.Gk.Bn
open Go Go.Gk Go.Gk.Sh Go.Gk.Ec Go.Gk.Pr
theorem sq (a b m:List UInt32) (k:a.length≤36000000000000) (o:b.length≤1000) (f:m.length≤128) (g:(am (val a)).length≤128) (i:(am (val b)).length≤128) (j:1<val m):F.DG a b m=some (am (val a*val b%val m),0):=by
 unfold F.DG
 have h:=g8 (val a) (val b)
 rw [ky m a b (by omega) (by omega) (by omega) g i (gj f) j,ae,if_neg (by decide),iS _ _ (by omega),ae,fY _ _ (by omega) (by omega) (by omega),ae,aq]
theorem yx (a m:List UInt32) (G:a.length≤36000000000000) (k:(am (val a)).length≤128) (o:m.length≤128) (f:1<val m) (g:Nat.gcd (val a) (val m)=1) :
  ∃v,v<val m∧val a*v%val m=1∧F.Gg a m=some (am v,0):=by
 have h:=gj o
 have B:=Nat.mod_lt (val a) (show 0<val m by omega)
 have q:Cof (val m) (val a) 0 (val m):=⟨-1,by push_cast; omega⟩
 have t:Cof (val m) (val a) 1 (val a%val m):=⟨((val a / val m:Nat):Int),by
  have:=Nat.div_add_mod (val a) (val m)
  have x:((val a:Nat):Int)=((val m*(val a / val m)+val a%val m:Nat):Int):=by rw [this]
  push_cast at x ⊢
  omega⟩
 obtain ⟨v,y,i,j⟩:=qH (val m) (val a) f h g (val m) (val a%val m) (val m) 0 1 (by omega) (by omega) (Nat.le_refl _) (by omega) f q t (by rw [Nat.gcd_comm,←Nat.gcd_rec,Nat.gcd_comm]; exact g)
 refine ⟨v,y,i,?_⟩
 unfold F.Gg
 rw [xn m a (by omega) (by omega) k h f,ae,if_neg (by decide),dI m (by omega),ae,fY _ _ (by omega) (by omega) (by rw [aq]; omega),ae,aq]
 unfold F.DR
 rw [ae,←j]
 have z:am 0=[]:=bS
 have A:am 1=[1]:=by decide +kernel
 rw [z,A]
theorem BD {c:Int} {s:Nat} (l:List UInt32) (f:val l=s) (j:l.length≤36000000000000) (k:0<s) (h:s<cN c):F.Gg l (am (cN c))=some (am (iK c s),0):=by
 obtain ⟨n1,q,m,_,_⟩:=gd c
 have t:=dl (Nat.le_of_lt h) m
 obtain ⟨w,i,g,o⟩:=yx l (am (cN c)) j (by rw [f]; omega) (by omega) (by rw [aq]; exact n1) (by rw [aq,f]; exact wU k h)
 rw [aq]at i g
 rw [f]at g
 rw [uH i g]
 exact o
theorem Ao (x y:UInt32) (t:Nat) (h:y.toNat<256) (i:t<4) (f:x.toNat<256^t):(x ||| bN y (8*t)).toNat=x.toNat+y.toNat*256^t:=by
 rw [UInt32.or_comm,wK y x (s:=8*t) (by omega) (by rw [←tG]; exact f),←tG]
 have:y.toNat*256^t<4294967296:=by
  have g:256^t≤256^3:=Nat.pow_le_pow_right (by decide) (by omega)
  have j:y.toNat*256^t≤255*256^3:=Nat.mul_le_mul (by omega) g
  omega
 rw [Nat.mod_eq_of_lt this]; omega
theorem uq {n:Nat} (h:n<32):(UInt64.ofInt ((n:Nat):Int)).toNat=n:=by
 have f:∀k:Fin 32,(UInt64.ofInt ((k.val:Nat):Int)).toNat=k.val:=by decide
 exact f ⟨n,h⟩
theorem AW {l:List UInt32} {q t:Nat} (h:val l<256^(4*q+t)):(l.getD q 0).toNat<256^t:=by
 have f:=mN l q
 rw [cg]at f
 have g:val l / 4294967296^q<256^t:=by
  refine Nat.div_lt_of_lt_mul ?_
  rw [show (4294967296:Nat)=256^4 from rfl,←Nat.pow_mul,←Nat.pow_add]
  exact h
 omega
theorem mf (b:List UInt8) (q:b.length≤1000) (n:Nat) (t:(b.length+3) / 4=n):∀(r i:Nat) (y:List UInt32),i+r=b.length→y.length=n→val y=beN (b.drop (b.length - i))→loop (F.E2 b) ((i:Int),y)=some (am (beN b))
 | 0,i,y,h,h1,h2=>by
  have:i=b.length:=by omega
  subst this
  rw [Nat.sub_self,List.drop_zero]at h2
  refine bO ?_
  unfold F.E2
  dsimp only
  rw [if_neg (by simp),dI _ (by omega),ae,h2]
 | r+1,i,y,h,h1,h2=>by
  have hi:i<b.length:=by omega
  have z:wI ((i:Int)+1)=((i+1:Nat):Int):=by rw [aJ (by omega) (by omega)]; rfl
  have A:wI ((wI ((b.length:Int) - 1)) - (i:Int))=((b.length - 1 - i:Nat):Int):=by rw [aJ (x:=(b.length:Int) - 1) (by omega) (by omega),aJ (by omega) (by omega)]; omega
  have B:wI (Int.tdiv (i:Int) 4)=((i / 4:Nat):Int):=by rw [Int.tdiv_eq_ediv_of_nonneg (by omega),aJ (by omega) (by omega)]; omega
  have G:wI (8*(Int.tmod (i:Int) 4))=((8*(i%4):Nat):Int):=by rw [Int.tmod_eq_emod_of_nonneg (by omega),aJ (by omega) (by omega)]; omega
  have I:(UInt64.ofInt ((8*(i%4):Nat):Int)).toNat=8*(i%4):=uq (by omega)
  have k:b.drop (b.length - (i+1))=b.getD (b.length - 1 - i) 0 :: b.drop (b.length - i):=by
   rw [show b.length - (i+1)=b.length - 1 - i by omega,List.drop_eq_getElem_cons (by omega),show b.length - 1 - i+1=b.length - i by omega]
   congr 1
   rw [List.getD_eq_getElem?_getD,List.getElem?_eq_getElem (by omega)]; rfl
  have f:(b.drop (b.length - i)).length=i:=by rw [List.length_drop]; omega
  have K:=(b.getD (b.length - 1 - i) 0).toNat_lt
  have j:(b.getD (b.length - 1 - i) 0).toUInt32.toNat=(b.getD (b.length - 1 - i) 0).toNat:=UInt8.toNat_toUInt32 _
  have m:val y<256^(4*(i / 4)+i%4):=by
   rw [show 4*(i / 4)+i%4=i by omega,h2]
   have:=gF (b.drop (b.length - i))
   rwa [f]at this
  have o:=dx y (i / 4) (y.getD (i / 4) 0 ||| bN (b.getD (b.length - 1 - i) 0).toUInt32 (8*(i%4))) (by omega)
  rw [Ao _ _ _ (by rw [j]; omega) (by omega) (AW m),j,Nat.mul_add]at o
  have J:4294967296^(i / 4)*((b.getD (b.length - 1 - i) 0).toNat*256^(i%4))=(b.getD (b.length - 1 - i) 0).toNat*256^i:=by
   rw [show (4294967296:Nat)=256^4 from rfl,←Nat.pow_mul,Nat.mul_left_comm,←Nat.pow_add]; congr 2; omega
  rw [J]at o
  have g:F.E2 b ((i:Int),y)=some (.inl (((i+1:Nat):Int),y.set (i / 4) (y.getD (i / 4) 0 ||| bN (b.getD (b.length - 1 - i) 0).toUInt32 (8*(i%4))))):=by
   unfold F.E2
   dsimp only
   rw [if_pos (decide_eq_true (by omega)),B,aO (show i / 4<y.length by omega) 0,ae,A,aO (show b.length - 1 - i<b.length by omega) 0,ae,ae,aS,G,I,z,Int.toNat_natCast]
   rfl
  rw [bI g]
  refine mf b q n t r (i+1) _ (by omega) (by rw [List.length_set]; exact h1) ?_
  rw [k]
  show _=(b.getD (b.length - 1 - i) 0).toNat*256^(b.drop (b.length - i)).length+beN (b.drop (b.length - i))
  rw [f]
  omega
theorem oB (b:List UInt8) (f:b.length≤1000):F.EU b=some (am (beN b)):=by
 obtain ⟨n,g⟩:∃n,(b.length+3) / 4=n:=⟨_,rfl⟩
 have w0:wI (Int.tdiv (wI ((b.length:Int)+3)) 4)=(n:Int):=by
  rw [aJ (x:=(b.length:Int)+3) (by omega) (by omega),Int.tdiv_eq_ediv_of_nonneg (by omega),aJ (by omega) (by omega)]; omega
 unfold F.EU
 rw [w0,dQ (by omega),ae,Int.toNat_natCast]
 exact mf b f n g b.length 0 _ (by omega) (by simp) (by rw [cn,Nat.sub_zero,List.drop_length]; rfl)
theorem xO (h c:Int) (g:isH h) (hc:isC c) (m:List UInt8) (i:m.length≤200000000000000):F.HF h c m=some (am (zN h c m)):=by
 obtain ⟨n1,j,k⟩:=nS4 c
 have o:=mM h m
 have q:=na h
 have f:∀b:List UInt8,b.length≤100→F.Gn b=some (am (beN b)):=fun b t=>by
  unfold F.Gn
  dsimp only
  rw [oB _ (by omega),ae]
 unfold F.HF zN
 rw [wx h g m i,ae,lf,if_pos hc,mJ,ae]
 by_cases h1:nS c<(fO h m).length
 ·rw [if_pos (decide_eq_true (by omega)),ae,grd_true _ ⟨by omega,by omega⟩,Int.toNat_natCast,f _ (by rw [List.length_take]; omega)]
 ·rw [if_neg (by rw [decide_eq_true_eq]; omega),f _ (by omega),List.take_of_length_le (by omega)]
theorem s7 (a n:List UInt32) (g:a.length≤50000000000000) (ln:n.length≤50000000000000):F.F8 a n=some (decide (0<val a∧val a<val n)):=by
 have f:=eL (val a)
 unfold F.F8
 rw [dI a g,ae]
 by_cases h:val a=0
 ·rw [if_neg (by rw [decide_eq_true_eq,f.2 h]; decide),decide_eq_false (by omega)]
 ·have:(am (val a)).length≠0:=fun q=>h (f.1 q)
  rw [if_pos (decide_eq_true (by omega)),f0 a n (by omega) (by omega),ae]
  unfold cv
  by_cases h2:val a<val n
  ·rw [if_pos h2,decide_eq_true (show 0<val a∧val a<val n by omega)]; rfl
  ·rw [if_neg h2,decide_eq_false (show ¬(0<val a∧val a<val n) by omega)]
   split <;> rfl
theorem BW (X Y:List UInt32) (f:Bool) (r n:List UInt32) (g:X.length≤36000000000000) (i:r.length≤40000000000000) (ln:n.length≤36000000000000) (h:val n≠0) :
  F.GN X Y f r n=some (!f&&decide (val X%val n=val r)):=by
 unfold F.GN
 cases f with
 | true=>rfl
 | false=>
  have j:(am (val X%val n)).length≤X.length:=dl (Nat.mod_le _ _) (bj (bv X))
  rw [if_neg (by decide),ku X n g ln h,ae]
  dsimp only
  rw [f0 _ _ (by omega) (by omega),ae,aq,B9]
  rfl
theorem vM {c:Int} (P:Pt (cP c)) (r:List UInt32) (f:r.length≤36000000000000):F.GN (rep P).1 (rep P).2.1 (rep P).2.2 r (am (cN c))=some (vj P (val r)):=by
 obtain ⟨n1,g,h,_,_⟩:=gd c
 have i:=uL c P
 rw [BW _ _ _ _ _ (by omega) (by omega) (by omega) (by rw [aq]; omega),←vc _ _ _ _ _ (by omega) (by omega) (by omega) (by rw [aq]; omega),sB P r (by omega)]
theorem xu (a:Int):F.Ij a=some (if isH a then ((Sz a:Nat):Int) else 0):=by
 unfold F.Ij isH
 by_cases h1:a=1
 ·subst h1; rfl
 ·by_cases h2:a=2
  ·subst h2; rfl
  ·by_cases h3:a=3
   ·subst h3; rfl
   ·rw [if_neg (by simpa using h1),if_neg (by simpa using h2),if_neg (by simpa using h3),if_neg (by omega)]
end Go.Gk.Bn
end

section
namespace Go.Gk.Bn
open Go Go.Gk Go.Gk.Sh Go.Gk.Ec Go.Gk.Pr
theorem Am {τ:Type} (l:List τ) (i r:Nat) (v:τ) (h:i+(r+1)=l.length):(l.set i v).take (i+1)++List.replicate r v=l.take i++List.replicate (r+1) v:=by
 rw [List.take_set,List.take_add_one,List.getElem?_eq_getElem (by omega)]
 have f:(l.take i).length=i:=by rw [List.length_take]; omega
 rw [List.set_append_right _ _ (by omega),f,Nat.sub_self]
 show l.take i++[v]++_=_
 rw [List.append_assoc]
 rfl
theorem qZ {τ ρ:Type} [Inhabited τ] {f:Int×List τ→Option ((Int×List τ)⊕ρ)} {X:List τ→Option ρ} (v:τ)
  (g:∀i l,f (i,l)=if (decide (i<(l.length:Int)))=true then (ah (aA l (i:Int)) fun _=>br (l.set (i:Int).toNat v) fun x=>bC (wI (i+1),x)) else bo (X l)) :
  ∀(r i:Nat) (l:List τ),i+r=l.length→l.length≤4611686018427387904→loop f ((i:Int),l)=X (l.take i++List.replicate r v)
 | 0,i,l,h,hl=>by
  refine bO ?_
  rw [g,if_neg (by rw [decide_eq_true_eq]; omega),List.take_of_length_le (by omega),List.replicate_zero,List.append_nil]
 | r+1,i,l,h,hl=>by
  have w:wI ((i:Int)+1)=((i+1:Nat):Int):=by rw [aJ (by omega) (by omega)]; omega
  have j:f ((i:Int),l)=some (.inl (((i+1:Nat):Int),l.set i v)):=by
   rw [g,if_pos (decide_eq_true (by omega)),aO (show i<l.length by omega) v,ae,aS,Int.toNat_natCast,w]
   rfl
  rw [bI j,qZ v g r (i+1) (l.set i v) (by rw [List.length_set]; omega) (by rw [List.length_set]; exact hl),Am l i r v h]
theorem AZ {τ:Type} [Inhabited τ] [BEq τ] [LawfulBEq τ] {f:Int→Option (Int⊕Bool)} (a:List τ) (d:τ) (h:a.length≤4611686018427387904)
  (g:∀i:Int,f i=if (decide (i<(a.length:Int)))=true then (ah (aA a i) fun x=>ah (aA a i) fun y=>if (x != y)=true then bo (some false) else bC (wI (i+1))) else bo (some true)):loop f 0=some true:=by
 refine yk (n:=a.length) (fun i hi=>?_) ?_
 ·have w:wI ((i:Int)+1)=((i:Int)+1):=aJ (by omega) (by omega)
  rw [g,if_pos (decide_eq_true (by omega)),aO hi d,ae,ae,if_neg (by simp),w]
  rfl
 ·rw [g,if_neg (by simp)]
  rfl
theorem qE {τ ρ:Type} [BEq τ] [LawfulBEq τ] {f:Int→Option (Int⊕Bool)} (b:List τ) (n:Nat) (v:τ) (j:b.length+n≤4611686018427387904) {X:Option Bool} (full:List τ) (g:full=b++List.replicate n v)
  (h:∀i:Int,f i=if (decide (i<(full.length:Int)))=true then (ah (aA full i) fun x=>if (x != v)=true then bo (some false) else bC (wI (i+1))) else bo X):∀(r i:Nat),b.length≤i→i+r=full.length→loop f (i:Int)=X
 | 0,i,h1,h2=>by
  refine bO ?_
  rw [h,if_neg (by rw [decide_eq_true_eq]; omega)]
 | r+1,i,h1,h2=>by
  have o:full.length=b.length+n:=by rw [g]; simp
  have w:wI ((i:Int)+1)=((i+1:Nat):Int):=by rw [aJ (by omega) (by omega)]; omega
  have k:aA full (i:Int)=some v:=by
   rw [oH,g,List.getElem?_append_right h1,List.getElem?_replicate,if_pos (by omega)]
  have m:f (i:Int)=some (.inl ((i+1:Nat):Int)):=by
   rw [h,if_pos (decide_eq_true (by omega)),k,ae,if_neg (by simp),w]
   rfl
  rw [bI m]
  exact qE (ρ:=ρ) b n v j full g h r (i+1) (by omega) (by omega)
theorem y9 (a:List UInt8) (f:a.length≤4611686018427387904):F.HH a a=some true:=by
 unfold F.HH
 rw [if_neg (by simp)]
 exact AZ a 0 f (fun i=>rfl)
theorem lU (b:List UInt8) (j:b.length≤140737488351232):F.DU b=some (b++List.replicate 9 165,b.length):=by
 have h:wI ((b.length:Int)+9)=((b.length+9:Nat):Int):=by rw [aJ (by omega) (by omega)]; omega
 have g:mkO 1 ((b.length+9:Nat):Int) ((b.length+9:Nat):Int) (0:UInt8)=some (List.replicate (b.length+9) 0):=by
  unfold mkO
  rw [if_pos ⟨by omega,by omega,by omega,by omega⟩,Int.toNat_natCast]
 have hc:cpL (List.replicate (b.length+9) (0:UInt8)) b 0 (List.replicate (b.length+9) (0:UInt8)).length=b++List.replicate 9 0:=by
  unfold cpL
  rw [List.length_replicate,Nat.sub_zero,Nat.min_eq_left (by omega),List.take_zero,List.nil_append,List.take_of_length_le (by omega),Nat.zero_add,List.drop_replicate,Nat.add_sub_cancel_left]
 unfold F.DU
 rw [h,g,ae,aS,hc,qZ (f:=F.IL b) (X:=fun l=>grd (0≤((b.length:Int):Int)∧((b.length:Int):Int).toNat≤l.length) (some (l,((b.length:Int):Int).toNat))) 165 (fun i l=>rfl) 9 b.length _ (by simp) (by simp; omega)]
 rw [List.take_left' rfl,grd_true _ ⟨by omega,by simp⟩,Int.toNat_natCast]
theorem kh (b:List UInt8) (j:b.length≤140737488351232):F.DX (b++List.replicate 9 165) b.length b=some true:=by
 have g:wI ((b.length:Int)+9)=((b.length+9:Nat):Int):=by rw [aJ (by omega) (by omega)]; omega
 have h:(b++List.replicate 9 (165:UInt8)).take (b.length+9)=b++List.replicate 9 165:=List.take_of_length_le (by simp)
 unfold F.DX
 rw [g,grd_true _ ⟨by omega,by simp⟩]
 refine qE (ρ:=Unit) (f:=F.H2 (b++List.replicate 9 165) b.length b) b 9 165 (by omega) (X:=some true) (b++List.replicate 9 165) rfl (fun i=>?_) 9 b.length (Nat.le_refl _) (by simp)
 unfold F.H2
 dsimp only
 rw [g,Int.toNat_natCast,h,List.take_left' rfl,y9 b (by omega),ae]
end Go.Gk.Bn
end

section
namespace Go.Gk.Bn
open Go Go.Gk Go.Gk.Sh Go.Gk.Ec Go.Gk.Pr
noncomputable def okJ {c:Int} (z r s:Nat) (Q:Pt (cP c)):Bool:=vj (JQ (gP c) Q (z*iK c s%cN c) (r*iK c s%cN c)) r
noncomputable def vg (h c:Int) (x y m sig:List UInt8):Int:=
 if ¬isH h then 111 else if ¬((im c x y).2.2.2=0) then 90 else if ¬(sig.length=2*nS c) then 91 else
 if ¬(inN c (beN (sig.take (nS c)))∧inN c (beN (sig.drop (nS c)))) then 91 else
 if okJ (zN h c m) (beN (sig.take (nS c))) (beN (sig.drop (nS c))) (eE c (im c x y).1 (im c x y).2.1 (im c x y).2.2.1)=true then 0 else 91
theorem sj (h c:Int) (x y m f:List UInt8) (U:m.length≤900000000000000) (hs:f.length≤140737488351232):F.F0 h c x y m f=some (vg h c x y m f):=by
 obtain ⟨n1,i,n3⟩:=nS4 c
 obtain ⟨z,A,o,c4,c5⟩:=gd c
 unfold F.F0 vg
 rw [ze,ae]
 by_cases hh:isH h
 ·have hz:=na h
  rw [if_pos hh,if_neg (show ¬(((Sz h:Nat):Int) == 0)=true by rw [beq_iff_eq]; omega),if_neg (not_not_intro hh),wF,ae]
  by_cases hd:(im c x y).2.2.2=0
  ·obtain ⟨hc,V,X,Y,Z⟩:=uS hd
   rw [if_neg (by rw [hd]; decide),if_neg (not_not_intro hd),uv,ae,yB,ae,if_pos hc,if_pos hc,mJ,show wI (2*((nS c:Nat):Int))=((2*nS c:Nat):Int) by rw [aJ (by omega) (by omega)]; omega]
   by_cases hl:f.length=2*nS c
   ·have B:(f.take (nS c)).length=nS c:=by rw [List.length_take]; omega
    have G:(f.drop (nS c)).length=nS c:=by rw [List.length_drop]; omega
    have b1:=jh (Nat.le_of_eq B) i
    have b2:=jh (Nat.le_of_eq G) i
    have I:slO f ((nS c:Nat):Int) ((2*nS c:Nat):Int)=some (f.drop (nS c)):=by
     unfold slO
     rw [if_pos ⟨by omega,by omega,by omega⟩,Int.toNat_natCast,Int.toNat_natCast,List.take_of_length_le (by omega)]
    rw [if_neg (by rw [hl]; simp),grd_true _ ⟨by omega,by omega,rfl⟩,I,ae,Int.toNat_natCast,fC _ (by omega),ae,fC _ (by omega),ae,qF _ _ (by omega) (by omega),ae,aq,aq,
     if_neg (not_not_intro hl)]
    have j:∀(x2:List UInt32×List UInt32×Bool×Int) (J K M:List UInt32),F.GH h c m x2 J K M true=some 91:=fun _ _ _ _=>rfl
    by_cases hr:inN c (beN (f.take (nS c)))
    ·have k:0<beN (f.take (nS c))∧beN (f.take (nS c))<cN c:=hr
     rw [decide_eq_true k,if_neg (by decide),qF _ _ (by omega) (by omega),ae,aq,aq]
     by_cases hs2:inN c (beN (f.drop (nS c)))
     ·have g:0<beN (f.drop (nS c))∧beN (f.drop (nS c))<cN c:=hs2
      rw [decide_eq_true g,if_neg (not_not_intro ⟨hr,hs2⟩)]
      obtain ⟨t,w2,N⟩:=uK (c:=c) (am (beN (f.drop (nS c)))) (aq _) (by omega) g.1 g.2
      generalize hw:iK c (beN (f.drop (nS c)))=w at t w2 N
      have nw:=jZ t
      have lw:=dl (Nat.le_of_lt t) o
      have nr:=jZ k.2
      obtain ⟨z1,z2⟩:=Aa h c m
      have O:zN h c m*w%cN c<cN c:=Nat.mod_lt _ (by omega)
      have R:beN (f.take (nS c))*w%cN c<cN c:=Nat.mod_lt _ (by omega)
      have ad:=jZ O; have ap:=jZ R
      have a0:=dl (Nat.le_of_lt O) o; have a1:=dl (Nat.le_of_lt R) o
      unfold F.GH
      rw [if_neg (by decide),N,ae,vY h c hh hc m U,ae]
      dsimp only
      rw [vb _ _ _ z A (by rw [aq]; omega) (by rw [aq]; omega) (by omega) (by omega) (by omega),ae]
      rw [vb _ _ _ z A (by rw [aq]; omega) (by rw [aq]; omega) (by omega) (by omega) (by omega),ae,aq,aq,aq,V]
      dsimp only
      rw [A6 X (by rw [aq]; omega) (by rw [aq]; omega) (by omega) (by omega) (by have:=jh (Nat.le_of_eq Y) i; omega) (by have:=jh (Nat.le_of_eq Z) i; omega),ae,aq,aq]
      show (if ((0:Int) != 0)=true then _ else ah (F.Fp (rep _).1 (rep _).2.1 (rep _).2.2 _ _) _)=_
      rw [if_neg (by decide),sB _ _ (by omega),ae,xa,aq]
      unfold okJ
      rw [hw]
      cases vj (JQ (gP c) (eE c (am (beN x)) (am (beN y)) false) (zN h c m*w%cN c) (beN (f.take (nS c))*w%cN c)) (beN (f.take (nS c))) <;> rfl
     ·rw [decide_eq_false (show ¬(0<beN (f.drop (nS c))∧beN (f.drop (nS c))<cN c) from hs2),if_pos (fun q=>hs2 q.2)]; exact j _ _ _ _
    ·rw [decide_eq_false (show ¬(0<beN (f.take (nS c))∧beN (f.take (nS c))<cN c) from hr),if_pos (by decide),if_pos (fun q=>hr q.1)]; exact j _ _ _ _
   ·rw [if_pos (by rw [bne_iff_ne]; omega),if_pos hl]
  ·rw [if_pos (by rw [bne_iff_ne]; exact hd),if_pos hd]
 ·rw [if_neg hh,if_pos (by decide),if_pos hh]
theorem xU {c:Int} (hc:isC c) (z r s:Nat) {X Y:List UInt32} {q:Bool} (h:onS c X Y q=true) (lz:(am z).length≤100) (B:(am r).length≤100) (G:(am s).length≤100) (I:X.length≤36000000000000) (J:Y.length≤36000000000000) :
  F.Im c (am z) (am r) (am s) X Y q=some (decide (inN c r∧inN c s)&&okJ z r s (eE c X Y q)):=by
 obtain ⟨i,K,g,M,N⟩:=gd c
 have j:∀x3,F.GT (am z) (am r) (am s) x3 c X Y q true=some false:=fun _=>rfl
 unfold F.Im
 rw [x9,if_pos hc,ae,s7 _ _ (by omega) (by omega),ae,aq,aq]
 by_cases hr:inN c r
 ·have k:0<r∧r<cN c:=hr
  rw [decide_eq_true k,if_neg (by decide),s7 _ _ (by omega) (by omega),ae,aq,aq]
  by_cases hs:inN c s
  ·have m:0<s∧s<cN c:=hs
   rw [decide_eq_true m,decide_eq_true ⟨hr,hs⟩]
   obtain ⟨o,O⟩:=xk hs.1 hs.2
   have R:=dl (Nat.le_of_lt o) g
   have t:z*iK c s%cN c<cN c:=Nat.mod_lt _ (by omega)
   have x:r*iK c s%cN c<cN c:=Nat.mod_lt _ (by omega)
   have y:=dl (Nat.le_of_lt t) g; have A:=dl (Nat.le_of_lt x) g
   have U:=uL c (gP c)
   unfold F.GT
   rw [Bool.not_true,if_neg (by decide),BD (am s) (aq s) (by omega) hs.1 hs.2,ae]
   dsimp only
   rw [sq _ _ _ (by omega) (by omega) (by omega) (by rw [aq]; omega) (by rw [aq]; omega) (by rw [aq]; exact i),ae]
   rw [sq _ _ _ (by omega) (by omega) (by omega) (by rw [aq]; omega) (by rw [aq]; omega) (by rw [aq]; exact i),ae,aq,aq,aq,aq]
   show F.EI c _ _ _ _ _ _ _ false=_
   unfold F.EI
   have f:=yL c hc
   rw [uT,←zm]at f
   rw [if_neg (by decide),f,ae]
   dsimp only
   rw [xj hc _ _ (AU hc (wg c hc)) h (by omega) (by omega) (by omega) (by omega) (by omega) (by omega),ae,yp,aq,aq,vM _ _ (by omega),ae,aq,Bool.true_and]
   rfl
  ·rw [decide_eq_false (show ¬(0<s∧s<cN c) from hs),decide_eq_false (fun q=>hs q.2)]; exact j _
 ·rw [decide_eq_false (show ¬(0<r∧r<cN c) from hr),decide_eq_false (fun q=>hr q.1),if_pos (by decide)]; exact j _
theorem o0 (h c:Int) (x y m f:List UInt8) (o:m.length≤200000000000000) (J:f.length≤140737488351232):F.GV h c x y m f=some (vg h c x y m f):=by
 obtain ⟨n1,g,K⟩:=nS4 c
 unfold F.GV vg
 rw [xu,ae]
 by_cases hh:isH h
 ·have M:=na h
  rw [if_pos hh,if_neg (show ¬(((Sz h:Nat):Int) == 0)=true by rw [beq_iff_eq]; omega),if_neg (not_not_intro hh),lf,ae,vW,ae]
  by_cases hd:(im c x y).2.2.2=0
  ·obtain ⟨hc,q,t,z,A⟩:=uS hd
   rw [if_neg (not_not_intro hd),if_pos hc,mJ,if_neg (show ¬(((nS c:Nat):Int) == 0)=true by rw [beq_iff_eq]; omega),hd]
   unfold F.Gj
   rw [if_neg (by decide),show wI (2*((nS c:Nat):Int))=((2*nS c:Nat):Int) by rw [aJ (by omega) (by omega)]; omega]
   by_cases hl:f.length=2*nS c
   ·have i:(f.take (nS c)).length=nS c:=by rw [List.length_take]; omega
    have j:(f.drop (nS c)).length=nS c:=by rw [List.length_drop]; omega
    have b1:=jh (Nat.le_of_eq i) g
    have B:=jh (Nat.le_of_eq j) g
    have N:=jh (Nat.le_of_eq z) g
    have O:=jh (Nat.le_of_eq A) g
    have G:tkO f ((nS c:Nat):Int)=some (f.take (nS c)):=by unfold tkO; rw [if_pos ⟨by omega,by omega⟩,Int.toNat_natCast]
    have I:drO f ((nS c:Nat):Int)=some (f.drop (nS c)):=by unfold drO; rw [if_pos ⟨by omega,by omega⟩,Int.toNat_natCast]
    rw [if_neg (by rw [hl]; simp),if_neg (not_not_intro hl),xO h c hh hc m o,ae,G,ae,oB _ (by omega),ae,I,ae,oB _ (by omega),ae,q]
    dsimp only
    rw [xU hc _ _ _ t (Aa h c m).2 b1 B (by omega) (by omega),ae]
    by_cases hi:inN c (beN (f.take (nS c)))∧inN c (beN (f.drop (nS c)))
    ·rw [if_neg (not_not_intro hi),decide_eq_true hi,Bool.true_and]
     cases okJ (zN h c m) (beN (f.take (nS c))) (beN (f.drop (nS c))) (eE c (am (beN x)) (am (beN y)) false) <;> rfl
    ·rw [if_pos hi,decide_eq_false hi,Bool.false_and]; rfl
   ·rw [if_pos (by rw [bne_iff_ne]; omega),if_pos hl]; rfl
  ·rw [if_pos hd]
   have k:∀x2 x3,F.Gj h c m f x2 x3 true=some 90:=fun _ _=>rfl
   by_cases hc:isC c
   ·rw [if_pos hc,mJ,if_neg (show ¬(((nS c:Nat):Int) == 0)=true by rw [beq_iff_eq]; omega),show ((im c x y).2.2.2 != 0)=true by rw [bne_iff_ne]; exact hd]
    exact k _ _
   ·rw [if_neg hc,if_pos (by decide)]
    exact k _ _
 ·rw [if_neg hh,if_pos (by decide),if_pos hh]
theorem law12_EcdsaVerifies_J (h c:Int) (x y m f:List UInt8) (i:x.length≤140737488351232) (j:y.length≤140737488351232) (k:m.length≤140737488351232) (g:f.length≤140737488351232):F.IP h c x y m f=some true:=by
 unfold F.IP
 rw [lU x i,ae,lU y j,ae,lU m k,ae,lU f g,ae]
 dsimp only
 rw [List.take_left' rfl,List.take_left' rfl,List.take_left' rfl,List.take_left' rfl,sj _ _ _ _ _ _ (by omega) g,ae,o0 _ _ _ _ _ _ (by omega) g,ae,if_neg (by simp),
  kh x i,ae,if_neg (by decide),kh y j,ae,if_neg (by decide),kh m k,ae,if_neg (by decide),kh f g,ae]
 unfold F.Ep
 dsimp only
 rw [Bool.not_true,if_neg (by decide),List.take_left' rfl,List.take_left' rfl,List.take_left' rfl,List.take_left' rfl]
 by_cases h0:m.length=0
 ·rw [if_pos (by rw [beq_iff_eq]; omega)]
 ·have q:aA m 0=some (m.getD 0 0):=aO (show 0<m.length by omega) 0
  have o:(((m++List.replicate 9 (165:UInt8)).set (0:Int).toNat (m.getD 0 0 ^^^ 1)).take m.length).length=m.length:=by
   rw [List.length_take,List.length_set,List.length_append]; omega
  rw [if_neg (by rw [beq_iff_eq]; omega),q,ae,ae,aS,o0 _ _ _ _ _ _ (by rw [o]; omega) g,ae,sj _ _ _ _ _ _ (by rw [o]; omega) g,ae,beq_self_eq_true]
end Go.Gk.Bn
end

section
namespace Go.Gk
end Go.Gk
end
