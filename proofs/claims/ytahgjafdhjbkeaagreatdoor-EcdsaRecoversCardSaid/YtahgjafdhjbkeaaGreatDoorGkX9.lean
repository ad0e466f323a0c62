import Derived.Test.YtahgjafdhjbkeaaGreatDoorGkX5
import Derived.Test.YtahgjafdhjbkeaaGreatDoorGkFman
import Derived.Test.YtahgjafdhjbkeaaGreatDoorGkW4
import Derived.Test.YtahgjafdhjbkeaaGreatDoorGkP0
set_option linter.unusedVariables false
set_option linter.unusedSimpArgs false
set_option linter.unusedSectionVars false

section
namespace Go.Gk.Bn
open Go Go.Gk Go.Gk.Sh Go.Gk.Ec Go.Gk.Pr
theorem mW (l:L0) (k:Nat):val (l.drop k)=val l / 4294967296^k:=by
 rcases Nat.le_total k l.length with h | h
 ·have g:=dg l k h
  have f:=bv (l.take k)
  rw[List.length_take,Nat.min_eq_left h]at f
  rw[g,Nat.add_mul_div_left _ _ (Nat.pow_pos (by decide)),Nat.div_eq_of_lt f,Nat.zero_add]
 ·rw[List.drop_of_length_le h,d8,Nat.div_eq_of_lt]
  exact Nat.lt_of_lt_of_le (bv l) (Nat.pow_le_pow_right (by decide) h)
theorem tS (l:L0) (k:Nat):F.Hl l (k:Int)=some (l.drop k):=by
 unfold F.Hl
 by_cases h:l.length<=k
 ·rw[if_pos (decide_eq_true (by omega)),List.drop_of_length_le h]
 ·rw[if_neg (by rw[decide_eq_true_eq]; omega),mU (by omega),ae]
def kN (c:Int):Nat:=(an (cP c)).length
def B2 (c:Int):Nat:=4294967296^(2*kN c)
def muN (c:Int):Nat:=B2 c / cP c
theorem iP (c:Int):1<=kN c/\kN c<=12/\(an (muN c)).length<=25/\0<cP c:=by
 have h:=dF c
 have l:=d9 c (Nat.le_refl (cP c))
 have f:(an (cP c)).length≠0:=fun q=>by have:=(fc _).1 q; omega
 refine⟨by unfold kN; omega,l,?_,by omega⟩
 unfold muN B2
 refine bl (Nat.lt_of_le_of_lt (Nat.div_le_self _ _) ?_)
 exact Nat.pow_lt_pow_right (by decide) (by unfold kN; omega)
theorem wd (c:Int) (hc:isC c):F.IA c=some (an (cP c),an (muN c),((kN c:Nat):Int)):=by
 obtain⟨i,j,x,y⟩:=iP c
 obtain⟨k,f⟩:∃k,kN c=k:=⟨_,rfl⟩
 have m:(an (cP c)).length=k:=f
 unfold F.IA
 rw[ji,if_pos hc,ae,m]
 rw[f]at i j
 have o:wI (2*(k:Int))=((2*k:Nat):Int):=by rw[aJ (by omega) (by omega)]; omega
 have q:wI (((2*k:Nat):Int)+1)=((2*k+1:Nat):Int):=by rw[aJ (by omega) (by omega)]; omega
 have g:mkO 4 ((2*k+1:Nat):Int) ((2*k+1:Nat):Int) (0:UInt32)=some (List.replicate (2*k+1) 0):=by
  unfold mkO
  rw[if_pos ⟨by omega,by omega,by omega,by omega⟩,Int.toNat_natCast]
 have t:val ((List.replicate (2*k+1) (0:UInt32)).set (2*k) 1)=4294967296^(2*k):=by
  have h:=dB (List.replicate (2*k+1) (0:UInt32)) (2*k) 1 (by simp)
  rw[cn,tI]at h
  simpa using h
 rw[o,q,g,ae,aP (show 2*k<(List.replicate (2*k+1) (0:UInt32)).length by simp) 0,ae,aS,Int.toNat_natCast,
  kD _ _ (by simp; omega) (by omega) (by rw[ar]; omega),ae,t,ar]
 unfold muN B2
 rw[f]
theorem A1 {x A B C p:Nat} (f:A*C=B) (g:0<C):x / A*(B / p) / C*p<=x:=by
 have h:x / A*(B / p) / C*C<=x / A*(B / p):=Nat.div_mul_le_self _ _
 have i:B / p*p<=B:=Nat.div_mul_le_self _ _
 have j:x / A*A<=x:=Nat.div_mul_le_self _ _
 refine Nat.le_of_mul_le_mul_right ?_ g
 calc x / A*(B / p) / C*p*C=x / A*(B / p) / C*C*p:=by rw[Nat.mul_right_comm]
  _<=x / A*(B / p)*p:=Nat.mul_le_mul_right _ h
  _=x / A*(B / p*p):=Nat.mul_assoc _ _ _
  _<=x / A*B:=Nat.mul_le_mul_left _ i
  _=x / A*A*C:=by rw[<-f,Nat.mul_assoc]
  _<=x*C:=Nat.mul_le_mul_right _ j
theorem zi {p:Nat} (j:0<p) (k:(an p).length<=1000):∀r:Nat,(an r).length<=1000->loop (F.HO (an p)) (an r)=some (an (r%p)):=by
 intro r
 induction r using Nat.strongRecOn with
 | _ r ih=>
  intro f
  by_cases h:r<p
  ·rw[Nat.mod_eq_of_lt h]
   refine bL ?_
   unfold F.HO
   dsimp only
   rw[gh _ _ (by omega) (by omega),ae,ar,ar]
   unfold cD
   rw[if_pos h,if_neg (by decide)]
  ·have g:=cW (show r - p<=r by omega) f
   have i:0<=cD r p:=by unfold cD; rw[if_neg h]; split <;> decide
   rw[bJ (s':=an (r - p)) (by
    unfold F.HO
    dsimp only
    rw[gh _ _ (by omega) (by omega),ae,ar,ar,if_pos (decide_eq_true i),gl _ _ (by omega) (by rw[ar,ar]; omega),ae,ar,ar]
    rfl),ih (r - p) (by omega) g,<-Nat.mod_eq_sub_mod (by omega)]
theorem Ce (c:Int) (x:L0) (i:x.length<=100):F.Ig (an (cP c)) (an (muN c)) ((kN c:Nat):Int) x=some (an (val x%cP c)):=by
 obtain⟨G,I,J,j⟩:=iP c
 have l:=d9 c (Nat.le_refl (cP c))
 have k:wI (((kN c:Nat):Int) - 1)=((kN c - 1:Nat):Int):=by rw[aJ (by omega) (by omega)]; omega
 have m:wI (((kN c:Nat):Int)+1)=((kN c+1:Nat):Int):=by rw[aJ (by omega) (by omega)]; omega
 have K:(x.drop (kN c - 1)).length<=100:=by rw[List.length_drop]; omega
 have o:val (x.drop (kN c - 1))=val x / 4294967296^(kN c - 1):=mW _ _
 have lt:(an (val (x.drop (kN c - 1))*muN c)).length<=125:=bl (by
  have t:=bv (x.drop (kN c - 1)); have g:=bv (an (muN c))
  rw[ar]at g
  have:=Nat.mul_lt_mul'' t g
  rw[<-Nat.pow_add]at this
  exact Nat.lt_of_lt_of_le this (Nat.pow_le_pow_right (by decide) (by omega)))
 have f:=A1 (x:=val x) (p:=cP c) (A:=4294967296^(kN c - 1)) (B:=B2 c) (C:=4294967296^(kN c+1)) (by unfold B2; rw[<-Nat.pow_add]; congr 1; omega) (Nat.pow_pos (by decide))
 rw[<-o]at f
 have y:val ((an (val (x.drop (kN c - 1))*muN c)).drop (kN c+1))=val (x.drop (kN c - 1))*(B2 c / cP c) / 4294967296^(kN c+1):=by
  rw[mW,ar]; rfl
 have z:((an (val (x.drop (kN c - 1))*muN c)).drop (kN c+1)).length<=125:=by rw[List.length_drop]; omega
 unfold F.Ig
 rw[k,m,tS,ae,i4 _ _ (by omega),ae,ar,tS,ae,i4 _ _ (by omega),ae,ar,y,gl _ _ (by omega) (by rw[ar]; exact f),ae,ar]
 have lx:(an (val x)).length<=100:=Nat.le_trans (bl (bv x)) i
 rw[zi j (by omega) _ (Nat.le_trans (c6 (Nat.sub_le _ _)) (by omega))]
 congr 2
 generalize val (x.drop (kN c - 1))*(B2 c / cP c) / 4294967296^(kN c+1)=q at f
 have h:(val x - q*cP c+q*cP c)%cP c=val x%cP c:=by rw[Nat.sub_add_cancel f]
 rw[Nat.add_mul_mod_self_right]at h
 exact h
theorem tQ (c:Int) {a b:Nat} (h:a<cP c) (i:b<cP c):F.Ds (an (cP c)) (an (muN c)) ((kN c:Nat):Int) (an a) (an b)=some (an (a*b%cP c)):=by
 have j:=d9 c (Nat.le_of_lt h)
 have k:=d9 c (Nat.le_of_lt i)
 have lt:(an (a*b)).length<=24:=bl (by
  have f:=bv (an a); have g:=bv (an b)
  rw[ar]at f g
  have:=Nat.mul_lt_mul'' f g
  rw[<-Nat.pow_add]at this
  exact Nat.lt_of_lt_of_le this (Nat.pow_le_pow_right (by decide) (by omega)))
 unfold F.Ds
 rw[i4 _ _ (by omega),ae,ar,ar,Ce c _ (by omega),ae,ar]
section
variable (c:Int)
theorem m12 (u v:Fin (cP c)):F.Ds (an (cP c)) (an (muN c)) ((kN c:Nat):Int) (rl u) (rl v)=some (rl (u*v)):=tQ c u.isLt v.isLt
theorem a12 (m:L0) (k:Int) (u v:Fin (cP c)):F.DG (an (cP c)) m k (rl u) (rl v)=some (rl (u+v)):=by
 have j:=(iP c).2.2.2
 have l:=d9 c (Nat.le_refl (cP c))
 have g:=gL c u; have i:=gL c v
 have o:(an (u.val+v.val)).length<=13:=by
  have:=fS u.val v.val
  unfold rl at g i
  omega
 have q:=u.isLt; have t:=v.isLt
 unfold F.DG
 rw[lA _ _ (by omega) (by omega),ae,fj,fj,gh _ _ (by omega) (by omega),ae,ar,ar]
 have e:rl (u+v)=an ((u.val+v.val)%cP c):=rfl
 rw[e]
 by_cases h:u.val+v.val<cP c
 ·have f:¬0<=cD (u.val+v.val) (cP c):=by unfold cD; rw[if_pos h]; decide
  rw[if_neg (by rw[decide_eq_true_eq]; exact f),Nat.mod_eq_of_lt h]
 ·have f:0<=cD (u.val+v.val) (cP c):=by unfold cD; rw[if_neg h]; split <;> decide
  rw[if_pos (decide_eq_true f),gl _ _ (by omega) (by rw[ar,ar]; omega),ae,ar,ar,Nat.mod_eq_sub_mod (by omega),Nat.mod_eq_of_lt (by omega)]
theorem s12 (m:L0) (k:Int) (u v:Fin (cP c)):F.DH (an (cP c)) m k (rl u) (rl v)=some (rl (u - v)):=by
 have j:=(iP c).2.2.2
 have l:=d9 c (Nat.le_refl (cP c))
 have g:=gL c u; have i:=gL c v
 have o:=u.isLt; have q:=v.isLt
 unfold F.DH
 rw[gh _ _ (by omega) (by omega),ae,fj,fj]
 have e:rl (u - v)=an ((cP c - v.val+u.val)%cP c):=rfl
 rw[e]
 by_cases h:u.val<v.val
 ·have f:¬0<=cD u.val v.val:=by unfold cD; rw[if_pos h]; decide
  have t:(an (u.val+cP c)).length<=13:=by
   have:=fS u.val (cP c)
   unfold rl at g i
   omega
  rw[if_neg (by rw[decide_eq_true_eq]; exact f),lA _ _ (by omega) (by omega),ae,fj,ar,gl _ _ (by omega) (by rw[ar,fj]; omega),ae,ar,fj,Nat.mod_eq_of_lt (by omega)]
  congr 2; omega
 ·have f:0<=cD u.val v.val:=by unfold cD; rw[if_neg h]; split <;> decide
  rw[if_pos (decide_eq_true f),gl _ _ (by omega) (by rw[fj,fj]; omega),ae,fj,fj,show cP c - v.val+u.val=(u.val - v.val)+cP c by omega,Nat.add_mod_right,Nat.mod_eq_of_lt (by omega)]
theorem jX (u:Fin (cP c)):(((rl u).length:Int) == 0)=decide (u=0):=by
 have h:=fc u.val
 by_cases hu:u=0
 ·subst hu
  rw[decide_eq_true rfl,beq_iff_eq]
  have:(rl (0:Fin (cP c))).length=0:=h.2 (by simp)
  omega
 ·rw[decide_eq_false hu,beq_eq_false_iff_ne]
  intro q
  refine hu (Fin.ext ?_)
  have:u.val=0:=h.1 (by unfold rl at q; omega)
  rw[this]; simp
abbrev T3F (c:Int):=Fin (cP c)×Fin (cP c)×Fin (cP c)
def r3 (t:T3F c):L0×L0×L0:=(rl t.1,rl t.2.1,rl t.2.2)
def lZ (t:T3F c):T3F c:=
 if t.2.2=0\/t.2.1=0 then (0,0,0) else
  let zz:=t.2.2*t.2.2; let m0:=(t.1 - zz)*(t.1+zz); let m:=m0+(m0+m0); let yy:=t.2.1*t.2.1; let t0:=t.1*yy; let t2:=t0+t0; let t4:=t2+t2; let x:=m*m - (t4+t4)
  let w:=yy*yy; let w2:=w+w; let w4:=w2+w2; let w8:=w4+w4
  (x,m*(t4 - x) - w8,t.2.1*t.2.2+t.2.1*t.2.2)
theorem CR:rl (0:Fin (cP c))=[]:=List.eq_nil_of_length_eq_zero ((fc _).2 (by simp))
theorem nW:r3 c (0,0,0)=([],[],[]):=by unfold r3; rw[CR]
theorem vH (t:T3F c):F.Ho (an (cP c)) (an (muN c)) ((kN c:Nat):Int) (rl t.1) (rl t.2.1) (rl t.2.2)=some (r3 c (lZ c t)):=by
 obtain⟨X,Y,Z⟩:=t
 unfold F.Ho lZ
 dsimp only
 rw[jX]
 by_cases hz:Z=0
 ·rw[if_pos (decide_eq_true hz),if_pos (.inl hz),nW]; rfl
 ·rw[if_neg (by rw[decide_eq_true_eq]; exact hz),jX]
  by_cases hy:Y=0
  ·rw[decide_eq_true hy,if_pos (.inr hy),nW]; rfl
  ·rw[decide_eq_false hy,if_neg (fun q=>q.elim hz hy)]
   unfold F.IP
   rw[if_neg (by decide)]
   rw[m12,ae,s12,ae,a12,ae,m12,ae,a12,ae,a12,ae,m12,ae,m12,ae,a12,ae,a12,ae,m12,ae,a12,ae,s12,ae,m12,ae,a12,ae,a12,ae,a12,ae,s12,ae,m12,ae,s12,ae,m12,ae,a12,ae]
   rfl
def kA (t u:T3F c):T3F c:=
 if t.2.2=0 then u else if u.2.2=0 then t else
  let ss:=t.2.2*t.2.2; let qq:=u.2.2*u.2.2; let u1:=t.1*qq; let h:=u.1*ss - u1; let v:=t.2.1*(qq*u.2.2); let r:=u.2.1*(ss*t.2.2) - v
  if h=0 then (if r=0 then lZ c t else (0,0,0)) else
   let hh:=h*h; let hhh:=hh*h; let w:=u1*hh; let x:=r*r - hhh - (w+w)
   (x,r*(w - x) - v*hhh,h*(t.2.2*u.2.2))
theorem pN (t u:T3F c):F.Ee (an (cP c)) (an (muN c)) ((kN c:Nat):Int) (rl t.1) (rl t.2.1) (rl t.2.2) (rl u.1) (rl u.2.1) (rl u.2.2)=some (r3 c (kA c t u)):=by
 obtain⟨h,i,f⟩:=t
 obtain⟨j,k,g⟩:=u
 unfold F.Ee kA
 dsimp only
 rw[jX]
 by_cases h1:f=0
 ·rw[if_pos (decide_eq_true h1),if_pos h1]; rfl
 rw[if_neg (by rw[decide_eq_true_eq]; exact h1),if_neg h1,jX]
 by_cases h2:g=0
 ·rw[if_pos (decide_eq_true h2),if_pos h2]; rfl
 rw[if_neg (by rw[decide_eq_true_eq]; exact h2),if_neg h2]
 rw[m12,ae,m12,ae,m12,ae,m12,ae,s12,ae,m12,ae,m12,ae,m12,ae,m12,ae,s12,ae,jX,jX]
 by_cases h3:j*(f*f) - h*(g*g)=0
 ·rw[if_pos (decide_eq_true h3),if_pos h3]
  by_cases h4:k*(f*f*f) - i*(g*g*g)=0
  ·rw[if_pos (decide_eq_true h4),if_pos h4,vH c (h,i,f),ae]
  ·rw[if_neg (by rw[decide_eq_true_eq]; exact h4),if_neg h4,nW]
 ·rw[if_neg (by rw[decide_eq_true_eq]; exact h3),if_neg h3]
  rw[m12,ae,m12,ae,m12,ae,m12,ae,s12,ae,a12,ae,s12,ae,s12,ae,m12,ae,m12,ae,s12,ae,m12,ae,m12,ae]
  rfl
theorem sL (t:T3F c):jpt (lZ c t)=Ec.add (-3) (jpt t) (jpt t):=by
 rw[<-ot (gF c) t]
 obtain⟨X,Y,Z⟩:=t
 unfold lZ lO
 dsimp only
 by_cases hz:Z=0
 ·subst hz
  rw[if_pos (.inl rfl),if_pos rfl]
  show jac 0 0 0=jac X Y 0
  rw[ee,ee]
 ·rw[if_neg hz]
  by_cases hy:Y=0
  ·subst hy
   rw[if_pos (.inr rfl)]
   have e:(2:Fin (cP c))*(0*Z)=0:=by grobner
   show jac 0 0 0=jac _ _ ((2:Fin (cP c))*(0*Z))
   rw[e,ee,ee]
  ·rw[if_neg (fun q=>q.elim hz hy)]
   congr 1
   refine Prod.ext ?_ (Prod.ext ?_ ?_)
   ·dsimp only; grobner
   ·dsimp only; grobner
   ·dsimp only; grobner
theorem lM (t u:T3F c) (i:On (-3) (bF c) (jpt t)) (j:On (-3) (bF c) (jpt u)):jpt (kA c t u)=Ec.add (-3) (jpt t) (jpt u):=by
 rw[<-qM (gF c) t u i j]
 obtain⟨m,h,f⟩:=t
 obtain⟨q,k,g⟩:=u
 unfold kA kb
 dsimp only
 by_cases h1:f=0
 ·rw[if_pos h1,if_pos h1]
 rw[if_neg h1,if_neg h1]
 by_cases h2:g=0
 ·rw[if_pos h2,if_pos h2]
 rw[if_neg h2,if_neg h2]
 have o:k*(f*f*f) - h*(g*g*g)=k*(f*(f*f)) - h*(g*(g*g)):=by clear i j; grobner
 by_cases h3:q*(f*f) - m*(g*g)=0
 ·rw[if_pos h3,if_pos h3,o]
  by_cases h4:k*(f*(f*f)) - h*(g*(g*g))=0
  ·rw[if_pos h4,if_pos h4,sL]
   exact (ot (gF c) (m,h,f)).symm
  ·rw[if_neg h4,if_neg h4]
 ·rw[if_neg h3,if_neg h3]
  congr 1
  clear i j h3 h1 h2 o
  refine Prod.ext ?_ (Prod.ext ?_ ?_)
  ·dsimp only; grobner
  ·dsimp only; grobner
  ·dsimp only
end
end Go.Gk.Bn
end

section
namespace Go.Gk.Bn
open Go Go.Gk Go.Gk.Sh Go.Gk.Ec Go.Gk.Pr
theorem Bd (e i:Nat):e / 2^i=2*(e / 2^(i+1))+(if decide (e / 2^i%2=1)=true then 1 else 0):=A8 e i
theorem qk (c:Int) (z:Nat) (k:z<cP c) (e:L0):∀i:Nat,i<=100000->loop (F.Hq (an (cP c)) (an (muN c)) ((kN c:Nat):Int) (an z) e) (an (z^(val e / 2^i)%cP c),(i:Int) - 1)=some (an (z^val e%cP c))
 | 0,_=>by
  rw[Nat.pow_zero,Nat.div_one]
  refine bL ?_
  unfold F.Hq
  dsimp only
  rw[if_neg (by decide)]
 | i+1,hi=>by
  have m:=(iP c).2.2.2
  have j:∀x,x%cP c<cP c:=fun x=>Nat.mod_lt _ m
  have o:(((i+1:Nat):Int)) - 1=(i:Int):=by omega
  have w:wI ((i:Int) - 1)=(i:Int) - 1:=aJ (by omega) (by omega)
  rw[o,<-qk c z k e i (by omega)]
  refine bJ ?_
  unfold F.Hq
  dsimp only
  rw[if_pos (decide_eq_true (by omega)),tQ c (j _) (j _),ae,ob _ _ (by omega),ae]
  have f:=Bd (val e) i
  have g:z^(val e / 2^(i+1))%cP c*(z^(val e / 2^(i+1))%cP c)%cP c=z^(2*(val e / 2^(i+1)))%cP c:=by
   rw[<-Nat.mul_mod,<-Nat.pow_add]; congr 2; omega
  by_cases h:val e / 2^i%2=1
  ·rw[if_pos (decide_eq_true h)]at f ⊢
   rw[tQ c (j _) k,ae]
   unfold F.Hc
   dsimp only
   rw[w,g,Nat.mod_mul_mod,<-Nat.pow_succ,Nat.succ_eq_add_one,<-f]
   rfl
  ·have q:¬decide (val e / 2^i%2=1)=true:=by rw[decide_eq_true_eq]; exact h
   rw[if_neg q]at f ⊢
   unfold F.Hc
   dsimp only
   rw[w,g,<-Nat.add_zero (2*(val e / 2^(i+1))),<-f]
   rfl
theorem xa (c:Int) (Z:Fin (cP c)) (h:Z≠0):F.H6 (an (cP c)) (an (muN c)) ((kN c:Nat):Int) (rl Z)=some (rl (rcp Z)):=by
 have k:=(iP c).2.2.2
 have l:=d9 c (Nat.le_refl (cP c))
 have f:=i1 c
 have G:=(dF c).2.2.2.2.2.1
 have g:val ([2]:L0)=2:=rfl
 have le:=d9 c (show cP c - 2<=cP c by omega)
 have B:Z.val≠0:=fun q=>h (Fin.ext (by rw[q]; simp))
 have i:¬cP c ∣ Z.val:=fun m=>by have:=Nat.le_of_dvd (by omega) m; have:=Z.isLt; omega
 have o:Z.val*(Z.val^(cP c - 2)%cP c)%cP c=1:=by
  rw[Nat.mul_mod_mod,Nat.mul_comm,<-Nat.pow_succ,show (cP c - 2).succ=cP c - 1 by omega,sH f i]
 have t:=xN (gF c) f (Nat.mod_lt _ k) o
 have x:wI (32*((an (cP c - 2)).length:Int))=((32*(an (cP c - 2)).length:Nat):Int):=by rw[aJ (by omega) (by omega)]; omega
 have y:wI (((32*(an (cP c - 2)).length:Nat):Int) - 1)=((32*(an (cP c - 2)).length:Nat):Int) - 1:=aJ (by omega) (by omega)
 have z:an (1%cP c)=[1]:=by rw[Nat.mod_eq_of_lt (by omega),fT (by decide),show 1 / 4294967296=0 by decide,bR]; rfl
 have A:cP c - 2<2^(32*(an (cP c - 2)).length):=by
  have:=bv (an (cP c - 2))
  rw[ar]at this
  rw[Nat.pow_mul]
  exact this
 unfold F.H6
 rw[gl _ _ (by omega) (by rw[ar,g]; omega),ae,ar,g,x,y,aS]
 have j:=qk c Z.val Z.isLt (an (cP c - 2)) (32*(an (cP c - 2)).length) (by omega)
 rw[ar,Nat.div_eq_of_lt A,Nat.pow_zero,z]at j
 refine Eq.trans j ?_
 rw[<-t]
 rfl
theorem A0 (c:Int) (t:T3F c):F.Iy (an (cP c)) (an (muN c)) ((kN c:Nat):Int) (rl t.1) (rl t.2.1) (rl t.2.2)=some (rep (jpt t)):=by
 obtain⟨X,Y,Z⟩:=t
 unfold F.Iy jpt jac
 dsimp only
 rw[jX]
 by_cases h:Z=0
 ·rw[if_pos (decide_eq_true h),if_pos h]; rfl
 ·rw[if_neg (by rw[decide_eq_true_eq]; exact h),if_neg h,xa c Z h,ae,m12,ae,m12,ae,m12,ae,m12,ae]
  have e:rcp Z*rcp Z*rcp Z=rcp Z*(rcp Z*rcp Z):=by grobner
  rw[e]
  rfl
def fL {c:Int} (P:Pt (cP c)):T3F c:=match P with
 | none=>(0,0,0)
 | some (x,y)=>(x,y,1)
theorem im {c:Int} (P:Pt (cP c)):jpt (fL P)=P:=by
 cases P with
 | none=>exact ee _ _
 | some q=>
  obtain⟨x,y⟩:=q
  show jac x y 1=_
  unfold jac
  rw[if_neg (pU c)]
  have f:rcp (1:Fin (cP c))=1:=by
   have:=(gF c).mul_iv (pU c)
   generalize rcp (1:Fin (cP c))=i at this
   grobner
  rw[f]
  congr 2
  ·grobner
  ·grobner
theorem BY (c:Int):rl (1:Fin (cP c))=[1]:=by
 have f:=(dF c).2.2.2.2.2.1
 have:(1:Fin (cP c)).val=1:=by
  show 1%cP c=1
  exact Nat.mod_eq_of_lt (by omega)
 unfold rl
 rw[this,fT (by decide),show 1 / 4294967296=0 by decide,bR]; rfl
theorem vw {c:Int} {X Y:L0} {q:Bool} (h:onS c X Y q=true) (f:X.length<=50000000000000) (g:Y.length<=50000000000000):F.Hx X Y q=some (r3 c (fL (eg c X Y q))):=by
 unfold F.Hx
 cases q with
 | true=>rw[if_pos rfl]; exact congrArg some (nW c).symm
 | false=>
  obtain⟨i,j,_⟩:=qt h
  rw[if_neg (by decide),dP X f,ae,dP Y g,ae]
  show _=some (rl (fz (val X:Int)),rl (fz (val Y:Int)),rl 1)
  rw[BY]
  unfold rl
  rw[pF _ i,pF _ j]
end Go.Gk.Bn
end

section
namespace Go.Gk.Ec
variable {p:Nat} [NeZero p] {a b:Fin p}
theorem Fld.comm (C:Fld p) {P Q:Pt p} (g:On a b P) (j:On a b Q):add a P Q=add a Q P:=by
 rcases P with _ | ⟨x1,y1⟩
 ·rw[d6]; rfl
 rcases Q with _ | ⟨x2,y2⟩
 ·rfl
 by_cases hx:x1=x2
 ·subst hx
  by_cases hy:y1+y2=0
  ·have k:y2+y1=0:=by grobner
   rw[gc,gc,if_pos rfl,if_pos rfl,if_pos hy,if_pos k]
  ·have e:y1=y2:=by
    unfold On at g j
    dsimp only at g j
    have q:(y1 - y2)*(y1+y2)=0:=by grobner
    rcases C.nz _ _ q with f | f
    ·grobner
    ·exact absurd f hy
   rw[e]
 ·have m:¬x2=x1:=fun h=>hx h.symm
  have f:x2 - x1≠0:=fun h=>hx (by grobner)
  have o:=C.mul_iv f
  have e:rcp (x1 - x2)=-rcp (x2 - x1):=by
   refine (C.iv_uniq ?_).symm
   generalize rcp (x2 - x1)=i at o
   grobner
  rw[gc,gc,if_neg hx,if_neg m,e]
  generalize rcp (x2 - x1)=i at o
  unfold kM
  have t:(y1 - y2)*-i=(y2 - y1)*i:=by grobner
  rw[t]
  clear g j e
  congr 2
  ·grobner
  ·grobner
noncomputable def wq (a:Fin p) (P Q:Pt p) (x y:Bool):Pt p:=if x&&y then add a P Q else if y then Q else if x then P else none
noncomputable def jq (a:Fin p) (P Q:Pt p) (m n:Nat):Nat->Pt p->Pt p
 | 0,T=>T
 | i+1,T=>jq a P Q m n i (add a (add a T T) (wq a P Q (decide (m / 2^i%2=1)) (decide (n / 2^i%2=1))))
theorem wA (C:Fld p) {P Q:Pt p} (f:On a b P) (g:On a b Q) (x y:Bool):On a b (wq a P Q x y):=by
 unfold wq
 split
 ·exact C.on_add f g
 ·split
  ·exact g
  ·split
   ·exact f
   ·trivial
theorem AT (C:Fld p) {P Q:Pt p} (f:On a b P) (g:On a b Q) (x y:Bool):wq a P Q x y=wq a Q P y x:=by
 cases x <;> cases y <;> first | rfl | exact C.comm f g
theorem vt (C:Fld p) {P Q:Pt p} (f:On a b P) (g:On a b Q) (m n:Nat):∀i T,jq a P Q m n i T=jq a Q P n m i T
 | 0,T=>rfl
 | i+1,T=>by
  unfold jq
  rw[AT C f g]
  exact vt C f g m n i _
theorem AC (C:Fld p) {P Q:Pt p} (f:On a b P) (g:On a b Q) (m n:Nat):∀i T,On a b T->On a b (jq a P Q m n i T)
 | 0,T,h=>h
 | i+1,T,h=>by
  unfold jq
  exact AC C f g m n i _ (C.on_add (C.on_add h h) (wA C f g _ _))
theorem uZ (a:Fin p) (P Q:Pt p) (m n k:Nat) (f:m<2^k) (g:n<2^k):∀d,jq a P Q m n (k+d) none=jq a P Q m n k none
 | 0=>rfl
 | d+1=>by
  have z:∀q,q<2^k->decide (q / 2^(k+d)%2=1)=false:=fun q h=>by
   rw[Nat.div_eq_of_lt (Nat.lt_of_lt_of_le h (Nat.pow_le_pow_right (by decide) (by omega)))]; rfl
  show jq a P Q m n (k+d) (add a (add a none none) (wq a P Q (decide (m / 2^(k+d)%2=1)) (decide (n / 2^(k+d)%2=1))))=_
  rw[z m f,z n g]
  exact uZ a P Q m n k f g d
end Go.Gk.Ec
namespace Go.Gk.Bn
open Go Go.Gk Go.Gk.Sh Go.Gk.Ec Go.Gk.Pr
theorem Ah {c:Int} (hc:isC c) {q:J3 c} (f:On (-3) (bF c) (jpt q)) (x y:Bool):jpt (whJ c q x y)=wq (-3) (gP c) (jpt q) x y:=by
 have g:=pZ c hc
 unfold whJ wq
 cases x <;> cases y
 ·exact ee _ _
 ·rfl
 ·show jpt (gJ c)=_
  rw[v7]; rfl
 ·show jpt (kb _ _ _ _ _ _)=_
  rw[qM (b:=bF c) (gF c) _ _ (by rw[v7]; exact g) f,v7]
  rfl
theorem yu {c:Int} (hc:isC c) (m n:Nat) {q:J3 c} (f:On (-3) (bF c) (jpt q)):∀(i:Nat) (t:J3 c),On (-3) (bF c) (jpt t)->jpt (qH c m n q i t)=jq (-3) (gP c) (jpt q) m n i (jpt t)
 | 0,t,h=>rfl
 | i+1,t,h=>by
  have g:=wA (gF c) (pZ c hc) f (decide (m / 2^i%2=1)) (decide (n / 2^i%2=1))
  have e:=Ab (b:=bF c) (gF c) h (q:=whJ c q (decide (m / 2^i%2=1)) (decide (n / 2^i%2=1))) (by rw[Ah hc f]; exact g) true
  rw[if_pos rfl,Ah hc f]at e
  unfold qH
  rw[yu hc m n f i _ (by rw[e]; exact (gF c).on_add ((gF c).on_add h h) g),e]
  rfl
noncomputable def JQ {c:Int} (P Q:Pt (cP c)) (m n:Nat):Pt (cP c):=jq (-3) P Q m n (max (nb m) (nb n)) none
theorem CW {c:Int} (P Q:Pt (cP c)) (m n k:Nat) (h:max (nb m) (nb n)<=k):jq (-3) P Q m n k none=JQ P Q m n:=by
 have f:∀q,nb q<=max (nb m) (nb n)->q<2^max (nb m) (nb n):=fun q g=>Nat.lt_of_lt_of_le (d7 q).1 (Nat.pow_le_pow_right (by decide) g)
 have e:=uZ (-3) P Q m n (max (nb m) (nb n)) (f m (Nat.le_max_left _ _)) (f n (Nat.le_max_right _ _)) (k - max (nb m) (nb n))
 rw[Nat.add_sub_cancel' h]at e
 exact e
theorem BB {c:Int} {P Q:Pt (cP c)} (f:On (-3) (bF c) P) (g:On (-3) (bF c) Q) (m n:Nat):JQ P Q m n=JQ Q P n m:=by
 unfold JQ
 rw[vt (gF c) f g,Nat.max_comm]
theorem AF {c:Int} {P Q:Pt (cP c)} (f:On (-3) (bF c) P) (g:On (-3) (bF c) Q) (m n:Nat):On (-3) (bF c) (JQ P Q m n):=AC (gF c) f g m n _ _ trivial
theorem uT {c:Int}:On (-3) (bF c) (jpt ((0,0,0):J3 c)):=by
 have:jpt ((0,0,0):J3 c)=none:=ee _ _
 rw[this]; trivial
theorem Bx {c:Int} {a k X Y:L0} {q:Bool} (g:onS c X Y q=true) (i:nb (val a)<=1024) (h:nb (val k)<=1024) (x:a.length<=35184372087808) (y:k.length<=35184372087808) (z:X.length<=35184372087808) (A:Y.length<=35184372087808) :
  F.Jg c a k X Y q=some (res (JQ (gP c) (eg c X Y q) (val a) (val k))):=by
 have n1:¬(!true)=true:=by decide
 have hc:=wi g
 unfold F.Jg
 rw[oT c X Y q z A,ae,rB a x,rB k y,if_pos hc]
 dsimp only[iA]
 rw[g,if_neg n1,ae,ae]
 dsimp only
 rw[decide_eq_true i,if_neg n1,decide_eq_true h,CQ g]
 show F.Hg (gQ c (jT c X Y q)) _ _ _=_
 unfold F.Hg
 dsimp only
 rw[if_neg n1,iq 1 (by decide) (by decide),ae]
 have f:=C1 c (gJ c) (jT c X Y q)
 have j:=vJ c (jT c X Y q)
 rw[<-j]at f
 rw[show F.Ej (gQ c (jT c X Y q)).1 (gQ c (jT c X Y q)).2.1 (gQ c (jT c X Y q)).2.2.1 (gQ c (jT c X Y q)).2.2.2.1 (gQ c (jT c X Y q)).2.2.2.2.1 (gQ c (jT c X Y q)).2.2.2.2.2.1 (gQ c (jT c X Y q)).2.2.2.2.2.2.1 (gQ c (jT c X Y q)).2.2.2.2.2.2.2.1 (gQ c (jT c X Y q)).2.2.2.2.2.2.2.2.1 (gQ c (jT c X Y q)).2.2.2.2.2.2.2.2.2.1 (gQ c (jT c X Y q)).2.2.2.2.2.2.2.2.2.2.1
  (gQ c (jT c X Y q)).2.2.2.2.2.2.1 (gQ c (jT c X Y q)).2.2.2.2.2.2.2.1 (gQ c (jT c X Y q)).2.2.2.2.2.2.2.2.1 (gQ c (jT c X Y q)).2.2.2.2.2.2.2.2.2.1 (bi 1).1 (bi 1).2
  (gQ c (jT c X Y q)).2.2.2.2.2.2.2.2.2.2.2.1 (gQ c (jT c X Y q)).2.2.2.2.2.2.2.2.2.2.2.2.1 (gQ c (jT c X Y q)).2.2.2.2.2.2.2.2.2.2.2.2.2.1 (gQ c (jT c X Y q)).2.2.2.2.2.2.2.2.2.2.2.2.2.2.1 (gQ c (jT c X Y q)).2.2.2.2.2.2.2.2.2.2.2.2.2.2.2.1 (gQ c (jT c X Y q)).2.2.2.2.2.2.2.2.2.2.2.2.2.2.2.2=_ from f,ae]
 unfold F.D0
 have G:=vn i; have lk:=vn h
 rw[ae,rI _ (by omega),ae,rI _ (by omega),ae]
 have m:wI (max ((nb (val a):Nat):Int) ((nb (val k):Nat):Int) - 1)=((max (nb (val a)) (nb (val k)):Nat):Int) - 1:=by
  rw[aJ (by omega) (by omega)]; omega
 rw[m]
 have o:=pg c (val a) (val k) (by omega) (by omega) (jT c X Y q) true true (max (nb (val a)) (nb (val k))) (0,0,0) (by omega)
 rw[uY]at o
 refine o.trans ?_
 have t:On (-3) (bF c) (jpt (jT c X Y q)):=by rw[Am]; exact nH g
 have B:jpt ((0,0,0):J3 c)=none:=ee _ _
 rw[yu hc _ _ t _ _ uT,Am,B]
 rfl
theorem ti {c:Int} {P Q:Pt (cP c)} (j:On (-3) (bF c) P) (k:On (-3) (bF c) Q) (a b:L0) (f:T3F c) (o:jpt f=Ec.add (-3) P Q):∀(i:Nat) (t:T3F c),i<=100000->On (-3) (bF c) (jpt t) ->
  loop (F.FK a b (an (cP c),an (muN c),((kN c:Nat):Int)) (r3 c (fL P)) (r3 c (fL Q)) (r3 c f)) ((i:Int) - 1,rl t.1,rl t.2.1,rl t.2.2)=some (rep (jq (-3) P Q (val a) (val b) i (jpt t)))
 | 0,t,_,h=>by
  refine bL ?_
  unfold F.FK
  dsimp only
  rw[if_neg (by decide),A0,ae]
  rfl
 | i+1,t,hi,h=>by
  have C:=gF c
  have A:(((i+1:Nat):Int)) - 1=(i:Int):=by omega
  have w:wI ((i:Int) - 1)=(i:Int) - 1:=aJ (by omega) (by omega)
  have q:=sL c t
  have g:On (-3) (bF c) (jpt (lZ c t)):=by
   rw[q]
   exact C.on_add h h
  have m:∃t':T3F c,F.FK a b (an (cP c),an (muN c),((kN c:Nat):Int)) (r3 c (fL P)) (r3 c (fL Q)) (r3 c f) ((i:Int),rl t.1,rl t.2.1,rl t.2.2)=some (.inl ((i:Int) - 1,rl t'.1,rl t'.2.1,rl t'.2.2)) /\
    jpt t'=Ec.add (-3) (Ec.add (-3) (jpt t) (jpt t)) (wq (-3) P Q (decide (val a / 2^i%2=1)) (decide (val b / 2^i%2=1))):=by
   unfold F.FK
   dsimp only
   rw[if_pos (decide_eq_true (by omega)),vH,ae,ob _ _ (by omega),ae,ob _ _ (by omega),ae,<-q]
   generalize lZ c t=d at g ⊢
   generalize decide (val a / 2^i%2=1)=x
   generalize decide (val b / 2^i%2=1)=y
   unfold F.IH F.Fo
   dsimp only
   rw[w]
   cases x with
   | true=>
    rw[if_pos rfl]
    cases y with
    | true=>
     rw[if_pos rfl]
     refine⟨kA c d f,?_,?_⟩
     ·have:=pN c d f
      unfold r3 at this ⊢
      dsimp only
      rw[this,ae]
      rfl
     ·rw[lM c d f g (by rw[o]; exact C.on_add j k),o]
      rfl
    | false=>
     rw[if_neg (by decide),if_pos rfl]
     refine⟨kA c d (fL P),?_,?_⟩
     ·have:=pN c d (fL P)
      unfold r3 at this ⊢
      dsimp only
      rw[this,ae]
      rfl
     ·rw[lM c d _ g (by rw[im]; exact j),im]
      rfl
   | false=>
    rw[if_neg (by decide),if_neg (by decide),if_neg (by decide)]
    cases y with
    | true=>
     rw[if_pos rfl]
     refine⟨kA c d (fL Q),?_,?_⟩
     ·have:=pN c d (fL Q)
      unfold r3 at this ⊢
      dsimp only
      rw[this,ae]
      rfl
     ·rw[lM c d _ g (by rw[im]; exact k),im]
      rfl
    | false=>
     rw[if_neg (by decide)]
     refine⟨d,rfl,?_⟩
     show _=Ec.add (-3) (jpt d) none
     rw[d6]
  obtain⟨t',B,z⟩:=m
  rw[A,bJ B,ti j k a b f o i t' (by omega) (by rw[z]; exact C.on_add (C.on_add h h) (wA C j k _ _)),z]
  rfl
theorem xH {c:Int} (hc:isC c) (a b:L0) {X Y:L0} {q:Bool} {f g:L0} {i:Bool} (h:onS c X Y q=true) (k:onS c f g i=true) (M:a.length<=1000) (N:b.length<=1000)
  (y:X.length<=50000000000000) (z:Y.length<=50000000000000) (m:f.length<=50000000000000) (o:g.length<=50000000000000) :
  F.Ix c a b X Y q f g i=some (rep (JQ (eg c X Y q) (eg c f g i) (val a) (val b))):=by
 have t:=nH h
 have x:=nH k
 have A:wI (32*max (a.length:Int) (b.length:Int))=((32*max a.length b.length:Nat):Int):=by rw[aJ (by omega) (by omega)]; omega
 have B:wI (((32*max a.length b.length:Nat):Int) - 1)=((32*max a.length b.length:Nat):Int) - 1:=aJ (by omega) (by omega)
 unfold F.Ix
 rw[wd c hc,ae,vw h y z,ae,vw k m o,ae]
 have hpl:=pN c (fL (eg c X Y q)) (fL (eg c f g i))
 have e:F.Ee (an (cP c)) (an (muN c)) ((kN c:Nat):Int) (r3 c (fL (eg c X Y q))).1 (r3 c (fL (eg c X Y q))).2.1 (r3 c (fL (eg c X Y q))).2.2 (r3 c (fL (eg c f g i))).1 (r3 c (fL (eg c f g i))).2.1 (r3 c (fL (eg c f g i))).2.2=_:=hpl
 dsimp only
 rw[e,ae,A,B,aS]
 have G:jpt (kA c (fL (eg c X Y q)) (fL (eg c f g i)))=Ec.add (-3) (eg c X Y q) (eg c f g i):=by
  rw[lM c _ _ (by rw[im]; exact t) (by rw[im]; exact x),im,im]
 have J:nb (val a)<=32*a.length:=Nat.le_trans (jo _) (Nat.mul_le_mul_left 32 (bl (bv a)))
 have K:nb (val b)<=32*b.length:=Nat.le_trans (jo _) (Nat.mul_le_mul_left 32 (bl (bv b)))
 have j:=ti t x a b _ G (32*max a.length b.length) (0,0,0) (by omega) uT
 have I:jpt ((0,0,0):J3 c)=none:=ee _ _
 have z0:=CR c
 dsimp only at j
 rw[z0,I,CW _ _ _ _ _ (by omega)]at j
 exact j
end Go.Gk.Bn
end

section
namespace Go.Gk.Bn
open Go Go.Gk Go.Gk.Sh Go.Gk.Ec Go.Gk.Pr
theorem sV (a b m:L0) (k:a.length<=36000000000000) (o:b.length<=1000) (f:m.length<=128) (g:(an (val a)).length<=128) (i:(an (val b)).length<=128) (j:1<val m):F.Ed a b m=some (an (val a*val b%val m),0):=by
 unfold F.Ed
 have h:=ij (val a) (val b)
 rw[kI m a b (by omega) (by omega) (by omega) g i (gn f) j,ae,if_neg (by decide),i4 _ _ (by omega),ae,gf _ _ (by omega) (by omega) (by omega),ae,ar]
theorem y6 (a m:L0) (G:a.length<=36000000000000) (k:(an (val a)).length<=128) (o:m.length<=128) (f:1<val m) (g:Nat.gcd (val a) (val m)=1) :
  ∃v,v<val m/\val a*v%val m=1/\F.GX a m=some (an v,0):=by
 have h:=gn o
 have B:=Nat.mod_lt (val a) (show 0<val m by omega)
 have q:Cof (val m) (val a) 0 (val m):=⟨-1,by push_cast; omega⟩
 have t:Cof (val m) (val a) 1 (val a%val m):=⟨((val a / val m:Nat):Int),by
  have:=Nat.div_add_mod (val a) (val m)
  have x:((val a:Nat):Int)=((val m*(val a / val m)+val a%val m:Nat):Int):=by rw[this]
  push_cast at x ⊢
  omega⟩
 obtain⟨v,y,i,j⟩:=rj (val m) (val a) f h g (val m) (val a%val m) (val m) 0 1 (by omega) (by omega) (Nat.le_refl _) (by omega) f q t (by rw[Nat.gcd_comm,<-Nat.gcd_rec,Nat.gcd_comm]; exact g)
 refine⟨v,y,i,?_⟩
 unfold F.GX
 rw[xL m a (by omega) (by omega) k h f,ae,if_neg (by decide),dP m (by omega),ae,gf _ _ (by omega) (by omega) (by rw[ar]; omega),ae,ar]
 unfold F.Ep
 rw[ae,<-j]
 have z:an 0=[]:=bR
 have A:an 1=[1]:=by decide +kernel
 rw[z,A]
theorem B4 {c:Int} {s:Nat} (l:L0) (f:val l=s) (j:l.length<=36000000000000) (k:0<s) (h:s<cN c):F.GX l (an (cN c))=some (an (dL c s),0):=by
 obtain⟨n1,q,m,_,_⟩:=iX c
 have t:=cW (Nat.le_of_lt h) m
 obtain⟨w,i,g,o⟩:=y6 l (an (cN c)) j (by rw[f]; omega) (by omega) (by rw[ar]; exact n1) (by rw[ar,f]; exact xo k h)
 rw[ar]at i g
 rw[f]at g
 rw[vf i g]
 exact o
theorem AK (x y:UInt32) (t:Nat) (h:y.toNat<256) (i:t<4) (f:x.toNat<256^t):(x ||| bP y (8*t)).toNat=x.toNat+y.toNat*256^t:=by
 rw[UInt32.or_comm,xf y x (s:=8*t) (by omega) (by rw[<-uf]; exact f),<-uf]
 have:y.toNat*256^t<4294967296:=by
  have g:256^t<=256^3:=Nat.pow_le_pow_right (by decide) (by omega)
  have j:y.toNat*256^t<=255*256^3:=Nat.mul_le_mul (by omega) g
  omega
 rw[Nat.mod_eq_of_lt this]; omega
theorem uS {n:Nat} (h:n<32):(UInt64.ofInt ((n:Nat):Int)).toNat=n:=by
 have f:∀k:Fin 32,(UInt64.ofInt ((k.val:Nat):Int)).toNat=k.val:=by decide
 exact f ⟨n,h⟩
theorem Bm {l:L0} {q t:Nat} (h:val l<256^(4*q+t)):(l.getD q 0).toNat<256^t:=by
 have f:=mW l q
 rw[ch]at f
 have g:val l / 4294967296^q<256^t:=by
  refine Nat.div_lt_of_lt_mul ?_
  rw[show (4294967296:Nat)=256^4 from rfl,<-Nat.pow_mul,<-Nat.pow_add]
  exact h
 omega
theorem mr (b:L1) (q:b.length<=1000) (n:Nat) (t:(b.length+3) / 4=n):∀(r i:Nat) (y:L0),i+r=b.length->y.length=n->val y=beN (b.drop (b.length - i))->loop (F.Fu b) ((i:Int),y)=some (an (beN b))
 | 0,i,y,h,h1,h2=>by
  have:i=b.length:=by omega
  subst this
  rw[Nat.sub_self,List.drop_zero]at h2
  refine bL ?_
  unfold F.Fu
  dsimp only
  rw[if_neg (by simp),dP _ (by omega),ae,h2]
 | r+1,i,y,h,h1,h2=>by
  have hi:i<b.length:=by omega
  have z:wI ((i:Int)+1)=((i+1:Nat):Int):=by rw[aJ (by omega) (by omega)]; rfl
  have A:wI ((wI ((b.length:Int) - 1)) - (i:Int))=((b.length - 1 - i:Nat):Int):=by rw[aJ (x:=(b.length:Int) - 1) (by omega) (by omega),aJ (by omega) (by omega)]; omega
  have B:wI (Int.tdiv (i:Int) 4)=((i / 4:Nat):Int):=by rw[Int.tdiv_eq_ediv_of_nonneg (by omega),aJ (by omega) (by omega)]; omega
  have G:wI (8*(Int.tmod (i:Int) 4))=((8*(i%4):Nat):Int):=by rw[Int.tmod_eq_emod_of_nonneg (by omega),aJ (by omega) (by omega)]; omega
  have I:(UInt64.ofInt ((8*(i%4):Nat):Int)).toNat=8*(i%4):=uS (by omega)
  have k:b.drop (b.length - (i+1))=b.getD (b.length - 1 - i) 0 :: b.drop (b.length - i):=by
   rw[show b.length - (i+1)=b.length - 1 - i by omega,List.drop_eq_getElem_cons (by omega),show b.length - 1 - i+1=b.length - i by omega]
   congr 1
   rw[List.getD_eq_getElem?_getD,List.getElem?_eq_getElem (by omega)]; rfl
  have f:(b.drop (b.length - i)).length=i:=by rw[List.length_drop]; omega
  have K:=(b.getD (b.length - 1 - i) 0).toNat_lt
  have j:(b.getD (b.length - 1 - i) 0).toUInt32.toNat=(b.getD (b.length - 1 - i) 0).toNat:=UInt8.toNat_toUInt32 _
  have m:val y<256^(4*(i / 4)+i%4):=by
   rw[show 4*(i / 4)+i%4=i by omega,h2]
   have:=kg (b.drop (b.length - i))
   rwa [f]at this
  have o:=dB y (i / 4) (y.getD (i / 4) 0 ||| bP (b.getD (b.length - 1 - i) 0).toUInt32 (8*(i%4))) (by omega)
  rw[AK _ _ _ (by rw[j]; omega) (by omega) (Bm m),j,Nat.mul_add]at o
  have J:4294967296^(i / 4)*((b.getD (b.length - 1 - i) 0).toNat*256^(i%4))=(b.getD (b.length - 1 - i) 0).toNat*256^i:=by
   rw[show (4294967296:Nat)=256^4 from rfl,<-Nat.pow_mul,Nat.mul_left_comm,<-Nat.pow_add]; congr 2; omega
  rw[J]at o
  have g:F.Fu b ((i:Int),y)=some (.inl (((i+1:Nat):Int),y.set (i / 4) (y.getD (i / 4) 0 ||| bP (b.getD (b.length - 1 - i) 0).toUInt32 (8*(i%4))))):=by
   unfold F.Fu
   dsimp only
   rw[if_pos (decide_eq_true (by omega)),B,aP (show i / 4<y.length by omega) 0,ae,A,aP (show b.length - 1 - i<b.length by omega) 0,ae,ae,aS,G,I,z,Int.toNat_natCast]
   rfl
  rw[bJ g]
  refine mr b q n t r (i+1) _ (by omega) (by rw[List.length_set]; exact h1) ?_
  rw[k]
  show _=(b.getD (b.length - 1 - i) 0).toNat*256^(b.drop (b.length - i)).length+beN (b.drop (b.length - i))
  rw[f]
  omega
theorem yW (b:L1) (f:b.length<=1000):F.Il b=some (an (beN b)):=by
 obtain⟨n,g⟩:∃n,(b.length+3) / 4=n:=⟨_,rfl⟩
 have w0:wI (Int.tdiv (wI ((b.length:Int)+3)) 4)=(n:Int):=by
  rw[aJ (x:=(b.length:Int)+3) (by omega) (by omega),Int.tdiv_eq_ediv_of_nonneg (by omega),aJ (by omega) (by omega)]; omega
 unfold F.Il
 rw[w0,dK (by omega),ae,Int.toNat_natCast]
 exact mr b f n g b.length 0 _ (by omega) (by simp) (by rw[cn,Nat.sub_zero,List.drop_length]; rfl)
theorem yj (h c:Int) (g:isH h) (hc:isC c) (m:L1) (i:m.length<=200000000000000):F.In h c m=some (an (zN h c m)):=by
 obtain⟨n1,j,k⟩:=nS4 c
 have o:=mV h m
 have q:=np h
 have f:∀b:L1,b.length<=100->F.G3 b=some (an (beN b)):=fun b t=>by
  unfold F.G3
  dsimp only
  rw[yW _ (by omega),ae]
 unfold F.In zN
 rw[wV h g m i,ae,lF,if_pos hc,qr,ae]
 by_cases h1:nS c<(fU h m).length
 ·rw[if_pos (decide_eq_true (by omega)),ae,grd_true _ ⟨by omega,by omega⟩,Int.toNat_natCast,f _ (by rw[List.length_take]; omega)]
 ·rw[if_neg (by rw[decide_eq_true_eq]; omega),f _ (by omega),List.take_of_length_le (by omega)]
theorem tE (a n:L0) (g:a.length<=50000000000000) (ln:n.length<=50000000000000):F.GK a n=some (decide (0<val a/\val a<val n)):=by
 have f:=fc (val a)
 unfold F.GK
 rw[dP a g,ae]
 by_cases h:val a=0
 ·rw[if_neg (by rw[decide_eq_true_eq,f.2 h]; decide),decide_eq_false (by omega)]
 ·have:(an (val a)).length≠0:=fun q=>h (f.1 q)
  rw[if_pos (decide_eq_true (by omega)),gh a n (by omega) (by omega),ae]
  unfold cD
  by_cases h2:val a<val n
  ·rw[if_pos h2,decide_eq_true (show 0<val a/\val a<val n by omega)]; rfl
  ·rw[if_neg h2,decide_eq_false (show ¬(0<val a/\val a<val n) by omega)]
   split <;> rfl
theorem Cn (X Y:L0) (f:Bool) (r n:L0) (g:X.length<=36000000000000) (i:r.length<=40000000000000) (ln:n.length<=36000000000000) (h:val n≠0) :
  F.IV X Y f r n=some (!f&&decide (val X%val n=val r)):=by
 unfold F.IV
 cases f with
 | true=>rfl
 | false=>
  have j:(an (val X%val n)).length<=X.length:=cW (Nat.mod_le _ _) (bl (bv X))
  rw[if_neg (by decide),kD X n g ln h,ae]
  dsimp only
  rw[gh _ _ (by omega) (by omega),ae,ar,CB]
  rfl
theorem xV (a:Int):F.IZ a=some (if isH a then ((Sz a:Nat):Int) else 0):=by
 unfold F.IZ isH
 by_cases h1:a=1
 ·subst h1; rfl
 ·by_cases h2:a=2
  ·subst h2; rfl
  ·by_cases h3:a=3
   ·subst h3; rfl
   ·rw[if_neg (by simpa using h1),if_neg (by simpa using h2),if_neg (by simpa using h3),if_neg (by omega)]
end Go.Gk.Bn
end

section
namespace Go.Gk.Bn
open Go Go.Gk Go.Gk.Sh Go.Gk.Ec Go.Gk.Pr
theorem AH {τ:Type} (l:List τ) (i r:Nat) (v:τ) (h:i+(r+1)=l.length):(l.set i v).take (i+1)++List.replicate r v=l.take i++List.replicate (r+1) v:=by
 rw[List.take_set,List.take_add_one,List.getElem?_eq_getElem (by omega)]
 have f:(l.take i).length=i:=by rw[List.length_take]; omega
 rw[List.set_append_right _ _ (by omega),f,Nat.sub_self]
 show l.take i++[v]++_=_
 rw[List.append_assoc]
 rfl
theorem nK {τ ρ:Type} [Inhabited τ] {f:Int×List τ->Option ((Int×List τ)⊕ρ)} {X:List τ->Option ρ} (v:τ)
  (g:∀i l,f (i,l)=if (decide (i<(l.length:Int)))=true then (ah (aA l (i:Int)) fun _=>bq (l.set (i:Int).toNat v) fun x=>bD (wI (i+1),x)) else bn (X l)) :
  ∀(r i:Nat) (l:List τ),i+r=l.length->l.length<=4611686018427387904->loop f ((i:Int),l)=X (l.take i++List.replicate r v)
 | 0,i,l,h,hl=>by
  refine bL ?_
  rw[g,if_neg (by rw[decide_eq_true_eq]; omega),List.take_of_length_le (by omega),List.replicate_zero,List.append_nil]
 | r+1,i,l,h,hl=>by
  have w:wI ((i:Int)+1)=((i+1:Nat):Int):=by rw[aJ (by omega) (by omega)]; omega
  have j:f ((i:Int),l)=some (.inl (((i+1:Nat):Int),l.set i v)):=by
   rw[g,if_pos (decide_eq_true (by omega)),aP (show i<l.length by omega) v,ae,aS,Int.toNat_natCast,w]
   rfl
  rw[bJ j,nK v g r (i+1) (l.set i v) (by rw[List.length_set]; omega) (by rw[List.length_set]; exact hl),AH l i r v h]
theorem Bq {τ:Type} [Inhabited τ] [BEq τ] [LawfulBEq τ] {f:Int->Option (Int⊕Bool)} (a:List τ) (d:τ) (h:a.length<=4611686018427387904)
  (g:∀i:Int,f i=if (decide (i<(a.length:Int)))=true then (ah (aA a i) fun x=>ah (aA a i) fun y=>if (x != y)=true then bn (some false) else bD (wI (i+1))) else bn (some true)):loop f 0=some true:=by
 refine yM (n:=a.length) (fun i hi=>?_) ?_
 ·have w:wI ((i:Int)+1)=((i:Int)+1):=aJ (by omega) (by omega)
  rw[g,if_pos (decide_eq_true (by omega)),aP hi d,ae,ae,if_neg (by simp),w]
  rfl
 ·rw[g,if_neg (by simp)]
  rfl
theorem mX {τ ρ:Type} [BEq τ] [LawfulBEq τ] {f:Int->Option (Int⊕Bool)} (b:List τ) (n:Nat) (v:τ) (j:b.length+n<=4611686018427387904) {X:Option Bool} (full:List τ) (g:full=b++List.replicate n v)
  (h:∀i:Int,f i=if (decide (i<(full.length:Int)))=true then (ah (aA full i) fun x=>if (x != v)=true then bn (some false) else bD (wI (i+1))) else bn X):∀(r i:Nat),b.length<=i->i+r=full.length->loop f (i:Int)=X
 | 0,i,h1,h2=>by
  refine bL ?_
  rw[h,if_neg (by rw[decide_eq_true_eq]; omega)]
 | r+1,i,h1,h2=>by
  have o:full.length=b.length+n:=by rw[g]; simp
  have w:wI ((i:Int)+1)=((i+1:Nat):Int):=by rw[aJ (by omega) (by omega)]; omega
  have k:aA full (i:Int)=some v:=by
   rw[oV,g,List.getElem?_append_right h1,List.getElem?_replicate,if_pos (by omega)]
  have m:f (i:Int)=some (.inl ((i+1:Nat):Int)):=by
   rw[h,if_pos (decide_eq_true (by omega)),k,ae,if_neg (by simp),w]
   rfl
  rw[bJ m]
  exact mX (ρ:=ρ) b n v j full g h r (i+1) (by omega) (by omega)
theorem j5 (a:L1) (f:a.length<=4611686018427387904):F.Eh a a=some true:=by
 unfold F.Eh
 rw[if_neg (by simp)]
 exact Bq a 0 f (fun i=>rfl)
theorem s7 (a:L0) (f:a.length<=4611686018427387904):F.He a a=some true:=by
 rw[uP a a f f,decide_eq_true rfl]
theorem zO (b:L1) (j:b.length<=140737488351232):F.HV b=some (b++List.replicate 9 165,b.length):=by
 have h:wI ((b.length:Int)+9)=((b.length+9:Nat):Int):=by rw[aJ (by omega) (by omega)]; omega
 have g:mkO 1 ((b.length+9:Nat):Int) ((b.length+9:Nat):Int) (0:UInt8)=some (List.replicate (b.length+9) 0):=by
  unfold mkO
  rw[if_pos ⟨by omega,by omega,by omega,by omega⟩,Int.toNat_natCast]
 have hc:cpL (List.replicate (b.length+9) (0:UInt8)) b 0 (List.replicate (b.length+9) (0:UInt8)).length=b++List.replicate 9 0:=by
  unfold cpL
  rw[List.length_replicate,Nat.sub_zero,Nat.min_eq_left (by omega),List.take_zero,List.nil_append,List.take_of_length_le (by omega),Nat.zero_add,List.drop_replicate,Nat.add_sub_cancel_left]
 unfold F.HV
 rw[h,g,ae,aS,hc,nK (f:=F.Jp b) (X:=fun l=>grd (0<=((b.length:Int):Int)/\((b.length:Int):Int).toNat<=l.length) (some (l,((b.length:Int):Int).toNat))) 165 (fun i l=>rfl) 9 b.length _ (by simp) (by simp; omega)]
 rw[List.take_left' rfl,grd_true _ ⟨by omega,by simp⟩,Int.toNat_natCast]
theorem xw (b:L1) (j:b.length<=140737488351232):F.H2 (b++List.replicate 9 165) b.length b=some true:=by
 have g:wI ((b.length:Int)+9)=((b.length+9:Nat):Int):=by rw[aJ (by omega) (by omega)]; omega
 have h:(b++List.replicate 9 (165:UInt8)).take (b.length+9)=b++List.replicate 9 165:=List.take_of_length_le (by simp)
 unfold F.H2
 rw[g,grd_true _ ⟨by omega,by simp⟩]
 refine mX (ρ:=Unit) (f:=F.IJ (b++List.replicate 9 165) b.length b) b 9 165 (by omega) (X:=some true) (b++List.replicate 9 165) rfl (fun i=>?_) 9 b.length (Nat.le_refl _) (by simp)
 unfold F.IJ
 dsimp only
 rw[g,Int.toNat_natCast,h,List.take_left' rfl,j5 b (by omega),ae]
theorem nO (b:L0) (j:b.length<=35184372087808):F.Ea b=some (b++List.replicate 4 2779096485,b.length):=by
 have h:wI ((b.length:Int)+4)=((b.length+4:Nat):Int):=by rw[aJ (by omega) (by omega)]; omega
 have g:mkO 4 ((b.length+4:Nat):Int) ((b.length+4:Nat):Int) (0:UInt32)=some (List.replicate (b.length+4) 0):=by
  unfold mkO
  rw[if_pos ⟨by omega,by omega,by omega,by omega⟩,Int.toNat_natCast]
 have hc:cpL (List.replicate (b.length+4) (0:UInt32)) b 0 (List.replicate (b.length+4) (0:UInt32)).length=b++List.replicate 4 0:=by
  unfold cpL
  rw[List.length_replicate,Nat.sub_zero,Nat.min_eq_left (by omega),List.take_zero,List.nil_append,List.take_of_length_le (by omega),Nat.zero_add,List.drop_replicate,Nat.add_sub_cancel_left]
 unfold F.Ea
 rw[h,g,ae,aS,hc,nK (f:=F.HW b) (X:=fun l=>grd (0<=((b.length:Int):Int)/\((b.length:Int):Int).toNat<=l.length) (some (l,((b.length:Int):Int).toNat))) 2779096485 (fun i l=>rfl) 4 b.length _ (by simp) (by simp; omega)]
 rw[List.take_left' rfl,grd_true _ ⟨by omega,by simp⟩,Int.toNat_natCast]
theorem nX (b:L0) (j:b.length<=35184372087808):F.ES (b++List.replicate 4 2779096485) b.length b=some true:=by
 have g:wI ((b.length:Int)+4)=((b.length+4:Nat):Int):=by rw[aJ (by omega) (by omega)]; omega
 have h:(b++List.replicate 4 (2779096485:UInt32)).take (b.length+4)=b++List.replicate 4 2779096485:=List.take_of_length_le (by simp)
 unfold F.ES
 rw[g,grd_true _ ⟨by omega,by simp⟩]
 refine mX (ρ:=Unit) (f:=F.IT (b++List.replicate 4 2779096485) b.length b) b 4 2779096485 (by omega) (X:=some true) (b++List.replicate 4 2779096485) rfl (fun i=>?_) 4 b.length (Nat.le_refl _) (by simp)
 unfold F.IT
 dsimp only
 rw[g,Int.toNat_natCast,h,List.take_left' rfl,s7 b (by omega),ae]
end Go.Gk.Bn
end

section
namespace Go.Gk.Bn
open Go Go.Gk Go.Gk.Sh Go.Gk.Ec Go.Gk.Pr
noncomputable def pc (h c:Int) (m:L1) (r s:Nat) (X Y:L0) (inf:Bool):L1×L1×Int:=
 if ¬isH h then ([],[],111) else if ¬isC c then ([],[],90) else if ¬(inf=false/\onS c X Y inf=true) then ([],[],93) else
 if ¬(inN c r/\inN c s/\val X%cN c=r) then ([],[],91) else Cy (JQ (gP c) (eg c X Y inf) ((cN c - zN h c m*dL c r%cN c)%cN c) (s*dL c r%cN c))
theorem rc (h c:Int) (m:L1) (r s X Y:L0) (f:Bool) (O:m.length<=900000000000000) (lr:r.length<=35184372087808) (ls:s.length<=35184372087808) (z:X.length<=35184372087808) (A:Y.length<=35184372087808) :
  F.GT h c m r s X Y f=some (pc h c m (val r) (val s) X Y f):=by
 obtain⟨n1,n2,n3⟩:=nS4 c
 obtain⟨o,t,j,c4,c5⟩:=iX c
 unfold F.GT pc
 rw[zG,ae]
 by_cases hh:isH h
 ·have hz:=np h
  rw[if_pos hh,if_neg (show ¬(((Sz h:Nat):Int) == 0)=true by rw[beq_iff_eq]; omega),if_neg (not_not_intro hh),uW,ae]
  by_cases hc:isC c
  ·rw[if_pos hc,qr,if_neg (show ¬(((nS c:Nat):Int) == 0)=true by rw[beq_iff_eq]; omega),if_neg (not_not_intro hc)]
   cases f with
   | true=>rw[if_pos rfl,if_pos (fun q=>by cases q.1)]; rfl
   | false=>
    rw[if_neg (by decide),C4 c X Y false z A,ae]
    unfold F.II
    by_cases ho:onS c X Y false=true
    ·rw[ho,if_neg (by decide),if_neg (not_not_intro ⟨rfl,rfl⟩),za,ae,if_pos hc,rh _ _ (by omega) (by omega),ae,ar]
     have g:F.FY h c m r s X Y false (an (cN c)) true=some ([],[],91):=rfl
     by_cases hr:inN c (val r)
     ·have i:0<val r/\val r<cN c:=hr
      rw[decide_eq_true i,if_neg (by decide),rh _ _ (by omega) (by omega),ae,ar]
      by_cases hs:inN c (val s)
      ·have k:0<val s/\val s<cN c:=hs
       rw[decide_eq_true k,if_neg (by decide),BM _ _ _ _ _ (by omega) (by omega) (by omega) (by rw[ar]; omega),ae,ar]
       by_cases hf:val X%cN c=val r
       ·obtain⟨B,w2,R⟩:=vj (c:=c) r rfl (by omega) i.1 i.2
        have nw:=iY B
        have lw:=cW (Nat.le_of_lt B) j
        have ns:=iY k.2
        obtain⟨z1,z2⟩:=Aw h c m
        have G:zN h c m*dL c (val r)%cN c<cN c:=Nat.mod_lt _ (by omega)
        have I:val s*dL c (val r)%cN c<cN c:=Nat.mod_lt _ (by omega)
        have J:(cN c - zN h c m*dL c (val r)%cN c)%cN c<cN c:=Nat.mod_lt _ (by omega)
        have V:=iY G; have Z:=iY I; have ab:=iY J
        have ac:=cW (Nat.le_of_lt G) j; have ad:=cW (Nat.le_of_lt I) j; have ap:=cW (Nat.le_of_lt J) j
        rw[decide_eq_true hf,if_neg (not_not_intro ⟨hr,hs,hf⟩)]
        unfold F.FY
        rw[if_neg (by decide),R,ae]
        dsimp only
        rw[vM _ _ _ o t (by omega) (by rw[ar]; omega) (by omega) (by omega) (by omega),ae,wD h c hh hc m O,ae]
        rw[vM _ _ _ o t (by rw[ar]; omega) (by rw[ar]; omega) (by omega) (by omega) (by omega),ae,ar,ar]
        dsimp only
        rw[AS _ _ o t (by rw[ar]; omega) (by omega) (by omega),ae,ar,Nat.mod_mod]
        dsimp only
        rw[Bx ho (by rw[ar]; omega) (by rw[ar]; omega) (by omega) (by omega) z A,ae,ar,ar]
        have K:=nH ho
        have M:=AF (pZ c hc) K ((cN c - zN h c m*dL c (val r)%cN c)%cN c) (val s*dL c (val r)%cN c)
        show (if ((0:Int) != 0)=true then _ else F.FM c (res (JQ (gP c) (eg c X Y false) ((cN c - zN h c m*dL c (val r)%cN c)%cN c) (val s*dL c (val r)%cN c))) (rep (JQ (gP c) (eg c X Y false) ((cN c - zN h c m*dL c (val r)%cN c)%cN c) (val s*dL c (val r)%cN c))).2.2)=_
        rw[if_neg (by decide)]
        generalize JQ (gP c) (eg c X Y false) ((cN c - zN h c m*dL c (val r)%cN c)%cN c) (val s*dL c (val r)%cN c)=Q at M
        cases Q with
        | none=>rfl
        | some q=>
         obtain⟨x,y⟩:=q
         have l1:=gL c x
         have l2:=gL c y
         have U:=qD hc M
         have N:onS c (rl x) (rl y) false=true:=U
         show F.FM c (rl x,rl y,false,0) false=some (beB (nS c) x.val,beB (nS c) y.val,0)
         unfold F.FM
         rw[if_neg (by decide)]
         dsimp only
         rw[yr c _ _ _ (by omega) (by omega),ae]
         unfold qy
         rw[if_pos ⟨N,rfl⟩,fj,fj]
       ·rw[decide_eq_false hf,if_pos (fun q=>hf q.2.2)]; exact g
      ·rw[decide_eq_false (show ¬(0<val s/\val s<cN c) from hs),if_pos (by decide),if_pos (fun q=>hs q.2.1)]; exact g
     ·rw[decide_eq_false (show ¬(0<val r/\val r<cN c) from hr),if_pos (by decide),if_pos (fun q=>hr q.1)]; exact g
    ·rw[Bool.eq_false_iff.2 ho,if_pos (by decide),if_pos (fun q=>by cases q.2)]
  ·rw[if_neg hc,if_pos (by decide),if_pos hc]
 ·rw[if_neg hh,if_pos (by decide),if_pos hh]
theorem oD (h c:Int) (m:L1) (r s X Y:L0) (f:Bool) (J:m.length<=200000000000000) (lr:r.length<=35184372087808) (ls:s.length<=35184372087808) (lX:X.length<=35184372087808) (lY:Y.length<=35184372087808) :
  F.Hz h c m r s X Y f=some (pc h c m (val r) (val s) X Y f):=by
 obtain⟨n1,n2,n3⟩:=nS4 c
 obtain⟨z,c2,i,c4,c5⟩:=iX c
 unfold F.Hz pc
 rw[xV,ae]
 by_cases hh:isH h
 ·have hz:=np h
  rw[if_pos hh,if_neg (show ¬(((Sz h:Nat):Int) == 0)=true by rw[beq_iff_eq]; omega),if_neg (not_not_intro hh),lF,ae]
  by_cases hc:isC c
  ·rw[if_pos hc,qr,if_neg (show ¬(((nS c:Nat):Int) == 0)=true by rw[beq_iff_eq]; omega),if_neg (not_not_intro hc),xi c X Y f (by omega) (by omega),ae]
   have A:F.GV c r s X Y f h m true=some ([],[],93):=rfl
   by_cases g:f=false/\onS c X Y f=true
   ·obtain⟨hi,g⟩:=g
    subst hi
    rw[g,if_neg (by decide),if_neg (not_not_intro ⟨rfl,rfl⟩)]
    unfold F.GV
    rw[if_neg (by decide),yA,ae,if_pos hc,tE _ _ (by omega) (by omega),ae,ar]
    have j:F.F6 h c m r s X Y false (an (cN c)) true=some ([],[],91):=rfl
    by_cases hr:inN c (val r)
    ·have B:0<val r/\val r<cN c:=hr
     rw[decide_eq_true B,if_neg (by decide),tE _ _ (by omega) (by omega),ae,ar]
     by_cases hs:inN c (val s)
     ·have k:0<val s/\val s<cN c:=hs
      rw[decide_eq_true k,if_neg (by decide),Cn _ _ _ _ _ (by omega) (by omega) (by omega) (by rw[ar]; omega),ae,ar]
      by_cases hf:val X%cN c=val r
      ·obtain⟨K,w2⟩:=xI hr.1 hr.2
       have lw:=cW (Nat.le_of_lt K) i
       have V:=cW (Nat.le_of_lt k.2) i
       obtain⟨z1,z2⟩:=Aw h c m
       have M:zN h c m*dL c (val r)%cN c<cN c:=Nat.mod_lt _ (by omega)
       have N:val s*dL c (val r)%cN c<cN c:=Nat.mod_lt _ (by omega)
       have O:(cN c - zN h c m*dL c (val r)%cN c)%cN c<cN c:=Nat.mod_lt _ (by omega)
       have Z:=cW (Nat.le_of_lt M) i; have ab:=cW (Nat.le_of_lt N) i; have ac:=cW (Nat.le_of_lt O) i
       have hb:=Be c (gP c)
       have G:=pZ c hc
       have o:=nH g
       have R:val ([]:L0)=0:=rfl
       rw[decide_eq_true hf,if_neg (not_not_intro ⟨hr,hs,hf⟩)]
       unfold F.F6
       rw[Bool.not_false,Bool.true_and,Bool.not_true,if_neg (by decide),B4 r rfl (by omega) hr.1 hr.2,ae]
       dsimp only
       rw[sV _ _ _ (by omega) (by omega) (by omega) (by omega) (by rw[ar]; omega) (by rw[ar]; exact z),ae,yj h c hh hc m J,ae]
       rw[sV _ _ _ (by omega) (by omega) (by omega) (by rw[ar]; omega) (by rw[ar]; omega) (by rw[ar]; exact z),ae,ar,ar,ar]
       dsimp only
       rw[vl _ _ _ (by decide) (by omega) (by omega) (by rw[ar]; exact z),ae,ar,ar,R,Nat.zero_mod,Nat.zero_add,Nat.mod_mod]
       have t:=zj c hc
       rw[vu,<-zP]at t
       rw[t,ae]
       dsimp only
       rw[xH hc _ _ g (qD hc G) (by omega) (by omega) (by omega) (by omega) (by omega) (by omega),ae,yU,ar,ar,BB o G]
       have I:=AF (pZ c hc) o ((cN c - zN h c m*dL c (val r)%cN c)%cN c) (val s*dL c (val r)%cN c)
       show (if (rep (JQ (gP c) (eg c X Y false) ((cN c - zN h c m*dL c (val r)%cN c)%cN c) (val s*dL c (val r)%cN c))).2.2=true then _ else ah (F.FU c (rep (JQ (gP c) (eg c X Y false) ((cN c - zN h c m*dL c (val r)%cN c)%cN c) (val s*dL c (val r)%cN c))).1 (rep (JQ (gP c) (eg c X Y false) ((cN c - zN h c m*dL c (val r)%cN c)%cN c) (val s*dL c (val r)%cN c))).2.1 (rep (JQ (gP c) (eg c X Y false) ((cN c - zN h c m*dL c (val r)%cN c)%cN c) (val s*dL c (val r)%cN c))).2.2) _)=_
       generalize JQ (gP c) (eg c X Y false) ((cN c - zN h c m*dL c (val r)%cN c)%cN c) (val s*dL c (val r)%cN c)=Q at I ⊢
       cases Q with
       | none=>rfl
       | some q=>
        obtain⟨x,y⟩:=q
        have l1:=gL c x
        have l2:=gL c y
        have U:onS c (rl x) (rl y) false=true:=qD hc I
        show (if false=true then _ else ah (F.FU c (rl x) (rl y) false) _)=some (beB (nS c) x.val,beB (nS c) y.val,0)
        rw[if_neg (by decide),wR c _ _ _ (by omega) (by omega),ae]
        unfold qy
        rw[if_pos ⟨U,rfl⟩,fj,fj]
      ·rw[decide_eq_false hf,if_pos (fun q=>hf q.2.2)]; exact j
     ·rw[decide_eq_false (show ¬(0<val s/\val s<cN c) from hs),if_pos (by decide),if_pos (fun q=>hs q.2.1)]; exact j
    ·rw[decide_eq_false (show ¬(0<val r/\val r<cN c) from hr),if_pos (by decide),if_pos (fun q=>hr q.1)]; exact j
   ·rw[if_pos g]
    cases hq:onS c X Y f with
    | false=>rw[if_pos (by decide)]; exact A
    | true=>
     have:f=true:=by
      cases f with
      | true=>rfl
      | false=>exact absurd ⟨rfl,hq⟩ g
     subst this
     rw[if_neg (by decide)]; exact A
  ·rw[if_neg hc,if_pos (by decide),if_pos hc]
 ·rw[if_neg hh,if_pos (by decide),if_pos hh]
theorem ta (h c:Int) (m:L1) (r s:Nat) (X Y:L0) (f:Bool):(pc h c m r s X Y f).1.length<=48/\(pc h c m r s X Y f).2.1.length<=48:=by
 obtain⟨n1,g,i⟩:=nS4 c
 unfold pc
 split
 ·exact⟨by decide,by decide⟩
 split
 ·exact⟨by decide,by decide⟩
 split
 ·exact⟨by decide,by decide⟩
 split
 ·exact⟨by decide,by decide⟩
 unfold Cy
 split
 ·exact⟨by decide,by decide⟩
 ·exact⟨by rw[eE]; exact g,by rw[eE]; exact g⟩
theorem law12_EcdsaRecovers_J (h c:Int) (m:L1) (r s X Y:L0) (f:Bool) (o:m.length<=140737488351232) (g:r.length<=35184372087808) (k:s.length<=35184372087808) (i:X.length<=35184372087808) (j:Y.length<=35184372087808) :
  F.Jq h c m r s X Y f=some true:=by
 have x:=ta h c m (val r) (val s) X Y f
 unfold F.Jq
 rw[zO m o,ae,nO r g,ae,nO s k,ae,nO X i,ae,nO Y j,ae]
 dsimp only
 rw[List.take_left' rfl,List.take_left' rfl,List.take_left' rfl,List.take_left' rfl,List.take_left' rfl,rc _ _ _ _ _ _ _ _ (by omega) g k i j,ae,oD _ _ _ _ _ _ _ _ (by omega) g k i j,ae,if_neg (by simp),
  j5 _ (by omega),ae,if_neg (by decide),j5 _ (by omega),ae,if_neg (by decide),xw m o,ae,if_neg (by decide),nX r g,ae,if_neg (by decide),nX s k,ae,if_neg (by decide),nX X i,ae,if_neg (by decide),nX Y j,ae]
 have q:∀l:L0,(l.take s.length).length<=35184372087808->F.Hv h c m r X Y f (m++List.replicate 9 165,m.length) (r++List.replicate 4 2779096485,r.length) (s++List.replicate 4 2779096485,s.length) (X++List.replicate 4 2779096485,X.length) (Y++List.replicate 4 2779096485,Y.length) l=some true:=fun l t=>by
  have x:=ta h c m (val r) (val (l.take s.length)) X Y f
  unfold F.Hv
  dsimp only
  rw[oD _ _ _ _ _ _ _ _ (by omega) g t i j,ae,List.take_left' rfl,List.take_left' rfl,List.take_left' rfl,List.take_left' rfl,rc _ _ _ _ _ _ _ _ (by omega) g t i j,ae,if_pos (beq_self_eq_true _),j5 _ (by omega),ae,if_pos rfl,j5 _ (by omega),ae]
 unfold F.DY
 dsimp only
 rw[Bool.not_true,if_neg (by decide),List.take_left' rfl]
 by_cases h0:0<s.length
 ·have y:aA s 0=some (s.getD 0 0):=aP h0 0
  rw[if_pos (decide_eq_true (by omega)),y,ae,ae,aS]
  exact q _ (by rw[List.length_take]; omega)
 ·rw[if_neg (by rw[decide_eq_true_eq]; omega)]
  exact q _ (by rw[List.length_take]; omega)
end Go.Gk.Bn
end

section
namespace Go.Gk
theorem y8 {σ ρ:Type} {f:σ->Option (σ⊕ρ)} {P:ρ->Prop} (i:∀s r,f s=some (.inr r)->P r) {s:σ} {r:ρ} (h:loop f s=some r):P r:=by
 obtain⟨n,g⟩:=km h
 clear h
 induction n generalizing s with
 | zero=>cases g
 | succ n ih=>
  unfold fk at g
  cases hq:f s with
  | none=>rw[hq]at g; cases g
  | some x=>
   rw[hq]at g
   cases x with
   | inl s'=>exact ih g
   | inr r'=>
    have:r'=r:=Option.some.inj g
    rw[<-this]
    exact i s r' hq
theorem F.law12_wide_le {a:L0} {r:L0×Nat} (h:F.Ea a=some r):r.2<=r.1.length:=by
 unfold F.Ea at h
 obtain⟨x,_,h⟩:=lT h
 refine y8 (P:=fun r=>r.2<=r.1.length) ?_ h
 rintro⟨i,l⟩ r f
 unfold F.HW at f
 dsimp only at f
 split at f
 ·obtain⟨_,_,f⟩:=lT f
  cases f
 ·unfold bn at f
  obtain⟨q,g,f⟩:=Option.map_eq_some_iff.1 f
  obtain⟨j,g⟩:=oO g
  cases g
  cases f
  exact j.2
end Go.Gk
end
