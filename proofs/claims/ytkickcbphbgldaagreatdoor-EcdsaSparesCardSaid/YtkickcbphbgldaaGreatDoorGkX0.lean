import Derived.Test.YtkickcbphbgldaaGreatDoorGkUR
import Derived.Test.YtkickcbphbgldaaGreatDoorGkW4
import Derived.Test.YtkickcbphbgldaaGreatDoorGkUW
set_option linter.unusedVariables false
set_option linter.unusedSimpArgs false
set_option linter.unusedSectionVars false

section
namespace Go.Gk.Bn
open Go Go.Gk Go.Gk.Sh Go.Gk.Ec Go.Gk.Pr
section
variable {c:Int}
theorem ic (hc:isC c) {P:Pt (cP c)} (hP:On (-3) (bF c) P) {k l:Nat} (h:k%cN c=l%cN c):Ec.mul (-3) k P=Ec.mul (-3) l P:=by
 rw [←(ccv c).mul_mod hP (j7 c hc hP) k,h,(ccv c).mul_mod hP (j7 c hc hP)]
theorem mZ (hc:isC c) {P:Pt (cP c)} (hP:On (-3) (bF c) P) (k:Nat):Ec.mul (-3) (k%cN c) P=Ec.mul (-3) k P:=(ccv c).mul_mod hP (j7 c hc hP) k
theorem tF {n s w z:Nat} (hw:s*w%n=1):s*(z*w%n)%n=z%n:=by
 rw [Nat.mul_mod_mod,Nat.mul_left_comm,Nat.mul_mod,hw,Nat.mul_one,Nat.mod_mod]
theorem kr {n s w z:Nat} (hw:s*w%n=1):s*(z*w)%n=z%n:=(Nat.mul_mod_mod s (z*w) n).symm.trans (tF hw)
theorem lT {P:Pt (cP c)} (hP:On (-3) (bF c) P):Ec.add (-3) (neg P) P=none:=by rw [(ccv c).comm hP.neg hP,cQ]
theorem mul_sub (hc:isC c) {P:Pt (cP c)} (hP:On (-3) (bF c) P) {u:Nat} (hu:u≤cN c):Ec.mul (-3) (cN c - u) P=neg (Ec.mul (-3) u P):=by
 have C:=ccv c
 refine C.add_right (R:=Ec.mul (-3) u P) (C.on_mul hP _) (C.on_mul hP _).neg (C.on_mul hP _) ?_
 rw [←C.mul_add hP,Nat.sub_add_cancel hu,j7 c hc hP,lT (C.on_mul hP _)]
theorem vN (hc:isC c) {G R:Pt (cP c)} (hG:On (-3) (bF c) G) (hR:On (-3) (bF c) R) {r s z wr ws:Nat} (hr:r*wr%cN c=1) (hs:s*ws%cN c=1) :
  Ec.add (-3) (Ec.mul (-3) (z*ws%cN c) G) (Ec.mul (-3) (r*ws%cN c) (Ec.add (-3) (Ec.mul (-3) ((cN c - z*wr%cN c)%cN c) G) (Ec.mul (-3) (s*wr%cN c) R)))=R:=by
 have C:=ccv c
 have hN:=(gN c).1
 have hv:Ec.mul (-3) ((cN c - z*wr%cN c)%cN c) G=neg (Ec.mul (-3) (z*wr) G):=by
  rw [mZ hc hG,mul_sub hc hG (Nat.le_of_lt (Nat.mod_lt _ (by omega))),mZ hc hG]
 have a1:=C.on_mul hG (z*wr); have a2:=C.on_mul hR (s*wr%cN c); have a3:=C.on_mul hG (z*ws)
 rw [hv,C.mul_sum a1.neg a2,C.mul_neg a1,←C.mul_mul hG,←C.mul_mul hR]
 have e1:Ec.mul (-3) (r*ws%cN c*(z*wr)) G=Ec.mul (-3) (z*ws) G:=by
  refine ic hc hG ?_
  rw [Nat.mod_mul_mod,show r*ws*(z*wr)=r*((z*ws)*wr) by simp only [Nat.mul_assoc,Nat.mul_left_comm,Nat.mul_comm],kr hr]
 have e2:Ec.mul (-3) (r*ws%cN c*(s*wr%cN c)) R=R:=by
  refine (ic (l:=1) hc hR ?_).trans (mul_one R)
  rw [Nat.mod_mul_mod,Nat.mul_mod_mod,show r*ws*(s*wr)=r*((s*ws)*wr) by simp only [Nat.mul_assoc,Nat.mul_left_comm,Nat.mul_comm],kr hr,hs,Nat.mod_eq_of_lt hN]
 rw [e1,e2,mZ hc hG,←C.assoc a3 a3.neg hR,cQ]
 rfl
theorem vJ (hc:isC c) {G R:Pt (cP c)} (hG:On (-3) (bF c) G) (hR:On (-3) (bF c) R) {r s z wr:Nat} (hr:r*wr%cN c=1)
  (h:Ec.add (-3) (Ec.mul (-3) ((cN c - z*wr%cN c)%cN c) G) (Ec.mul (-3) (s*wr%cN c) R)=none):Ec.mul (-3) s R=Ec.mul (-3) z G:=by
 have C:=ccv c
 have hN:=(gN c).1
 have hv:Ec.mul (-3) ((cN c - z*wr%cN c)%cN c) G=neg (Ec.mul (-3) (z*wr) G):=by
  rw [mZ hc hG,mul_sub hc hG (Nat.le_of_lt (Nat.mod_lt _ (by omega))),mZ hc hG]
 have a1:=C.on_mul hG (z*wr); have a2:=C.on_mul hR (s*wr)
 rw [hv,mZ hc hR]at h
 have e:Ec.mul (-3) (s*wr) R=Ec.mul (-3) (z*wr) G:=by
  refine C.add_left (R:=neg (Ec.mul (-3) (z*wr) G)) a2 a1 a1.neg ?_
  rw [h,lT a1]
 have e2:=congrArg (Ec.mul (-3) r) e
 rw [←C.mul_mul hR,←C.mul_mul hG,ic hc hR (kr hr),ic hc hG (kr hr)]at e2
 exact e2
end
end Go.Gk.Bn
end

section
namespace Go.Gk.Bn
open Go Go.Gk Go.Gk.Sh
theorem sI {m x y:Nat} (hm:m%2=1) (h:2*x%m=2*y%m):x%m=y%m:=by
 have key:∀x:Nat,x%m=((m+1) / 2*(2*x%m))%m:=fun x=>by
  rw [Nat.mul_mod_mod,←Nat.mul_assoc,show (m+1) / 2*2=m+1 by omega,Nat.add_mul,Nat.one_mul,Nat.mul_add_mod]
 rw [key x,key y,h]
theorem mR {m x y v:Nat} (h:(x+v)%m=(y+v)%m):x%m=y%m:=by
 rcases Nat.eq_zero_or_pos m with h0 | h0
 ·subst h0; rw [Nat.mod_zero,Nat.mod_zero]at h ⊢; omega
 ·have key:∀x:Nat,x%m=((x+v)%m+v*(m - 1))%m:=fun x=>by
   rw [Nat.mod_add_mod]
   have:x+v+v*(m - 1)=x+v*m:=by
    obtain ⟨k,hk⟩:∃k,m=k+1:=⟨m - 1,by omega⟩
    rw [hk,Nat.add_sub_cancel,Nat.mul_add,Nat.mul_one]; omega
   rw [this,Nat.add_mul_mod_self_right]
  rw [key x,key y,h]
def iN (x m:Nat):Nat:=if x%2=1 then (x+m) / 2 else x / 2
theorem q9 {x m:Nat} (hx:x<m):iN x m<m:=by unfold iN; split <;> omega
theorem wi {x m:Nat} (hm:m%2=1):2*iN x m%m=x%m:=by
 unfold iN
 split
 ·rw [show 2*((x+m) / 2)=x+m by omega,Nat.add_mod_right]
 ·rw [show 2*(x / 2)=x by omega]
theorem kT {m a u p:Nat} (hm:m%2=1) (hu:u%2=0) (h:p*a%m=u%m):iN p m*a%m=u / 2%m:=by
 refine sI hm ?_
 rw [←Nat.mul_assoc,Nat.mul_mod,wi hm,←Nat.mul_mod,h,show 2*(u / 2)=u by omega]
theorem k9 {m a u v p q:Nat} (hq:q≤m) (hv:v≤u) (h1:p*a%m=u%m) (h2:q*a%m=v%m):(m - q+p)%m*a%m=(u - v)%m:=by
 refine mR (v:=v) ?_
 rw [show u - v+v=u by omega,←h1,Nat.add_mod,Nat.mod_mul_mod,←h2,←Nat.add_mod,←Nat.add_mul,show m - q+p+q=m+p by omega,Nat.add_mul,Nat.mul_comm m,Nat.mul_add_mod_self_right]
theorem nc {u v:Nat} (hu:u%2=0) (hv:v%2=1):Nat.gcd (u / 2) v=Nat.gcd u v:=by
 apply Nat.dvd_antisymm
 ·refine Nat.dvd_gcd ?_ (Nat.gcd_dvd_right _ _)
  exact Nat.dvd_trans (Nat.gcd_dvd_left _ _) ⟨2,by omega⟩
 ·refine Nat.dvd_gcd ?_ (Nat.gcd_dvd_right _ _)
  have h1:Nat.gcd u v ∣ 2*(u / 2):=by rw [show 2*(u / 2)=u by omega]; exact Nat.gcd_dvd_left _ _
  refine Nat.Coprime.dvd_of_dvd_mul_left ?_ h1
  have h2:Nat.gcd (Nat.gcd u v) 2 ∣ 2:=Nat.gcd_dvd_right _ _
  have h3:Nat.gcd (Nat.gcd u v) 2 ∣ v:=Nat.dvd_trans (Nat.gcd_dvd_left _ _) (Nat.gcd_dvd_right _ _)
  have h4:Nat.gcd (Nat.gcd u v) 2 ∣ v%2:=(Nat.dvd_mod_iff h2).2 h3
  rw [hv]at h4
  exact Nat.eq_one_of_dvd_one h4
theorem oH {u v:Nat} (h:v≤u):Nat.gcd (u - v) v=Nat.gcd u v:=Nat.gcd_sub_self_left h
end Go.Gk.Bn
end

section
namespace Go.Gk.Bn
open Go Go.Gk Go.Gk.Sh Go.Gk.Ec Go.Gk.Pr
def rM:List UInt8:=[186,120,22,191,143,1,207,234,65,65,64,222,93,174,34,35,176,3,97,163,150,23,122,156,180,16,255,97,242,0,21,173]
def uq:List UInt8:=[165,45,21,159,38,43,44,109,219,114,74,97,132,11,239,195,110,179,12,136,135,122,64,48,182,92,190,134,41,132,73,201]
set_option maxRecDepth 100000 in
theorem zF:fM 1 [97,98,99]=rM:=by decide +kernel
set_option maxRecDepth 100000 in
theorem zR:fM 1 [97,98,100]=uq:=by decide +kernel
def kAw:Nat:=106160998084743860103649834169431777452248476148217102719714490760719803832686
theorem z5:(beN uq+(cN 1 - beN rM%cN 1)+1)%cN 1=kAw:=by decide +kernel
def awB:Bool:=i7 (jM gD (kz,od,1) kAw 256 (0,0,0)) fun t=>!Nat.beq (t.1%gD) (kz*(t.2.2*t.2.2)%gD)
theorem wY:awB=true:=by decide +kernel
theorem rm:kAw<2^256∧cX 1<cN 1∧cP 1<cN 1+cX 1:=by decide +kernel
theorem Bm {x y:Fin (cP 1)} (h:Ec.mul (-3) kAw (gP 1)=some (x,y)):x.val%cN 1≠cX 1:=by
 intro hx
 have hc:isC 1:=.inl rfl
 have hg:jpt (fz3 (p:=cP 1) (cX 1,cY 1,1))=gP 1:=by
  have e1:fz (p:=cP 1) ((1:Nat):Int)=1:=dp 1
  unfold fz3 jpt gP
  dsimp only
  rw [e1]
  exact (kA 1).jac_of (nE 1) (by grobner) (by grobner)
 have hl:=mu (ccv 1) (gv 1 hc) hg kAw 256 (0,0,0) (by
  rw [Nat.div_eq_of_lt rm.1]
  have e0:fz (p:=cP 1) ((0:Nat):Int)=0:=iS
  unfold fz3 jpt
  dsimp only
  rw [e0]
  exact d9 _ _)
 obtain ⟨t,ht⟩:∃t,jM (cP 1) (cX 1,cY 1,1) kAw 256 (0,0,0)=t:=⟨_,rfl⟩
 rw [ht,h]at hl
 have hb:=wY
 unfold awB at hb
 rw [gW,show jM gD (kz,od,1) kAw 256 (0,0,0)=t from ht]at hb
 have hx2:x=fz (cX 1:Int):=by
  apply Fin.ext
  have h1:=x.isLt
  have h2:=(dg 1).2.2.2.1
  rw [lj _ h2]
  have h3:=rm
  have h4:=Nat.div_add_mod x.val (cN 1)
  rcases Nat.lt_or_ge x.val (cN 1) with h5 | h5
  ·rw [Nat.mod_eq_of_lt h5]at hx; exact hx
  ·exfalso
   have h6:x.val%cN 1≤x.val - cN 1:=by rw [Nat.mod_eq_sub_mod h5]; exact Nat.mod_le _ _
   omega
 unfold jpt jac fz3 at hl
 dsimp only at hl
 by_cases hz:fz (p:=cP 1) (t.2.2:Int)=0
 ·rw [if_pos hz]at hl; cases hl
 ·rw [if_neg hz]at hl
  have hX:=congrArg (fun o:Pt (cP 1)=>match o with | none=>(0:Fin (cP 1)) | some q=>q.1) hl
  dsimp only at hX
  have hi:=(kA 1).mul_iv hz
  have e:fz (p:=cP 1) (t.1:Int)=fz (cX 1:Int)*(fz (t.2.2:Int)*fz (t.2.2:Int)):=by
   rw [←hx2,←hX]
   generalize rcp (fz (p:=cP 1) (t.2.2:Int))=i at hi
   generalize fz (p:=cP 1) (t.2.2:Int)=z at hi
   generalize fz (p:=cP 1) (t.1:Int)=X
   clear hl hX hb
   grobner
  have e2:fz (p:=cP 1) (t.1:Int)=fz ((cX 1*(t.2.2*t.2.2):Nat):Int):=by rw [e,gH,gH]
  have e3:=congrArg Fin.val e2
  have v1:=fa (p:=cP 1) (t.1:Int)
  have v2:=fa (p:=cP 1) ((cX 1*(t.2.2*t.2.2):Nat):Int)
  have e4:t.1%cP 1=cX 1*(t.2.2*t.2.2)%cP 1:=by
   rw [e3]at v1
   rw [v1]at v2
   rw [←Int.natCast_emod,←Int.natCast_emod]at v2
   exact Int.natCast_inj.1 v2
  rw [show t.1%gD=kz*(t.2.2*t.2.2)%gD from e4,Nat.beq_refl]at hb
  cases hb
end Go.Gk.Bn
end

section
namespace Go.Gk.Bn
open Go Go.Gk Go.Gk.Sh
theorem Bv (x:UInt32):((x &&& 1) == 1)=decide (x.toNat%2=1):=by
 have h:(x &&& 1).toNat=x.toNat%2:=by
  rw [UInt32.toNat_and]
  exact Nat.and_one_is_mod _
 by_cases h1:x.toNat%2=1
 ·rw [decide_eq_true h1,beq_iff_eq]
  apply UInt32.toNat_inj.1
  rw [h,h1]; rfl
 ·rw [decide_eq_false h1]
  apply Bool.eq_false_iff.2
  intro h2
  rw [beq_iff_eq]at h2
  rw [h2]at h
  exact h1 h.symm
theorem i0 (l:List UInt32) (hl:l.length≤4611686018427387904):F.CS l 0=some (decide (val l%2=1)):=by
 have w0:wI (Int.tdiv 0 32)=((0:Nat):Int):=by decide
 have t0:Int.tmod 0 32=0:=by decide
 unfold F.CS
 rw [if_pos (by decide),w0,t0]
 by_cases h:l.length=0
 ·rw [if_neg (by rw [decide_eq_true_eq]; omega),List.eq_nil_of_length_eq_zero h]; rfl
 ·rw [if_pos (decide_eq_true (by omega)),a7 (show 0<l.length by omega) 0,ak,grd_true _ (by decide)]
  have e:bC (l.getD 0 0) (0:Int).toNat=l.getD 0 0:=by
   apply UInt32.toNat_inj.1
   unfold bC
   rw [UInt32.toNat_ofNat']
   have:=ce (l.getD 0 0)
   rw [show min (0:Int).toNat 32=0 from rfl,Nat.pow_zero,Nat.div_one]
   omega
  rw [e,Bv]
  congr 2
  match l,h with
  | x :: r,_=>
   rw [cM]
   show (x.toNat%2=1)=((x.toNat+4294967296*val r)%2=1)
   rw [show (x.toNat+4294967296*val r)%2=x.toNat%2 by omega]
theorem me (l:List UInt32) (hl:l.length≤40000000000000):F.CP l 1=some (aA (val l / 2)):=by
 obtain ⟨m,h1,h2,h3⟩:=dt l (by omega)
 have la:(aA (val l)).length≤l.length:=bm (bB l)
 have w0:wI (Int.tdiv (max 1 0) 32)=((0:Nat):Int):=by decide
 have t1:Int.tmod (max 1 0) 32=((1:Nat):Int):=by decide
 unfold F.CP
 rw [h1,ak,h3,w0,t1]
 by_cases h:(aA (val l)).length=0
 ·have:val l=0:=(j9 _).1 h
  rw [if_pos (decide_eq_true (by omega)),this,Nat.zero_div,bG]
 ·have hap:apO 4 [] (aA (val l))=some (aA (val l)):=by unfold apO; rw [if_pos (by simp; omega)]; simp
  obtain ⟨u',d1,d2,d3⟩:=qF (aA (val l)) 1 (by decide) (by omega)
  rw [aE,Nat.pow_one]at d3
  obtain ⟨k,p1,p2,p3⟩:=dW u' (by omega)
  rw [if_neg (by rw [decide_eq_true_eq]; omega),si (by omega),ak,List.drop_zero,hap,ak,d1,ak,p1,ak,p3,d3]
theorem tt (x m:List UInt32) (hx:x.length≤1000) (hm:m.length≤1000):F.Ee x m=some (aA (iN (val x) (val m))):=by
 have l1:(aA (val x+val m)).length≤1001:=by
  have h1:=lC (val x) (val m)
  have h2:(aA (val x)).length≤x.length:=bm (bB x)
  have h3:(aA (val m)).length≤m.length:=bm (bB m)
  omega
 unfold F.Ee iN
 rw [i0 x (by omega),ak]
 by_cases h:val x%2=1
 ·rw [if_pos (decide_eq_true h),if_pos h,sZ x m (by omega) (by omega),ak,me _ (by omega),ak,aE]
 ·rw [if_neg (by rw [decide_eq_true_eq]; exact h),if_neg h,me x (by omega),ak]
end Go.Gk.Bn
end

section
namespace Go.Gk.Bn
open Go Go.Gk Go.Gk.Sh
def sub3 (m u v p q:Nat):List UInt32×List UInt32×List UInt32×List UInt32:=
 if v≤u then (aA (u - v),aA v,aA ((m - q+p)%m),aA q) else (aA u,aA (v - u),aA p,aA ((m - p+q)%m))
theorem cL {n m k:Nat} (h:n≤m) (hm:(aA m).length≤k):(aA n).length≤k:=Nat.le_trans (dD h) hm
theorem Al {m a u p:Nat} (hm:m%2=1) (ml:(aA m).length≤900) (hum:u≤m) (hp:p<m) :
  ∀v q,0<v→v≤m→q<m→q*a%m=v%m→∃v' q',0<v'∧v'≤v∧q'<m∧q'*a%m=v'%m∧(u%2=1→Nat.gcd u v'=Nat.gcd u v) ∧
   loop (F.Ev (aA m) (aA u) (aA p)) (aA v,aA q)=some (.inl (sub3 m u v' p q')):=by
 intro v
 induction v using Nat.strongRecOn with
 | _ v ih=>
  intro q hv hvm hq h
  have lv:=cL hvm ml
  have lq:=cL (Nat.le_of_lt hq) ml
  have lu:=cL hum ml
  have lp:=cL (Nat.le_of_lt hp) ml
  by_cases ho:v%2=1
  ·refine ⟨v,q,hv,Nat.le_refl _,hq,h,fun _=>rfl,?_⟩
   refine dM ?_
   unfold F.Ev sub3
   dsimp only
   rw [i0 _ (by omega),ak,aE,if_neg (by rw [decide_eq_true ho]; decide),iU _ _ (by omega) (by omega),ak,aE,aE]
   by_cases hc:v≤u
   ·have hz:0≤dN u v:=by
     unfold dN
     rw [if_neg (by omega)]
     split <;> decide
    rw [if_pos (decide_eq_true hz),if_pos hc,mt _ _ (by omega) (by omega),ak,aE,aE,if_neg (by omega),mV hp hq (by omega) (aA m) (aE m) (by omega),ak]
    rfl
   ·have hz:¬0≤dN u v:=by
     unfold dN
     rw [if_pos (by omega)]
     decide
    rw [if_neg (by rw [decide_eq_true_eq]; exact hz),if_neg hc,mt _ _ (by omega) (by omega),ak,aE,aE,if_neg (by omega),mV hq hp (by omega) (aA m) (aE m) (by omega),ak]
    rfl
  ·have h2:v%2=0:=by omega
   obtain ⟨v',q',a1,a2,a3,a4,a5,a6⟩:=ih (v / 2) (by omega) (iN q m) (by omega) (by omega) (q9 hq) (kT hm h2 h)
   refine ⟨v',q',a1,by omega,a3,a4,fun hu=>?_,?_⟩
   ·rw [a5 hu,Nat.gcd_comm,nc h2 hu,Nat.gcd_comm]
   ·refine Eq.trans (bI ?_) a6
    unfold F.Ev
    dsimp only
    rw [i0 _ (by omega),ak,aE,if_pos (by rw [decide_eq_false ho]; decide),me _ (by omega),ak,aE,tt _ _ (by omega) (by omega),ak,aE,aE]
    rfl
theorem z7 {m a v q:Nat} (hm:m%2=1) (ml:(aA m).length≤900) (hv:0<v) (hvm:v≤m) (hq:q<m) (hqa:q*a%m=v%m) :
  ∀u p,0<u→u≤m→p<m→p*a%m=u%m→Nat.gcd u v%2=1→∃u' v' p' q',0<u'∧u'≤u∧p'<m∧p'*a%m=u'%m∧0<v'∧v'≤v∧q'<m∧q'*a%m=v'%m ∧
   Nat.gcd u' v'=Nat.gcd u v∧loop (F.EE (aA m) (aA v) (aA q)) (aA u,aA p)=some (.inl (sub3 m u' v' p' q')):=by
 intro u
 induction u using Nat.strongRecOn with
 | _ u ih=>
  intro p hu hum hp h hg
  have lv:=cL hvm ml
  have lq:=cL (Nat.le_of_lt hq) ml
  have lu:=cL hum ml
  have lp:=cL (Nat.le_of_lt hp) ml
  by_cases ho:u%2=1
  ·obtain ⟨v',q',a1,a2,a3,a4,a5,a6⟩:=Al (a:=a) hm ml hum hp v q hv hvm hq hqa
   refine ⟨u,v',p,q',hu,Nat.le_refl _,hp,h,a1,a2,a3,a4,a5 ho,?_⟩
   refine bE ?_ |>.trans a6
   unfold F.EE
   dsimp only
   rw [i0 _ (by omega),ak,aE,if_neg (by rw [decide_eq_true ho]; decide)]
  ·have h2:u%2=0:=by omega
   have hvo:v%2=1:=by
    apply Classical.byContradiction
    intro hc
    have d1:2 ∣ Nat.gcd u v:=Nat.dvd_gcd (Nat.dvd_of_mod_eq_zero h2) (Nat.dvd_of_mod_eq_zero (by omega))
    omega
   obtain ⟨u',v',p',q',b1,b2,b3,b4,b5,b6,b7,b8,b9,b10⟩:=ih (u / 2) (by omega) (iN p m) (by omega) (by omega) (q9 hp) (kT hm h2 h) (by rw [nc h2 hvo]; exact hg)
   refine ⟨u',v',p',q',b1,by omega,b3,b4,b5,b6,b7,b8,by rw [b9,nc h2 hvo],?_⟩
   refine Eq.trans (bI ?_) b10
   unfold F.EE
   dsimp only
   rw [i0 _ (by omega),ak,aE,if_pos (by rw [decide_eq_false ho]; decide),me _ (by omega),ak,aE,tt _ _ (by omega) (by omega),ak,aE,aE]
   rfl
theorem Ar {m a:Nat} (hm:m%2=1) (ml:(aA m).length≤900):∀n u v p q,u+v≤n→u≤m→0<v→v≤m→p<m→q<m→p*a%m=u%m→q*a%m=v%m→Nat.gcd u v%2=1 →
  ∃x,x<m∧x*a%m=Nat.gcd u v%m∧loop (F.Dp (aA m)) (aA u,aA v,aA p,aA q)=some (aA (Nat.gcd u v),aA x):=by
 intro n
 induction n with
 | zero=>intro u v p q h1 h2 h3; omega
 | succ n ih=>
  intro u v p q hn hum hv hvm hp hq hpa hqa hg
  have lu:=cL hum ml
  by_cases hu:u=0
  ·subst hu
   rw [Nat.gcd_zero_left]
   refine ⟨q,hq,hqa,?_⟩
   refine dM ?_
   unfold F.Dp
   dsimp only
   rw [gg _ (by omega),ak,aE,fc]
   rfl
  ·obtain ⟨u',v',p',q',b1,b2,b3,b4,b5,b6,b7,b8,b9,b10⟩:=z7 (a:=a) hm ml hv hvm hq hqa u p (by omega) hum hp hpa hg
   have hs:F.Dp (aA m) (aA u,aA v,aA p,aA q)=some (.inl (sub3 m u' v' p' q')):=by
    unfold F.Dp
    dsimp only
    have:=(c6 u).2 hu
    rw [gg _ (by omega),ak,aE,if_pos (decide_eq_true (by omega)),b10]
   have hm0:0<m:=by omega
   rw [bI hs]
   unfold sub3
   by_cases hc:v'≤u'
   ·rw [if_pos hc]
    obtain ⟨x,c1,c2,c3⟩:=ih (u' - v') v' ((m - q'+p')%m) q' (by omega) (by omega) b5 (by omega) (Nat.mod_lt _ hm0) b7 (k9 (by omega) hc b4 b8) b8 (by rw [oH hc,b9]; exact hg)
    rw [oH hc,b9]at c2 c3
    exact ⟨x,c1,c2,c3⟩
   ·rw [if_neg hc]
    have e:Nat.gcd u' (v' - u')=Nat.gcd u v:=by rw [Nat.gcd_comm,oH (by omega),Nat.gcd_comm,b9]
    obtain ⟨x,c1,c2,c3⟩:=ih u' (v' - u') p' ((m - p'+q')%m) (by omega) (by omega) (by omega) (by omega) b3 (Nat.mod_lt _ hm0) b4 (k9 (by omega) (by omega) b8 b4) (by rw [e]; exact hg)
    rw [e]at c2 c3
    exact ⟨x,c1,c2,c3⟩
theorem AS (a:List UInt32) (m:Nat) (h1:1<m) (hm:m%2=1) (hmb:nb m≤4096) (ml:(aA m).length≤900) (hab:nb (val a)≤4096) (la:a.length≤40000000000000) (hg:Nat.gcd (val a) m=1) :
  ∃w,w<m∧val a*w%m=1∧F.DJ a (aA m)=some (aA w,0):=by
 have hw:F.Cj [a,aA m]=some 0:=by
  have hl:∀x∈[a,aA m],x.length≤40000000000000:=by
   intro x hx
   simp only [List.mem_cons,List.not_mem_nil,or_false]at hx
   rcases hx with h | h
   ·rw [h]; exact la
   ·rw [h]; omega
  rw [rV [a,aA m] 1 rfl (by decide) hl]
  unfold jl
  rw [if_neg]
  ·rw [show [a,aA m].getD 1 []=aA m from rfl,aE,if_neg (by omega)]
  ·simp only [List.any_cons,List.any_nil,Bool.or_false,Bool.or_eq_true,decide_eq_true_eq,aE]
   omega
 have hg2:Nat.gcd (val a%m) m=1:=by rw [←hg,←Nat.gcd_rec,Nat.gcd_comm]
 obtain ⟨x,c1,c2,c3⟩:=Ar (a:=val a%m) hm ml (val a%m+m) (val a%m) m 1 0 (Nat.le_refl _) (Nat.le_of_lt (Nat.mod_lt _ (by omega))) (by omega) (Nat.le_refl _) h1 (by omega) (by rw [Nat.one_mul]) (by rw [Nat.zero_mul,Nat.mod_self,Nat.zero_mod]) (by rw [hg2])
 rw [hg2,Nat.mod_eq_of_lt h1]at c2
 rw [hg2]at c3
 have l1:aA 1=[1]:=by rw [gf (by decide),show 1 / 4294967296=0 by decide,bG]; rfl
 refine ⟨x,c1,?_,?_⟩
 ·rw [←c2,Nat.mul_comm,Nat.mul_mod_mod]
 ·have lx:=cL (Nat.le_of_lt c1) ml
  unfold F.DJ
  rw [hw,ak,if_neg (by decide),i6 a _ la (by omega) (by rw [aE]; omega),aE,ak,i0 _ (by omega),aE,ak,if_pos (decide_eq_true hm)]
  have ho:F.EW (aA (val a%m)) (aA m)=some ([1],aA x):=by
   unfold F.EW
   rw [←l1,←bG]at *
   exact c3
  rw [ho,ak]
  dsimp only
  rw [iU _ _ (by decide) (by decide),pA,ak,if_neg (by decide),i6 _ _ (by omega) (by omega) (by rw [aE]; omega),aE,aE,Nat.mod_eq_of_lt c1,ak]
end Go.Gk.Bn
end
