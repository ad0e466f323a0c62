import Derived.Test.YtkickcbphbgldaaGreatDoorGkUN
import Derived.Test.YtkickcbphbgldaaGreatDoorGkEc0
import Derived.Test.YtkickcbphbgldaaGreatDoorGkUA
set_option linter.unusedVariables false
set_option linter.unusedSimpArgs false
set_option linter.unusedSectionVars false

section
namespace Go.Gk.Bn
open Go Go.Gk Go.Gk.Sh Go.Gk.Ec Go.Gk.Pr
section
variable {p:Nat} [NeZero p]
def rD (p:Nat) (t:T3):T3:=
 bif Nat.beq (t.2.2%p) 0 then t else
 frc (t.2.2*t.2.2%p) fun zz=>frc (t.2.1*t.2.1%p) fun yy=>frc (4*(t.1*yy%p)%p) fun s=>frc (3*(su p t.1 zz*(t.1+zz)%p)%p) fun m=>
 frc (su p (m*m) (2*s)) fun x=>frc (su p (m*su p s x) (8*(yy*yy))) fun y=>frc (2*(t.2.1*t.2.2)%p) fun z=>(x,y,z)
theorem AN:fz (p:=p) ((2:Nat):Int)=2:=dp 2
theorem An:fz (p:=p) ((3:Nat):Int)=3:=dp 3
theorem BC:fz (p:=p) ((4:Nat):Int)=4:=dp 4
theorem Bq:fz (p:=p) ((8:Nat):Int)=8:=dp 8
theorem ow (n:Nat):(Nat.beq (n%p) 0=true∧fz (p:=p) (n:Int)=0)∨(Nat.beq (n%p) 0=false∧fz (p:=p) (n:Int)≠0):=by
 have h:fz (p:=p) (n:Int)=0↔n%p=0:=by
  rw [gB]
  constructor
  ·intro h; have:((n%p:Nat):Int)=0:=by rw [Int.natCast_emod]; exact h
   omega
  ·intro h; rw [←Int.natCast_emod,h]; rfl
 cases hb:Nat.beq (n%p) 0 with
 | true=>exact .inl ⟨rfl,h.2 (Nat.eq_of_beq_eq_true hb)⟩
 | false=>exact .inr ⟨rfl,fun h2=>by rw [h.1 h2]at hb; cases hb⟩
theorem td (t:T3):fz3 (p:=p) (rD p t)=jS (fz3 t).1 (fz3 t).2.1 (fz3 t).2.2:=by
 obtain ⟨X,Y,Z⟩:=t
 unfold rD jS fz3
 dsimp only
 rcases ow (p:=p) Z with ⟨h1,h2⟩ | ⟨h1,h2⟩
 ·rw [h1,if_pos h2]; rfl
 ·rw [h1,if_neg h2]
  simp only [i9,cond_false]
  simp only [qc,f8,gH,iT,AN,An,BC,Bq]
def wV (p:Nat) (t u:T3):T3:=
 bif Nat.beq (t.2.2%p) 0 then u else bif Nat.beq (u.2.2%p) 0 then t else
 frc (t.1*(u.2.2*u.2.2)%p) fun u1=>frc (t.2.1*(u.2.2*(u.2.2*u.2.2))%p) fun s1=>frc (su p (u.1*(t.2.2*t.2.2)) u1) fun h=>frc (su p (u.2.1*(t.2.2*(t.2.2*t.2.2))) s1) fun r=>
 bif Nat.beq (h%p) 0 then (bif Nat.beq (r%p) 0 then rD p t else (0,0,0)) else
 frc (h*h%p) fun hh=>frc (h*hh%p) fun hhh=>frc (u1*hh%p) fun v=>frc (su p (su p (r*r) hhh) (2*v)) fun x=>frc (su p (r*su p v x) (s1*hhh)) fun y=>frc (h*(t.2.2*u.2.2)%p) fun z=>(x,y,z)
theorem yW (t u:T3):fz3 (p:=p) (wV p t u)=iB (fz3 t).1 (fz3 t).2.1 (fz3 t).2.2 (fz3 u).1 (fz3 u).2.1 (fz3 u).2.2:=by
 obtain ⟨X,Y,Z⟩:=t
 obtain ⟨X',Y',Z'⟩:=u
 have hd:=td (p:=p) (X,Y,Z)
 unfold fz3 at hd
 dsimp only at hd
 unfold wV iB fz3
 dsimp only
 rcases ow (p:=p) Z with ⟨h1,h2⟩ | ⟨h1,h2⟩
 ·rw [h1,if_pos h2]; rfl
 rw [h1,if_neg h2]
 rcases ow (p:=p) Z' with ⟨h3,h4⟩ | ⟨h3,h4⟩
 ·rw [h3,if_pos h4]; rfl
 rw [h3,if_neg h4]
 simp only [i9,cond_false]
 have eh:fz (p:=p) ((su p (X'*(Z*Z)) (X*(Z'*Z')%p):Nat):Int)=fz (X':Int)*(fz (Z:Int)*fz (Z:Int)) - fz (X:Int)*(fz (Z':Int)*fz (Z':Int)):=by simp only [qc,f8,gH]
 have er:fz (p:=p) ((su p (Y'*(Z*(Z*Z))) (Y*(Z'*(Z'*Z'))%p):Nat):Int)=fz (Y':Int)*(fz (Z:Int)*(fz (Z:Int)*fz (Z:Int))) - fz (Y:Int)*(fz (Z':Int)*(fz (Z':Int)*fz (Z':Int))):=by simp only [qc,f8,gH]
 rcases ow (p:=p) (su p (X'*(Z*Z)) (X*(Z'*Z')%p)) with ⟨h5,h6⟩ | ⟨h5,h6⟩
 ·rw [h5]
  rw [eh]at h6
  rw [if_pos h6]
  rcases ow (p:=p) (su p (Y'*(Z*(Z*Z))) (Y*(Z'*(Z'*Z'))%p)) with ⟨h7,h8⟩ | ⟨h7,h8⟩
  ·rw [h7]
   rw [er]at h8
   rw [if_pos h8]
   exact hd
  ·rw [h7]
   rw [er]at h8
   rw [if_neg h8]
   have e0:fz (p:=p) ((0:Nat):Int)=0:=iS
   simp only [cond_true,cond_false,e0]
 ·rw [h5]
  rw [eh]at h6
  rw [if_neg h6]
  simp only [cond_false]
  simp only [qc,f8,gH,iT,AN]
def jM (p:Nat) (g:T3) (e:Nat):Nat→T3→T3
 | 0,t=>t
 | k+1,t=>i7 (rD p t) fun u=>bif Nat.beq (e / 2^k%2) 0 then jM p g e k u else i7 (wV p u g) fun u=>jM p g e k u
theorem mu {b:Fin p} (C:Cv p (-3) b) {g:T3} {G:Pt p} (hG:On (-3) b G) (hg:jpt (fz3 (p:=p) g)=G) (e:Nat):∀k t,jpt (fz3 (p:=p) t)=Ec.mul (-3) (e / 2^k) G→jpt (fz3 (p:=p) (jM p g e k t))=Ec.mul (-3) e G
 | 0,t,h=>by simpa [jM] using h
 | k+1,t,h=>by
  have on:=C.on_mul hG (e / 2^(k+1))
  have hd:jpt (fz3 (p:=p) (rD p t))=Ec.mul (-3) (2*(e / 2^(k+1))) G:=by
   rw [td,oq C.toFld,h,←C.mul_add hG]; congr 1; omega
  unfold jM
  rw [gW]
  rcases pC e k with ⟨h1,h2⟩ | ⟨h1,h2⟩
  ·rw [h1]
   exact mu C hG hg e k _ (by rw [hd,h2])
  ·rw [h1]
   show jpt (fz3 (p:=p) (i7 _ _))=_
   rw [gW]
   refine mu C hG hg e k _ ?_
   rw [yW,oG (b:=b) C.toFld _ _ (by rw [hd]; exact C.on_mul hG _) (by rw [hg]; exact hG),hd,hg,h2]
   rfl
end
def vT (c:Int):T3:=if c=1 then (76626890310466861426869089647039036757962535851890885406097439786770458211455,74462945259064871768191128030512052509059297803194871526163573358218695456204,34768139465301476436978405170953382516735956999154666452188405812258086013549) else (23037766613497683937702734290281044719364893268180251583910224888989381657771069200037813904257325918671976092329602,8235438212423615602427778915669574859600037698862346933589434399495169446996583974901273360826717582835190849638831,12157362177932134139146813183752135342286725243554133716818896354380897714709611791313184492360272402950851405460538)
theorem A7:lQ gD 3 (gD - uP) (vT 1)=true:=by decide +kernel
theorem A1:lQ mc 3 (mc - pZ) (vT 2)=true:=by decide +kernel
theorem vY (c:Int):lQ (cP c) 3 (cP c - cB c) (vT c)=true:=by
 by_cases h:c=1
 ·subst h; exact A7
 ·have e1:cP c=mc:=if_neg h
  have e2:cB c=pZ:=if_neg h
  have e3:vT c=vT 2:=(if_neg h).trans (if_neg (by decide)).symm
  rw [e1,e2,e3]; exact A1
theorem ccv (c:Int):Cv (cP c) (-3) (bF c):=⟨kA c,fun x h=>by
 refine sC (gY c) (vY c) x ?_
 have hb:=(dg c).2.1
 rw [An,show ((cP c - cB c:Nat):Int)=(cP c:Int) - (cB c:Int) by omega,nN,show fz (p:=cP c) (cP c:Int)=0 from gB.2 Int.emod_self]
 have:x*x*x=3*x - bF c:=by grobner
 rw [this]; grobner⟩
def gP (c:Int):Pt (cP c):=some (fz (cX c:Int),fz (cY c:Int))
theorem gv (c:Int) (hc:isC c):On (-3) (bF c) (gP c):=by
 obtain ⟨_,_,_,h1,h2,_⟩:=dg c
 refine (oK c hc (cX c) (cY c) h1 h2).1 ?_
 rcases hc with rfl | rfl
 ·decide +kernel
 ·decide +kernel
def uO (p n x y:Nat):Bool:=Nat.beq ((jM p (x,y,1) n (Nat.log2 n+1) (0,0,0)).2.2%p) 0&&Nat.beq (p%2) 1&&Nat.beq (n%2) 1&&Nat.blt (2*p+1) (3*n)
theorem Bt:uO gD t5 kz od=true:=by decide +kernel
theorem BA:uO mc ud uy uo=true:=by decide +kernel
theorem By (c:Int) (hc:isC c):uO (cP c) (cN c) (cX c) (cY c)=true:=by
 rcases hc with rfl | rfl
 ·exact Bt
 ·exact BA
theorem j7 (c:Int) (hc:isC c) {P:Pt (cP c)} (hP:On (-3) (bF c) P):Ec.mul (-3) (cN c) P=none:=by
 have h:=By c hc
 unfold uO at h
 simp only [Bool.and_eq_true]at h
 obtain ⟨⟨⟨h1,h2⟩,h3⟩,h4⟩:=h
 have hg:jpt (fz3 (p:=cP c) (cX c,cY c,1))=gP c:=by
  have e1:fz (p:=cP c) ((1:Nat):Int)=1:=dp 1
  unfold fz3 jpt gP
  dsimp only
  rw [e1]
  exact (kA c).jac_of (nE c) (by grobner) (by grobner)
 have hl:=mu (ccv c) (gv c hc) hg (cN c) (Nat.log2 (cN c)+1) (0,0,0) (by
  rw [Nat.div_eq_of_lt Nat.lt_log2_self]
  have e0:fz (p:=cP c) ((0:Nat):Int)=0:=iS
  unfold fz3 jpt
  dsimp only
  rw [e0]
  exact d9 _ _)
 have hz:Ec.mul (-3) (cN c) (gP c)=none:=by
  rw [←hl]
  rcases ow (p:=cP c) (jM (cP c) (cX c,cY c,1) (cN c) (Nat.log2 (cN c)+1) (0,0,0)).2.2 with ⟨_,h6⟩ | ⟨h5,_⟩
  ·unfold jpt fz3
   dsimp only
   rw [h6]
   exact d9 _ _
  ·rw [h5]at h1; cases h1
 exact (ccv c).order (Nat.eq_of_beq_eq_true h2) (gv c hc) (gN c) (Nat.eq_of_beq_eq_true h3) (fun h=>by cases h) hz (by simpa using h4) hP
end Go.Gk.Bn
end

section
namespace Go.Gk.Bn
open Go Go.Gk Go.Gk.Sh Go.Gk.Ec Go.Gk.Pr
theorem pb (n:Nat) (hn:nl (n:Int)≤1000000000):F.Ef (bi (n:Int)).1 (bi (n:Int)).2=some (nb n:Int):=by
 unfold F.Ef
 rw [length_eq _ (by have:(bi (n:Int)).2.length=nl (n:Int):=rfl; omega),ak,bi2,Int.natAbs_natCast,jR]
def bw (n i:Nat):UInt64:=UInt64.ofNat (n / 2^i%2)
theorem qM (n i:Nat):(bw n i == 1)=decide (n / 2^i%2=1):=by
 have h:n / 2^i%2=0∨n / 2^i%2=1:=by omega
 unfold bw
 rcases h with h | h <;> rw [h] <;> rfl
theorem yO (a:List UInt32) (i:Nat) (hi:i≤4611686018427387904) (ha:a.length≤4611686018427387904):F.D8 a (i:Int)=some (bw (val a) i):=by
 unfold F.D8 F.E1
 have w1:wI (Int.tdiv (i:Int) 32)=((i / 32:Nat):Int):=by rw [Int.tdiv_eq_ediv_of_nonneg (by omega),aV (by omega) (by omega)]; omega
 have w2:((UInt64.ofInt (i:Int))%32).toNat=i%32:=by
  rw [UInt64.toNat_mod,UInt64.ofInt,UInt64.toNat_ofNat']
  have:(32:UInt64).toNat=32:=rfl
  rw [this]; omega
 rw [if_neg (by simp only [decide_eq_true_eq]; omega),w1]
 dsimp only
 by_cases h:a.length≤i / 32
 ·rw [if_pos (decide_eq_true (by omega))]
  have h1:=rh a i
  have h2:a.getD (i / 32) 0=0:=dn h
  rw [h2]at h1
  unfold bw
  rw [←h1]
  have:(0:UInt32).toNat=0:=rfl
  rw [this,Nat.zero_div]; rfl
 ·rw [if_neg (by simp only [decide_eq_true_eq]; omega),a7 (show i / 32<a.length by omega) 0,ak,w2]
  congr 1
  apply UInt64.toNat_inj.1
  have h1:((bC (a.getD (i / 32) 0) (i%32)).toUInt64 &&& 1).toNat=val a / 2^i%2:=by
   rw [UInt64.toNat_and,bK,fS,Nat.min_eq_left (by omega),←rh]
   have:(1:UInt64).toNat=2^1 - 1:=rfl
   rw [this,Nat.and_two_pow_sub_one_eq_mod]
  rw [h1]
  unfold bw
  rw [UInt64.toNat_ofNat']
  omega
theorem v9 (n i:Nat) (hi:i≤4611686018427387904) (hn:nl (n:Int)≤1000000000):F.DT (bi (n:Int)).1 (bi (n:Int)).2 (i:Int)=some (bw n i):=by
 unfold F.DT
 rw [if_neg (by simp only [decide_eq_true_eq]; omega),bi1 (by omega),if_pos (by rfl),yO _ _ hi (by have:(bi (n:Int)).2.length=nl (n:Int):=rfl; omega),ak,kB,Int.natAbs_natCast]
section
variable {p:Nat} [NeZero p]
def jG (t:Fin p×Fin p×Fin p) (b:Bool) (q:Fin p×Fin p×Fin p):Fin p×Fin p×Fin p:=
 let d:=jS t.1 t.2.1 t.2.2
 if b then iB d.1 d.2.1 d.2.2 q.1 q.2.1 q.2.2 else d
variable (b0:Bool) (b1:List UInt32) (n0:Bool) (n1:List UInt32) (x0:Bool) (x1:List UInt32) (y0:Bool) (y1:List UInt32) (s:Int) (hpl:nl (p:Int)≤1000)
include hpl
theorem ye (t:Fin p×Fin p×Fin p) (b:Bool) (q:Fin p×Fin p×Fin p) :
  F.CQ (bi (p:Int)).1 (bi (p:Int)).2 b0 b1 n0 n1 x0 x1 y0 y1 s (bt t).1 (bt t).2.1 (bt t).2.2.1 (bt t).2.2.2.1 (bt t).2.2.2.2.1 (bt t).2.2.2.2.2 b (bt q).1 (bt q).2.1 (bt q).2.2.1 (bt q).2.2.2.1 (bt q).2.2.2.2.1 (bt q).2.2.2.2.2=some (bt (jG t b q)):=by
 unfold F.CQ F.E3
 have hd:=nA b0 b1 n0 n1 x0 x1 y0 y1 s hpl t.1 t.2.1 t.2.2
 rw [show F.Dl (bi (p:Int)).1 (bi (p:Int)).2 b0 b1 n0 n1 x0 x1 y0 y1 s (bt t).1 (bt t).2.1 (bt t).2.2.1 (bt t).2.2.2.1 (bt t).2.2.2.2.1 (bt t).2.2.2.2.2=_ from hd,ak]
 unfold jG
 cases b with
 | false=>rfl
 | true=>
  rw [if_pos rfl]
  generalize jS t.1 t.2.1 t.2.2=d
  have ha:=sV b0 b1 n0 n1 x0 x1 y0 y1 s hpl d.1 d.2.1 d.2.2 q.1 q.2.1 q.2.2
  rw [show F.Ca (bi (p:Int)).1 (bi (p:Int)).2 b0 b1 n0 n1 x0 x1 y0 y1 s (bt d).1 (bt d).2.1 (bt d).2.2.1 (bt d).2.2.2.1 (bt d).2.2.2.2.1 (bt d).2.2.2.2.2 (bt q).1 (bt q).2.1 (bt q).2.2.1 (bt q).2.2.2.1 (bt q).2.2.2.2.1 (bt q).2.2.2.2.2=_ from ha,ak]
  rfl
omit hpl in
omit hpl in
theorem xv {b:Fin p} (F:Fld p) {t q:Fin p×Fin p×Fin p} (ht:On (-3) b (jpt t)) (hq:On (-3) b (jpt q)) (c:Bool):jpt (jG t c q)=if c then Ec.add (-3) (Ec.add (-3) (jpt t) (jpt t)) (jpt q) else Ec.add (-3) (jpt t) (jpt t):=by
 have hd:=oq F t
 unfold jG
 cases c with
 | false=>exact hd
 | true=>
  rw [if_pos rfl,if_pos rfl,oG (b:=b) F _ _ (by rw [hd]; exact F.on_add ht ht) hq,hd]
omit hpl in
theorem tN (e k:Nat):e / 2^k=2*(e / 2^(k+1))+(if decide (e / 2^k%2=1) then 1 else 0):=by
 have h1:e / 2^(k+1)=e / 2^k / 2:=by rw [Nat.pow_succ,Nat.div_div_eq_div_mul]
 rw [h1]
 by_cases h:e / 2^k%2=1
 ·rw [decide_eq_true h,if_pos rfl]; omega
 ·rw [decide_eq_false h,if_neg (by decide)]; omega
omit hpl in
end
theorem py (k:List UInt32) (hk:k.length≤35184372087808):F.CW k=some ((bi (val k:Int)).1,(bi (val k:Int)).2,decide (nb (val k)≤1024)):=by
 unfold F.CW
 rw [uM k hk,ak,gg k (by omega),ak]
 congr 3
 by_cases h:nb (val k)≤1024
 ·rw [decide_eq_true h,decide_eq_true (by omega)]
 ·rw [decide_eq_false h,decide_eq_false (by omega)]
end Go.Gk.Bn
end

section
namespace Go.Gk.Bn
open Go Go.Gk Go.Gk.Sh Go.Gk.Ec Go.Gk.Pr
abbrev J3 (c:Int):=Fin (cP c)×Fin (cP c)×Fin (cP c)
def gJ (c:Int):J3 c:=(fz (cX c:Int),fz (cY c:Int),1)
theorem uF (c:Int):jpt (gJ c)=gP c:=by
 show jac (fz (p:=cP c) (cX c:Int)) (fz (cY c:Int)) 1=_
 exact (kA c).jac_of (nE c) (by grobner) (by grobner)
theorem sk (c:Int) {v:Nat} (h:v<cP c):be (fz (p:=cP c) (v:Int))=bi (v:Int):=by rw [jK,Int.emod_eq_of_lt (by omega) (by omega)]
theorem Az (c:Int):be (1:Fin (cP c))=bi 1:=by
 have:=(gY c).1
 rw [←vq,jK,Int.emod_eq_of_lt (by omega) (by omega)]
theorem tr (c:Int):bt ((0,0,0):J3 c)=(false,[],false,[],false,[]):=by
 unfold bt
 dsimp only
 rw [sU]
def gQ (c:Int) (t:J3 c):Bool×List UInt32×Bool×List UInt32×Bool×List UInt32×Bool×List UInt32×Bool×List UInt32×Int×Bool×List UInt32×Bool×List UInt32×Bool×List UInt32:=
 ((gT c).1,(gT c).2.1,(gT c).2.2.1,(gT c).2.2.2.1,(gT c).2.2.2.2.1,(gT c).2.2.2.2.2.1,(gT c).2.2.2.2.2.2.1,(gT c).2.2.2.2.2.2.2.1,(gT c).2.2.2.2.2.2.2.2.1,(gT c).2.2.2.2.2.2.2.2.2.1,(gT c).2.2.2.2.2.2.2.2.2.2,
  (bt t).1,(bt t).2.1,(bt t).2.2.1,(bt t).2.2.2.1,(bt t).2.2.2.2.1,(bt t).2.2.2.2.2)
theorem tg (c:Int) (t:J3 c):((gQ c t).2.2.2.2.2.2.1,(gQ c t).2.2.2.2.2.2.2.1,(gQ c t).2.2.2.2.2.2.2.2.1,(gQ c t).2.2.2.2.2.2.2.2.2.1,(bi 1).1,(bi 1).2)=bt (gJ c):=by
 obtain ⟨_,_,_,h1,h2,_⟩:=dg c
 unfold bt gJ
 dsimp only
 rw [sk c h1,sk c h2,Az]
 rfl
theorem Ak (c:Int) (t:J3 c) (b:Bool) (q:J3 c) :
  F.CQ (gT c).1 (gT c).2.1 (gT c).2.2.1 (gT c).2.2.2.1 (gT c).2.2.2.2.1 (gT c).2.2.2.2.2.1 (gT c).2.2.2.2.2.2.1 (gT c).2.2.2.2.2.2.2.1 (gT c).2.2.2.2.2.2.2.2.1 (gT c).2.2.2.2.2.2.2.2.2.1 (gT c).2.2.2.2.2.2.2.2.2.2
   (bt t).1 (bt t).2.1 (bt t).2.2.1 (bt t).2.2.2.1 (bt t).2.2.2.2.1 (bt t).2.2.2.2.2 b (bt q).1 (bt q).2.1 (bt q).2.2.1 (bt q).2.2.2.1 (bt q).2.2.2.2.1 (bt q).2.2.2.2.2=some (bt (jG t b q)):=
 ye _ _ _ _ _ _ _ _ _ (by have:=kx c; omega) t b q
def whJ (c:Int) (q:J3 c) (x y:Bool):J3 c:=if x&&y then iB (gJ c).1 (gJ c).2.1 (gJ c).2.2 q.1 q.2.1 q.2.2 else if y then q else if x then gJ c else (0,0,0)
def na (c:Int) (m n:Nat) (q:J3 c):Nat→J3 c→J3 c
 | 0,t=>t
 | i+1,t=>na c m n q i (jG t true (whJ c q (decide (m / 2^i%2=1)) (decide (n / 2^i%2=1))))
theorem Bb (c:Int) (q:J3 c) (i:Nat) (hi:i≤1000000000) (t u:J3 c) :
  F.B2 (gQ c q) (i:Int) (bt t).1 (bt t).2.1 (bt t).2.2.1 (bt t).2.2.2.1 (bt t).2.2.2.2.1 (bt t).2.2.2.2.2 (bt u)=some (.inl ((i:Int) - 1,bt (jG t true u))):=by
 have w:wI ((i:Int) - 1)=(i:Int) - 1:=aV (by omega) (by omega)
 have h:=Ak c t true u
 unfold F.B2
 generalize bt u=v at h ⊢
 obtain ⟨v1,v2,v3,v4,v5,v6⟩:=v
 show an (F.CQ _ _ _ _ _ _ _ _ _ _ _ _ _ _ _ _ _ _ _ _ _ _ _ _) _=_
 rw [show F.CQ (gQ c q).1 (gQ c q).2.1 (gQ c q).2.2.1 (gQ c q).2.2.2.1 (gQ c q).2.2.2.2.1 (gQ c q).2.2.2.2.2.1 (gQ c q).2.2.2.2.2.2.1 (gQ c q).2.2.2.2.2.2.2.1 (gQ c q).2.2.2.2.2.2.2.2.1 (gQ c q).2.2.2.2.2.2.2.2.2.1 (gQ c q).2.2.2.2.2.2.2.2.2.2.1
  (bt t).1 (bt t).2.1 (bt t).2.2.1 (bt t).2.2.2.1 (bt t).2.2.2.2.1 (bt t).2.2.2.2.2 true v1 v2 v3 v4 v5 v6=_ from h,ak,w]
 rfl
theorem nZ (c:Int) (m n:Nat) (hm:nl (m:Int)≤1000000000) (hn:nl (n:Int)≤1000000000) (q:J3 c) (fm fn:Bool):∀(i:Nat) (t:J3 c),i≤100000000 →
  loop (F.DG (gQ c q) ((bi (m:Int)).1,(bi (m:Int)).2,fm) ((bi (n:Int)).1,(bi (n:Int)).2,fn) (bi 1) (bt (iB (gJ c).1 (gJ c).2.1 (gJ c).2.2 q.1 q.2.1 q.2.2)))
   ((i:Int) - 1,bt t)=some ((rep (jpt (na c m n q i t))).1,(rep (jpt (na c m n q i t))).2.1,(rep (jpt (na c m n q i t))).2.2,0)
 | 0,t,_=>by
  refine bE ?_
  unfold F.DG
  dsimp only
  rw [if_neg (by simp)]
  congr 1
  show an (F.Co _ _ _ _ _ _ _ _ _ _ _ _ _ _ _ _ _) _=_
  have h:=zT c t
  rw [show F.Co (gQ c q).1 (gQ c q).2.1 (gQ c q).2.2.1 (gQ c q).2.2.2.1 (gQ c q).2.2.2.2.1 (gQ c q).2.2.2.2.2.1 (gQ c q).2.2.2.2.2.2.1 (gQ c q).2.2.2.2.2.2.2.1 (gQ c q).2.2.2.2.2.2.2.2.1 (gQ c q).2.2.2.2.2.2.2.2.2.1 (gQ c q).2.2.2.2.2.2.2.2.2.2.1
   (bt t).1 (bt t).2.1 (bt t).2.2.1 (bt t).2.2.2.1 (bt t).2.2.2.2.1 (bt t).2.2.2.2.2=_ from h,ak]
  rfl
 | i+1,t,hi=>by
  have e:(((i+1:Nat):Int) - 1)=(i:Int):=by omega
  rw [e]
  have hst:F.DG (gQ c q) ((bi (m:Int)).1,(bi (m:Int)).2,fm) ((bi (n:Int)).1,(bi (n:Int)).2,fn) (bi 1) (bt (iB (gJ c).1 (gJ c).2.1 (gJ c).2.2 q.1 q.2.1 q.2.2)) ((i:Int),bt t)
    = some (.inl ((i:Int) - 1,bt (jG t true (whJ c q (decide (m / 2^i%2=1)) (decide (n / 2^i%2=1)))))):=by
   unfold F.DG
   show (if decide ((0:Int)≤(i:Int))=true then _ else _)=_
   rw [if_pos (decide_eq_true (by omega))]
   dsimp only
   rw [v9 m i (by omega) hm,ak,v9 n i (by omega) hn,ak,qM]
   have hK:=fun u=>Bb c q i (by omega) t u
   unfold F.Fb whJ
   cases hx:decide (m / 2^i%2=1) with
   | true=>
    rw [if_pos rfl]
    show (if (bw n i == 1)=true then _ else _)=_
    rw [qM]
    cases hy:decide (n / 2^i%2=1) with
    | true=>
     rw [if_pos rfl]
     exact hK _
    | false=>
     rw [if_neg (by decide),if_neg (by decide),if_neg (by decide)]
     show F.B2 _ _ _ _ _ _ _ _ ((gQ c q).2.2.2.2.2.2.1,(gQ c q).2.2.2.2.2.2.2.1,(gQ c q).2.2.2.2.2.2.2.2.1,(gQ c q).2.2.2.2.2.2.2.2.2.1,(bi 1).1,(bi 1).2)=_
     rw [tg]
     exact hK _
   | false=>
    rw [if_neg (by decide)]
    show (if false=true then _ else _)=_
    rw [if_neg (by decide),qM]
    cases hy:decide (n / 2^i%2=1) with
    | true=>
     rw [if_pos rfl]
     exact hK _
    | false=>
     rw [if_neg (by decide)]
     rw [if_pos (show (!false)=true from rfl)]
     unfold F.B6
     rw [ak]
     show F.B2 _ _ _ _ _ _ _ _ (false,[],false,[],false,[])=_
     rw [←tr c]
     exact hK _
  rw [bI hst]
  exact nZ c m n hm hn q fm fn i _ (by omega)
theorem yV {c:Int} {P Q:Pt (cP c)} (hP:On (-3) (bF c) P) (hQ:On (-3) (bF c) Q):Ec.add (-3) (Ec.add (-3) P Q) (Ec.add (-3) P Q)=Ec.add (-3) (Ec.add (-3) P P) (Ec.add (-3) Q Q):=
 (ccv c).mul_sum hP hQ 2
theorem BF {c:Int} {A B X Y:Pt (cP c)} (hA:On (-3) (bF c) A) (hB:On (-3) (bF c) B) (hX:On (-3) (bF c) X) (hY:On (-3) (bF c) Y):Ec.add (-3) (Ec.add (-3) A B) (Ec.add (-3) X Y)=Ec.add (-3) (Ec.add (-3) A X) (Ec.add (-3) B Y):=by
 have C:=ccv c
 rw [C.assoc hA hB (C.on_add hX hY),←C.assoc hB hX hY,C.comm hB hX,C.assoc hX hB hY,←C.assoc hA hX (C.on_add hB hY)]
theorem vz {c:Int} (hc:isC c) {q:J3 c} (hq:On (-3) (bF c) (jpt q)) (x y:Bool):jpt (whJ c q x y)=Ec.add (-3) (Ec.mul (-3) (if x then 1 else 0) (gP c)) (Ec.mul (-3) (if y then 1 else 0) (jpt q)):=by
 have hg:=gv c hc
 unfold whJ
 cases x <;> cases y
 ·exact d9 _ _
 ·rfl
 ·show jpt (gJ c)=_
  rw [uF]
  show _=Ec.add (-3) (gP c) none
  rw [cc]
 ·show jpt (iB _ _ _ _ _ _)=_
  rw [oG (b:=bF c) (kA c) _ _ (by rw [uF]; exact hg) hq,uF]
  rfl
theorem sR {c:Int} (hc:isC c) (m n:Nat) {q:J3 c} (hq:On (-3) (bF c) (jpt q)):∀(i:Nat) (t:J3 c),jpt t=Ec.add (-3) (Ec.mul (-3) (m / 2^i) (gP c)) (Ec.mul (-3) (n / 2^i) (jpt q)) →
  jpt (na c m n q i t)=Ec.add (-3) (Ec.mul (-3) m (gP c)) (Ec.mul (-3) n (jpt q))
 | 0,t,h=>by simpa [na] using h
 | i+1,t,h=>by
  have hg:=gv c hc
  have C:=ccv c
  unfold na
  refine sR hc m n hq i _ ?_
  have b1:=tN m i
  have b2:=tN n i
  generalize decide (m / 2^i%2=1)=x at b1 ⊢
  generalize decide (n / 2^i%2=1)=y at b2 ⊢
  have hG1:=C.on_mul hg (m / 2^(i+1))
  have hQ1:=C.on_mul hq (n / 2^(i+1))
  have ht:On (-3) (bF c) (jpt t):=by rw [h]; exact C.on_add hG1 hQ1
  have hw:On (-3) (bF c) (jpt (whJ c q x y)):=by rw [vz hc hq]; exact C.on_add (C.on_mul hg _) (C.on_mul hq _)
  rw [xv (b:=bF c) (kA c) ht hw,if_pos rfl,h,yV hG1 hQ1,vz hc hq,b1,b2,
   BF (C.on_add hG1 hG1) (C.on_add hQ1 hQ1) (C.on_mul hg _) (C.on_mul hq _)]
  have e2:∀{P:Pt (cP c)} (hP:On (-3) (bF c) P) (k:Nat),Ec.add (-3) (Ec.mul (-3) k P) (Ec.mul (-3) k P)=Ec.mul (-3) (2*k) P:=fun hP k=>by rw [←C.mul_add hP]; congr 1; omega
  rw [e2 hg,e2 hq,←C.mul_add hg,←C.mul_add hq]
noncomputable def uD (c:Int) (a k:List UInt32) (X Y:List UInt32) (q:Bool):List UInt32×List UInt32×Bool×Int:=
 if onS c X Y q then (if nb (val a)≤1024∧nb (val k)≤1024 then
  ((rep (Ec.add (-3) (Ec.mul (-3) (val a) (gP c)) (Ec.mul (-3) (val k) (ff c X Y q)))).1,(rep (Ec.add (-3) (Ec.mul (-3) (val a) (gP c)) (Ec.mul (-3) (val k) (ff c X Y q)))).2.1,(rep (Ec.add (-3) (Ec.mul (-3) (val a) (gP c)) (Ec.mul (-3) (val k) (ff c X Y q)))).2.2,0) else ([],[],false,10)) else ([],[],false,93)
theorem sS {n:Nat} (h:nb n≤1024):nl (n:Int)≤33:=by
 refine p8 ?_
 rw [Int.natAbs_natCast]
 have h1:=(c6 n).1
 have h2:=Nat.pow_le_pow_right (show 0<2 by decide) (show nb n≤32*33 by omega)
 rw [show (4294967296:Nat)=2^32 from rfl,←Nat.pow_mul]
 omega
theorem uR (c:Int) (a k:List UInt32) (X Y:List UInt32) (q:Bool) (ha:a.length≤35184372087808) (hk:k.length≤35184372087808) (hX:X.length≤35184372087808) (hY:Y.length≤35184372087808):F.C6 c a k X Y q=some (uD c a k X Y q):=by
 have n1:¬(!true)=true:=by decide
 unfold F.C6 uD
 rw [nm c X Y q hX hY,ak,py a ha,py k hk]
 by_cases hc:isC c
 ·rw [if_pos hc]
  dsimp only [fX]
  cases h1:onS c X Y q with
  | false=>rfl
  | true=>
   rw [if_neg n1,if_pos rfl,ak,ak]
   dsimp only
   by_cases hb:nb (val a)≤1024
   ·rw [decide_eq_true hb,if_neg n1]
    by_cases hb2:nb (val k)≤1024
    ·rw [decide_eq_true hb2,if_pos ⟨hb,hb2⟩,AC h1]
     show F.EC (gQ c (jT c X Y q)) _ _ _=_
     unfold F.EC
     dsimp only
     rw [if_neg n1,gh 1 (by decide) (by decide),ak]
     have hadd:=A4 c (gJ c) (jT c X Y q)
     have hgb:=tg c (jT c X Y q)
     rw [←hgb]at hadd
     rw [show F.Ca (gQ c (jT c X Y q)).1 (gQ c (jT c X Y q)).2.1 (gQ c (jT c X Y q)).2.2.1 (gQ c (jT c X Y q)).2.2.2.1 (gQ c (jT c X Y q)).2.2.2.2.1 (gQ c (jT c X Y q)).2.2.2.2.2.1 (gQ c (jT c X Y q)).2.2.2.2.2.2.1 (gQ c (jT c X Y q)).2.2.2.2.2.2.2.1 (gQ c (jT c X Y q)).2.2.2.2.2.2.2.2.1 (gQ c (jT c X Y q)).2.2.2.2.2.2.2.2.2.1 (gQ c (jT c X Y q)).2.2.2.2.2.2.2.2.2.2.1
      (gQ c (jT c X Y q)).2.2.2.2.2.2.1 (gQ c (jT c X Y q)).2.2.2.2.2.2.2.1 (gQ c (jT c X Y q)).2.2.2.2.2.2.2.2.1 (gQ c (jT c X Y q)).2.2.2.2.2.2.2.2.2.1 (bi 1).1 (bi 1).2
      (gQ c (jT c X Y q)).2.2.2.2.2.2.2.2.2.2.2.1 (gQ c (jT c X Y q)).2.2.2.2.2.2.2.2.2.2.2.2.1 (gQ c (jT c X Y q)).2.2.2.2.2.2.2.2.2.2.2.2.2.1 (gQ c (jT c X Y q)).2.2.2.2.2.2.2.2.2.2.2.2.2.2.1 (gQ c (jT c X Y q)).2.2.2.2.2.2.2.2.2.2.2.2.2.2.2.1 (gQ c (jT c X Y q)).2.2.2.2.2.2.2.2.2.2.2.2.2.2.2.2=_ from hadd,ak]
     unfold F.B6
     have la:=sS hb; have lk:=sS hb2
     rw [ak,pb _ (by omega),ak,pb _ (by omega),ak]
     have hmx:wI (max ((nb (val a):Nat):Int) ((nb (val k):Nat):Int) - 1)=((max (nb (val a)) (nb (val k)):Nat):Int) - 1:=by
      rw [aV (by omega) (by omega)]; omega
     rw [hmx]
     have hl:=nZ c (val a) (val k) (by omega) (by omega) (jT c X Y q) true true (max (nb (val a)) (nb (val k))) (0,0,0) (by omega)
     rw [tr]at hl
     refine hl.trans ?_
     have hon:On (-3) (bF c) (jpt (jT c X Y q)):=by rw [yD]; exact vQ h1
     have z1:val a / 2^max (nb (val a)) (nb (val k))=0:=Nat.div_eq_of_lt (Nat.lt_of_lt_of_le (c6 _).1 (Nat.pow_le_pow_right (by decide) (Nat.le_max_left _ _)))
     have z2:val k / 2^max (nb (val a)) (nb (val k))=0:=Nat.div_eq_of_lt (Nat.lt_of_lt_of_le (c6 _).1 (Nat.pow_le_pow_right (by decide) (Nat.le_max_right _ _)))
     have hz:jpt ((0,0,0):J3 c)=Ec.add (-3) (Ec.mul (-3) (val a / 2^max (nb (val a)) (nb (val k))) (gP c)) (Ec.mul (-3) (val k / 2^max (nb (val a)) (nb (val k))) (jpt (jT c X Y q))):=by
      rw [z1,z2]
      exact d9 _ _
     rw [sR hc _ _ hon _ _ hz,yD]
    ·rw [decide_eq_false hb2,if_neg (fun h:nb (val a)≤1024∧nb (val k)≤1024=>hb2 h.2)]
     rfl
   ·rw [decide_eq_false hb,if_pos (show (!false)=true from rfl),if_neg (fun h:nb (val a)≤1024∧nb (val k)≤1024=>hb h.1)]
    rfl
 ·have e1:onS c X Y q=false:=by
   cases h:onS c X Y q with
   | false=>rfl
   | true=>exact (hc (uv h)).elim
  rw [if_neg hc,e1]
  rfl
end Go.Gk.Bn
end

section
namespace Go.Gk.Bn
open Go Go.Gk Go.Gk.Sh Go.Gk.Ec Go.Gk.Pr
theorem qL {c:Int} (P:Pt (cP c)):ff c (rep P).1 (rep P).2.1 (rep P).2.2=P:=by
 rcases P with _ | ⟨x,y⟩
 ·rfl
 ·show some (fz (val (aA x.val):Int),fz (val (aA y.val):Int))=_
  rw [aE,aE,fe,fe]
theorem oz {c:Int} (hc:isC c) {P:Pt (cP c)} (hP:On (-3) (bF c) P):onS c (rep P).1 (rep P).2.1 (rep P).2.2=true:=by
 unfold onS
 rw [if_pos hc]
 rcases P with _ | ⟨x,y⟩
 ·rfl
 ·show (if false=true then _ else onN (cP c) (cB c) (val (aA x.val)) (val (aA y.val)))=true
  rw [if_neg (by decide),aE,aE,oK c hc _ _ x.isLt y.isLt,fe,fe]
  exact hP
noncomputable def res {c:Int} (P:Pt (cP c)):List UInt32×List UInt32×Bool×Int:=((rep P).1,(rep P).2.1,(rep P).2.2,0)
theorem rg (c:Int) (hc:isC c):F.DC c=some (rep (gP c)):=by
 obtain ⟨_,_,_,h1,h2,_⟩:=dg c
 rw [tR,if_pos hc]
 show some (aA (cX c),aA (cY c),false)=some (aA (fz (p:=cP c) (cX c:Int)).val,aA (fz (p:=cP c) (cY c:Int)).val,false)
 rw [lj _ h1,lj _ h2]
end Go.Gk.Bn
end

section
namespace Go.Gk.Bn
open Go Go.Gk Go.Gk.Sh Go.Gk.Ec Go.Gk.Pr
theorem pA (n:Nat):dN n n=0:=by unfold dN; rw [if_neg (by omega),if_pos rfl]
theorem pm (a b:List UInt32) (m m':Nat) (A B:List UInt32) (ha:a.take m=A) (hb:b.take m'=B) (hl:A.length=B.length) (hA:A.length≤4611686018427387904):∀k:Nat,k≤A.length→val (A.drop k)=val (B.drop k)→loop (F.DH a b m m') ((k:Int) - 1)=some (dN (val A) (val B))
 | 0,_,h=>by
  rw [List.drop_zero,List.drop_zero]at h
  refine bE ?_
  unfold F.DH
  rw [if_neg (by decide),h,pA]
 | k+1,hk,h=>by
  have e1:(((k+1:Nat):Int)) - 1=(k:Int):=by omega
  rw [e1]
  have w:wI ((k:Int) - 1)=(k:Int) - 1:=aV (by omega) (by omega)
  have hL:F.DH a b m m' (k:Int)=if (A.getD k 0)<(B.getD k 0) then bl (some (-1)) else if (B.getD k 0)<(A.getD k 0) then bl (some 1) else bv ((k:Int) - 1):=by
   unfold F.DH
   rw [ha,hb,if_pos (decide_eq_true (by omega)),a7 (show k<A.length by omega) 0,ak,a7 (show k<B.length by omega) 0,ak]
   by_cases h1:A.getD k 0<B.getD k 0
   ·rw [if_pos (decide_eq_true h1),if_pos h1]
   ·rw [if_neg (by rw [decide_eq_true_eq]; exact h1),if_neg h1,ak,ak]
    by_cases h2:B.getD k 0<A.getD k 0
    ·rw [if_pos (decide_eq_true h2),if_pos h2]
    ·rw [if_neg (by rw [decide_eq_true_eq]; exact h2),if_neg h2,w]
  by_cases h1:A.getD k 0<B.getD k 0
  ·rw [if_pos h1]at hL
   have:=mr A B k h (UInt32.lt_iff_toNat_lt.1 h1)
   rw [bE hL]; unfold dN; rw [if_pos this]
  ·rw [if_neg h1]at hL
   by_cases h2:B.getD k 0<A.getD k 0
   ·rw [if_pos h2]at hL
    have:=mr B A k h.symm (UInt32.lt_iff_toNat_lt.1 h2)
    rw [bE hL]; unfold dN; rw [if_neg (by omega),if_neg (by omega)]
   ·rw [if_neg h2]at hL
    rw [bI hL]
    refine pm a b m m' A B ha hb hl hA k (by omega) ?_
    have g1:¬(A.getD k 0).toNat<(B.getD k 0).toNat:=fun q=>h1 (UInt32.lt_iff_toNat_lt.2 q)
    have g2:¬(B.getD k 0).toNat<(A.getD k 0).toNat:=fun q=>h2 (UInt32.lt_iff_toNat_lt.2 q)
    rw [cf A k,cf B k,h]; omega
theorem rI {a b:Nat} (h:(aA a).length<(aA b).length):a<b:=by
 rcases Nat.lt_or_ge a b with h1 | h1
 ·exact h1
 ·have:=dD h1; omega
theorem iU (a b:List UInt32) (ha:a.length≤4611686018427387904) (hb:b.length≤4611686018427387904):F.B7 a b=some (dN (val a) (val b)):=by
 obtain ⟨m,h1,h2,h3⟩:=dt a ha
 obtain ⟨m',h4,h5,h6⟩:=dt b hb
 have la:(aA (val a)).length≤a.length:=bm (bB a)
 unfold F.B7
 rw [h1,ak,h4,ak,h3,h6]
 by_cases hl:(aA (val a)).length<(aA (val b)).length
 ·have:=rI hl
  rw [if_pos (decide_eq_true (by omega))]; unfold dN; rw [if_pos this]
 ·rw [if_neg (by rw [decide_eq_true_eq]; omega)]
  by_cases hl2:(aA (val b)).length<(aA (val a)).length
  ·have:=rI hl2
   rw [if_pos (decide_eq_true (by omega))]; unfold dN; rw [if_neg (by omega),if_neg (by omega)]
  ·rw [if_neg (by rw [decide_eq_true_eq]; omega),a8,aV (by omega) (by omega)]
   have:=pm a b m m' (aA (val a)) (aA (val b)) h3 h6 (by omega) (by omega) (aA (val a)).length (Nat.le_refl _) (by rw [List.drop_of_length_le (by omega),List.drop_of_length_le (by omega)])
   rw [aE,aE]at this
   exact this
def adS (A B:List UInt32) (x:UInt64×List UInt32) (i:Nat):UInt64×List UInt32:=
 let s:=if i<B.length then (x.1+(A.getD i 0).toUInt64)+(B.getD i 0).toUInt64 else x.1+(A.getD i 0).toUInt64
 (aX s 32,x.2.set i s.toUInt32)
def AdI (A B:List UInt32) (i:Nat) (x:UInt64×List UInt32):Prop:=
 x.2.length=A.length+1∧x.1.toNat≤1∧val (x.2.take i)+4294967296^i*x.1.toNat=val (A.take i)+val (B.take i)
theorem jy {l:List UInt32} {i:Nat} (h:i<l.length):val (l.take (i+1))=val (l.take i)+4294967296^i*(l.getD i 0).toNat:=by
 rw [mN h,gw,List.length_take,Nat.min_eq_left (by omega)]
 simp [val]
theorem sG {l:List UInt32} {i:Nat} (h:l.length≤i):l.take (i+1)=l.take i:=by
 rw [List.take_of_length_le (by omega),List.take_of_length_le (by omega)]
theorem zC {A B:List UInt32} {x:UInt64×List UInt32} {i:Nat} (hi:i<A.length) (h:AdI A B i x):AdI A B (i+1) (adS A B x i):=by
 obtain ⟨h1,h2,h3⟩:=h
 obtain ⟨s,hs⟩:∃s,(if i<B.length then (x.1+(A.getD i 0).toUInt64)+(B.getD i 0).toUInt64 else x.1+(A.getD i 0).toUInt64)=s:=⟨_,rfl⟩
 have e:adS A B x i=(aX s 32,x.2.set i s.toUInt32):=by unfold adS; rw [hs]
 have ga:=ce (A.getD i 0); have gb:=ce (B.getD i 0)
 have hsv:s.toNat=x.1.toNat+(A.getD i 0).toNat+(if i<B.length then (B.getD i 0).toNat else 0):=by
  rw [←hs]
  split
  ·rw [UInt64.toNat_add,UInt64.toNat_add,bK,bK]; omega
  ·rw [UInt64.toNat_add,bK]; omega
 have hb2:val (B.take (i+1))=val (B.take i)+4294967296^i*(if i<B.length then (B.getD i 0).toNat else 0):=by
  split
  ·rename_i hb; exact jy hb
  ·rename_i hb; rw [sG (by omega)]; omega
 have hsl:s.toNat<2*4294967296:=by rw [hsv]; split <;> omega
 rw [e]
 have c1:(aX s 32).toNat=s.toNat / 4294967296:=by rw [dE]; rfl
 have c2:s.toUInt32.toNat=s.toNat%4294967296:=by rw [UInt64.toNat_toUInt32]
 refine ⟨by simpa using h1,by show (aX s 32).toNat≤1; rw [c1]; omega,?_⟩
 show val ((x.2.set i s.toUInt32).take (i+1))+4294967296^(i+1)*(aX s 32).toNat=_
 rw [jy (by simp; omega),jy hi,hb2,c1]
 have e1:(x.2.set i s.toUInt32).take i=x.2.take i:=List.take_set_of_le (by omega)
 have e2:(x.2.set i s.toUInt32).getD i 0=s.toUInt32:=by
  rw [List.getD_eq_getElem?_getD,List.getElem?_set_self (by omega)]; rfl
 rw [e1,e2,c2,Nat.pow_succ]
 obtain ⟨P,hP⟩:∃P,(4294967296:Nat)^i=P:=⟨_,rfl⟩
 rw [hP]at h3 hb2 ⊢
 have hd:=Nat.div_add_mod s.toNat 4294967296
 have e3:P*(s.toNat%4294967296)+P*4294967296*(s.toNat / 4294967296)=P*s.toNat:=by
  rw [Nat.mul_assoc,←Nat.mul_add,Nat.add_comm,hd]
 have e4:P*s.toNat=P*x.1.toNat+P*(A.getD i 0).toNat+P*(if i<B.length then (B.getD i 0).toNat else 0):=by rw [hsv,Nat.mul_add,Nat.mul_add]
 omega
theorem s8 (A B:List UInt32) (hl:B.length≤A.length) (hA:A.length≤50000000000000):F.EK (A,B)=some (aA (val A+val B)):=by
 unfold F.EK
 dsimp only
 have w1:wI ((A.length:Int)+1)=((A.length+1:Nat):Int):=by rw [aV (by omega) (by omega)]; rfl
 have hm:mkO 4 ((A.length+1:Nat):Int) ((A.length+1:Nat):Int) (0:UInt32)=some (List.replicate (A.length+1) 0):=by
  unfold mkO
  rw [if_pos (by omega),Int.toNat_natCast]
 rw [w1,hm,ak]
 have key:∀(k i:Nat) (x:UInt64×List UInt32),i+k=A.length→AdI A B i x→loop (F.DM A B) (x.1,(i:Int),x.2)=some (aA (val A+val B)):=by
  intro k
  induction k with
  | zero=>
   intro i x hi hx
   obtain ⟨h1,h2,h3⟩:=hx
   have hi':i=A.length:=by omega
   subst hi'
   refine bE ?_
   unfold F.DM
   dsimp only
   rw [if_neg (by rw [decide_eq_true_eq]; omega),a7 (show A.length<x.2.length by omega) 0,ak,a8,Int.toNat_natCast]
   obtain ⟨m,p1,p2,p3⟩:=dW (x.2.set A.length x.1.toUInt32) (by simp; omega)
   rw [p1,ak,p3]
   congr 2
   have e0:(x.2.set A.length x.1.toUInt32)=(x.2.set A.length x.1.toUInt32).take (A.length+1):=by rw [List.take_of_length_le (by simp; omega)]
   have e1:(x.2.set A.length x.1.toUInt32).take A.length=x.2.take A.length:=List.take_set_of_le (by omega)
   have e2:(x.2.set A.length x.1.toUInt32).getD A.length 0=x.1.toUInt32:=by
    rw [List.getD_eq_getElem?_getD,List.getElem?_set_self (by omega)]; rfl
   have c2:x.1.toUInt32.toNat=x.1.toNat:=by rw [UInt64.toNat_toUInt32]; omega
   rw [e0,jy (by simp; omega),e1,e2,c2,h3,List.take_of_length_le (by omega),List.take_of_length_le hl]
  | succ k ih=>
   intro i x hi hx
   have w4:wI ((i:Int)+1)=((i+1:Nat):Int):=by rw [aV (by omega) (by omega)]; rfl
   have hxl:=hx.1
   have hst:F.DM A B (x.1,(i:Int),x.2)=some (.inl ((adS A B x i).1,((i+1:Nat):Int),(adS A B x i).2)):=by
    unfold F.DM adS
    dsimp only
    rw [if_pos (decide_eq_true (by omega)),a7 (show i<A.length by omega) 0,ak]
    by_cases hb:i<B.length
    ·rw [if_pos (decide_eq_true (by omega)),a7 hb 0,ak,a8,if_pos hb]
     unfold F.EG
     rw [a7 (show i<x.2.length by omega) 0,ak,a8,w4,Int.toNat_natCast]
     rfl
    ·rw [if_neg (by rw [decide_eq_true_eq]; omega),if_neg hb]
     unfold F.EG
     rw [a7 (show i<x.2.length by omega) 0,ak,a8,w4,Int.toNat_natCast]
     rfl
   rw [bI hst]
   exact ih (i+1) (adS A B x i) (by omega) (zC (by omega) hx)
 exact key A.length 0 (0,List.replicate (A.length+1) 0) (by omega) ⟨by simp,Nat.zero_le 1,by simp [val]⟩
theorem sZ (a b:List UInt32) (ha:a.length≤40000000000000) (hb:b.length≤40000000000000):F.D4 a b=some (aA (val a+val b)):=by
 obtain ⟨m,h1,h2,h3⟩:=dt a (by omega)
 obtain ⟨m',h4,h5,h6⟩:=dt b (by omega)
 have la:(aA (val a)).length≤a.length:=bm (bB a)
 have lb:(aA (val b)).length≤b.length:=bm (bB b)
 unfold F.D4
 rw [h1,ak,h4,ak,h3,h6]
 by_cases hl:(aA (val a)).length<(aA (val b)).length
 ·rw [if_pos (decide_eq_true (by omega)),s8 _ _ (by omega) (by omega),aE,aE,Nat.add_comm]
 ·rw [if_neg (by rw [decide_eq_true_eq]; omega),s8 _ _ (by omega) (by omega),aE,aE]
theorem yE {n:Nat} {k:Nat} (h:(aA n).length≤k):nb n≤32*k:=Nat.le_trans (jh n) (Nat.mul_le_mul_left 32 h)
theorem xl {c:Int} {a k X Y:List UInt32} {q:Bool} (h:onS c X Y q=true) (ha:nb (val a)≤1024) (hk:nb (val k)≤1024):uD c a k X Y q=res (Ec.add (-3) (Ec.mul (-3) (val a) (gP c)) (Ec.mul (-3) (val k) (ff c X Y q))):=by
 unfold uD
 rw [h,if_pos rfl,if_pos ⟨ha,hk⟩]; rfl
end Go.Gk.Bn
end
