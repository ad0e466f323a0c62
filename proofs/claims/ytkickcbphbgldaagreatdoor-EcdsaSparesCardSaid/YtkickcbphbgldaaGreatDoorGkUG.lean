import Derived.Test.YtkickcbphbgldaaGreatDoorGkFman
import Derived.Test.YtkickcbphbgldaaGreatDoorGkUE
set_option linter.unusedVariables false
set_option linter.unusedSimpArgs false
set_option linter.unusedSectionVars false

section
namespace Go.Gk.Bn
open Go Go.Gk Go.Gk.Sh
def qb:List UInt8:=[102,102,102,102,102,102,102,102,48,48,48,48,48,48,48,49,48,48,48,48,48,48,48,48,48,48,48,48,48,48,48,48,48,48,48,48,48,48,48,48,102,102,102,102,102,102,102,102,102,102,102,102,102,102,102,102,102,102,102,102,102,102,102,102]
def gD:Nat:=0xffffffff00000001000000000000000000000000ffffffffffffffffffffffff
theorem xL:(qb.all ef&&Nat.beq (dm qb) gD&&Nat.beq qb.length 64)=true:=by decide +kernel
def qh:List UInt8:=[53,97,99,54,51,53,100,56,97,97,51,97,57,51,101,55,98,51,101,98,98,100,53,53,55,54,57,56,56,54,98,99,54,53,49,100,48,54,98,48,99,99,53,51,98,48,102,54,51,98,99,101,51,99,51,101,50,55,100,50,54,48,52,98]
def uP:Nat:=0x5ac635d8aa3a93e7b3ebbd55769886bc651d06b0cc53b0f63bce3c3e27d2604b
theorem xm:(qh.all ef&&Nat.beq (dm qh) uP&&Nat.beq qh.length 64)=true:=by decide +kernel
def qg:List UInt8:=[102,102,102,102,102,102,102,102,48,48,48,48,48,48,48,48,102,102,102,102,102,102,102,102,102,102,102,102,102,102,102,102,98,99,101,54,102,97,97,100,97,55,49,55,57,101,56,52,102,51,98,57,99,97,99,50,102,99,54,51,50,53,53,49]
def t5:Nat:=0xffffffff00000000ffffffffffffffffbce6faada7179e84f3b9cac2fc632551
theorem yc:(qg.all ef&&Nat.beq (dm qg) t5&&Nat.beq qg.length 64)=true:=by decide +kernel
def pW:List UInt8:=[54,98,49,55,100,49,102,50,101,49,50,99,52,50,52,55,102,56,98,99,101,54,101,53,54,51,97,52,52,48,102,50,55,55,48,51,55,100,56,49,50,100,101,98,51,51,97,48,102,52,97,49,51,57,52,53,100,56,57,56,99,50,57,54]
def kz:Nat:=0x6b17d1f2e12c4247f8bce6e563a440f277037d812deb33a0f4a13945d898c296
theorem wM:(pW.all ef&&Nat.beq (dm pW) kz&&Nat.beq pW.length 64)=true:=by decide +kernel
def qa:List UInt8:=[52,102,101,51,52,50,101,50,102,101,49,97,55,102,57,98,56,101,101,55,101,98,52,97,55,99,48,102,57,101,49,54,50,98,99,101,51,51,53,55,54,98,51,49,53,101,99,101,99,98,98,54,52,48,54,56,51,55,98,102,53,49,102,53]
def od:Nat:=0x4fe342e2fe1a7f9b8ee7eb4a7c0f9e162bce33576b315ececbb6406837bf51f5
theorem xk:(qa.all ef&&Nat.beq (dm qa) od&&Nat.beq qa.length 64)=true:=by decide +kernel
def pV:List UInt8:=[102,102,102,102,102,102,102,102,102,102,102,102,102,102,102,102,102,102,102,102,102,102,102,102,102,102,102,102,102,102,102,102,102,102,102,102,102,102,102,102,102,102,102,102,102,102,102,102,102,102,102,102,102,102,102,102,102,102,102,102,102,102,102,101,102,102,102,102,102,102,102,102,48,48,48,48,48,48,48,48,48,48,48,48,48,48,48,48,102,102,102,102,102,102,102,102]
def mc:Nat:=0xfffffffffffffffffffffffffffffffffffffffffffffffffffffffffffffffeffffffff0000000000000000ffffffff
theorem xG:(pV.all ef&&Nat.beq (dm pV) mc&&Nat.beq pV.length 96)=true:=by decide +kernel
def qj:List UInt8:=[98,51,51,49,50,102,97,55,101,50,51,101,101,55,101,52,57,56,56,101,48,53,54,98,101,51,102,56,50,100,49,57,49,56,49,100,57,99,54,101,102,101,56,49,52,49,49,50,48,51,49,52,48,56,56,102,53,48,49,51,56,55,53,97,99,54,53,54,51,57,56,100,56,97,50,101,100,49,57,100,50,97,56,53,99,56,101,100,100,51,101,99,50,97,101,102]
def pZ:Nat:=0xb3312fa7e23ee7e4988e056be3f82d19181d9c6efe8141120314088f5013875ac656398d8a2ed19d2a85c8edd3ec2aef
theorem yf:(qj.all ef&&Nat.beq (dm qj) pZ&&Nat.beq qj.length 96)=true:=by decide +kernel
def qf:List UInt8:=[102,102,102,102,102,102,102,102,102,102,102,102,102,102,102,102,102,102,102,102,102,102,102,102,102,102,102,102,102,102,102,102,102,102,102,102,102,102,102,102,102,102,102,102,102,102,102,102,99,55,54,51,52,100,56,49,102,52,51,55,50,100,100,102,53,56,49,97,48,100,98,50,52,56,98,48,97,55,55,97,101,99,101,99,49,57,54,97,99,99,99,53,50,57,55,51]
def ud:Nat:=0xffffffffffffffffffffffffffffffffffffffffffffffffc7634d81f4372ddf581a0db248b0a77aecec196accc52973
theorem xB:(qf.all ef&&Nat.beq (dm qf) ud&&Nat.beq qf.length 96)=true:=by decide +kernel
def qk:List UInt8:=[97,97,56,55,99,97,50,50,98,101,56,98,48,53,51,55,56,101,98,49,99,55,49,101,102,51,50,48,97,100,55,52,54,101,49,100,51,98,54,50,56,98,97,55,57,98,57,56,53,57,102,55,52,49,101,48,56,50,53,52,50,97,51,56,53,53,48,50,102,50,53,100,98,102,53,53,50,57,54,99,51,97,53,52,53,101,51,56,55,50,55,54,48,97,98,55]
def uy:Nat:=0xaa87ca22be8b05378eb1c71ef320ad746e1d3b628ba79b9859f741e082542a385502f25dbf55296c3a545e3872760ab7
theorem yi:(qk.all ef&&Nat.beq (dm qk) uy&&Nat.beq qk.length 96)=true:=by decide +kernel
def qe:List UInt8:=[51,54,49,55,100,101,52,97,57,54,50,54,50,99,54,102,53,100,57,101,57,56,98,102,57,50,57,50,100,99,50,57,102,56,102,52,49,100,98,100,50,56,57,97,49,52,55,99,101,57,100,97,51,49,49,51,98,53,102,48,98,56,99,48,48,97,54,48,98,49,99,101,49,100,55,101,56,49,57,100,55,97,52,51,49,100,55,99,57,48,101,97,48,101,53,102]
def uo:Nat:=0x3617de4a96262c6f5d9e98bf9292dc29f8f41dbd289a147ce9da3113b5f0b8c00a60b1ce1d7e819d7a431d7c90ea0e5f
theorem xh:(qe.all ef&&Nat.beq (dm qe) uo&&Nat.beq qe.length 96)=true:=by decide +kernel
def cP (c:Int):Nat:=if c=1 then gD else mc
def cB (c:Int):Nat:=if c=1 then uP else pZ
def cN (c:Int):Nat:=if c=1 then t5 else ud
def cX (c:Int):Nat:=if c=1 then kz else uy
def cY (c:Int):Nat:=if c=1 then od else uo
def cS (c:Int):Int:=if c=1 then 32 else 48
theorem dg (c:Int):cP c<4294967296^12∧cB c<cP c∧cN c<cP c∧cX c<cP c∧cY c<cP c∧4<cP c∧4<cN c:=by
 unfold cP cB cN cX cY
 by_cases h:c=1
 ·simp only [if_pos h]; decide +kernel
 ·simp only [if_neg h]; decide +kernel
theorem kx (c:Int):nl (cP c:Int)≤12:=p8 (by have:=(dg c).1; omega)
theorem dX (s:List UInt8) (v m:Nat) (h:(s.all ef&&Nat.beq (dm s) v&&Nat.beq s.length m)=true) (hm:0<m) (hm2:m≤1000):F.BL s=some ((bi (v:Int)).1,(bi (v:Int)).2):=by
 simp only [Bool.and_eq_true]at h
 have hl:=Nat.eq_of_beq_eq_true h.2
 unfold F.BL
 rw [rF _ _ s h.1.1 (by intro h0; rw [h0]at hl; simp at hl; omega) (by omega),ak,Nat.eq_of_beq_eq_true h.1.2,u5]
def gT (c:Int):Bool×List UInt32×Bool×List UInt32×Bool×List UInt32×Bool×List UInt32×Bool×List UInt32×Int:=
 ((bi (cP c:Int)).1,(bi (cP c:Int)).2,(bi (cB c:Int)).1,(bi (cB c:Int)).2,(bi (cN c:Int)).1,(bi (cN c:Int)).2,(bi (cX c:Int)).1,(bi (cX c:Int)).2,(bi (cY c:Int)).1,(bi (cY c:Int)).2,cS c)
theorem zj:F.Fq=some (gT 1):=by
 have h:F.Fq=an (F.BL qb) fun x_1=>an (F.BL qh) fun x_6=>an (F.BL qg) fun x_11=>an (F.BL pW) fun x_16=>an (F.BL qa) fun x_21=>
   some (x_1.1,x_1.2,x_6.1,x_6.2,x_11.1,x_11.2,x_16.1,x_16.2,x_21.1,x_21.2,32):=rfl
 rw [h,dX _ _ _ xL (by decide) (by decide),ak,dX _ _ _ xm (by decide) (by decide),ak,dX _ _ _ yc (by decide) (by decide),ak,dX _ _ _ wM (by decide) (by decide),ak,dX _ _ _ xk (by decide) (by decide),ak]
 rfl
theorem y9:F.Ft=some (gT 2):=by
 have h:F.Ft=an (F.BL pV) fun x_1=>an (F.BL qj) fun x_6=>an (F.BL qf) fun x_11=>an (F.BL qk) fun x_16=>an (F.BL qe) fun x_21=>
   some (x_1.1,x_1.2,x_6.1,x_6.2,x_11.1,x_11.2,x_16.1,x_16.2,x_21.1,x_21.2,48):=rfl
 rw [h,dX _ _ _ xG (by decide) (by decide),ak,dX _ _ _ yf (by decide) (by decide),ak,dX _ _ _ xB (by decide) (by decide),ak,dX _ _ _ yi (by decide) (by decide),ak,dX _ _ _ xh (by decide) (by decide),ak]
 rfl
def isC (c:Int):Prop:=c=1∨c=2
instance (c:Int):Decidable (isC c):=by unfold isC; infer_instance
theorem of_eq (c:Int):F.B8 c=some (if isC c then some (gT c) else none):=by
 unfold F.B8
 by_cases h1:c=1
 ·subst h1; rw [if_pos (by rfl),zj,ak,if_pos (.inl rfl)]
 ·rw [if_neg (by simpa using h1)]
  by_cases h2:c=2
  ·subst h2; rw [if_pos (by rfl),y9,ak,if_pos (.inr rfl)]
  ·rw [if_neg (by simpa using h2),if_neg (by unfold isC; omega)]
section
variable (p:Nat) (b0:Bool) (b1:List UInt32) (n0:Bool) (n1:List UInt32) (x0:Bool) (x1:List UInt32) (y0:Bool) (y1:List UInt32) (s:Int)
theorem mm (hp:0<p) (hpl:nl (p:Int)≤1000) (z:Int) (hz:nl z≤70368744177660) (hz2:z<0→nl z≤70000000000000) :
  F.Ce (bi (p:Int)).1 (bi (p:Int)).2 b0 b1 n0 n1 x0 x1 y0 y1 s (bi z).1 (bi z).2=some (bi (z%p)):=by
 unfold F.Ce
 rw [up z p (by omega) hz (by omega) hz2,ak]
theorem kh (hp:0<p) (hpl:nl (p:Int)≤1000) (u v:Int) (h:nl u+nl v≤70368744177660) (h2:u*v<0→nl u+nl v≤70000000000000) :
  F.BK (bi (p:Int)).1 (bi (p:Int)).2 b0 b1 n0 n1 x0 x1 y0 y1 s (bi u).1 (bi u).2 (bi v).1 (bi v).2=some (bi (u*v%p)):=by
 have hm:=rs u v
 unfold F.BK
 rw [rt _ _ u v (by omega),ak,mm p b0 b1 n0 n1 x0 x1 y0 y1 s hp hpl _ (by omega) (fun h0=>by have:=h2 h0; omega),ak]
theorem te (hp:0<p) (hpl:nl (p:Int)≤1000) (u v:Int) (hu:nl u≤60000000000000) (hv:nl v≤60000000000000) :
  F.BS (bi (p:Int)).1 (bi (p:Int)).2 b0 b1 n0 n1 x0 x1 y0 y1 s (bi u).1 (bi u).2 (bi v).1 (bi v).2=some (bi ((u - v)%p)):=by
 have hm:=wL u v
 unfold F.BS
 rw [vP _ _ u v (by omega) (by omega),ak,mm p b0 b1 n0 n1 x0 x1 y0 y1 s hp hpl _ (by omega) (fun _=>by omega),ak]
theorem pg (hp:0<p) (hpl:nl (p:Int)≤1000) (k v:Int) (hk:0≤k) (hk2:k≤1000) (hv:0≤v) (h:nl v≤70368744177600) :
  F.BW (bi (p:Int)).1 (bi (p:Int)).2 b0 b1 n0 n1 x0 x1 y0 y1 s k (bi v).1 (bi v).2=some (bi (k*v%p)):=by
 have hk3:nl k≤1:=p8 (by omega)
 unfold F.BW
 rw [gh k (by omega) (by omega),ak,kh p b0 b1 n0 n1 x0 x1 y0 y1 s hp hpl k v (by omega) (fun h0=>by have:=Int.mul_nonneg hk hv; omega),ak]
end
def onN (p b x y:Nat):Bool:=decide (x<p)&&(decide (y<p)&&decide (y*y%p=((x*(x*x%p)%p+p - 3*x%p)%p+b)%p))
theorem q6 (p A B:Nat) (hA:A<p) (hB:B<p):((A:Int) - (B:Int))%(p:Int)=(((A+p - B)%p:Nat):Int):=by
 rw [Int.natCast_emod,show (((A+p - B:Nat):Int))=(A:Int) - B+p by omega,Int.add_emod_right]
theorem yx (p b:Nat) (n0:Bool) (n1:List UInt32) (x0:Bool) (x1:List UInt32) (y0:Bool) (y1:List UInt32) (s:Int) (hp:0<p) (hpl:nl (p:Int)≤1000) (hb:b<p) (x y:Nat) (hx:nl (x:Int)≤35184372087808) (hy:nl (y:Int)≤35184372087808) :
  F.CZ (bi (p:Int)).1 (bi (p:Int)).2 (bi (b:Int)).1 (bi (b:Int)).2 n0 n1 x0 x1 y0 y1 s (bi (x:Int)).1 (bi (x:Int)).2 (bi (y:Int)).1 (bi (y:Int)).2=some (onN p b x y):=by
 have hp':(0:Int)<(p:Int):=by omega
 have hbl:nl (b:Int)≤1000:=Nat.le_trans (d6 (by omega)) hpl
 have m1:=k7 ((x:Int)*x) hp'
 have q1:=Int.mul_nonneg (Int.natCast_nonneg x) (Int.natCast_nonneg x)
 have q2:=Int.emod_nonneg ((x:Int)*x) (show (p:Int)≠0 by omega)
 have q3:=Int.mul_nonneg (Int.natCast_nonneg x) q2
 unfold F.CZ
 rw [kh p _ _ n0 n1 x0 x1 y0 y1 s hp hpl _ _ (by omega) (fun h=>by omega),ak,kh p _ _ n0 n1 x0 x1 y0 y1 s hp hpl _ _ (by omega) (fun h=>by omega),ak,
  pg p _ _ n0 n1 x0 x1 y0 y1 s hp hpl 3 _ (by decide) (by decide) (Int.natCast_nonneg x) (by omega),ak]
 have m2:=k7 ((x:Int)*((x:Int)*x%p)) hp'
 have m3:=k7 (3*(x:Int)) hp'
 have e2:(x:Int)*((x:Int)*x%p)%p=((x*(x*x%p)%p:Nat):Int):=by rw [Int.natCast_emod,Int.natCast_mul,Int.natCast_emod,Int.natCast_mul]
 have e3:3*(x:Int)%p=((3*x%p:Nat):Int):=by rw [Int.natCast_emod,Int.natCast_mul]; rfl
 obtain ⟨A,hA⟩:∃A,x*(x*x%p)%p=A:=⟨_,rfl⟩
 obtain ⟨B,hB⟩:∃B,3*x%p=B:=⟨_,rfl⟩
 have hAp:A<p:=by rw [←hA]; exact Nat.mod_lt _ hp
 have hBp:B<p:=by rw [←hB]; exact Nat.mod_lt _ hp
 rw [e2,hA]at m2 ⊢
 rw [e3,hB]at m3 ⊢
 rw [te p _ _ n0 n1 x0 x1 y0 y1 s hp hpl _ _ (by omega) (by omega),ak,q6 p A B hAp hBp]
 obtain ⟨D,hD⟩:∃D,(A+p - B)%p=D:=⟨_,rfl⟩
 have hDp:D<p:=by rw [←hD]; exact Nat.mod_lt _ hp
 have m4:nl (D:Int)≤1000:=Nat.le_trans (d6 (by omega)) hpl
 have m5:=rP (D:Int) (b:Int)
 rw [hD,nT _ _ (by omega) (by omega),ak,mm p _ _ n0 n1 x0 x1 y0 y1 s hp hpl _ (by omega) (fun _=>by omega),ak,nB _ _ (by omega) (by omega),ak]
 unfold onN
 rw [hA,hB,hD]
 have cm:∀u v:Nat,decide (sn (u:Int) (v:Int)<0)=decide (u<v):=fun u v=>by
  unfold sn
  by_cases h:u<v
  ·rw [if_pos (by omega),decide_eq_true h]; rfl
  ·rw [if_neg (by omega),decide_eq_false h]; split <;> rfl
 rw [cm]
 by_cases h1:x<p
 ·rw [decide_eq_true h1,if_pos rfl,nB _ _ (by omega) (by omega),ak,cm]
  by_cases h2:y<p
  ·have hyl:nl (y:Int)≤1000:=Nat.le_trans (d6 (by omega)) hpl
   have q4:=Int.mul_nonneg (Int.natCast_nonneg y) (Int.natCast_nonneg y)
   have m6:=k7 ((y:Int)*y) hp'
   have m7:=k7 ((D:Int)+b) hp'
   rw [decide_eq_true h2,if_pos rfl,kh p _ _ n0 n1 x0 x1 y0 y1 s hp hpl _ _ (by omega) (fun h=>by omega),ak,nB _ _ (by omega) (by omega),ak]
   have e6:(y:Int)*y%p=((y*y%p:Nat):Int):=by rw [Int.natCast_emod,Int.natCast_mul]
   have e7:((D:Int)+b)%p=(((D+b)%p:Nat):Int):=by rw [Int.natCast_emod,Int.natCast_add]
   rw [e6,e7]
   unfold sn
   congr 1
   by_cases h3:y*y%p=(D+b)%p
   ·rw [h3,if_neg (by omega),if_pos rfl]; simp
   ·rw [Bool.true_and,Bool.true_and,decide_eq_false h3,beq_eq_false_iff_ne]
    split
    ·omega
    ·rw [if_neg (by omega)]; omega
  ·rw [decide_eq_false h2,if_neg (by decide)]; rfl
 ·rw [decide_eq_false h1,if_neg (by decide)]; rfl
theorem uM (a:List UInt32) (ha:a.length≤35184372087808):F.DO a=some (bi (val a:Int)):=by
 have h1:=jh (val a)
 have h2:(aA (val a)).length≤a.length:=bm (bB a)
 have h3:nby (val a)≤4*a.length:=by unfold nby; omega
 unfold F.DO
 rw [vA a ha,ak,jL _ _ _ (by rw [cF]; omega),ak,iV,Nat.mod_eq_of_lt (qW _)]
theorem nV (n:Nat) (hn:nl (n:Int)≤1000000000):F.BZ (bi (n:Int)).1 (bi (n:Int)).2=some (aA n):=by
 have h1:=jh n
 have h2:(aA n).length≤1000000000:=by have:=hn; unfold nl at this; rwa [Int.natAbs_natCast]at this
 have h3:nby n≤4*(aA n).length:=by unfold nby; omega
 unfold F.BZ
 rw [qR _ hn,ak,Int.natAbs_natCast,eE _ (by rw [cF]; omega),ak,iV,Nat.mod_eq_of_lt (qW _)]
theorem vG (a:List UInt32):nl (val a:Int)≤a.length:=by unfold nl; rw [Int.natAbs_natCast]; exact bm (bB a)
def onS (c:Int) (X Y:List UInt32) (inf:Bool):Bool:=if isC c then (if inf then decide (val X=0)&&decide (val Y=0) else onN (cP c) (cB c) (val X) (val Y)) else false
def rdT (X Y:List UInt32) (inf:Bool):Bool×List UInt32×Bool×List UInt32×Bool×List UInt32:=
 if inf then (false,[],false,[],false,[]) else ((bi (val X:Int)).1,(bi (val X:Int)).2,(bi (val Y:Int)).1,(bi (val Y:Int)).2,(bi 1).1,(bi 1).2)
theorem y6 (c:Int) (hc:isC c) (X Y:List UInt32) (inf:Bool) (hX:X.length≤35184372087808) (hY:Y.length≤35184372087808) :
  F.ET (gT c).1 (gT c).2.1 (gT c).2.2.1 (gT c).2.2.2.1 (gT c).2.2.2.2.1 (gT c).2.2.2.2.2.1 (gT c).2.2.2.2.2.2.1 (gT c).2.2.2.2.2.2.2.1 (gT c).2.2.2.2.2.2.2.2.1 (gT c).2.2.2.2.2.2.2.2.2.1 (gT c).2.2.2.2.2.2.2.2.2.2 X Y inf =
   some ((rdT X Y inf).1,(rdT X Y inf).2.1,(rdT X Y inf).2.2.1,(rdT X Y inf).2.2.2.1,(rdT X Y inf).2.2.2.2.1,(rdT X Y inf).2.2.2.2.2,onS c X Y inf):=by
 obtain ⟨s1,s2,_,_,_,s6,_⟩:=dg c
 have hp:=kx c
 unfold F.ET
 rw [uM X hX,ak,uM Y hY,ak]
 unfold onS rdT
 rw [if_pos hc]
 cases inf with
 | true=>
  have sg:∀v:Nat,(if ((v:Int))=0 then (0:Int) else if (v:Int)<0 then -1 else 1)=if v=0 then 0 else 1:=fun v=>by
   by_cases h:v=0
   ·rw [if_pos (by omega),if_pos h]
   ·rw [if_neg (by omega),if_neg (by omega),if_neg h]
  have sgd:∀v:Nat,((if v=0 then (0:Int) else 1) == 0)=decide (v=0):=fun v=>by
   by_cases h:v=0
   ·rw [if_pos h,decide_eq_true h]; rfl
   ·rw [if_neg h,decide_eq_false h]; rfl
  rw [if_pos rfl]
  unfold F.B6
  rw [ak,mf,ak,sg]
  show _=some (false,[],false,[],false,[],decide (val X=0)&&decide (val Y=0))
  by_cases h1:val X=0
  ·rw [if_pos h1,if_pos (by rfl),mf,ak,sg,sgd,decide_eq_true h1,Bool.true_and]
  ·rw [if_neg h1,if_neg (by decide),decide_eq_false h1,Bool.false_and]
 | false=>
  rw [if_neg (by decide),gh 1 (by decide) (by decide),ak]
  have h:=yx (cP c) (cB c) (bi (cN c:Int)).1 (bi (cN c:Int)).2 (bi (cX c:Int)).1 (bi (cX c:Int)).2 (bi (cY c:Int)).1 (bi (cY c:Int)).2 (cS c) (by omega) (by omega) s2 (val X) (val Y) (Nat.le_trans (vG X) hX) (Nat.le_trans (vG Y) hY)
  unfold gT
  dsimp only
  rw [h,ak]
  simp
theorem nm (c:Int) (X Y:List UInt32) (inf:Bool) (hX:X.length≤35184372087808) (hY:Y.length≤35184372087808) :
  F.CX c X Y inf=some (if isC c then some ((gT c).1,(gT c).2.1,(gT c).2.2.1,(gT c).2.2.2.1,(gT c).2.2.2.2.1,(gT c).2.2.2.2.2.1,(gT c).2.2.2.2.2.2.1,(gT c).2.2.2.2.2.2.2.1,(gT c).2.2.2.2.2.2.2.2.1,(gT c).2.2.2.2.2.2.2.2.2.1,(gT c).2.2.2.2.2.2.2.2.2.2,
   (rdT X Y inf).1,(rdT X Y inf).2.1,(rdT X Y inf).2.2.1,(rdT X Y inf).2.2.2.1,(rdT X Y inf).2.2.2.2.1,(rdT X Y inf).2.2.2.2.2) else none,onS c X Y inf):=by
 unfold F.CX
 rw [of_eq,ak]
 by_cases h:isC c
 ·rw [if_pos h,if_pos h]
  show an (F.ET _ _ _ _ _ _ _ _ _ _ _ _ _ _) _=_
  rw [y6 c h X Y inf hX hY,ak]
 ·rw [if_neg h,if_neg h]
  unfold onS
  rw [if_neg h]; rfl
theorem A8 (c:Int) (X Y:List UInt32) (inf:Bool) (hX:X.length≤35184372087808) (hY:Y.length≤35184372087808):F.FG c X Y inf=some (onS c X Y inf):=by
 unfold F.FG
 rw [nm c X Y inf hX hY,ak]
 dsimp only
 split <;> rfl
theorem kj (c:Int):F.Cw c=some (if isC c then cS c else 0):=by
 unfold F.Cw
 rw [of_eq,ak]
 by_cases h:isC c
 ·rw [if_pos h,if_pos h]; rfl
 ·rw [if_neg h,if_neg h]; rfl
theorem ng (c:Int) {v:Nat} (h:v<cP c):nl (v:Int)≤1000000000:=by
 have:=Nat.le_trans (d6 (show ((v:Int)).natAbs≤((cP c:Int)).natAbs by omega)) (kx c)
 omega
theorem i3 (c:Int):F.CE c=some (if isC c then aA (cN c) else []):=by
 unfold F.CE
 rw [of_eq,ak]
 by_cases h:isC c
 ·rw [if_pos h,if_pos h]
  show an (F.BZ _ _) _=_
  rw [show (gT c).2.2.2.2.1=(bi (cN c:Int)).1 from rfl,show (gT c).2.2.2.2.2.1=(bi (cN c:Int)).2 from rfl,nV _ (ng c (dg c).2.2.1),ak]
 ·rw [if_neg h,if_neg h]; rfl
theorem tR (c:Int):F.DC c=some (if isC c then (aA (cX c),aA (cY c),false) else ([],[],false)):=by
 unfold F.DC
 rw [of_eq,ak]
 by_cases h:isC c
 ·rw [if_pos h,if_pos h]
  show an (F.BZ _ _) _=_
  rw [show (gT c).2.2.2.2.2.2.1=(bi (cX c:Int)).1 from rfl,show (gT c).2.2.2.2.2.2.2.1=(bi (cX c:Int)).2 from rfl,nV _ (ng c (dg c).2.2.2.1),ak,
   show (gT c).2.2.2.2.2.2.2.2.1=(bi (cY c:Int)).1 from rfl,show (gT c).2.2.2.2.2.2.2.2.2.1=(bi (cY c:Int)).2 from rfl,nV _ (ng c (dg c).2.2.2.2.1),ak]
 ·rw [if_neg h,if_neg h]; rfl
end Go.Gk.Bn
end

section
namespace Go.Gk.Bn
open Go Go.Gk Go.Gk.Sh
theorem tK (c:Int) {v:Nat} (h:v≤cP c):(aA v).length≤12:=bm (by have:=(dg c).1; omega)
end Go.Gk.Bn
end

section
namespace Go.Gk.Bn
open Go Go.Gk Go.Gk.Sh
theorem wU {ρ:Type} {f:Int→Option (Int⊕ρ)} {n:Nat} {r:ρ} (hstep:∀i:Nat,i<n→f (i:Int)=some (.inl ((i:Int)+1))) (hend:f (n:Int)=some (.inr r)):loop f 0=some r:=by
 have:=yZ hstep hend 0 (Nat.zero_le _)
 simpa using this
end Go.Gk.Bn
end
