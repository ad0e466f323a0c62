import Derived.Test.YtahgjafdhjbkeaaGreatDoorGkFman
import Derived.Test.YtahgjafdhjbkeaaGreatDoorGkUE
set_option linter.unusedVariables false
set_option linter.unusedSimpArgs false
set_option linter.unusedSectionVars false

section
namespace Go.Gk.Bn
open Go Go.Gk Go.Gk.Sh
def qb:L1:=[102,102,102,102,102,102,102,102,48,48,48,48,48,48,48,49,48,48,48,48,48,48,48,48,48,48,48,48,48,48,48,48,48,48,48,48,48,48,48,48,102,102,102,102,102,102,102,102,102,102,102,102,102,102,102,102,102,102,102,102,102,102,102,102]
def Ai:Nat:=0xffffffff00000001000000000000000000000000ffffffffffffffffffffffff
theorem tH:(qb.all ep&&Nat.beq (dM qb) Ai&&Nat.beq qb.length 64)=true:=by decide +kernel
def pO:L1:=[53,97,99,54,51,53,100,56,97,97,51,97,57,51,101,55,98,51,101,98,98,100,53,53,55,54,57,56,56,54,98,99,54,53,49,100,48,54,98,48,99,99,53,51,98,48,102,54,51,98,99,101,51,99,51,101,50,55,100,50,54,48,52,98]
def Ag:Nat:=0x5ac635d8aa3a93e7b3ebbd55769886bc651d06b0cc53b0f63bce3c3e27d2604b
theorem sP:(pO.all ep&&Nat.beq (dM pO) Ag&&Nat.beq pO.length 64)=true:=by decide +kernel
def pA:L1:=[102,102,102,102,102,102,102,102,48,48,48,48,48,48,48,48,102,102,102,102,102,102,102,102,102,102,102,102,102,102,102,102,98,99,101,54,102,97,97,100,97,55,49,55,57,101,56,52,102,51,98,57,99,97,99,50,102,99,54,51,50,53,53,49]
def Ao:Nat:=0xffffffff00000000ffffffffffffffffbce6faada7179e84f3b9cac2fc632551
theorem sc:(pA.all ep&&Nat.beq (dM pA) Ao&&Nat.beq pA.length 64)=true:=by decide +kernel
def qa:L1:=[54,98,49,55,100,49,102,50,101,49,50,99,52,50,52,55,102,56,98,99,101,54,101,53,54,51,97,52,52,48,102,50,55,55,48,51,55,100,56,49,50,100,101,98,51,51,97,48,102,52,97,49,51,57,52,53,100,56,57,56,99,50,57,54]
def AG:Nat:=0x6b17d1f2e12c4247f8bce6e563a440f277037d812deb33a0f4a13945d898c296
theorem sh:(qa.all ep&&Nat.beq (dM qa) AG&&Nat.beq qa.length 64)=true:=by decide +kernel
def pD:L1:=[52,102,101,51,52,50,101,50,102,101,49,97,55,102,57,98,56,101,101,55,101,98,52,97,55,99,48,102,57,101,49,54,50,98,99,101,51,51,53,55,54,98,51,49,53,101,99,101,99,98,98,54,52,48,54,56,51,55,98,102,53,49,102,53]
def Az:Nat:=0x4fe342e2fe1a7f9b8ee7eb4a7c0f9e162bce33576b315ececbb6406837bf51f5
theorem sM:(pD.all ep&&Nat.beq (dM pD) Az&&Nat.beq pD.length 64)=true:=by decide +kernel
def pL:L1:=[102,102,102,102,102,102,102,102,102,102,102,102,102,102,102,102,102,102,102,102,102,102,102,102,102,102,102,102,102,102,102,102,102,102,102,102,102,102,102,102,102,102,102,102,102,102,102,102,102,102,102,102,102,102,102,102,102,102,102,102,102,102,102,101,102,102,102,102,102,102,102,102,48,48,48,48,48,48,48,48,48,48,48,48,48,48,48,48,102,102,102,102,102,102,102,102]
def An:Nat:=0xfffffffffffffffffffffffffffffffffffffffffffffffffffffffffffffffeffffffff0000000000000000ffffffff
theorem tx:(pL.all ep&&Nat.beq (dM pL) An&&Nat.beq pL.length 96)=true:=by decide +kernel
def qf:L1:=[98,51,51,49,50,102,97,55,101,50,51,101,101,55,101,52,57,56,56,101,48,53,54,98,101,51,102,56,50,100,49,57,49,56,49,100,57,99,54,101,102,101,56,49,52,49,49,50,48,51,49,52,48,56,56,102,53,48,49,51,56,55,53,97,99,54,53,54,51,57,56,100,56,97,50,101,100,49,57,100,50,97,56,53,99,56,101,100,100,51,101,99,50,97,101,102]
def Ay:Nat:=0xb3312fa7e23ee7e4988e056be3f82d19181d9c6efe8141120314088f5013875ac656398d8a2ed19d2a85c8edd3ec2aef
theorem sZ:(qf.all ep&&Nat.beq (dM qf) Ay&&Nat.beq qf.length 96)=true:=by decide +kernel
def pj:L1:=[102,102,102,102,102,102,102,102,102,102,102,102,102,102,102,102,102,102,102,102,102,102,102,102,102,102,102,102,102,102,102,102,102,102,102,102,102,102,102,102,102,102,102,102,102,102,102,102,99,55,54,51,52,100,56,49,102,52,51,55,50,100,100,102,53,56,49,97,48,100,98,50,52,56,98,48,97,55,55,97,101,99,101,99,49,57,54,97,99,99,99,53,50,57,55,51]
def Ak:Nat:=0xffffffffffffffffffffffffffffffffffffffffffffffffc7634d81f4372ddf581a0db248b0a77aecec196accc52973
theorem ue:(pj.all ep&&Nat.beq (dM pj) Ak&&Nat.beq pj.length 96)=true:=by decide +kernel
def pt:L1:=[97,97,56,55,99,97,50,50,98,101,56,98,48,53,51,55,56,101,98,49,99,55,49,101,102,51,50,48,97,100,55,52,54,101,49,100,51,98,54,50,56,98,97,55,57,98,57,56,53,57,102,55,52,49,101,48,56,50,53,52,50,97,51,56,53,53,48,50,102,50,53,100,98,102,53,53,50,57,54,99,51,97,53,52,53,101,51,56,55,50,55,54,48,97,98,55]
def Ax:Nat:=0xaa87ca22be8b05378eb1c71ef320ad746e1d3b628ba79b9859f741e082542a385502f25dbf55296c3a545e3872760ab7
theorem sW:(pt.all ep&&Nat.beq (dM pt) Ax&&Nat.beq pt.length 96)=true:=by decide +kernel
def pp:L1:=[51,54,49,55,100,101,52,97,57,54,50,54,50,99,54,102,53,100,57,101,57,56,98,102,57,50,57,50,100,99,50,57,102,56,102,52,49,100,98,100,50,56,57,97,49,52,55,99,101,57,100,97,51,49,49,51,98,53,102,48,98,56,99,48,48,97,54,48,98,49,99,101,49,100,55,101,56,49,57,100,55,97,52,51,49,100,55,99,57,48,101,97,48,101,53,102]
def As:Nat:=0x3617de4a96262c6f5d9e98bf9292dc29f8f41dbd289a147ce9da3113b5f0b8c00a60b1ce1d7e819d7a431d7c90ea0e5f
theorem tT:(pp.all ep&&Nat.beq (dM pp) As&&Nat.beq pp.length 96)=true:=by decide +kernel
def cP (c:Int):Nat:=if c=1 then Ai else An
def cB (c:Int):Nat:=if c=1 then Ag else Ay
def cN (c:Int):Nat:=if c=1 then Ao else Ak
def cX (c:Int):Nat:=if c=1 then AG else Ax
def cY (c:Int):Nat:=if c=1 then Az else As
def cS (c:Int):Int:=if c=1 then 32 else 48
theorem dF (c:Int):cP c<4294967296^12/\cB c<cP c/\cN c<cP c/\cX c<cP c/\cY c<cP c/\4<cP c/\4<cN c:=by
 unfold cP cB cN cX cY
 by_cases h:c=1
 ·simp only[if_pos h]; decide +kernel
 ·simp only[if_neg h]; decide +kernel
theorem oh (c:Int):nl (cP c:Int)<=12:=r9 (by have:=(dF c).1; omega)
theorem fa (s:L1) (v m:Nat) (h:(s.all ep&&Nat.beq (dM s) v&&Nat.beq s.length m)=true) (j:0<m) (i:m<=1000):F.Dv s=some ((bi (v:Int)).1,(bi (v:Int)).2):=by
 simp only[Bool.and_eq_true]at h
 have f:=Nat.eq_of_beq_eq_true h.2
 unfold F.Dv
 rw[sk _ _ s h.1.1 (by intro g; rw[g]at f; simp at f; omega) (by omega),ae,Nat.eq_of_beq_eq_true h.1.2,xq]
def gT (c:Int):Bool×L0×Bool×L0×Bool×L0×Bool×L0×Bool×L0×Int:=
 ((bi (cP c:Int)).1,(bi (cP c:Int)).2,(bi (cB c:Int)).1,(bi (cB c:Int)).2,(bi (cN c:Int)).1,(bi (cN c:Int)).2,(bi (cX c:Int)).1,(bi (cX c:Int)).2,(bi (cY c:Int)).1,(bi (cY c:Int)).2,cS c)
theorem A5:F.Ia=some (gT 1):=by
 have h:F.Ia=ah (F.Dv qb) fun j=>ah (F.Dv pO) fun k=>ah (F.Dv pA) fun f=>ah (F.Dv qa) fun g=>ah (F.Dv pD) fun i=>
   some (j.1,j.2,k.1,k.2,f.1,f.2,g.1,g.2,i.1,i.2,32):=rfl
 rw[h,fa _ _ _ tH (by decide) (by decide),ae,fa _ _ _ sP (by decide) (by decide),ae,fa _ _ _ sc (by decide) (by decide),ae,fa _ _ _ sh (by decide) (by decide),ae,fa _ _ _ sM (by decide) (by decide),ae]
 rfl
theorem AV:F.Jd=some (gT 2):=by
 have h:F.Jd=ah (F.Dv pL) fun j=>ah (F.Dv qf) fun k=>ah (F.Dv pj) fun f=>ah (F.Dv pt) fun g=>ah (F.Dv pp) fun i=>
   some (j.1,j.2,k.1,k.2,f.1,f.2,g.1,g.2,i.1,i.2,48):=rfl
 rw[h,fa _ _ _ tx (by decide) (by decide),ae,fa _ _ _ sZ (by decide) (by decide),ae,fa _ _ _ ue (by decide) (by decide),ae,fa _ _ _ sW (by decide) (by decide),ae,fa _ _ _ tT (by decide) (by decide),ae]
 rfl
def isC (c:Int):Prop:=c=1\/c=2
instance (c:Int):Decidable (isC c):=by unfold isC; infer_instance
theorem of_eq (c:Int):F.EM c=some (if isC c then some (gT c) else none):=by
 unfold F.EM
 by_cases h1:c=1
 ·subst h1; rw[if_pos (by rfl),A5,ae,if_pos (.inl rfl)]
 ·rw[if_neg (by simpa using h1)]
  by_cases h2:c=2
  ·subst h2; rw[if_pos (by rfl),AV,ae,if_pos (.inr rfl)]
  ·rw[if_neg (by simpa using h2),if_neg (by unfold isC; omega)]
section
variable (p:Nat) (b0:Bool) (b1:L0) (n0:Bool) (n1:L0) (x0:Bool) (x1:L0) (y0:Bool) (y1:L0) (s:Int)
theorem og (h:0<p) (hpl:nl (p:Int)<=1000) (z:Int) (g:nl z<=70368744177660) (f:z<0->nl z<=70000000000000) :
  F.Eb (bi (p:Int)).1 (bi (p:Int)).2 b0 b1 n0 n1 x0 x1 y0 y1 s (bi z).1 (bi z).2=some (bi (z%p)):=by
 unfold F.Eb
 rw[wN z p (by omega) g (by omega) f,ae]
theorem kX (f:0<p) (hpl:nl (p:Int)<=1000) (u v:Int) (h:nl u+nl v<=70368744177660) (g:u*v<0->nl u+nl v<=70000000000000) :
  F.Dr (bi (p:Int)).1 (bi (p:Int)).2 b0 b1 n0 n1 x0 x1 y0 y1 s (bi u).1 (bi u).2 (bi v).1 (bi v).2=some (bi (u*v%p)):=by
 have j:=tu u v
 unfold F.Dr
 rw[tf _ _ u v (by omega),ae,og p b0 b1 n0 n1 x0 x1 y0 y1 s f hpl _ (by omega) (fun i=>by have:=g i; omega),ae]
theorem vG (f:0<p) (hpl:nl (p:Int)<=1000) (u v:Int) (g:nl u<=60000000000000) (h:nl v<=60000000000000) :
  F.DE (bi (p:Int)).1 (bi (p:Int)).2 b0 b1 n0 n1 x0 x1 y0 y1 s (bi u).1 (bi u).2 (bi v).1 (bi v).2=some (bi ((u - v)%p)):=by
 have i:=xp u v
 unfold F.DE
 rw[yl _ _ u v (by omega) (by omega),ae,og p b0 b1 n0 n1 x0 x1 y0 y1 s f hpl _ (by omega) (fun _=>by omega),ae]
theorem rf (f:0<p) (hpl:nl (p:Int)<=1000) (k v:Int) (g:0<=k) (j:k<=1000) (i:0<=v) (h:nl v<=70368744177600) :
  F.DQ (bi (p:Int)).1 (bi (p:Int)).2 b0 b1 n0 n1 x0 x1 y0 y1 s k (bi v).1 (bi v).2=some (bi (k*v%p)):=by
 have m:nl k<=1:=r9 (by omega)
 unfold F.DQ
 rw[iq k (by omega) (by omega),ae,kX p b0 b1 n0 n1 x0 x1 y0 y1 s f hpl k v (by omega) (fun o=>by have:=Int.mul_nonneg g i; omega),ae]
end
def onN (p b x y:Nat):Bool:=decide (x<p)&&(decide (y<p)&&decide (y*y%p=((x*(x*x%p)%p+p - 3*x%p)%p+b)%p))
theorem tY (p A B:Nat) (f:A<p) (g:B<p):((A:Int) - (B:Int))%(p:Int)=(((A+p - B)%p:Nat):Int):=by
 rw[Int.natCast_emod,show (((A+p - B:Nat):Int))=(A:Int) - B+p by omega,Int.add_emod_right]
theorem De (p b:Nat) (n0:Bool) (n1:L0) (x0:Bool) (x1:L0) (y0:Bool) (y1:L0) (s:Int) (f:0<p) (hpl:nl (p:Int)<=1000) (U:b<p) (x y:Nat) (V:nl (x:Int)<=35184372087808) (X:nl (y:Int)<=35184372087808) :
  F.I5 (bi (p:Int)).1 (bi (p:Int)).2 (bi (b:Int)).1 (bi (b:Int)).2 n0 n1 x0 x1 y0 y1 s (bi (x:Int)).1 (bi (x:Int)).2 (bi (y:Int)).1 (bi (y:Int)).2=some (onN p b x y):=by
 have g:(0:Int)<(p:Int):=by omega
 have N:nl (b:Int)<=1000:=Nat.le_trans (fb (by omega)) hpl
 have Y:=mJ ((x:Int)*x) g
 have Z:=Int.mul_nonneg (Int.natCast_nonneg x) (Int.natCast_nonneg x)
 have t:=Int.emod_nonneg ((x:Int)*x) (show (p:Int)≠0 by omega)
 have q3:=Int.mul_nonneg (Int.natCast_nonneg x) t
 unfold F.I5
 rw[kX p _ _ n0 n1 x0 x1 y0 y1 s f hpl _ _ (by omega) (fun h=>by omega),ae,kX p _ _ n0 n1 x0 x1 y0 y1 s f hpl _ _ (by omega) (fun h=>by omega),ae,
  rf p _ _ n0 n1 x0 x1 y0 y1 s f hpl 3 _ (by decide) (by decide) (Int.natCast_nonneg x) (by omega),ae]
 have z:=mJ ((x:Int)*((x:Int)*x%p)) g
 have G:=mJ (3*(x:Int)) g
 have I:(x:Int)*((x:Int)*x%p)%p=((x*(x*x%p)%p:Nat):Int):=by rw[Int.natCast_emod,Int.natCast_mul,Int.natCast_emod,Int.natCast_mul]
 have J:3*(x:Int)%p=((3*x%p:Nat):Int):=by rw[Int.natCast_emod,Int.natCast_mul]; rfl
 obtain⟨A,i⟩:∃A,x*(x*x%p)%p=A:=⟨_,rfl⟩
 obtain⟨B,j⟩:∃B,3*x%p=B:=⟨_,rfl⟩
 have m:A<p:=by rw[<-i]; exact Nat.mod_lt _ f
 have o:B<p:=by rw[<-j]; exact Nat.mod_lt _ f
 rw[I,i]at z ⊢
 rw[J,j]at G ⊢
 rw[vG p _ _ n0 n1 x0 x1 y0 y1 s f hpl _ _ (by omega) (by omega),ae,tY p A B m o]
 obtain⟨D,k⟩:∃D,(A+p - B)%p=D:=⟨_,rfl⟩
 have O:D<p:=by rw[<-k]; exact Nat.mod_lt _ f
 have m4:nl (D:Int)<=1000:=Nat.le_trans (fb (by omega)) hpl
 have m5:=tr (D:Int) (b:Int)
 rw[k,pJ _ _ (by omega) (by omega),ae,og p _ _ n0 n1 x0 x1 y0 y1 s f hpl _ (by omega) (fun _=>by omega),ae,px _ _ (by omega) (by omega),ae]
 unfold onN
 rw[i,j,k]
 have q:∀u v:Nat,decide (sA (u:Int) (v:Int)<0)=decide (u<v):=fun u v=>by
  unfold sA
  by_cases h:u<v
  ·rw[if_pos (by omega),decide_eq_true h]; rfl
  ·rw[if_neg (by omega),decide_eq_false h]; split <;> rfl
 rw[q]
 by_cases h1:x<p
 ·rw[decide_eq_true h1,if_pos rfl,px _ _ (by omega) (by omega),ae,q]
  by_cases h2:y<p
  ·have R:nl (y:Int)<=1000:=Nat.le_trans (fb (by omega)) hpl
   have q4:=Int.mul_nonneg (Int.natCast_nonneg y) (Int.natCast_nonneg y)
   have m6:=mJ ((y:Int)*y) g
   have m7:=mJ ((D:Int)+b) g
   rw[decide_eq_true h2,if_pos rfl,kX p _ _ n0 n1 x0 x1 y0 y1 s f hpl _ _ (by omega) (fun h=>by omega),ae,px _ _ (by omega) (by omega),ae]
   have K:(y:Int)*y%p=((y*y%p:Nat):Int):=by rw[Int.natCast_emod,Int.natCast_mul]
   have M:((D:Int)+b)%p=(((D+b)%p:Nat):Int):=by rw[Int.natCast_emod,Int.natCast_add]
   rw[K,M]
   unfold sA
   congr 1
   by_cases h3:y*y%p=(D+b)%p
   ·rw[h3,if_neg (by omega),if_pos rfl]; simp
   ·rw[Bool.true_and,Bool.true_and,decide_eq_false h3,beq_eq_false_iff_ne]
    split
    ·omega
    ·rw[if_neg (by omega)]; omega
  ·rw[decide_eq_false h2,if_neg (by decide)]; rfl
 ·rw[decide_eq_false h1,if_neg (by decide)]; rfl
theorem wC (a:L0) (f:a.length<=35184372087808):F.Fj a=some (bi (val a:Int)):=by
 have g:=jo (val a)
 have h:(an (val a)).length<=a.length:=bl (bv a)
 have i:nby (val a)<=4*a.length:=by unfold nby; omega
 unfold F.Fj
 rw[yz a f,ae,uA _ _ _ (by rw[eE]; omega),ae,kZ,Nat.mod_eq_of_lt (tO _)]
theorem pM (n:Nat) (f:nl (n:Int)<=1000000000):F.DP (bi (n:Int)).1 (bi (n:Int)).2=some (an n):=by
 have g:=jo n
 have h:(an n).length<=1000000000:=by have:=f; unfold nl at this; rwa [Int.natAbs_natCast]at this
 have i:nby n<=4*(an n).length:=by unfold nby; omega
 unfold F.DP
 rw[tC _ f,ae,Int.natAbs_natCast,nk _ (by rw[eE]; omega),ae,kZ,Nat.mod_eq_of_lt (tO _)]
theorem wY (a:L0):nl (val a:Int)<=a.length:=by unfold nl; rw[Int.natAbs_natCast]; exact bl (bv a)
def onS (c:Int) (X Y:L0) (inf:Bool):Bool:=if isC c then (if inf then decide (val X=0)&&decide (val Y=0) else onN (cP c) (cB c) (val X) (val Y)) else false
def rdT (X Y:L0) (inf:Bool):Bool×L0×Bool×L0×Bool×L0:=
 if inf then (false,[],false,[],false,[]) else ((bi (val X:Int)).1,(bi (val X:Int)).2,(bi (val Y:Int)).1,(bi (val Y:Int)).2,(bi 1).1,(bi 1).2)
theorem BH (c:Int) (hc:isC c) (X Y:L0) (f:Bool) (g:X.length<=35184372087808) (i:Y.length<=35184372087808) :
  F.G7 (gT c).1 (gT c).2.1 (gT c).2.2.1 (gT c).2.2.2.1 (gT c).2.2.2.2.1 (gT c).2.2.2.2.2.1 (gT c).2.2.2.2.2.2.1 (gT c).2.2.2.2.2.2.2.1 (gT c).2.2.2.2.2.2.2.2.1 (gT c).2.2.2.2.2.2.2.2.2.1 (gT c).2.2.2.2.2.2.2.2.2.2 X Y f =
   some ((rdT X Y f).1,(rdT X Y f).2.1,(rdT X Y f).2.2.1,(rdT X Y f).2.2.2.1,(rdT X Y f).2.2.2.2.1,(rdT X Y f).2.2.2.2.2,onS c X Y f):=by
 obtain⟨o,m,_,_,_,q,_⟩:=dF c
 have t:=oh c
 unfold F.G7
 rw[wC X g,ae,wC Y i,ae]
 unfold onS rdT
 rw[if_pos hc]
 cases f with
 | true=>
  have j:∀v:Nat,(if ((v:Int))=0 then (0:Int) else if (v:Int)<0 then -1 else 1)=if v=0 then 0 else 1:=fun v=>by
   by_cases h:v=0
   ·rw[if_pos (by omega),if_pos h]
   ·rw[if_neg (by omega),if_neg (by omega),if_neg h]
  have k:∀v:Nat,((if v=0 then (0:Int) else 1) == 0)=decide (v=0):=fun v=>by
   by_cases h:v=0
   ·rw[if_pos h,decide_eq_true h]; rfl
   ·rw[if_neg h,decide_eq_false h]; rfl
  rw[if_pos rfl]
  unfold F.D0
  rw[ae,nV,ae,j]
  show _=some (false,[],false,[],false,[],decide (val X=0)&&decide (val Y=0))
  by_cases h1:val X=0
  ·rw[if_pos h1,if_pos (by rfl),nV,ae,j,k,decide_eq_true h1,Bool.true_and]
  ·rw[if_neg h1,if_neg (by decide),decide_eq_false h1,Bool.false_and]
 | false=>
  rw[if_neg (by decide),iq 1 (by decide) (by decide),ae]
  have h:=De (cP c) (cB c) (bi (cN c:Int)).1 (bi (cN c:Int)).2 (bi (cX c:Int)).1 (bi (cX c:Int)).2 (bi (cY c:Int)).1 (bi (cY c:Int)).2 (cS c) (by omega) (by omega) m (val X) (val Y) (Nat.le_trans (wY X) g) (Nat.le_trans (wY Y) i)
  unfold gT
  dsimp only
  rw[h,ae]
  simp
theorem oT (c:Int) (X Y:L0) (f:Bool) (g:X.length<=35184372087808) (i:Y.length<=35184372087808) :
  F.FT c X Y f=some (if isC c then some ((gT c).1,(gT c).2.1,(gT c).2.2.1,(gT c).2.2.2.1,(gT c).2.2.2.2.1,(gT c).2.2.2.2.2.1,(gT c).2.2.2.2.2.2.1,(gT c).2.2.2.2.2.2.2.1,(gT c).2.2.2.2.2.2.2.2.1,(gT c).2.2.2.2.2.2.2.2.2.1,(gT c).2.2.2.2.2.2.2.2.2.2,
   (rdT X Y f).1,(rdT X Y f).2.1,(rdT X Y f).2.2.1,(rdT X Y f).2.2.2.1,(rdT X Y f).2.2.2.2.1,(rdT X Y f).2.2.2.2.2) else none,onS c X Y f):=by
 unfold F.FT
 rw[of_eq,ae]
 by_cases h:isC c
 ·rw[if_pos h,if_pos h]
  show ah (F.G7 _ _ _ _ _ _ _ _ _ _ _ _ _ _) _=_
  rw[BH c h X Y f g i,ae]
 ·rw[if_neg h,if_neg h]
  unfold onS
  rw[if_neg h]; rfl
theorem C4 (c:Int) (X Y:L0) (f:Bool) (g:X.length<=35184372087808) (h:Y.length<=35184372087808):F.Ic c X Y f=some (onS c X Y f):=by
 unfold F.Ic
 rw[oT c X Y f g h,ae]
 dsimp only
 split <;> rfl
theorem uW (c:Int):F.GE c=some (if isC c then cS c else 0):=by
 unfold F.GE
 rw[of_eq,ae]
 by_cases h:isC c
 ·rw[if_pos h,if_pos h]; rfl
 ·rw[if_neg h,if_neg h]; rfl
theorem o5 (c:Int) {v:Nat} (h:v<cP c):nl (v:Int)<=1000000000:=by
 have:=Nat.le_trans (fb (show ((v:Int)).natAbs<=((cP c:Int)).natAbs by omega)) (oh c)
 omega
theorem za (c:Int):F.Ja c=some (if isC c then an (cN c) else []):=by
 unfold F.Ja
 rw[of_eq,ae]
 by_cases h:isC c
 ·rw[if_pos h,if_pos h]
  show ah (F.DP _ _) _=_
  rw[show (gT c).2.2.2.2.1=(bi (cN c:Int)).1 from rfl,show (gT c).2.2.2.2.2.1=(bi (cN c:Int)).2 from rfl,pM _ (o5 c (dF c).2.2.1),ae]
 ·rw[if_neg h,if_neg h]; rfl
theorem vu (c:Int):F.JB c=some (if isC c then (an (cX c),an (cY c),false) else ([],[],false)):=by
 unfold F.JB
 rw[of_eq,ae]
 by_cases h:isC c
 ·rw[if_pos h,if_pos h]
  show ah (F.DP _ _) _=_
  rw[show (gT c).2.2.2.2.2.2.1=(bi (cX c:Int)).1 from rfl,show (gT c).2.2.2.2.2.2.2.1=(bi (cX c:Int)).2 from rfl,pM _ (o5 c (dF c).2.2.2.1),ae,
   show (gT c).2.2.2.2.2.2.2.2.1=(bi (cY c:Int)).1 from rfl,show (gT c).2.2.2.2.2.2.2.2.2.1=(bi (cY c:Int)).2 from rfl,pM _ (o5 c (dF c).2.2.2.2.1),ae]
 ·rw[if_neg h,if_neg h]; rfl
end Go.Gk.Bn
end

section
namespace Go.Gk.Bn
open Go Go.Gk Go.Gk.Sh
theorem Cp {l:L0} (h:4294967296^(l.length - 1)<=val l):Can l:=by
 intro f
 have g:l≠[]:=by rintro rfl; simp at f
 have i:=List.dropLast_concat_getLast g
 rw[List.getLast?_eq_some_getLast g]at f
 have k:l.getLast g=0:=by simpa using f
 rw[k]at i
 have j:=fX l.dropLast 0
 rw[i]at j
 have m:=bv l.dropLast
 rw[List.length_dropLast]at m
 have:(0:UInt32).toNat=0:=rfl
 rw[this,Nat.mul_zero,Nat.add_zero]at j
 omega
theorem zp (c:UInt8) (h:ep c=true):∃d:UInt32,F.It c=some d/\d.toNat=iT c:=by
 have j:=qP h
 unfold ep at h
 simp only[Bool.or_eq_true,Bool.and_eq_true,decide_eq_true_eq]at h
 unfold F.It
 by_cases h1:97<=c.toNat
 ·refine⟨_,if_pos (decide_eq_true (by rw[UInt8.le_iff_toNat_le]; exact h1)),?_⟩
  have f:(c - 97).toNat=c.toNat - 97:=UInt8.toNat_sub_of_le _ _ (by rw[UInt8.le_iff_toNat_le]; exact h1)
  have g:((c - 97).toUInt32).toNat=c.toNat - 97:=by rw[UInt8.toNat_toUInt32,f]
  have i:(10:UInt32).toNat=10:=rfl
  unfold iT
  rw[if_neg (by omega),UInt32.toNat_add,g,i]; omega
 ·refine⟨_,if_neg (by rw[decide_eq_true_eq,UInt8.le_iff_toNat_le]; exact h1),?_⟩
  have f:(c - 48).toNat=c.toNat - 48:=UInt8.toNat_sub_of_le _ _ (by rw[UInt8.le_iff_toNat_le]; have:(48:UInt8).toNat=48:=rfl; omega)
  unfold iT
  rw[if_pos (by omega),UInt8.toNat_toUInt32,f]
theorem uG (s:L1) (L:L0) (i:Nat) (q:s.all ep=true) (hi:i+8<=s.length) (M:s.length<=1000) (N:L.length<=1000) :
  ∃w:UInt32,loop (F.EY s L ((i+8:Nat):Int)) (0,(i:Int))=some (.inl (L++[w],(i:Int)))/\w.toNat=dM ((s.drop i).take 8):=by
 have t:∀(k:Nat) (f:UInt32) (j:Nat),j+k=8->f.toNat=dM ((s.drop i).take j)->∃w:UInt32,loop (F.EY s L ((i+8:Nat):Int)) (f,((i+j:Nat):Int))=some (.inl (L++[w],(i:Int)))/\w.toNat=dM ((s.drop i).take 8):=by
  intro k
  induction k with
  | zero=>
   intro f j G g
   have:j=8:=by omega
   subst this
   refine⟨f,?_,g⟩
   refine cQ ?_
   have m:wI (((i+8:Nat):Int) - 8)=(i:Int):=by rw[aJ (by omega) (by omega)]; omega
   unfold F.EY
   dsimp only
   rw[if_neg (by simp),ef (by simp; omega),ae,m]; rfl
  | succ k ih=>
   intro f j G g
   have h:i+j<s.length:=by omega
   obtain⟨d,I,y⟩:=zp _ (pa q h)
   have m:wI (((i+j:Nat):Int)+1)=((i+(j+1):Nat):Int):=by rw[aJ (by omega) (by omega)]; omega
   have z:F.EY s L ((i+8:Nat):Int) (f,((i+j:Nat):Int))=some (.inl ((16*f)+d,((i+(j+1):Nat):Int))):=by
    unfold F.EY
    dsimp only
    rw[if_pos (decide_eq_true (by omega)),aP h 0,ae,I,ae,m]; rfl
   rw[bJ z]
   refine ih _ (j+1) (by omega) ?_
   have J:(s.drop i).getD j 0=s.getD (i+j) 0:=by
    rw[List.getD_eq_getElem?_getD,List.getElem?_drop,<-List.getD_eq_getElem?_getD]
   have o:((s.drop i).take (j+1)).all ep=true:=List.all_eq_true.2 fun x K=>List.all_eq_true.1 q x (List.mem_of_mem_drop (List.mem_of_mem_take K))
   have A:=qF _ o
   rw[List.length_take,List.length_drop,Nat.min_eq_left (by omega)]at A
   have O:(16:Nat)^(j+1)<=16^8:=Nat.pow_le_pow_right (by decide) (by omega)
   have R:(16:Nat)^8=4294967296:=rfl
   rw[i2 _ (by rw[List.length_drop]; omega),J]at A ⊢
   have B:(16:UInt32).toNat=16:=rfl
   rw[UInt32.toNat_add,UInt32.toNat_mul,B,g,y]
   omega
 have:=t 8 0 0 rfl (by simp[dM])
 simpa using this
theorem eX (s:L1) (v m:Nat) (h:(s.all ep&&Nat.beq (dM s) v&&Nat.beq s.length (8*m))=true) (G:0<m) (B:m<=100) (t:4294967296^(m - 1)<=v):F.Dw s=some (an v):=by
 simp only[Bool.and_eq_true]at h
 have I:=Nat.eq_of_beq_eq_true h.2
 have i:=Nat.eq_of_beq_eq_true h.1.2
 have j:∀(k:Nat) (L:L0),k<=m->L.length=m - k->val L=dM (s.drop (8*k))->loop (F.Fx s) (L,((8*k:Nat):Int))=some (an v):=by
  intro k
  induction k with
  | zero=>
   intro L x g f
   refine cQ ?_
   unfold F.Fx
   dsimp only
   rw[if_neg (by decide)]
   rw[List.drop_zero,i]at f
   rw[sN f (Cp (by rw[g,f]; exact t))]; rfl
  | succ k ih=>
   intro L x g f
   obtain⟨w,y,z⟩:=uG s L (8*k) h.1.1 (by omega) (by omega) (by omega)
   have o:F.Fx s (L,((8*(k+1):Nat):Int))=some (.inl (L++[w],((8*k:Nat):Int))):=by
    have A:wI (((8*(k+1):Nat):Int) - 8)=((8*k:Nat):Int):=by rw[aJ (by omega) (by omega)]; omega
    unfold F.Fx
    dsimp only
    rw[if_pos (decide_eq_true (by omega)),A]
    exact y
   rw[bJ o]
   refine ih _ (by omega) (by simp; omega) ?_
   have q:=List.take_append_drop 8 (s.drop (8*k))
   rw[List.drop_drop]at q
   rw[fX,g,<-q,kP,<-z,List.length_drop,f,show 8*k+8=8*(k+1) by omega,show s.length - 8*(k+1)=8*(m - (k+1)) by omega,Nat.pow_mul,show (16:Nat)^8=4294967296 from rfl,Nat.mul_comm w.toNat]
   omega
 unfold F.Dw
 rw[show (s.length:Int)=((8*m:Nat):Int) by omega]
 exact j m [] (Nat.le_refl _) (by simp) (by rw[List.drop_of_length_le (by omega)]; rfl)
theorem nn (v:Nat) (h:Nat.ble (4294967296^7) v=true):4294967296^(8 - 1)<=v:=Nat.le_of_ble_eq_true h
theorem nN (v:Nat) (h:Nat.ble (4294967296^11) v=true):4294967296^(12 - 1)<=v:=Nat.le_of_ble_eq_true h
theorem ji (c:Int):F.D5 c=some (if isC c then an (cP c) else []):=by
 have h:F.D5 c=if (c == 1)=true then (ah (F.Dw qb) fun f=>some f) else if (c == 2)=true then (ah (F.Dw pL) fun g=>some g) else some []:=rfl
 rw[h]
 by_cases h1:c=1
 ·subst h1; rw[if_pos (by rfl),eX _ _ 8 tH (by decide) (by decide) (nn _ (by decide +kernel)),ae,if_pos (.inl rfl)]; rfl
 ·rw[if_neg (by simpa using h1)]
  by_cases h2:c=2
  ·subst h2; rw[if_pos (by rfl),eX _ _ 12 tx (by decide) (by decide) (nN _ (by decide +kernel)),ae,if_pos (.inr rfl)]; rfl
  ·rw[if_neg (by simpa using h2),if_neg (by unfold isC; omega)]
theorem yA (c:Int):F.H9 c=some (if isC c then an (cN c) else []):=by
 have h:F.H9 c=if (c == 1)=true then (ah (F.Dw pA) fun f=>some f) else if (c == 2)=true then (ah (F.Dw pj) fun g=>some g) else some []:=rfl
 rw[h]
 by_cases h1:c=1
 ·subst h1; rw[if_pos (by rfl),eX _ _ 8 sc (by decide) (by decide) (nn _ (by decide +kernel)),ae,if_pos (.inl rfl)]; rfl
 ·rw[if_neg (by simpa using h1)]
  by_cases h2:c=2
  ·subst h2; rw[if_pos (by rfl),eX _ _ 12 ue (by decide) (by decide) (nN _ (by decide +kernel)),ae,if_pos (.inr rfl)]; rfl
  ·rw[if_neg (by simpa using h2),if_neg (by unfold isC; omega)]
theorem C3 (c:Int) (hc:isC c):F.Io c=some (an (cB c)):=by
 have h:F.Io c=if (c == 1)=true then (ah (F.Dw pO) fun g=>some g) else (ah (F.Dw qf) fun i=>some i):=rfl
 rw[h]
 rcases hc with f | f
 ·subst f; rw[if_pos (by rfl),eX _ _ 8 sP (by decide) (by decide) (nn _ (by decide +kernel)),ae]; rfl
 ·subst f; rw[if_neg (by decide),eX _ _ 12 sZ (by decide) (by decide) (nN _ (by decide +kernel)),ae]; rfl
theorem zP (c:Int):F.Jf c=some (if isC c then (an (cX c),an (cY c),false) else ([],[],false)):=by
 have h:F.Jf c=if (c == 1)=true then (ah (F.Dw qa) fun g=>ah (F.Dw pD) fun i=>some (g,i,false)) else
  if (c == 2)=true then (ah (F.Dw pt) fun j=>ah (F.Dw pp) fun f=>some (j,f,false)) else some ([],[],false):=rfl
 rw[h]
 by_cases h1:c=1
 ·subst h1; rw[if_pos (by rfl),eX _ _ 8 sh (by decide) (by decide) (nn _ (by decide +kernel)),ae,eX _ _ 8 sM (by decide) (by decide) (nn _ (by decide +kernel)),ae,if_pos (.inl rfl)]; rfl
 ·rw[if_neg (by simpa using h1)]
  by_cases h2:c=2
  ·subst h2; rw[if_pos (by rfl),eX _ _ 12 sW (by decide) (by decide) (nN _ (by decide +kernel)),ae,eX _ _ 12 tT (by decide) (by decide) (nN _ (by decide +kernel)),ae,if_pos (.inr rfl)]; rfl
  ·rw[if_neg (by simpa using h2),if_neg (by unfold isC; omega)]
theorem lF (c:Int):F.D3 c=some (if isC c then cS c else 0):=by
 unfold F.D3
 by_cases h1:c=1
 ·subst h1; rw[if_pos (by rfl),if_pos (.inl rfl)]; rfl
 ·rw[if_neg (by simpa using h1)]
  by_cases h2:c=2
  ·subst h2; rw[if_pos (by rfl),if_pos (.inr rfl)]; rfl
  ·rw[if_neg (by simpa using h2),if_neg (by unfold isC; omega)]
theorem uE (a:L0) (n:Nat) (k:n<=a.length) (m:a.length<=50000000000000):loop (F.EN a (n:Int)) ([],0)=some (a.take n):=by
 have e:=ca (f:=F.EN a (n:Int)) (fun (x:L0) i=>(x,(i:Int))) (fun i x=>i<=n->x=a.take i) (fun x i=>x++[a.getD i 0]) 0 n
  (X:=fun x=>some x)
  (fun i x _ hi g=>by
   have g:=g (by omega)
   refine⟨?_,fun _=>by rw[g,je (by omega)]⟩
   have j:wI ((i:Int)+1)=((i+1:Nat):Int):=by rw[aJ (by omega) (by omega)]; rfl
   unfold F.EN
   dsimp only
   rw[if_pos (decide_eq_true (by omega)),aP (show i<a.length by omega) 0,ae,ef (by rw[g]; simp; omega),ae,j]; rfl)
  (fun x g=>by
   unfold F.EN
   dsimp only
   rw[if_neg (by simp)])
  n 0 [] (Nat.le_refl _) (by omega) (fun _=>by simp)
 have h:=cG (fun i (x:L0)=>i<=n->x=a.take i) (fun x i=>x++[a.getD i 0]) (fun i x g=>fun hi=>by rw[g (by omega),je (by omega)]) n 0 [] (fun _=>by simp)
 rw[Nat.zero_add]at h
 rw[h (Nat.le_refl _)]at e
 exact e
theorem rq (a:L0) (j:a.length<=50000000000000):F.G1 a=some (an (val a)):=by
 unfold F.G1
 obtain⟨n,g,k,m⟩:=nf (f:=F.I9 a) a (fun i=>loop (F.EN a i) ([],0)) (by omega) (fun n g=>by
  unfold F.I9 F.I1
  by_cases h0:n=0
  ·subst h0
   rw[if_neg (by simp),if_neg (by simp)]
   rfl
  ·have o:wI ((n:Int) - 1)=((n - 1:Nat):Int):=by rw[aJ (by omega) (by omega)]; omega
   rw[if_pos (decide_eq_true (by omega)),o,aP (show n - 1<a.length by omega) 0,ae]
   by_cases hz:a.getD (n - 1) 0=0
   ·rw[if_pos (show n≠0/\a.getD (n - 1) 0=0 from⟨h0,hz⟩),if_pos (show (a.getD (n - 1) 0 == 0)=true from by rw[hz]; rfl)]; rfl
   ·rw[if_neg (show ¬(n≠0/\a.getD (n - 1) 0=0) from fun h=>hz h.2),if_neg (show ¬(a.getD (n - 1) 0 == 0)=true from fun h=>hz (eq_of_beq h))])
 rw[m,uE a n g j,k]
theorem d9 (c:Int) {v:Nat} (h:v<=cP c):(an v).length<=12:=bl (by have:=(dF c).1; omega)
theorem n7 (c:Int) (hc:isC c) (a b:L0) (f:a.length<=128) (g:b.length<=128):F.EU c a b=some (an (val a*val b%cP c)):=by
 unfold F.EU
 have:=(dF c).2.2.2.2.2.1
 rw[ji,if_pos hc,ae,Bt a b _ f g (Nat.le_trans (d9 c (Nat.le_refl _)) (by decide)) (by rw[ar]; omega),ae,ar]
theorem BK (c:Int) (hc:isC c) (a b:L0) (f:a.length<=128) (g:b.length<=128):F.I7 c a b=some (an ((val a+val b)%cP c)):=by
 unfold F.I7
 have:=(dF c).2.2.2.2.2.1
 rw[ji,if_pos hc,ae,Bb a b _ f g (Nat.le_trans (d9 c (Nat.le_refl _)) (by decide)) (by rw[ar]; omega),ae,ar]
theorem Bg (c:Int) (hc:isC c) (a b:L0) (f:a.length<=128) (g:b.length<=128):F.HZ c a b=some (an ((val a%cP c+cP c - val b%cP c)%cP c)):=by
 unfold F.HZ
 have:=(dF c).2.2.2.2.2.1
 rw[ji,if_pos hc,ae,vl a b _ f g (Nat.le_trans (d9 c (Nat.le_refl _)) (by decide)) (by rw[ar]; omega),ae,ar]
theorem xi (c:Int) (X Y:L0) (g:Bool) (k:X.length<=50000000000000) (m:Y.length<=50000000000000):F.Hk c X Y g=some (onS c X Y g):=by
 unfold F.Hk onS
 rw[lF,ae]
 by_cases hc:isC c
 ·have o:((if isC c then cS c else 0) == (0:Int))=false:=by
   rw[if_pos hc]; unfold cS; split <;> rfl
  have y:=(dF c).2.2.2.2.2.1
  rw[o,if_neg (by decide),rq X k,ae,rq Y m,ae,if_pos hc]
  have lx:(an (val X)).length<=X.length:=bl (bv X)
  have J:(an (val Y)).length<=Y.length:=bl (bv Y)
  cases g with
  | true=>
   rw[if_pos rfl,if_pos rfl]
   have i:∀v:Nat,(((an v).length:Int) == 0)=decide (v=0):=fun v=>by
    by_cases h:v=0
    ·subst h; rw[bR]; rfl
    ·have:=fu.2 h
     rw[decide_eq_false h,beq_eq_false_iff_ne]; omega
   rw[i,i]
   by_cases h1:val X=0
   ·rw[decide_eq_true h1,if_pos rfl]; rfl
   ·rw[decide_eq_false h1,if_neg (by decide)]; rfl
  | false=>
   rw[if_neg (by decide),if_neg (by decide)]
   have K:=d9 c (Nat.le_refl (cP c))
   have j:∀u v:Nat,decide ((0:Int)<=cD u v) = !decide (u<v):=fun u v=>by
    unfold cD
    by_cases h:u<v
    ·rw[if_pos h,decide_eq_true h]; rfl
    ·rw[if_neg h,decide_eq_false h]; split <;> rfl
   rw[ji,if_pos hc,ae,qO _ _ (by omega) (by omega),ae,ar,ar,j]
   unfold onN
   by_cases h1:val X<cP c
   ·rw[decide_eq_true h1,if_neg (by decide),ae,qO _ _ (by omega) (by omega),ae,ar,ar,j]
    unfold F.HR
    by_cases h2:val Y<cP c
    ·have z:=d9 c (Nat.le_of_lt h1)
     have A:=d9 c (Nat.le_of_lt h2)
     have f:∀v,(an (v%cP c)).length<=12:=fun v=>d9 c (Nat.le_of_lt (Nat.mod_lt _ (by omega)))
     have B:=d9 c (Nat.le_of_lt (dF c).2.1)
     have q:val [3]=3:=rfl
     rw[decide_eq_true h2,if_neg (by decide),n7 c hc _ _ (by omega) (by omega),ae,n7 c hc _ _ (by omega) (by have:=f (val (an (val X))*val (an (val X))); omega),ae,n7 c hc _ _ (by simp) (by omega),ae,
      Bg c hc _ _ (by have:=f (val (an (val X))*val (an (val (an (val X))*val (an (val X))%cP c))); omega) (by have:=f (val [3]*val (an (val X))); omega),ae,C3 c hc,ae]
     simp only[ar,q]
     rw[BK c hc _ _ (by have:=f (val X*(val X*val X%cP c)%cP c%cP c+cP c - 3*val X%cP c%cP c); omega) (by omega),ae,n7 c hc _ _ (by omega) (by omega),ae]
     simp only[ar]
     have G:=f (val Y*val Y)
     have I:=f ((val X*(val X*val X%cP c)%cP c%cP c+cP c - 3*val X%cP c%cP c)%cP c+cB c)
     rw[qO _ _ (by omega) (by omega),ae,ar,ar,Nat.mod_mod,Nat.mod_mod,Bool.true_and,Bool.true_and]
     congr 1
     unfold cD
     obtain⟨u,t⟩:∃u,val Y*val Y%cP c=u:=⟨_,rfl⟩
     obtain⟨v,x⟩:∃v,((val X*(val X*val X%cP c)%cP c+cP c - 3*val X%cP c)%cP c+cB c)%cP c=v:=⟨_,rfl⟩
     rw[t,x]
     by_cases h3:u=v
     ·rw[h3,if_neg (by omega),if_pos rfl,decide_eq_true rfl]; rfl
     ·rw[decide_eq_false h3,beq_eq_false_iff_ne]
      split
      ·omega
      ·omega
    ·rw[decide_eq_false h2,if_pos (by decide)]; rfl
   ·rw[decide_eq_false h1,if_pos (by decide)]
    unfold F.HR
    rw[if_pos rfl]; rfl
 ·rw[if_neg hc,if_pos (by rfl),if_neg hc]
end Go.Gk.Bn
end

section
namespace Go.Gk.Bn
open Go Go.Gk Go.Gk.Sh
theorem yM {ρ:Type} {f:Int->Option (Int⊕ρ)} {n:Nat} {r:ρ} (g:∀i:Nat,i<n->f (i:Int)=some (.inl ((i:Int)+1))) (h:f (n:Int)=some (.inr r)):loop f 0=some r:=by
 have:=AN g h 0 (Nat.zero_le _)
 simpa using this
end Go.Gk.Bn
end
