import Derived.Test.YtmegjloifgfldaaGreatDoorGkFman
import Derived.Test.YtmegjloifgfldaaGreatDoorGkUE
set_option linter.unusedVariables false
set_option linter.unusedSimpArgs false
set_option linter.unusedSectionVars false

section
namespace Go.Gk.Bn
open Go Go.Gk Go.Gk.Sh
def tL:Q1:=[102,102,102,102,102,102,102,102,48,48,48,48,48,48,48,49,48,48,48,48,48,48,48,48,48,48,48,48,48,48,48,48,48,48,48,48,48,48,48,48,102,102,102,102,102,102,102,102,102,102,102,102,102,102,102,102,102,102,102,102,102,102,102,102]
def CX:Nat:=0xffffffff00000001000000000000000000000000ffffffffffffffffffffffff
theorem Cs:(tL.all fh&&Nat.beq (dV tL) CX&&Nat.beq tL.length 64)=true:=by decide +kernel
def tG:Q1:=[53,97,99,54,51,53,100,56,97,97,51,97,57,51,101,55,98,51,101,98,98,100,53,53,55,54,57,56,56,54,98,99,54,53,49,100,48,54,98,48,99,99,53,51,98,48,102,54,51,98,99,101,51,99,51,101,50,55,100,50,54,48,52,98]
def CV:Nat:=0x5ac635d8aa3a93e7b3ebbd55769886bc651d06b0cc53b0f63bce3c3e27d2604b
theorem BI:(tG.all fh&&Nat.beq (dV tG) CV&&Nat.beq tG.length 64)=true:=by decide +kernel
def tD:Q1:=[102,102,102,102,102,102,102,102,48,48,48,48,48,48,48,48,102,102,102,102,102,102,102,102,102,102,102,102,102,102,102,102,98,99,101,54,102,97,97,100,97,55,49,55,57,101,56,52,102,51,98,57,99,97,99,50,102,99,54,51,50,53,53,49]
def C2:Nat:=0xffffffff00000000ffffffffffffffffbce6faada7179e84f3b9cac2fc632551
theorem A8:(tD.all fh&&Nat.beq (dV tD) C2&&Nat.beq tD.length 64)=true:=by decide +kernel
def tK:Q1:=[54,98,49,55,100,49,102,50,101,49,50,99,52,50,52,55,102,56,98,99,101,54,101,53,54,51,97,52,52,48,102,50,55,55,48,51,55,100,56,49,50,100,101,98,51,51,97,48,102,52,97,49,51,57,52,53,100,56,57,56,99,50,57,54]
def Dk:Nat:=0x6b17d1f2e12c4247f8bce6e563a440f277037d812deb33a0f4a13945d898c296
theorem Bl:(tK.all fh&&Nat.beq (dV tK) Dk&&Nat.beq tK.length 64)=true:=by decide +kernel
def tE:Q1:=[52,102,101,51,52,50,101,50,102,101,49,97,55,102,57,98,56,101,101,55,101,98,52,97,55,99,48,102,57,101,49,54,50,98,99,101,51,51,53,55,54,98,51,49,53,101,99,101,99,98,98,54,52,48,54,56,51,55,98,102,53,49,102,53]
def C9:Nat:=0x4fe342e2fe1a7f9b8ee7eb4a7c0f9e162bce33576b315ececbb6406837bf51f5
theorem BG:(tE.all fh&&Nat.beq (dV tE) C9&&Nat.beq tE.length 64)=true:=by decide +kernel
def tF:Q1:=[102,102,102,102,102,102,102,102,102,102,102,102,102,102,102,102,102,102,102,102,102,102,102,102,102,102,102,102,102,102,102,102,102,102,102,102,102,102,102,102,102,102,102,102,102,102,102,102,102,102,102,102,102,102,102,102,102,102,102,102,102,102,102,101,102,102,102,102,102,102,102,102,48,48,48,48,48,48,48,48,48,48,48,48,48,48,48,48,102,102,102,102,102,102,102,102]
def C1:Nat:=0xfffffffffffffffffffffffffffffffffffffffffffffffffffffffffffffffeffffffff0000000000000000ffffffff
theorem Cg:(tF.all fh&&Nat.beq (dV tF) C1&&Nat.beq tF.length 96)=true:=by decide +kernel
def tN:Q1:=[98,51,51,49,50,102,97,55,101,50,51,101,101,55,101,52,57,56,56,101,48,53,54,98,101,51,102,56,50,100,49,57,49,56,49,100,57,99,54,101,102,101,56,49,52,49,49,50,48,51,49,52,48,56,56,102,53,48,49,51,56,55,53,97,99,54,53,54,51,57,56,100,56,97,50,101,100,49,57,100,50,97,56,53,99,56,101,100,100,51,101,99,50,97,101,102]
def C8:Nat:=0xb3312fa7e23ee7e4988e056be3f82d19181d9c6efe8141120314088f5013875ac656398d8a2ed19d2a85c8edd3ec2aef
theorem BQ:(tN.all fh&&Nat.beq (dV tN) C8&&Nat.beq tN.length 96)=true:=by decide +kernel
def tz:Q1:=[102,102,102,102,102,102,102,102,102,102,102,102,102,102,102,102,102,102,102,102,102,102,102,102,102,102,102,102,102,102,102,102,102,102,102,102,102,102,102,102,102,102,102,102,102,102,102,102,99,55,54,51,52,100,56,49,102,52,51,55,50,100,100,102,53,56,49,97,48,100,98,50,52,56,98,48,97,55,55,97,101,99,101,99,49,57,54,97,99,99,99,53,50,57,55,51]
def CY:Nat:=0xffffffffffffffffffffffffffffffffffffffffffffffffc7634d81f4372ddf581a0db248b0a77aecec196accc52973
theorem CJ:(tz.all fh&&Nat.beq (dV tz) CY&&Nat.beq tz.length 96)=true:=by decide +kernel
def tB:Q1:=[97,97,56,55,99,97,50,50,98,101,56,98,48,53,51,55,56,101,98,49,99,55,49,101,102,51,50,48,97,100,55,52,54,101,49,100,51,98,54,50,56,98,97,55,57,98,57,56,53,57,102,55,52,49,101,48,56,50,53,52,50,97,51,56,53,53,48,50,102,50,53,100,98,102,53,53,50,57,54,99,51,97,53,52,53,101,51,56,55,50,55,54,48,97,98,55]
def C7:Nat:=0xaa87ca22be8b05378eb1c71ef320ad746e1d3b628ba79b9859f741e082542a385502f25dbf55296c3a545e3872760ab7
theorem BN:(tB.all fh&&Nat.beq (dV tB) C7&&Nat.beq tB.length 96)=true:=by decide +kernel
def tA:Q1:=[51,54,49,55,100,101,52,97,57,54,50,54,50,99,54,102,53,100,57,101,57,56,98,102,57,50,57,50,100,99,50,57,102,56,102,52,49,100,98,100,50,56,57,97,49,52,55,99,101,57,100,97,51,49,49,51,98,53,102,48,98,56,99,48,48,97,54,48,98,49,99,101,49,100,55,101,56,49,57,100,55,97,52,51,49,100,55,99,57,48,101,97,48,101,53,102]
def C4:Nat:=0x3617de4a96262c6f5d9e98bf9292dc29f8f41dbd289a147ce9da3113b5f0b8c00a60b1ce1d7e819d7a431d7c90ea0e5f
theorem CD:(tA.all fh&&Nat.beq (dV tA) C4&&Nat.beq tA.length 96)=true:=by decide +kernel
def cP (c:Int):Nat:=if c=1 then CX else C1
def cB (c:Int):Nat:=if c=1 then CV else C8
def cN (c:Int):Nat:=if c=1 then C2 else CY
def cX (c:Int):Nat:=if c=1 then Dk else C7
def cY (c:Int):Nat:=if c=1 then C9 else C4
def cS (c:Int):Int:=if c=1 then 32 else 48
theorem fV (c:Int):cP c<4294967296^12/\cB c<cP c/\cN c<cP c/\cX c<cP c/\cY c<cP c/\4<cP c/\4<cN c:=by
 unfold cP cB cN cX cY
 by_cases h:c=1
 ·simp only[if_pos h]; decide +kernel
 ·simp only[if_neg h]; decide +kernel
theorem oT (c:Int):nl (cP c:Int)<=12:=tJ (by have:=(fV c).1; omega)
theorem eM (s:Q1) (v m:Nat) (h:(s.all fh&&Nat.beq (dV s) v&&Nat.beq s.length m)=true) (hm:0<m) (g:m<=1000):F.GC s=some ((bi (v:Int)).1,(bi (v:Int)).2):=by
 simp only[Bool.and_eq_true]at h
 have hl:=Nat.eq_of_beq_eq_true h.2
 unfold F.GC
 rw[tY _ _ s h.1.1 (by intro f; rw[f]at hl; simp at hl; omega) (by omega),ae,Nat.eq_of_beq_eq_true h.1.2,zM]
def gT (c:Int):Bool×Q0×Bool×Q0×Bool×Q0×Bool×Q0×Bool×Q0×Int:=
 ((bi (cP c:Int)).1,(bi (cP c:Int)).2,(bi (cB c:Int)).1,(bi (cB c:Int)).2,(bi (cN c:Int)).1,(bi (cN c:Int)).2,(bi (cX c:Int)).1,(bi (cX c:Int)).2,(bi (cY c:Int)).1,(bi (cY c:Int)).2,cS c)
theorem DJ:F.KQ=some (gT 1):=by
 have h:F.KQ=ah (F.GC tL) fun j=>ah (F.GC tG) fun k=>ah (F.GC tD) fun f=>ah (F.GC tK) fun g=>ah (F.GC tE) fun i=>
   some (j.1,j.2,k.1,k.2,f.1,f.2,g.1,g.2,i.1,i.2,32):=rfl
 rw[h,eM _ _ _ Cs (by decide) (by decide),ae,eM _ _ _ BI (by decide) (by decide),ae,eM _ _ _ A8 (by decide) (by decide),ae,eM _ _ _ Bl (by decide) (by decide),ae,eM _ _ _ BG (by decide) (by decide),ae]
 rfl
theorem DB:F.LL=some (gT 2):=by
 have h:F.LL=ah (F.GC tF) fun j=>ah (F.GC tN) fun k=>ah (F.GC tz) fun f=>ah (F.GC tB) fun g=>ah (F.GC tA) fun i=>
   some (j.1,j.2,k.1,k.2,f.1,f.2,g.1,g.2,i.1,i.2,48):=rfl
 rw[h,eM _ _ _ Cg (by decide) (by decide),ae,eM _ _ _ BQ (by decide) (by decide),ae,eM _ _ _ CJ (by decide) (by decide),ae,eM _ _ _ BN (by decide) (by decide),ae,eM _ _ _ CD (by decide) (by decide),ae]
 rfl
def isC (c:Int):Prop:=c=1\/c=2
instance (c:Int):Decidable (isC c):=by unfold isC; infer_instance
theorem of_eq (c:Int):F.HU c=some (if isC c then some (gT c) else none):=by
 unfold F.HU
 by_cases h1:c=1
 ·subst h1; rw[if_pos (by rfl),DJ,ae,if_pos (.inl rfl)]
 ·rw[if_neg (by simpa using h1)]
  by_cases h2:c=2
  ·subst h2; rw[if_pos (by rfl),DB,ae,if_pos (.inr rfl)]
  ·rw[if_neg (by simpa using h2),if_neg (by unfold isC; omega)]
section
variable (p:Nat) (b0:Bool) (b1:Q0) (n0:Bool) (n1:Q0) (x0:Bool) (x1:Q0) (y0:Bool) (y1:Q0) (s:Int)
theorem oS (h:0<p) (hpl:nl (p:Int)<=1000) (z:Int) (g:nl z<=70368744177660) (f:z<0->nl z<=70000000000000) :
  F.Hm (bi (p:Int)).1 (bi (p:Int)).2 b0 b1 n0 n1 x0 x1 y0 y1 s (bi z).1 (bi z).2=some (bi (z%p)):=by
 unfold F.Hm
 rw[zd z p (by omega) g (by omega) f,ae]
theorem lM (f:0<p) (hpl:nl (p:Int)<=1000) (u v:Int) (h:nl u+nl v<=70368744177660) (g:u*v<0->nl u+nl v<=70000000000000) :
  F.Gy (bi (p:Int)).1 (bi (p:Int)).2 b0 b1 n0 n1 x0 x1 y0 y1 s (bi u).1 (bi u).2 (bi v).1 (bi v).2=some (bi (u*v%p)):=by
 have hm:=u5 u v
 unfold F.Gy
 rw[uO _ _ u v (by omega),ae,oS p b0 b1 n0 n1 x0 x1 y0 y1 s f hpl _ (by omega) (fun i=>by have:=g i; omega),ae]
theorem xJ (f:0<p) (hpl:nl (p:Int)<=1000) (u v:Int) (g:nl u<=60000000000000) (h:nl v<=60000000000000) :
  F.GM (bi (p:Int)).1 (bi (p:Int)).2 b0 b1 n0 n1 x0 x1 y0 y1 s (bi u).1 (bi u).2 (bi v).1 (bi v).2=some (bi ((u - v)%p)):=by
 have hm:=zL u v
 unfold F.GM
 rw[AI _ _ u v (by omega) (by omega),ae,oS p b0 b1 n0 n1 x0 x1 y0 y1 s f hpl _ (by omega) (fun _=>by omega),ae]
theorem ss (f:0<p) (hpl:nl (p:Int)<=1000) (k v:Int) (g:0<=k) (j:k<=1000) (i:0<=v) (h:nl v<=70368744177600) :
  F.GW (bi (p:Int)).1 (bi (p:Int)).2 b0 b1 n0 n1 x0 x1 y0 y1 s k (bi v).1 (bi v).2=some (bi (k*v%p)):=by
 have o:nl k<=1:=tJ (by omega)
 unfold F.GW
 rw[iM k (by omega) (by omega),ae,lM p b0 b1 n0 n1 x0 x1 y0 y1 s f hpl k v (by omega) (fun t=>by have:=Int.mul_nonneg g i; omega),ae]
end
def onN (p b x y:Nat):Bool:=decide (x<p)&&(decide (y<p)&&decide (y*y%p=((x*(x*x%p)%p+p - 3*x%p)%p+b)%p))
theorem vO (p A B:Nat) (f:A<p) (g:B<p):((A:Int) - (B:Int))%(p:Int)=(((A+p - B)%p:Nat):Int):=by
 rw[Int.natCast_emod,show (((A+p - B:Nat):Int))=(A:Int) - B+p by omega,Int.add_emod_right]
theorem Dl (p b:Nat) (n0:Bool) (n1:Q0) (x0:Bool) (x1:Q0) (y0:Bool) (y1:Q0) (s:Int) (f:0<p) (hpl:nl (p:Int)<=1000) (hb:b<p) (x y:Nat) (hx:nl (x:Int)<=35184372087808) (hy:nl (y:Int)<=35184372087808) :
  F.IZ (bi (p:Int)).1 (bi (p:Int)).2 (bi (b:Int)).1 (bi (b:Int)).2 n0 n1 x0 x1 y0 y1 s (bi (x:Int)).1 (bi (x:Int)).2 (bi (y:Int)).1 (bi (y:Int)).2=some (onN p b x y):=by
 have g:(0:Int)<(p:Int):=by omega
 have R:nl (b:Int)<=1000:=Nat.le_trans (fM (by omega)) hpl
 have X:=nv ((x:Int)*x) g
 have Y:=Int.mul_nonneg (Int.natCast_nonneg x) (Int.natCast_nonneg x)
 have G:=Int.emod_nonneg ((x:Int)*x) (show (p:Int)≠0 by omega)
 have Z:=Int.mul_nonneg (Int.natCast_nonneg x) G
 unfold F.IZ
 rw[lM p _ _ n0 n1 x0 x1 y0 y1 s f hpl _ _ (by omega) (fun h=>by omega),ae,lM p _ _ n0 n1 x0 x1 y0 y1 s f hpl _ _ (by omega) (fun h=>by omega),ae,
  ss p _ _ n0 n1 x0 x1 y0 y1 s f hpl 3 _ (by decide) (by decide) (Int.natCast_nonneg x) (by omega),ae]
 have I:=nv ((x:Int)*((x:Int)*x%p)) g
 have J:=nv (3*(x:Int)) g
 have K:(x:Int)*((x:Int)*x%p)%p=((x*(x*x%p)%p:Nat):Int):=by rw[Int.natCast_emod,Int.natCast_mul,Int.natCast_emod,Int.natCast_mul]
 have M:3*(x:Int)%p=((3*x%p:Nat):Int):=by rw[Int.natCast_emod,Int.natCast_mul]; rfl
 obtain⟨A,i⟩:∃A,x*(x*x%p)%p=A:=⟨_,rfl⟩
 obtain⟨B,j⟩:∃B,3*x%p=B:=⟨_,rfl⟩
 have o:A<p:=by rw[<-i]; exact Nat.mod_lt _ f
 have t:B<p:=by rw[<-j]; exact Nat.mod_lt _ f
 rw[K,i]at I ⊢
 rw[M,j]at J ⊢
 rw[xJ p _ _ n0 n1 x0 x1 y0 y1 s f hpl _ _ (by omega) (by omega),ae,vO p A B o t]
 obtain⟨D,k⟩:∃D,(A+p - B)%p=D:=⟨_,rfl⟩
 have U:D<p:=by rw[<-k]; exact Nat.mod_lt _ f
 have m4:nl (D:Int)<=1000:=Nat.le_trans (fM (by omega)) hpl
 have m5:=uX (D:Int) (b:Int)
 rw[k,qE _ _ (by omega) (by omega),ae,oS p _ _ n0 n1 x0 x1 y0 y1 s f hpl _ (by omega) (fun _=>by omega),ae,qx _ _ (by omega) (by omega),ae]
 unfold onN
 rw[i,j,k]
 have z:∀u v:Nat,decide (ui (u:Int) (v:Int)<0)=decide (u<v):=fun u v=>by
  unfold ui
  by_cases h:u<v
  ·rw[if_pos (by omega),decide_eq_true h]; rfl
  ·rw[if_neg (by omega),decide_eq_false h]; split <;> rfl
 rw[z]
 by_cases h1:x<p
 ·rw[decide_eq_true h1,if_pos rfl,qx _ _ (by omega) (by omega),ae,z]
  by_cases h2:y<p
  ·have V:nl (y:Int)<=1000:=Nat.le_trans (fM (by omega)) hpl
   have q4:=Int.mul_nonneg (Int.natCast_nonneg y) (Int.natCast_nonneg y)
   have m6:=nv ((y:Int)*y) g
   have m7:=nv ((D:Int)+b) g
   rw[decide_eq_true h2,if_pos rfl,lM p _ _ n0 n1 x0 x1 y0 y1 s f hpl _ _ (by omega) (fun h=>by omega),ae,qx _ _ (by omega) (by omega),ae]
   have N:(y:Int)*y%p=((y*y%p:Nat):Int):=by rw[Int.natCast_emod,Int.natCast_mul]
   have O:((D:Int)+b)%p=(((D+b)%p:Nat):Int):=by rw[Int.natCast_emod,Int.natCast_add]
   rw[N,O]
   unfold ui
   congr 1
   by_cases h3:y*y%p=(D+b)%p
   ·rw[h3,if_neg (by omega),if_pos rfl]; simp
   ·rw[Bool.true_and,Bool.true_and,decide_eq_false h3,beq_eq_false_iff_ne]
    split
    ·omega
    ·rw[if_neg (by omega)]; omega
  ·rw[decide_eq_false h2,if_neg (by decide)]; rfl
 ·rw[decide_eq_false h1,if_neg (by decide)]; rfl
theorem yK (a:Q0) (ha:a.length<=35184372087808):F.In a=some (bi (val a:Int)):=by
 have f:=ib (val a)
 have g:(ao (val a)).length<=a.length:=ba (bD a)
 have h:nby (val a)<=4*a.length:=by unfold nby; omega
 unfold F.In
 rw[AY a ha,ae,lH _ _ _ (by rw[gL]; omega),ae,rF,Nat.mod_eq_of_lt (q7 _)]
theorem Ad (n:Nat) (hn:nl (n:Int)<=1000000000):F.Ht (bi (n:Int)).1 (bi (n:Int)).2=some (ao n):=by
 have f:=ib n
 have g:(ao n).length<=1000000000:=by have:=hn; unfold nl at this; rwa [Int.natAbs_natCast]at this
 have h:nby n<=4*(ao n).length:=by unfold nby; omega
 unfold F.Ht
 rw[Cj _ hn,ae,Int.natAbs_natCast,cz _ (by rw[gL]; omega),ae,rF,Nat.mod_eq_of_lt (q7 _)]
theorem zm (a:Q0):nl (val a:Int)<=a.length:=by unfold nl; rw[Int.natAbs_natCast]; exact ba (bD a)
def onS (c:Int) (X Y:Q0) (inf:Bool):Bool:=if isC c then (if inf then decide (val X=0)&&decide (val Y=0) else onN (cP c) (cB c) (val X) (val Y)) else false
def rdT (X Y:Q0) (inf:Bool):Bool×Q0×Bool×Q0×Bool×Q0:=
 if inf then (false,[],false,[],false,[]) else ((bi (val X:Int)).1,(bi (val X:Int)).2,(bi (val Y:Int)).1,(bi (val Y:Int)).2,(bi 1).1,(bi 1).2)
theorem Em (c:Int) (hc:isC c) (X Y:Q0) (f:Bool) (g:X.length<=35184372087808) (i:Y.length<=35184372087808) :
  F.JM (gT c).1 (gT c).2.1 (gT c).2.2.1 (gT c).2.2.2.1 (gT c).2.2.2.2.1 (gT c).2.2.2.2.2.1 (gT c).2.2.2.2.2.2.1 (gT c).2.2.2.2.2.2.2.1 (gT c).2.2.2.2.2.2.2.2.1 (gT c).2.2.2.2.2.2.2.2.2.1 (gT c).2.2.2.2.2.2.2.2.2.2 X Y f =
   some ((rdT X Y f).1,(rdT X Y f).2.1,(rdT X Y f).2.2.1,(rdT X Y f).2.2.2.1,(rdT X Y f).2.2.2.2.1,(rdT X Y f).2.2.2.2.2,onS c X Y f):=by
 obtain⟨o,k,_,_,_,t,_⟩:=fV c
 have z:=oT c
 unfold F.JM
 rw[yK X g,ae,yK Y i,ae]
 unfold onS rdT
 rw[if_pos hc]
 cases f with
 | true=>
  have sg:∀v:Nat,(if ((v:Int))=0 then (0:Int) else if (v:Int)<0 then -1 else 1)=if v=0 then 0 else 1:=fun v=>by
   by_cases h:v=0
   ·rw[if_pos (by omega),if_pos h]
   ·rw[if_neg (by omega),if_neg (by omega),if_neg h]
  have j:∀v:Nat,((if v=0 then (0:Int) else 1) == 0)=decide (v=0):=fun v=>by
   by_cases h:v=0
   ·rw[if_pos h,decide_eq_true h]; rfl
   ·rw[if_neg h,decide_eq_false h]; rfl
  rw[if_pos rfl]
  unfold F.Hb
  rw[ae,rP,ae,sg]
  show _=some (false,[],false,[],false,[],decide (val X=0)&&decide (val Y=0))
  by_cases h1:val X=0
  ·rw[if_pos h1,if_pos (by rfl),rP,ae,sg,j,decide_eq_true h1,Bool.true_and]
  ·rw[if_neg h1,if_neg (by decide),decide_eq_false h1,Bool.false_and]
 | false=>
  rw[if_neg (by decide),iM 1 (by decide) (by decide),ae]
  have h:=Dl (cP c) (cB c) (bi (cN c:Int)).1 (bi (cN c:Int)).2 (bi (cX c:Int)).1 (bi (cX c:Int)).2 (bi (cY c:Int)).1 (bi (cY c:Int)).2 (cS c) (by omega) (by omega) k (val X) (val Y) (Nat.le_trans (zm X) g) (Nat.le_trans (zm Y) i)
  unfold gT
  dsimp only
  rw[h,ae]
  simp
theorem BA (c:Int) (X Y:Q0) (f:Bool) (g:X.length<=35184372087808) (i:Y.length<=35184372087808) :
  F.Ly c X Y f=some (if isC c then some ((gT c).1,(gT c).2.1,(gT c).2.2.1,(gT c).2.2.2.1,(gT c).2.2.2.2.1,(gT c).2.2.2.2.2.1,(gT c).2.2.2.2.2.2.1,(gT c).2.2.2.2.2.2.2.1,(gT c).2.2.2.2.2.2.2.2.1,(gT c).2.2.2.2.2.2.2.2.2.1,(gT c).2.2.2.2.2.2.2.2.2.2,
   (rdT X Y f).1,(rdT X Y f).2.1,(rdT X Y f).2.2.1,(rdT X Y f).2.2.2.1,(rdT X Y f).2.2.2.2.1,(rdT X Y f).2.2.2.2.2) else none,onS c X Y f):=by
 unfold F.Ly
 rw[of_eq,ae]
 by_cases h:isC c
 ·rw[if_pos h,if_pos h]
  show ah (F.JM _ _ _ _ _ _ _ _ _ _ _ _ _ _) _=_
  rw[Em c h X Y f g i,ae]
 ·rw[if_neg h,if_neg h]
  unfold onS
  rw[if_neg h]; rfl
theorem wX (c:Int):F.Jr c=some (if isC c then cS c else 0):=by
 unfold F.Jr
 rw[of_eq,ae]
 by_cases h:isC c
 ·rw[if_pos h,if_pos h]; rfl
 ·rw[if_neg h,if_neg h]; rfl
theorem B8 (c:Int) {v:Nat} (h:v<cP c):nl (v:Int)<=1000000000:=by
 have:=Nat.le_trans (fM (show ((v:Int)).natAbs<=((cP c:Int)).natAbs by omega)) (oT c)
 omega
theorem Bx (c:Int):F.LI c=some (if isC c then ao (cN c) else []):=by
 unfold F.LI
 rw[of_eq,ae]
 by_cases h:isC c
 ·rw[if_pos h,if_pos h]
  show ah (F.Ht _ _) _=_
  rw[show (gT c).2.2.2.2.1=(bi (cN c:Int)).1 from rfl,show (gT c).2.2.2.2.2.1=(bi (cN c:Int)).2 from rfl,Ad _ (B8 c (fV c).2.2.1),ae]
 ·rw[if_neg h,if_neg h]; rfl
end Go.Gk.Bn
end

section
namespace Go.Gk.Bn
open Go Go.Gk Go.Gk.Sh
theorem xH (c:Int) {v:Nat} (h:v<=cP c):(ao v).length<=12:=ba (by have:=(fV c).1; omega)
end Go.Gk.Bn
end

section
namespace Go.Gk.Bn
open Go Go.Gk Go.Gk.Sh
end Go.Gk.Bn
end
