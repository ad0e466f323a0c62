import Derived.Test.YtmegjloifgfldaaGreatDoorGkUN
import Derived.Test.YtmegjloifgfldaaGreatDoorGkEc0
import Derived.Test.YtmegjloifgfldaaGreatDoorGkUA
set_option linter.unusedVariables false
set_option linter.unusedSimpArgs false
set_option linter.unusedSectionVars false

section
namespace Go.Gk.Bn
open Go Go.Gk Go.Gk.Sh Go.Gk.Ec Go.Gk.Pr
section
variable {p:Nat} [NeZero p]
end
def gP (c:Int):Pt (cP c):=some (fz (cX c:Int),fz (cY c:Int))
theorem Df (c:Int) (hc:isC c):On (-3) (bF c) (gP c):=by
 obtain⟨_,_,_,f,g,_⟩:=fV c
 refine (wV c hc (cX c) (cY c) f g).1 ?_
 rcases hc with rfl | rfl
 ·decide +kernel
 ·decide +kernel
end Go.Gk.Bn
end

section
namespace Go.Gk.Bn
open Go Go.Gk Go.Gk.Sh Go.Gk.Ec Go.Gk.Pr
theorem te (n:Nat) (hn:nl (n:Int)<=1000000000):F.JZ (bi (n:Int)).1 (bi (n:Int)).2=some (nb n:Int):=by
 unfold F.JZ
 rw[length_eq _ (by have:(bi (n:Int)).2.length=nl (n:Int):=rfl; omega),ae,bi2,Int.natAbs_natCast,lI]
def bw (n i:Nat):UInt64:=UInt64.ofNat (n / 2^i%2)
theorem ud (n i:Nat):(bw n i == 1)=decide (n / 2^i%2=1):=by
 have h:n / 2^i%2=0\/n / 2^i%2=1:=by omega
 unfold bw
 rcases h with h | h <;> rw[h] <;> rfl
theorem D0 (a:Q0) (i:Nat) (hi:i<=4611686018427387904) (ha:a.length<=4611686018427387904):F.Kh a (i:Int)=some (bw (val a) i):=by
 unfold F.Kh F.Lb
 have g:wI (Int.tdiv (i:Int) 32)=((i / 32:Nat):Int):=by rw[Int.tdiv_eq_ediv_of_nonneg (by omega),aI (by omega) (by omega)]; omega
 have j:((UInt64.ofInt (i:Int))%32).toNat=i%32:=by
  rw[UInt64.toNat_mod,UInt64.ofInt,UInt64.toNat_ofNat']
  have:(32:UInt64).toNat=32:=rfl
  rw[this]; omega
 rw[if_neg (by simp only[decide_eq_true_eq]; omega),g]
 dsimp only
 by_cases h:a.length<=i / 32
 ·rw[if_pos (decide_eq_true (by omega))]
  have f:=p7 a i
  have k:a.getD (i / 32) 0=0:=dY h
  rw[k]at f
  unfold bw
  rw[<-f]
  have:(0:UInt32).toNat=0:=rfl
  rw[this,Nat.zero_div]; rfl
 ·rw[if_neg (by simp only[decide_eq_true_eq]; omega),aT (show i / 32<a.length by omega) 0,ae,j]
  congr 1
  apply UInt64.toNat_inj.1
  have f:((bv (a.getD (i / 32) 0) (i%32)).toUInt64 &&& 1).toNat=val a / 2^i%2:=by
   rw[UInt64.toNat_and,bY,gq,Nat.min_eq_left (by omega),<-p7]
   have:(1:UInt64).toNat=2^1 - 1:=rfl
   rw[this,Nat.and_two_pow_sub_one_eq_mod]
  rw[f]
  unfold bw
  rw[UInt64.toNat_ofNat']
  omega
theorem A5 (n i:Nat) (hi:i<=4611686018427387904) (hn:nl (n:Int)<=1000000000):F.JL (bi (n:Int)).1 (bi (n:Int)).2 (i:Int)=some (bw n i):=by
 unfold F.JL
 rw[if_neg (by simp only[decide_eq_true_eq]; omega),bi1 (by omega),if_pos (by rfl),D0 _ _ hi (by have:(bi (n:Int)).2.length=nl (n:Int):=rfl; omega),ae,mx,Int.natAbs_natCast]
section
variable {p:Nat} [NeZero p]
def lf (t:Fin p×Fin p×Fin p) (b:Bool) (q:Fin p×Fin p×Fin p):Fin p×Fin p×Fin p:=
 let d:=nI t.1 t.2.1 t.2.2
 if b then lK d.1 d.2.1 d.2.2 q.1 q.2.1 q.2.2 else d
variable (b0:Bool) (b1:Q0) (n0:Bool) (n1:Q0) (x0:Bool) (x1:Q0) (y0:Bool) (y1:Q0) (s:Int) (hpl:nl (p:Int)<=1000)
include hpl
theorem By (t:Fin p×Fin p×Fin p) (b:Bool) (q:Fin p×Fin p×Fin p) :
  F.HD (bi (p:Int)).1 (bi (p:Int)).2 b0 b1 n0 n1 x0 x1 y0 y1 s (bt t).1 (bt t).2.1 (bt t).2.2.1 (bt t).2.2.2.1 (bt t).2.2.2.2.1 (bt t).2.2.2.2.2 b (bt q).1 (bt q).2.1 (bt q).2.2.1 (bt q).2.2.2.1 (bt q).2.2.2.2.1 (bt q).2.2.2.2.2=some (bt (lf t b q)):=by
 unfold F.HD F.LF
 have f:=rm b0 b1 n0 n1 x0 x1 y0 y1 s hpl t.1 t.2.1 t.2.2
 rw[show F.I5 (bi (p:Int)).1 (bi (p:Int)).2 b0 b1 n0 n1 x0 x1 y0 y1 s (bt t).1 (bt t).2.1 (bt t).2.2.1 (bt t).2.2.2.1 (bt t).2.2.2.2.1 (bt t).2.2.2.2.2=_ from f,ae]
 unfold lf
 cases b with
 | false=>rfl
 | true=>
  rw[if_pos rfl]
  generalize nI t.1 t.2.1 t.2.2=d
  have ha:=xd b0 b1 n0 n1 x0 x1 y0 y1 s hpl d.1 d.2.1 d.2.2 q.1 q.2.1 q.2.2
  rw[show F.Hv (bi (p:Int)).1 (bi (p:Int)).2 b0 b1 n0 n1 x0 x1 y0 y1 s (bt d).1 (bt d).2.1 (bt d).2.2.1 (bt d).2.2.2.1 (bt d).2.2.2.2.1 (bt d).2.2.2.2.2 (bt q).1 (bt q).2.1 (bt q).2.2.1 (bt q).2.2.2.1 (bt q).2.2.2.2.1 (bt q).2.2.2.2.2=_ from ha,ae]
  rfl
omit hpl in
omit hpl in
theorem CF {b:Fin p} (F:Fld p) {t q:Fin p×Fin p×Fin p} (g:On (-3) b (jpt t)) (h:On (-3) b (jpt q)) (c:Bool):jpt (lf t c q)=if c then Ec.add (-3) (Ec.add (-3) (jpt t) (jpt t)) (jpt q) else Ec.add (-3) (jpt t) (jpt t):=by
 have f:=xR F t
 unfold lf
 cases c with
 | false=>exact f
 | true=>
  rw[if_pos rfl,if_pos rfl,xB (b:=b) F _ _ (by rw[f]; exact F.on_add g g) h,f]
omit hpl in
theorem DN (e k:Nat):e / 2^k=2*(e / 2^(k+1))+(if decide (e / 2^k%2=1) then 1 else 0):=by
 have f:e / 2^(k+1)=e / 2^k / 2:=by rw[Nat.pow_succ,Nat.div_div_eq_div_mul]
 rw[f]
 by_cases h:e / 2^k%2=1
 ·rw[decide_eq_true h,if_pos rfl]; omega
 ·rw[decide_eq_false h,if_neg (by decide)]; omega
omit hpl in
end
theorem sV (k:Q0) (f:k.length<=35184372087808):F.H4 k=some ((bi (val k:Int)).1,(bi (val k:Int)).2,decide (nb (val k)<=1024)):=by
 unfold F.H4
 rw[yK k f,ae,ew k (by omega),ae]
 congr 3
 by_cases h:nb (val k)<=1024
 ·rw[decide_eq_true h,decide_eq_true (by omega)]
 ·rw[decide_eq_false h,decide_eq_false (by omega)]
end Go.Gk.Bn
end

section
namespace Go.Gk.Bn
open Go Go.Gk Go.Gk.Sh Go.Gk.Ec Go.Gk.Pr
abbrev J3 (c:Int):=Fin (cP c)×Fin (cP c)×Fin (cP c)
def gJ (c:Int):J3 c:=(fz (cX c:Int),fz (cY c:Int),1)
theorem yg (c:Int):jpt (gJ c)=gP c:=by
 show jac (fz (p:=cP c) (cX c:Int)) (fz (cY c:Int)) 1=_
 exact (ou c).jac_of (At c) (by grobner) (by grobner)
theorem vX (c:Int) {v:Nat} (h:v<cP c):be (fz (p:=cP c) (v:Int))=bi (v:Int):=by rw[k8,Int.emod_eq_of_lt (by omega) (by omega)]
theorem Fm (c:Int):be (1:Fin (cP c))=bi 1:=by
 have:=(kK c).1
 rw[<-Ay,k8,Int.emod_eq_of_lt (by omega) (by omega)]
theorem xc (c:Int):bt ((0,0,0):J3 c)=(false,[],false,[],false,[]):=by
 unfold bt
 dsimp only
 rw[xE]
def gQ (c:Int) (t:J3 c):Bool×Q0×Bool×Q0×Bool×Q0×Bool×Q0×Bool×Q0×Int×Bool×Q0×Bool×Q0×Bool×Q0:=
 ((gT c).1,(gT c).2.1,(gT c).2.2.1,(gT c).2.2.2.1,(gT c).2.2.2.2.1,(gT c).2.2.2.2.2.1,(gT c).2.2.2.2.2.2.1,(gT c).2.2.2.2.2.2.2.1,(gT c).2.2.2.2.2.2.2.2.1,(gT c).2.2.2.2.2.2.2.2.2.1,(gT c).2.2.2.2.2.2.2.2.2.2,
  (bt t).1,(bt t).2.1,(bt t).2.2.1,(bt t).2.2.2.1,(bt t).2.2.2.2.1,(bt t).2.2.2.2.2)
theorem xN (c:Int) (t:J3 c):((gQ c t).2.2.2.2.2.2.1,(gQ c t).2.2.2.2.2.2.2.1,(gQ c t).2.2.2.2.2.2.2.2.1,(gQ c t).2.2.2.2.2.2.2.2.2.1,(bi 1).1,(bi 1).2)=bt (gJ c):=by
 obtain⟨_,_,_,f,g,_⟩:=fV c
 unfold bt gJ
 dsimp only
 rw[vX c f,vX c g,Fm]
 rfl
theorem Fv (c:Int) (t:J3 c) (b:Bool) (q:J3 c) :
  F.HD (gT c).1 (gT c).2.1 (gT c).2.2.1 (gT c).2.2.2.1 (gT c).2.2.2.2.1 (gT c).2.2.2.2.2.1 (gT c).2.2.2.2.2.2.1 (gT c).2.2.2.2.2.2.2.1 (gT c).2.2.2.2.2.2.2.2.1 (gT c).2.2.2.2.2.2.2.2.2.1 (gT c).2.2.2.2.2.2.2.2.2.2
   (bt t).1 (bt t).2.1 (bt t).2.2.1 (bt t).2.2.2.1 (bt t).2.2.2.2.1 (bt t).2.2.2.2.2 b (bt q).1 (bt q).2.1 (bt q).2.2.1 (bt q).2.2.2.1 (bt q).2.2.2.2.1 (bt q).2.2.2.2.2=some (bt (lf t b q)):=
 By _ _ _ _ _ _ _ _ _ (by have:=oT c; omega) t b q
def whJ (c:Int) (q:J3 c) (x y:Bool):J3 c:=if x&&y then lK (gJ c).1 (gJ c).2.1 (gJ c).2.2 q.1 q.2.1 q.2.2 else if y then q else if x then gJ c else (0,0,0)
def rW (c:Int) (m n:Nat) (q:J3 c):Nat->J3 c->J3 c
 | 0,t=>t
 | i+1,t=>rW c m n q i (lf t true (whJ c q (decide (m / 2^i%2=1)) (decide (n / 2^i%2=1))))
theorem F0 (c:Int) (q:J3 c) (i:Nat) (hi:i<=1000000000) (t u:J3 c) :
  F.Hi (gQ c q) (i:Int) (bt t).1 (bt t).2.1 (bt t).2.2.1 (bt t).2.2.2.1 (bt t).2.2.2.2.1 (bt t).2.2.2.2.2 (bt u)=some (.inl ((i:Int) - 1,bt (lf t true u))):=by
 have w:wI ((i:Int) - 1)=(i:Int) - 1:=aI (by omega) (by omega)
 have h:=Fv c t true u
 unfold F.Hi
 generalize bt u=v at h ⊢
 obtain⟨f,g,j,k,o,z⟩:=v
 show ah (F.HD _ _ _ _ _ _ _ _ _ _ _ _ _ _ _ _ _ _ _ _ _ _ _ _) _=_
 rw[show F.HD (gQ c q).1 (gQ c q).2.1 (gQ c q).2.2.1 (gQ c q).2.2.2.1 (gQ c q).2.2.2.2.1 (gQ c q).2.2.2.2.2.1 (gQ c q).2.2.2.2.2.2.1 (gQ c q).2.2.2.2.2.2.2.1 (gQ c q).2.2.2.2.2.2.2.2.1 (gQ c q).2.2.2.2.2.2.2.2.2.1 (gQ c q).2.2.2.2.2.2.2.2.2.2.1
  (bt t).1 (bt t).2.1 (bt t).2.2.1 (bt t).2.2.2.1 (bt t).2.2.2.2.1 (bt t).2.2.2.2.2 true f g j k o z=_ from h,ae,w]
 rfl
theorem qm (c:Int) (m n:Nat) (hm:nl (m:Int)<=1000000000) (hn:nl (n:Int)<=1000000000) (q:J3 c) (g j:Bool):∀(i:Nat) (t:J3 c),i<=100000000 ->
  loop (F.Ie (gQ c q) ((bi (m:Int)).1,(bi (m:Int)).2,g) ((bi (n:Int)).1,(bi (n:Int)).2,j) (bi 1) (bt (lK (gJ c).1 (gJ c).2.1 (gJ c).2.2 q.1 q.2.1 q.2.2)))
   ((i:Int) - 1,bt t)=some ((rep (jpt (rW c m n q i t))).1,(rep (jpt (rW c m n q i t))).2.1,(rep (jpt (rW c m n q i t))).2.2,0)
 | 0,t,_=>by
  refine bu ?_
  unfold F.Ie
  dsimp only
  rw[if_neg (by simp)]
  congr 1
  show ah (F.HE _ _ _ _ _ _ _ _ _ _ _ _ _ _ _ _ _) _=_
  have h:=Fq c t
  rw[show F.HE (gQ c q).1 (gQ c q).2.1 (gQ c q).2.2.1 (gQ c q).2.2.2.1 (gQ c q).2.2.2.2.1 (gQ c q).2.2.2.2.2.1 (gQ c q).2.2.2.2.2.2.1 (gQ c q).2.2.2.2.2.2.2.1 (gQ c q).2.2.2.2.2.2.2.2.1 (gQ c q).2.2.2.2.2.2.2.2.2.1 (gQ c q).2.2.2.2.2.2.2.2.2.2.1
   (bt t).1 (bt t).2.1 (bt t).2.2.1 (bt t).2.2.2.1 (bt t).2.2.2.2.1 (bt t).2.2.2.2.2=_ from h,ae]
  rfl
 | i+1,t,hi=>by
  have e:(((i+1:Nat):Int) - 1)=(i:Int):=by omega
  rw[e]
  have k:F.Ie (gQ c q) ((bi (m:Int)).1,(bi (m:Int)).2,g) ((bi (n:Int)).1,(bi (n:Int)).2,j) (bi 1) (bt (lK (gJ c).1 (gJ c).2.1 (gJ c).2.2 q.1 q.2.1 q.2.2)) ((i:Int),bt t)
    = some (.inl ((i:Int) - 1,bt (lf t true (whJ c q (decide (m / 2^i%2=1)) (decide (n / 2^i%2=1)))))):=by
   unfold F.Ie
   show (if decide ((0:Int)<=(i:Int))=true then _ else _)=_
   rw[if_pos (decide_eq_true (by omega))]
   dsimp only
   rw[A5 m i (by omega) hm,ae,A5 n i (by omega) hn,ae,ud]
   have f:=fun u=>F0 c q i (by omega) t u
   unfold F.KU whJ
   cases hx:decide (m / 2^i%2=1) with
   | true=>
    rw[if_pos rfl]
    show (if (bw n i == 1)=true then _ else _)=_
    rw[ud]
    cases hy:decide (n / 2^i%2=1) with
    | true=>
     rw[if_pos rfl]
     exact f _
    | false=>
     rw[if_neg (by decide),if_neg (by decide),if_neg (by decide)]
     show F.Hi _ _ _ _ _ _ _ _ ((gQ c q).2.2.2.2.2.2.1,(gQ c q).2.2.2.2.2.2.2.1,(gQ c q).2.2.2.2.2.2.2.2.1,(gQ c q).2.2.2.2.2.2.2.2.2.1,(bi 1).1,(bi 1).2)=_
     rw[xN]
     exact f _
   | false=>
    rw[if_neg (by decide)]
    show (if false=true then _ else _)=_
    rw[if_neg (by decide),ud]
    cases hy:decide (n / 2^i%2=1) with
    | true=>
     rw[if_pos rfl]
     exact f _
    | false=>
     rw[if_neg (by decide)]
     rw[if_pos (show (!false)=true from rfl)]
     unfold F.Hb
     rw[ae]
     show F.Hi _ _ _ _ _ _ _ _ (false,[],false,[],false,[])=_
     rw[<-xc c]
     exact f _
  rw[bB k]
  exact qm c m n hm hn q g j i _ (by omega)
theorem xu {n:Nat} (h:nb n<=1024):nl (n:Int)<=33:=by
 refine tJ ?_
 rw[Int.natAbs_natCast]
 have f:=(c9 n).1
 have g:=Nat.pow_le_pow_right (show 0<2 by decide) (show nb n<=32*33 by omega)
 rw[show (4294967296:Nat)=2^32 from rfl,<-Nat.pow_mul]
 omega
end Go.Gk.Bn
end

section
namespace Go.Gk.Bn
open Go Go.Gk Go.Gk.Sh Go.Gk.Ec Go.Gk.Pr
noncomputable def res {c:Int} (P:Pt (cP c)):Q0×Q0×Bool×Int:=((rep P).1,(rep P).2.1,(rep P).2.2,0)
end Go.Gk.Bn
end

section
namespace Go.Gk.Bn
open Go Go.Gk Go.Gk.Sh Go.Gk.Ec Go.Gk.Pr
theorem s7 (n:Nat):cD n n=0:=by unfold cD; rw[if_neg (by omega),if_pos rfl]
theorem sS (a b:Q0) (m g:Nat) (A B:Q0) (ha:a.take m=A) (hb:b.take g=B) (hl:A.length=B.length) (i:A.length<=4611686018427387904):∀k:Nat,k<=A.length->val (A.drop k)=val (B.drop k)->loop (F.Is a b m g) ((k:Int) - 1)=some (cD (val A) (val B))
 | 0,_,h=>by
  rw[List.drop_zero,List.drop_zero]at h
  refine bu ?_
  unfold F.Is
  rw[if_neg (by decide),h,s7]
 | k+1,hk,h=>by
  have j:(((k+1:Nat):Int)) - 1=(k:Int):=by omega
  rw[j]
  have w:wI ((k:Int) - 1)=(k:Int) - 1:=aI (by omega) (by omega)
  have f:F.Is a b m g (k:Int)=if (A.getD k 0)<(B.getD k 0) then bz (some (-1)) else if (B.getD k 0)<(A.getD k 0) then bz (some 1) else bN ((k:Int) - 1):=by
   unfold F.Is
   rw[ha,hb,if_pos (decide_eq_true (by omega)),aT (show k<A.length by omega) 0,ae,aT (show k<B.length by omega) 0,ae]
   by_cases h1:A.getD k 0<B.getD k 0
   ·rw[if_pos (decide_eq_true h1),if_pos h1]
   ·rw[if_neg (by rw[decide_eq_true_eq]; exact h1),if_neg h1,ae,ae]
    by_cases h2:B.getD k 0<A.getD k 0
    ·rw[if_pos (decide_eq_true h2),if_pos h2]
    ·rw[if_neg (by rw[decide_eq_true_eq]; exact h2),if_neg h2,w]
  by_cases h1:A.getD k 0<B.getD k 0
  ·rw[if_pos h1]at f
   have:=oR A B k h (UInt32.lt_iff_toNat_lt.1 h1)
   rw[bu f]; unfold cD; rw[if_pos this]
  ·rw[if_neg h1]at f
   by_cases h2:B.getD k 0<A.getD k 0
   ·rw[if_pos h2]at f
    have:=oR B A k h.symm (UInt32.lt_iff_toNat_lt.1 h2)
    rw[bu f]; unfold cD; rw[if_neg (by omega),if_neg (by omega)]
   ·rw[if_neg h2]at f
    rw[bB f]
    refine sS a b m g A B ha hb hl i k (by omega) ?_
    have o:¬(A.getD k 0).toNat<(B.getD k 0).toNat:=fun q=>h1 (UInt32.lt_iff_toNat_lt.2 q)
    have t:¬(B.getD k 0).toNat<(A.getD k 0).toNat:=fun q=>h2 (UInt32.lt_iff_toNat_lt.2 q)
    rw[cq A k,cq B k,h]; omega
theorem uM {a b:Nat} (h:(ao a).length<(ao b).length):a<b:=by
 rcases Nat.lt_or_ge a b with f | f
 ·exact f
 ·have:=da f; omega
theorem eN (a b:Q0) (ha:a.length<=4611686018427387904) (hb:b.length<=4611686018427387904):F.GG a b=some (cD (val a) (val b)):=by
 obtain⟨m,h,k,f⟩:=dD a ha
 obtain⟨i,j,o,g⟩:=dD b hb
 have t:(ao (val a)).length<=a.length:=ba (bD a)
 unfold F.GG
 rw[h,ae,j,ae,f,g]
 by_cases hl:(ao (val a)).length<(ao (val b)).length
 ·have:=uM hl
  rw[if_pos (decide_eq_true (by omega))]; unfold cD; rw[if_pos this]
 ·rw[if_neg (by rw[decide_eq_true_eq]; omega)]
  by_cases hl2:(ao (val b)).length<(ao (val a)).length
  ·have:=uM hl2
   rw[if_pos (decide_eq_true (by omega))]; unfold cD; rw[if_neg (by omega),if_neg (by omega)]
  ·rw[if_neg (by rw[decide_eq_true_eq]; omega),aV,aI (by omega) (by omega)]
   have:=sS a b m i (ao (val a)) (ao (val b)) f g (by omega) (by omega) (ao (val a)).length (Nat.le_refl _) (by rw[List.drop_of_length_le (by omega),List.drop_of_length_le (by omega)])
   rw[aw,aw]at this
   exact this
def adS (A B:Q0) (x:UInt64×Q0) (i:Nat):UInt64×Q0:=
 let s:=if i<B.length then (x.1+(A.getD i 0).toUInt64)+(B.getD i 0).toUInt64 else x.1+(A.getD i 0).toUInt64
 (aP s 32,x.2.set i s.toUInt32)
def AdI (A B:Q0) (i:Nat) (x:UInt64×Q0):Prop:=
 x.2.length=A.length+1/\x.1.toNat<=1/\val (x.2.take i)+4294967296^i*x.1.toNat=val (A.take i)+val (B.take i)
theorem kT {l:Q0} {i:Nat} (h:i<l.length):val (l.take (i+1))=val (l.take i)+4294967296^i*(l.getD i 0).toNat:=by
 rw[px h,iS,List.length_take,Nat.min_eq_left (by omega)]
 simp[val]
theorem wo {l:Q0} {i:Nat} (h:l.length<=i):l.take (i+1)=l.take i:=by
 rw[List.take_of_length_le (by omega),List.take_of_length_le (by omega)]
theorem DG {A B:Q0} {x:UInt64×Q0} {i:Nat} (hi:i<A.length) (h:AdI A B i x):AdI A B (i+1) (adS A B x i):=by
 obtain⟨k,K,o⟩:=h
 obtain⟨s,hs⟩:∃s,(if i<B.length then (x.1+(A.getD i 0).toUInt64)+(B.getD i 0).toUInt64 else x.1+(A.getD i 0).toUInt64)=s:=⟨_,rfl⟩
 have e:adS A B x i=(aP s 32,x.2.set i s.toUInt32):=by unfold adS; rw[hs]
 have M:=cn (A.getD i 0); have N:=cn (B.getD i 0)
 have f:s.toNat=x.1.toNat+(A.getD i 0).toNat+(if i<B.length then (B.getD i 0).toNat else 0):=by
  rw[<-hs]
  split
  ·rw[UInt64.toNat_add,UInt64.toNat_add,bY,bY]; omega
  ·rw[UInt64.toNat_add,bY]; omega
 have g:val (B.take (i+1))=val (B.take i)+4294967296^i*(if i<B.length then (B.getD i 0).toNat else 0):=by
  split
  ·rename_i hb; exact kT hb
  ·rename_i hb; rw[wo (by omega)]; omega
 have J:s.toNat<2*4294967296:=by rw[f]; split <;> omega
 rw[e]
 have j:(aP s 32).toNat=s.toNat / 4294967296:=by rw[dI]; rfl
 have t:s.toUInt32.toNat=s.toNat%4294967296:=by rw[UInt64.toNat_toUInt32]
 refine⟨by simpa using k,by show (aP s 32).toNat<=1; rw[j]; omega,?_⟩
 show val ((x.2.set i s.toUInt32).take (i+1))+4294967296^(i+1)*(aP s 32).toNat=_
 rw[kT (by simp; omega),kT hi,g,j]
 have z:(x.2.set i s.toUInt32).take i=x.2.take i:=List.take_set_of_le (by omega)
 have F:(x.2.set i s.toUInt32).getD i 0=s.toUInt32:=by
  rw[List.getD_eq_getElem?_getD,List.getElem?_set_self (by omega)]; rfl
 rw[z,F,t,Nat.pow_succ]
 obtain⟨P,G⟩:∃P,(4294967296:Nat)^i=P:=⟨_,rfl⟩
 rw[G]at o g ⊢
 have I:=Nat.div_add_mod s.toNat 4294967296
 have O:P*(s.toNat%4294967296)+P*4294967296*(s.toNat / 4294967296)=P*s.toNat:=by
  rw[Nat.mul_assoc,<-Nat.mul_add,Nat.add_comm,I]
 have R:P*s.toNat=P*x.1.toNat+P*(A.getD i 0).toNat+P*(if i<B.length then (B.getD i 0).toNat else 0):=by rw[f,Nat.mul_add,Nat.mul_add]
 omega
theorem wY (A B:Q0) (hl:B.length<=A.length) (O:A.length<=50000000000000):F.Kr (A,B)=some (ao (val A+val B)):=by
 unfold F.Kr
 dsimp only
 have o:wI ((A.length:Int)+1)=((A.length+1:Nat):Int):=by rw[aI (by omega) (by omega)]; rfl
 have hm:mkO 4 ((A.length+1:Nat):Int) ((A.length+1:Nat):Int) (0:UInt32)=some (List.replicate (A.length+1) 0):=by
  unfold mkO
  rw[if_pos (by omega),Int.toNat_natCast]
 rw[o,hm,ae]
 have f:∀(k i:Nat) (x:UInt64×Q0),i+k=A.length->AdI A B i x->loop (F.If A B) (x.1,(i:Int),x.2)=some (ao (val A+val B)):=by
  intro k
  induction k with
  | zero=>
   intro i x hi hx
   obtain⟨R,U,t⟩:=hx
   have g:i=A.length:=by omega
   subst g
   refine bu ?_
   unfold F.If
   dsimp only
   rw[if_neg (by rw[decide_eq_true_eq]; omega),aT (show A.length<x.2.length by omega) 0,ae,aV,Int.toNat_natCast]
   obtain⟨m,z,V,G⟩:=eo (x.2.set A.length x.1.toUInt32) (by simp; omega)
   rw[z,ae,G]
   congr 2
   have I:(x.2.set A.length x.1.toUInt32)=(x.2.set A.length x.1.toUInt32).take (A.length+1):=by rw[List.take_of_length_le (by simp; omega)]
   have J:(x.2.set A.length x.1.toUInt32).take A.length=x.2.take A.length:=List.take_set_of_le (by omega)
   have K:(x.2.set A.length x.1.toUInt32).getD A.length 0=x.1.toUInt32:=by
    rw[List.getD_eq_getElem?_getD,List.getElem?_set_self (by omega)]; rfl
   have M:x.1.toUInt32.toNat=x.1.toNat:=by rw[UInt64.toNat_toUInt32]; omega
   rw[I,kT (by simp; omega),J,K,M,t,List.take_of_length_le (by omega),List.take_of_length_le hl]
  | succ k ih=>
   intro i x hi hx
   have h:wI ((i:Int)+1)=((i+1:Nat):Int):=by rw[aI (by omega) (by omega)]; rfl
   have N:=hx.1
   have j:F.If A B (x.1,(i:Int),x.2)=some (.inl ((adS A B x i).1,((i+1:Nat):Int),(adS A B x i).2)):=by
    unfold F.If adS
    dsimp only
    rw[if_pos (decide_eq_true (by omega)),aT (show i<A.length by omega) 0,ae]
    by_cases hb:i<B.length
    ·rw[if_pos (decide_eq_true (by omega)),aT hb 0,ae,aV,if_pos hb]
     unfold F.KB
     rw[aT (show i<x.2.length by omega) 0,ae,aV,h,Int.toNat_natCast]
     rfl
    ·rw[if_neg (by rw[decide_eq_true_eq]; omega),if_neg hb]
     unfold F.KB
     rw[aT (show i<x.2.length by omega) 0,ae,aV,h,Int.toNat_natCast]
     rfl
   rw[bB j]
   exact ih (i+1) (adS A B x i) (by omega) (DG (by omega) hx)
 exact f A.length 0 (0,List.replicate (A.length+1) 0) (by omega) ⟨by simp,Nat.zero_le 1,by simp[val]⟩
theorem oK (a b:Q0) (ha:a.length<=40000000000000) (hb:b.length<=40000000000000):F.HK a b=some (ao (val a+val b)):=by
 obtain⟨m,f,j,g⟩:=dD a (by omega)
 obtain⟨k,h,o,i⟩:=dD b (by omega)
 have t:(ao (val a)).length<=a.length:=ba (bD a)
 have z:(ao (val b)).length<=b.length:=ba (bD b)
 unfold F.HK
 rw[f,ae,h,ae,g,i]
 by_cases hl:(ao (val a)).length<(ao (val b)).length
 ·rw[if_pos (decide_eq_true (by omega)),wY _ _ (by omega) (by omega),aw,aw,Nat.add_comm]
 ·rw[if_neg (by rw[decide_eq_true_eq]; omega),wY _ _ (by omega) (by omega),aw,aw]
theorem CZ {n:Nat} {k:Nat} (h:(ao n).length<=k):nb n<=32*k:=Nat.le_trans (ib n) (Nat.mul_le_mul_left 32 h)
end Go.Gk.Bn
end
