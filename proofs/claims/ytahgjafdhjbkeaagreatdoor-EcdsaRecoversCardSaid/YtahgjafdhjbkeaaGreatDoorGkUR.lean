import Derived.Test.YtahgjafdhjbkeaaGreatDoorGkUN
import Derived.Test.YtahgjafdhjbkeaaGreatDoorGkEc0
import Derived.Test.YtahgjafdhjbkeaaGreatDoorGkUA
set_option linter.unusedVariables false
set_option linter.unusedSimpArgs false
set_option linter.unusedSectionVars false

section
namespace Go.Gk.Bn
open Go Go.Gk Go.Gk.Sh Go.Gk.Ec Go.Gk.Pr
section
variable {p:Nat} [NeZero p]
end
def gP (c:Int):Pt (cP c):=some (fz (cX c:Int),fz (cY c:Int))
theorem pZ (c:Int) (hc:isC c):On (-3) (bF c) (gP c):=by
 obtain⟨_,_,_,f,g,_⟩:=dF c
 refine (qn c hc (cX c) (cY c) f g).1 ?_
 rcases hc with rfl | rfl
 ·decide +kernel
 ·decide +kernel
end Go.Gk.Bn
end

section
namespace Go.Gk.Bn
open Go Go.Gk Go.Gk.Sh Go.Gk.Ec Go.Gk.Pr
theorem rI (n:Nat) (f:nl (n:Int)<=1000000000):F.Hh (bi (n:Int)).1 (bi (n:Int)).2=some (nb n:Int):=by
 unfold F.Hh
 rw[length_eq _ (by have:(bi (n:Int)).2.length=nl (n:Int):=rfl; omega),ae,bi2,Int.natAbs_natCast,kT]
def bw (n i:Nat):UInt64:=UInt64.ofNat (n / 2^i%2)
theorem sr (n i:Nat):(bw n i == 1)=decide (n / 2^i%2=1):=by
 have h:n / 2^i%2=0\/n / 2^i%2=1:=by omega
 unfold bw
 rcases h with h | h <;> rw[h] <;> rfl
theorem Bi (a:L0) (i:Nat) (hi:i<=4611686018427387904) (m:a.length<=4611686018427387904):F.Hw a (i:Int)=some (bw (val a) i):=by
 unfold F.Hw F.IE
 have g:wI (Int.tdiv (i:Int) 32)=((i / 32:Nat):Int):=by rw[Int.tdiv_eq_ediv_of_nonneg (by omega),aJ (by omega) (by omega)]; omega
 have j:((UInt64.ofInt (i:Int))%32).toNat=i%32:=by
  rw[UInt64.toNat_mod,UInt64.ofInt,UInt64.toNat_ofNat']
  have:(32:UInt64).toNat=32:=rfl
  rw[this]; omega
 rw[if_neg (by simp only[decide_eq_true_eq]; omega),g]
 dsimp only
 by_cases h:a.length<=i / 32
 ·rw[if_pos (decide_eq_true (by omega))]
  have f:=o8 a i
  have k:a.getD (i / 32) 0=0:=dU h
  rw[k]at f
  unfold bw
  rw[<-f]
  have:(0:UInt32).toNat=0:=rfl
  rw[this,Nat.zero_div]; rfl
 ·rw[if_neg (by simp only[decide_eq_true_eq]; omega),aP (show i / 32<a.length by omega) 0,ae,j]
  congr 1
  apply UInt64.toNat_inj.1
  have f:((bA (a.getD (i / 32) 0) (i%32)).toUInt64 &&& 1).toNat=val a / 2^i%2:=by
   rw[UInt64.toNat_and,bV,fH,Nat.min_eq_left (by omega),<-o8]
   have:(1:UInt64).toNat=2^1 - 1:=rfl
   rw[this,Nat.and_two_pow_sub_one_eq_mod]
  rw[f]
  unfold bw
  rw[UInt64.toNat_ofNat']
  omega
theorem yJ (n i:Nat) (hi:i<=4611686018427387904) (f:nl (n:Int)<=1000000000):F.G6 (bi (n:Int)).1 (bi (n:Int)).2 (i:Int)=some (bw n i):=by
 unfold F.G6
 rw[if_neg (by simp only[decide_eq_true_eq]; omega),bi1 (by omega),if_pos (by rfl),Bi _ _ hi (by have:(bi (n:Int)).2.length=nl (n:Int):=rfl; omega),ae,lL,Int.natAbs_natCast]
section
variable {p:Nat} [NeZero p]
def kH (t:Fin p×Fin p×Fin p) (b:Bool) (q:Fin p×Fin p×Fin p):Fin p×Fin p×Fin p:=
 let d:=lO t.1 t.2.1 t.2.2
 if b then kb d.1 d.2.1 d.2.2 q.1 q.2.1 q.2.2 else d
variable (b0:Bool) (b1:L0) (n0:Bool) (n1:L0) (x0:Bool) (x1:L0) (y0:Bool) (y1:L0) (s:Int) (hpl:nl (p:Int)<=1000)
include hpl
theorem zb (t:Fin p×Fin p×Fin p) (b:Bool) (q:Fin p×Fin p×Fin p) :
  F.Et (bi (p:Int)).1 (bi (p:Int)).2 b0 b1 n0 n1 x0 x1 y0 y1 s (bt t).1 (bt t).2.1 (bt t).2.2.1 (bt t).2.2.2.1 (bt t).2.2.2.2.1 (bt t).2.2.2.2.2 b (bt q).1 (bt q).2.1 (bt q).2.2.1 (bt q).2.2.2.1 (bt q).2.2.2.2.1 (bt q).2.2.2.2.2=some (bt (kH t b q)):=by
 unfold F.Et F.I3
 have f:=qh b0 b1 n0 n1 x0 x1 y0 y1 s hpl t.1 t.2.1 t.2.2
 rw[show F.F9 (bi (p:Int)).1 (bi (p:Int)).2 b0 b1 n0 n1 x0 x1 y0 y1 s (bt t).1 (bt t).2.1 (bt t).2.2.1 (bt t).2.2.2.1 (bt t).2.2.2.2.1 (bt t).2.2.2.2.2=_ from f,ae]
 unfold kH
 cases b with
 | false=>rfl
 | true=>
  rw[if_pos rfl]
  generalize lO t.1 t.2.1 t.2.2=d
  have g:=u4 b0 b1 n0 n1 x0 x1 y0 y1 s hpl d.1 d.2.1 d.2.2 q.1 q.2.1 q.2.2
  rw[show F.Ej (bi (p:Int)).1 (bi (p:Int)).2 b0 b1 n0 n1 x0 x1 y0 y1 s (bt d).1 (bt d).2.1 (bt d).2.2.1 (bt d).2.2.2.1 (bt d).2.2.2.2.1 (bt d).2.2.2.2.2 (bt q).1 (bt q).2.1 (bt q).2.2.1 (bt q).2.2.2.1 (bt q).2.2.2.2.1 (bt q).2.2.2.2.2=_ from g,ae]
  rfl
omit hpl in
omit hpl in
theorem Ab {b:Fin p} (F:Fld p) {t q:Fin p×Fin p×Fin p} (g:On (-3) b (jpt t)) (h:On (-3) b (jpt q)) (c:Bool):jpt (kH t c q)=if c then Ec.add (-3) (Ec.add (-3) (jpt t) (jpt t)) (jpt q) else Ec.add (-3) (jpt t) (jpt t):=by
 have f:=ot F t
 unfold kH
 cases c with
 | false=>exact f
 | true=>
  rw[if_pos rfl,if_pos rfl,qM (b:=b) F _ _ (by rw[f]; exact F.on_add g g) h,f]
omit hpl in
theorem A8 (e k:Nat):e / 2^k=2*(e / 2^(k+1))+(if decide (e / 2^k%2=1) then 1 else 0):=by
 have f:e / 2^(k+1)=e / 2^k / 2:=by rw[Nat.pow_succ,Nat.div_div_eq_div_mul]
 rw[f]
 by_cases h:e / 2^k%2=1
 ·rw[decide_eq_true h,if_pos rfl]; omega
 ·rw[decide_eq_false h,if_neg (by decide)]; omega
omit hpl in
end
theorem rB (k:L0) (f:k.length<=35184372087808):F.E3 k=some ((bi (val k:Int)).1,(bi (val k:Int)).2,decide (nb (val k)<=1024)):=by
 unfold F.E3
 rw[wC k f,ae,i3 k (by omega),ae]
 congr 3
 by_cases h:nb (val k)<=1024
 ·rw[decide_eq_true h,decide_eq_true (by omega)]
 ·rw[decide_eq_false h,decide_eq_false (by omega)]
end Go.Gk.Bn
end

section
namespace Go.Gk.Bn
open Go Go.Gk Go.Gk.Sh Go.Gk.Ec Go.Gk.Pr
abbrev J3 (c:Int):=Fin (cP c)×Fin (cP c)×Fin (cP c)
def gJ (c:Int):J3 c:=(fz (cX c:Int),fz (cY c:Int),1)
theorem v7 (c:Int):jpt (gJ c)=gP c:=by
 show jac (fz (p:=cP c) (cX c:Int)) (fz (cY c:Int)) 1=_
 exact (gF c).jac_of (pU c) (by grobner) (by grobner)
theorem ug (c:Int) {v:Nat} (h:v<cP c):be (fz (p:=cP c) (v:Int))=bi (v:Int):=by rw[ky,Int.emod_eq_of_lt (by omega) (by omega)]
theorem CF (c:Int):be (1:Fin (cP c))=bi 1:=by
 have:=(i1 c).1
 rw[<-ya,ky,Int.emod_eq_of_lt (by omega) (by omega)]
theorem uY (c:Int):bt ((0,0,0):J3 c)=(false,[],false,[],false,[]):=by
 unfold bt
 dsimp only
 rw[vz]
def gQ (c:Int) (t:J3 c):Bool×L0×Bool×L0×Bool×L0×Bool×L0×Bool×L0×Int×Bool×L0×Bool×L0×Bool×L0:=
 ((gT c).1,(gT c).2.1,(gT c).2.2.1,(gT c).2.2.2.1,(gT c).2.2.2.2.1,(gT c).2.2.2.2.2.1,(gT c).2.2.2.2.2.2.1,(gT c).2.2.2.2.2.2.2.1,(gT c).2.2.2.2.2.2.2.2.1,(gT c).2.2.2.2.2.2.2.2.2.1,(gT c).2.2.2.2.2.2.2.2.2.2,
  (bt t).1,(bt t).2.1,(bt t).2.2.1,(bt t).2.2.2.1,(bt t).2.2.2.2.1,(bt t).2.2.2.2.2)
theorem vJ (c:Int) (t:J3 c):((gQ c t).2.2.2.2.2.2.1,(gQ c t).2.2.2.2.2.2.2.1,(gQ c t).2.2.2.2.2.2.2.2.1,(gQ c t).2.2.2.2.2.2.2.2.2.1,(bi 1).1,(bi 1).2)=bt (gJ c):=by
 obtain⟨_,_,_,f,g,_⟩:=dF c
 unfold bt gJ
 dsimp only
 rw[ug c f,ug c g,CF]
 rfl
theorem CM (c:Int) (t:J3 c) (b:Bool) (q:J3 c) :
  F.Et (gT c).1 (gT c).2.1 (gT c).2.2.1 (gT c).2.2.2.1 (gT c).2.2.2.2.1 (gT c).2.2.2.2.2.1 (gT c).2.2.2.2.2.2.1 (gT c).2.2.2.2.2.2.2.1 (gT c).2.2.2.2.2.2.2.2.1 (gT c).2.2.2.2.2.2.2.2.2.1 (gT c).2.2.2.2.2.2.2.2.2.2
   (bt t).1 (bt t).2.1 (bt t).2.2.1 (bt t).2.2.2.1 (bt t).2.2.2.2.1 (bt t).2.2.2.2.2 b (bt q).1 (bt q).2.1 (bt q).2.2.1 (bt q).2.2.2.1 (bt q).2.2.2.2.1 (bt q).2.2.2.2.2=some (bt (kH t b q)):=
 zb _ _ _ _ _ _ _ _ _ (by have:=oh c; omega) t b q
def whJ (c:Int) (q:J3 c) (x y:Bool):J3 c:=if x&&y then kb (gJ c).1 (gJ c).2.1 (gJ c).2.2 q.1 q.2.1 q.2.2 else if y then q else if x then gJ c else (0,0,0)
def qH (c:Int) (m n:Nat) (q:J3 c):Nat->J3 c->J3 c
 | 0,t=>t
 | i+1,t=>qH c m n q i (kH t true (whJ c q (decide (m / 2^i%2=1)) (decide (n / 2^i%2=1))))
theorem C5 (c:Int) (q:J3 c) (i:Nat) (hi:i<=1000000000) (t u:J3 c) :
  F.D7 (gQ c q) (i:Int) (bt t).1 (bt t).2.1 (bt t).2.2.1 (bt t).2.2.2.1 (bt t).2.2.2.2.1 (bt t).2.2.2.2.2 (bt u)=some (.inl ((i:Int) - 1,bt (kH t true u))):=by
 have w:wI ((i:Int) - 1)=(i:Int) - 1:=aJ (by omega) (by omega)
 have h:=CM c t true u
 unfold F.D7
 generalize bt u=v at h ⊢
 obtain⟨f,g,j,k,m,o⟩:=v
 show ah (F.Et _ _ _ _ _ _ _ _ _ _ _ _ _ _ _ _ _ _ _ _ _ _ _ _) _=_
 rw[show F.Et (gQ c q).1 (gQ c q).2.1 (gQ c q).2.2.1 (gQ c q).2.2.2.1 (gQ c q).2.2.2.2.1 (gQ c q).2.2.2.2.2.1 (gQ c q).2.2.2.2.2.2.1 (gQ c q).2.2.2.2.2.2.2.1 (gQ c q).2.2.2.2.2.2.2.2.1 (gQ c q).2.2.2.2.2.2.2.2.2.1 (gQ c q).2.2.2.2.2.2.2.2.2.2.1
  (bt t).1 (bt t).2.1 (bt t).2.2.1 (bt t).2.2.2.1 (bt t).2.2.2.2.1 (bt t).2.2.2.2.2 true f g j k m o=_ from h,ae,w]
 rfl
theorem pg (c:Int) (m n:Nat) (k:nl (m:Int)<=1000000000) (o:nl (n:Int)<=1000000000) (q:J3 c) (g j:Bool):∀(i:Nat) (t:J3 c),i<=100000000 ->
  loop (F.Fb (gQ c q) ((bi (m:Int)).1,(bi (m:Int)).2,g) ((bi (n:Int)).1,(bi (n:Int)).2,j) (bi 1) (bt (kb (gJ c).1 (gJ c).2.1 (gJ c).2.2 q.1 q.2.1 q.2.2)))
   ((i:Int) - 1,bt t)=some ((rep (jpt (qH c m n q i t))).1,(rep (jpt (qH c m n q i t))).2.1,(rep (jpt (qH c m n q i t))).2.2,0)
 | 0,t,_=>by
  refine bL ?_
  unfold F.Fb
  dsimp only
  rw[if_neg (by simp)]
  congr 1
  show ah (F.Eu _ _ _ _ _ _ _ _ _ _ _ _ _ _ _ _ _) _=_
  have h:=CL c t
  rw[show F.Eu (gQ c q).1 (gQ c q).2.1 (gQ c q).2.2.1 (gQ c q).2.2.2.1 (gQ c q).2.2.2.2.1 (gQ c q).2.2.2.2.2.1 (gQ c q).2.2.2.2.2.2.1 (gQ c q).2.2.2.2.2.2.2.1 (gQ c q).2.2.2.2.2.2.2.2.1 (gQ c q).2.2.2.2.2.2.2.2.2.1 (gQ c q).2.2.2.2.2.2.2.2.2.2.1
   (bt t).1 (bt t).2.1 (bt t).2.2.1 (bt t).2.2.2.1 (bt t).2.2.2.2.1 (bt t).2.2.2.2.2=_ from h,ae]
  rfl
 | i+1,t,hi=>by
  have e:(((i+1:Nat):Int) - 1)=(i:Int):=by omega
  rw[e]
  have x:F.Fb (gQ c q) ((bi (m:Int)).1,(bi (m:Int)).2,g) ((bi (n:Int)).1,(bi (n:Int)).2,j) (bi 1) (bt (kb (gJ c).1 (gJ c).2.1 (gJ c).2.2 q.1 q.2.1 q.2.2)) ((i:Int),bt t)
    = some (.inl ((i:Int) - 1,bt (kH t true (whJ c q (decide (m / 2^i%2=1)) (decide (n / 2^i%2=1)))))):=by
   unfold F.Fb
   show (if decide ((0:Int)<=(i:Int))=true then _ else _)=_
   rw[if_pos (decide_eq_true (by omega))]
   dsimp only
   rw[yJ m i (by omega) k,ae,yJ n i (by omega) o,ae,sr]
   have f:=fun u=>C5 c q i (by omega) t u
   unfold F.Id whJ
   cases hx:decide (m / 2^i%2=1) with
   | true=>
    rw[if_pos rfl]
    show (if (bw n i == 1)=true then _ else _)=_
    rw[sr]
    cases hy:decide (n / 2^i%2=1) with
    | true=>
     rw[if_pos rfl]
     exact f _
    | false=>
     rw[if_neg (by decide),if_neg (by decide),if_neg (by decide)]
     show F.D7 _ _ _ _ _ _ _ _ ((gQ c q).2.2.2.2.2.2.1,(gQ c q).2.2.2.2.2.2.2.1,(gQ c q).2.2.2.2.2.2.2.2.1,(gQ c q).2.2.2.2.2.2.2.2.2.1,(bi 1).1,(bi 1).2)=_
     rw[vJ]
     exact f _
   | false=>
    rw[if_neg (by decide)]
    show (if false=true then _ else _)=_
    rw[if_neg (by decide),sr]
    cases hy:decide (n / 2^i%2=1) with
    | true=>
     rw[if_pos rfl]
     exact f _
    | false=>
     rw[if_neg (by decide)]
     rw[if_pos (show (!false)=true from rfl)]
     unfold F.D0
     rw[ae]
     show F.D7 _ _ _ _ _ _ _ _ (false,[],false,[],false,[])=_
     rw[<-uY c]
     exact f _
  rw[bJ x]
  exact pg c m n k o q g j i _ (by omega)
theorem vn {n:Nat} (h:nb n<=1024):nl (n:Int)<=33:=by
 refine r9 ?_
 rw[Int.natAbs_natCast]
 have f:=(d7 n).1
 have g:=Nat.pow_le_pow_right (show 0<2 by decide) (show nb n<=32*33 by omega)
 rw[show (4294967296:Nat)=2^32 from rfl,<-Nat.pow_mul]
 omega
end Go.Gk.Bn
end

section
namespace Go.Gk.Bn
open Go Go.Gk Go.Gk.Sh Go.Gk.Ec Go.Gk.Pr
theorem yU {c:Int} (P:Pt (cP c)):eg c (rep P).1 (rep P).2.1 (rep P).2.2=P:=by
 rcases P with _ | ⟨x,y⟩
 ·rfl
 ·show some (fz (val (an x.val):Int),fz (val (an y.val):Int))=_
  rw[ar,ar,gz,gz]
theorem qD {c:Int} (hc:isC c) {P:Pt (cP c)} (f:On (-3) (bF c) P):onS c (rep P).1 (rep P).2.1 (rep P).2.2=true:=by
 unfold onS
 rw[if_pos hc]
 rcases P with _ | ⟨x,y⟩
 ·rfl
 ·show (if false=true then _ else onN (cP c) (cB c) (val (an x.val)) (val (an y.val)))=true
  rw[if_neg (by decide),ar,ar,qn c hc _ _ x.isLt y.isLt,gz,gz]
  exact f
noncomputable def res {c:Int} (P:Pt (cP c)):L0×L0×Bool×Int:=((rep P).1,(rep P).2.1,(rep P).2.2,0)
theorem zj (c:Int) (hc:isC c):F.JB c=some (rep (gP c)):=by
 obtain⟨_,_,_,f,g,_⟩:=dF c
 rw[vu,if_pos hc]
 show some (an (cX c),an (cY c),false)=some (an (fz (p:=cP c) (cX c:Int)).val,an (fz (p:=cP c) (cY c:Int)).val,false)
 rw[pF _ f,pF _ g]
end Go.Gk.Bn
end

section
namespace Go.Gk.Bn
open Go Go.Gk Go.Gk.Sh Go.Gk.Ec Go.Gk.Pr
theorem rE (n:Nat):cD n n=0:=by unfold cD; rw[if_neg (by omega),if_pos rfl]
theorem ry (a b:L0) (m g:Nat) (A B:L0) (i:a.take m=A) (j:b.take g=B) (o:A.length=B.length) (t:A.length<=4611686018427387904):∀k:Nat,k<=A.length->val (A.drop k)=val (B.drop k)->loop (F.Fn a b m g) ((k:Int) - 1)=some (cD (val A) (val B))
 | 0,_,h=>by
  rw[List.drop_zero,List.drop_zero]at h
  refine bL ?_
  unfold F.Fn
  rw[if_neg (by decide),h,rE]
 | k+1,hk,h=>by
  have x:(((k+1:Nat):Int)) - 1=(k:Int):=by omega
  rw[x]
  have w:wI ((k:Int) - 1)=(k:Int) - 1:=aJ (by omega) (by omega)
  have f:F.Fn a b m g (k:Int)=if (A.getD k 0)<(B.getD k 0) then bn (some (-1)) else if (B.getD k 0)<(A.getD k 0) then bn (some 1) else bD ((k:Int) - 1):=by
   unfold F.Fn
   rw[i,j,if_pos (decide_eq_true (by omega)),aP (show k<A.length by omega) 0,ae,aP (show k<B.length by omega) 0,ae]
   by_cases h1:A.getD k 0<B.getD k 0
   ·rw[if_pos (decide_eq_true h1),if_pos h1]
   ·rw[if_neg (by rw[decide_eq_true_eq]; exact h1),if_neg h1,ae,ae]
    by_cases h2:B.getD k 0<A.getD k 0
    ·rw[if_pos (decide_eq_true h2),if_pos h2]
    ·rw[if_neg (by rw[decide_eq_true_eq]; exact h2),if_neg h2,w]
  by_cases h1:A.getD k 0<B.getD k 0
  ·rw[if_pos h1]at f
   have:=io A B k h (UInt32.lt_iff_toNat_lt.1 h1)
   rw[bL f]; unfold cD; rw[if_pos this]
  ·rw[if_neg h1]at f
   by_cases h2:B.getD k 0<A.getD k 0
   ·rw[if_pos h2]at f
    have:=io B A k h.symm (UInt32.lt_iff_toNat_lt.1 h2)
    rw[bL f]; unfold cD; rw[if_neg (by omega),if_neg (by omega)]
   ·rw[if_neg h2]at f
    rw[bJ f]
    refine ry a b m g A B i j o t k (by omega) ?_
    have y:¬(A.getD k 0).toNat<(B.getD k 0).toNat:=fun q=>h1 (UInt32.lt_iff_toNat_lt.2 q)
    have z:¬(B.getD k 0).toNat<(A.getD k 0).toNat:=fun q=>h2 (UInt32.lt_iff_toNat_lt.2 q)
    rw[ch A k,ch B k,h]; omega
theorem td {a b:Nat} (h:(an a).length<(an b).length):a<b:=by
 rcases Nat.lt_or_ge a b with f | f
 ·exact f
 ·have:=c6 f; omega
theorem jK (a b:L0) (h:a.length<=4611686018427387904) (i:b.length<=4611686018427387904):F.D4 a b=some (cD (val a) (val b)):=by
 obtain⟨m,j,q,f⟩:=eG a h
 obtain⟨k,o,t,g⟩:=eG b i
 have x:(an (val a)).length<=a.length:=bl (bv a)
 unfold F.D4
 rw[j,ae,o,ae,f,g]
 by_cases hl:(an (val a)).length<(an (val b)).length
 ·have:=td hl
  rw[if_pos (decide_eq_true (by omega))]; unfold cD; rw[if_pos this]
 ·rw[if_neg (by rw[decide_eq_true_eq]; omega)]
  by_cases hl2:(an (val b)).length<(an (val a)).length
  ·have:=td hl2
   rw[if_pos (decide_eq_true (by omega))]; unfold cD; rw[if_neg (by omega),if_neg (by omega)]
  ·rw[if_neg (by rw[decide_eq_true_eq]; omega),aS,aJ (by omega) (by omega)]
   have:=ry a b m k (an (val a)) (an (val b)) f g (by omega) (by omega) (an (val a)).length (Nat.le_refl _) (by rw[List.drop_of_length_le (by omega),List.drop_of_length_le (by omega)])
   rw[ar,ar]at this
   exact this
def adS (A B:L0) (x:UInt64×L0) (i:Nat):UInt64×L0:=
 let s:=if i<B.length then (x.1+(A.getD i 0).toUInt64)+(B.getD i 0).toUInt64 else x.1+(A.getD i 0).toUInt64
 (aO s 32,x.2.set i s.toUInt32)
def AdI (A B:L0) (i:Nat) (x:UInt64×L0):Prop:=
 x.2.length=A.length+1/\x.1.toNat<=1/\val (x.2.take i)+4294967296^i*x.1.toNat=val (A.take i)+val (B.take i)
theorem kq {l:L0} {i:Nat} (h:i<l.length):val (l.take (i+1))=val (l.take i)+4294967296^i*(l.getD i 0).toNat:=by
 rw[je h,iE,List.length_take,Nat.min_eq_left (by omega)]
 simp[val]
theorem uu {l:L0} {i:Nat} (h:l.length<=i):l.take (i+1)=l.take i:=by
 rw[List.take_of_length_le (by omega),List.take_of_length_le (by omega)]
theorem A3 {A B:L0} {x:UInt64×L0} {i:Nat} (hi:i<A.length) (h:AdI A B i x):AdI A B (i+1) (adS A B x i):=by
 obtain⟨o,J,q⟩:=h
 obtain⟨s,j⟩:∃s,(if i<B.length then (x.1+(A.getD i 0).toUInt64)+(B.getD i 0).toUInt64 else x.1+(A.getD i 0).toUInt64)=s:=⟨_,rfl⟩
 have e:adS A B x i=(aO s 32,x.2.set i s.toUInt32):=by unfold adS; rw[j]
 have K:=cC (A.getD i 0); have M:=cC (B.getD i 0)
 have f:s.toNat=x.1.toNat+(A.getD i 0).toNat+(if i<B.length then (B.getD i 0).toNat else 0):=by
  rw[<-j]
  split
  ·rw[UInt64.toNat_add,UInt64.toNat_add,bV,bV]; omega
  ·rw[UInt64.toNat_add,bV]; omega
 have g:val (B.take (i+1))=val (B.take i)+4294967296^i*(if i<B.length then (B.getD i 0).toNat else 0):=by
  split
  ·rename_i k; exact kq k
  ·rename_i k; rw[uu (by omega)]; omega
 have I:s.toNat<2*4294967296:=by rw[f]; split <;> omega
 rw[e]
 have m:(aO s 32).toNat=s.toNat / 4294967296:=by rw[ea]; rfl
 have t:s.toUInt32.toNat=s.toNat%4294967296:=by rw[UInt64.toNat_toUInt32]
 refine⟨by simpa using o,by show (aO s 32).toNat<=1; rw[m]; omega,?_⟩
 show val ((x.2.set i s.toUInt32).take (i+1))+4294967296^(i+1)*(aO s 32).toNat=_
 rw[kq (by simp; omega),kq hi,g,m]
 have y:(x.2.set i s.toUInt32).take i=x.2.take i:=List.take_set_of_le (by omega)
 have z:(x.2.set i s.toUInt32).getD i 0=s.toUInt32:=by
  rw[List.getD_eq_getElem?_getD,List.getElem?_set_self (by omega)]; rfl
 rw[y,z,t,Nat.pow_succ]
 obtain⟨P,F⟩:∃P,(4294967296:Nat)^i=P:=⟨_,rfl⟩
 rw[F]at q g ⊢
 have G:=Nat.div_add_mod s.toNat 4294967296
 have N:P*(s.toNat%4294967296)+P*4294967296*(s.toNat / 4294967296)=P*s.toNat:=by
  rw[Nat.mul_assoc,<-Nat.mul_add,Nat.add_comm,G]
 have O:P*s.toNat=P*x.1.toNat+P*(A.getD i 0).toNat+P*(if i<B.length then (B.getD i 0).toNat else 0):=by rw[f,Nat.mul_add,Nat.mul_add]
 omega
theorem uX (A B:L0) (q:B.length<=A.length) (R:A.length<=50000000000000):F.HH (A,B)=some (an (val A+val B)):=by
 unfold F.HH
 dsimp only
 have t:wI ((A.length:Int)+1)=((A.length+1:Nat):Int):=by rw[aJ (by omega) (by omega)]; rfl
 have y:mkO 4 ((A.length+1:Nat):Int) ((A.length+1:Nat):Int) (0:UInt32)=some (List.replicate (A.length+1) 0):=by
  unfold mkO
  rw[if_pos (by omega),Int.toNat_natCast]
 rw[t,y,ae]
 have g:∀(k i:Nat) (x:UInt64×L0),i+k=A.length->AdI A B i x->loop (F.Fc A B) (x.1,(i:Int),x.2)=some (an (val A+val B)):=by
  intro k
  induction k with
  | zero=>
   intro i x hi f
   obtain⟨U,V,z⟩:=f
   have h:i=A.length:=by omega
   subst h
   refine bL ?_
   unfold F.Fc
   dsimp only
   rw[if_neg (by rw[decide_eq_true_eq]; omega),aP (show A.length<x.2.length by omega) 0,ae,aS,Int.toNat_natCast]
   obtain⟨m,G,X,I⟩:=eZ (x.2.set A.length x.1.toUInt32) (by simp; omega)
   rw[G,ae,I]
   congr 2
   have J:(x.2.set A.length x.1.toUInt32)=(x.2.set A.length x.1.toUInt32).take (A.length+1):=by rw[List.take_of_length_le (by simp; omega)]
   have K:(x.2.set A.length x.1.toUInt32).take A.length=x.2.take A.length:=List.take_set_of_le (by omega)
   have M:(x.2.set A.length x.1.toUInt32).getD A.length 0=x.1.toUInt32:=by
    rw[List.getD_eq_getElem?_getD,List.getElem?_set_self (by omega)]; rfl
   have N:x.1.toUInt32.toNat=x.1.toNat:=by rw[UInt64.toNat_toUInt32]; omega
   rw[J,kq (by simp; omega),K,M,N,z,List.take_of_length_le (by omega),List.take_of_length_le q]
  | succ k ih=>
   intro i x hi f
   have j:wI ((i:Int)+1)=((i+1:Nat):Int):=by rw[aJ (by omega) (by omega)]; rfl
   have O:=f.1
   have o:F.Fc A B (x.1,(i:Int),x.2)=some (.inl ((adS A B x i).1,((i+1:Nat):Int),(adS A B x i).2)):=by
    unfold F.Fc adS
    dsimp only
    rw[if_pos (decide_eq_true (by omega)),aP (show i<A.length by omega) 0,ae]
    by_cases hb:i<B.length
    ·rw[if_pos (decide_eq_true (by omega)),aP hb 0,ae,aS,if_pos hb]
     unfold F.HN
     rw[aP (show i<x.2.length by omega) 0,ae,aS,j,Int.toNat_natCast]
     rfl
    ·rw[if_neg (by rw[decide_eq_true_eq]; omega),if_neg hb]
     unfold F.HN
     rw[aP (show i<x.2.length by omega) 0,ae,aS,j,Int.toNat_natCast]
     rfl
   rw[bJ o]
   exact ih (i+1) (adS A B x i) (by omega) (A3 (by omega) f)
 exact g A.length 0 (0,List.replicate (A.length+1) 0) (by omega) ⟨by simp,Nat.zero_le 1,by simp[val]⟩
theorem vi (a b:L0) (j:a.length<=40000000000000) (k:b.length<=40000000000000):F.GG a b=some (an (val a+val b)):=by
 obtain⟨m,f,o,g⟩:=eG a (by omega)
 obtain⟨q,h,t,i⟩:=eG b (by omega)
 have x:(an (val a)).length<=a.length:=bl (bv a)
 have y:(an (val b)).length<=b.length:=bl (bv b)
 unfold F.GG
 rw[f,ae,h,ae,g,i]
 by_cases hl:(an (val a)).length<(an (val b)).length
 ·rw[if_pos (decide_eq_true (by omega)),uX _ _ (by omega) (by omega),ar,ar,Nat.add_comm]
 ·rw[if_neg (by rw[decide_eq_true_eq]; omega),uX _ _ (by omega) (by omega),ar,ar]
theorem Al {n:Nat} {k:Nat} (h:(an n).length<=k):nb n<=32*k:=Nat.le_trans (jo n) (Nat.mul_le_mul_left 32 h)
end Go.Gk.Bn
end
