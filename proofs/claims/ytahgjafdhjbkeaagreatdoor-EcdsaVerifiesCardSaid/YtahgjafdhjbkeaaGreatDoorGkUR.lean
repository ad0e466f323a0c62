import Derived.Test.YtahgjafdhjbkeaaGreatDoorGkUN
import Derived.Test.YtahgjafdhjbkeaaGreatDoorGkEc0
import Derived.Test.YtahgjafdhjbkeaaGreatDoorGkUA
set_option linter.unusedVariables false
set_option linter.unusedSimpArgs false
set_option linter.unusedSectionVars false

section
namespace Go.Gk.Bn
open Go Go.Gk Go.Gk.Sh Go.Gk.Ec Go.Gk.Pr
section
variable {p:Nat} [NeZero p]
end
def gP (c:Int):Pt (cP c):=some (fz (cX c:Int),fz (cY c:Int))
theorem wg (c:Int) (hc:isC c):On (-3) (bF c) (gP c):=by
 obtain ⟨_,_,_,f,g,_⟩:=dp c
 refine (pS c hc (cX c) (cY c) f g).1 ?_
 rcases hc with rfl | rfl
 ·decide +kernel
 ·decide +kernel
end Go.Gk.Bn
end

section
namespace Go.Gk.Bn
open Go Go.Gk Go.Gk.Sh Go.Gk.Ec Go.Gk.Pr
theorem q7 (n:Nat) (f:nl (n:Int)≤1000000000):F.GD (bi (n:Int)).1 (bi (n:Int)).2=some (nb n:Int):=by
 unfold F.GD
 rw [length_eq _ (by have:(bi (n:Int)).2.length=nl (n:Int):=rfl; omega),ae,bi2,Int.natAbs_natCast,kJ]
def bw (n i:Nat):UInt64:=UInt64.ofNat (n / 2^i%2)
theorem rP (n i:Nat):(bw n i == 1)=decide (n / 2^i%2=1):=by
 have h:n / 2^i%2=0∨n / 2^i%2=1:=by omega
 unfold bw
 rcases h with h | h <;> rw [h] <;> rfl
theorem AT (a:List UInt32) (i:Nat) (hi:i≤4611686018427387904) (m:a.length≤4611686018427387904):F.GR a (i:Int)=some (bw (val a) i):=by
 unfold F.GR F.HX
 have g:wI (Int.tdiv (i:Int) 32)=((i / 32:Nat):Int):=by rw [Int.tdiv_eq_ediv_of_nonneg (by omega),aJ (by omega) (by omega)]; omega
 have j:((UInt64.ofInt (i:Int))%32).toNat=i%32:=by
  rw [UInt64.toNat_mod,UInt64.ofInt,UInt64.toNat_ofNat']
  have:(32:UInt64).toNat=32:=rfl
  rw [this]; omega
 rw [if_neg (by simp only [decide_eq_true_eq]; omega),g]
 dsimp only
 by_cases h:a.length≤i / 32
 ·rw [if_pos (decide_eq_true (by omega))]
  have f:=oQ a i
  have k:a.getD (i / 32) 0=0:=dN h
  rw [k]at f
  unfold bw
  rw [←f]
  have:(0:UInt32).toNat=0:=rfl
  rw [this,Nat.zero_div]; rfl
 ·rw [if_neg (by simp only [decide_eq_true_eq]; omega),aO (show i / 32<a.length by omega) 0,ae,j]
  congr 1
  apply UInt64.toNat_inj.1
  have f:((bu (a.getD (i / 32) 0) (i%32)).toUInt64 &&& 1).toNat=val a / 2^i%2:=by
   rw [UInt64.toNat_and,bW,f9,Nat.min_eq_left (by omega),←oQ]
   have:(1:UInt64).toNat=2^1 - 1:=rfl
   rw [this,Nat.and_two_pow_sub_one_eq_mod]
  rw [f]
  unfold bw
  rw [UInt64.toNat_ofNat']
  omega
theorem yh (n i:Nat) (hi:i≤4611686018427387904) (f:nl (n:Int)≤1000000000):F.Gr (bi (n:Int)).1 (bi (n:Int)).2 (i:Int)=some (bw n i):=by
 unfold F.Gr
 rw [if_neg (by simp only [decide_eq_true_eq]; omega),bi1 (by omega),if_pos (by rfl),AT _ _ hi (by have:(bi (n:Int)).2.length=nl (n:Int):=rfl; omega),ae,lA,Int.natAbs_natCast]
section
variable {p:Nat} [NeZero p]
def kx (t:Fin p×Fin p×Fin p) (b:Bool) (q:Fin p×Fin p×Fin p):Fin p×Fin p×Fin p:=
 let d:=lC t.1 t.2.1 t.2.2
 if b then j4 d.1 d.2.1 d.2.2 q.1 q.2.1 q.2.2 else d
variable (b0:Bool) (b1:List UInt32) (n0:Bool) (n1:List UInt32) (x0:Bool) (x1:List UInt32) (y0:Bool) (y1:List UInt32) (s:Int) (hpl:nl (p:Int)≤1000)
include hpl
theorem yD (t:Fin p×Fin p×Fin p) (b:Bool) (q:Fin p×Fin p×Fin p) :
  F.DV (bi (p:Int)).1 (bi (p:Int)).2 b0 b1 n0 n1 x0 x1 y0 y1 s (bt t).1 (bt t).2.1 (bt t).2.2.1 (bt t).2.2.2.1 (bt t).2.2.2.2.1 (bt t).2.2.2.2.2 b (bt q).1 (bt q).2.1 (bt q).2.2.1 (bt q).2.2.2.1 (bt q).2.2.2.2.1 (bt q).2.2.2.2.2=some (bt (kx t b q)):=by
 unfold F.DV F.In
 have f:=pM b0 b1 n0 n1 x0 x1 y0 y1 s hpl t.1 t.2.1 t.2.2
 rw [show F.FE (bi (p:Int)).1 (bi (p:Int)).2 b0 b1 n0 n1 x0 x1 y0 y1 s (bt t).1 (bt t).2.1 (bt t).2.2.1 (bt t).2.2.2.1 (bt t).2.2.2.2.1 (bt t).2.2.2.2.2=_ from f,ae]
 unfold kx
 cases b with
 | false=>rfl
 | true=>
  rw [if_pos rfl]
  generalize lC t.1 t.2.1 t.2.2=d
  have g:=uz b0 b1 n0 n1 x0 x1 y0 y1 s hpl d.1 d.2.1 d.2.2 q.1 q.2.1 q.2.2
  rw [show F.DL (bi (p:Int)).1 (bi (p:Int)).2 b0 b1 n0 n1 x0 x1 y0 y1 s (bt d).1 (bt d).2.1 (bt d).2.2.1 (bt d).2.2.2.1 (bt d).2.2.2.2.1 (bt d).2.2.2.2.2 (bt q).1 (bt q).2.1 (bt q).2.2.1 (bt q).2.2.2.1 (bt q).2.2.2.2.1 (bt q).2.2.2.2.2=_ from g,ae]
  rfl
omit hpl in
omit hpl in
theorem zH {b:Fin p} (F:Fld p) {t q:Fin p×Fin p×Fin p} (g:On (-3) b (jpt t)) (h:On (-3) b (jpt q)) (c:Bool):jpt (kx t c q)=if c then Ec.add (-3) (Ec.add (-3) (jpt t) (jpt t)) (jpt q) else Ec.add (-3) (jpt t) (jpt t):=by
 have f:=n7 F t
 unfold kx
 cases c with
 | false=>exact f
 | true=>
  rw [if_pos rfl,if_pos rfl,ql (b:=b) F _ _ (by rw [f]; exact F.on_add g g) h,f]
omit hpl in
theorem AK (e k:Nat):e / 2^k=2*(e / 2^(k+1))+(if decide (e / 2^k%2=1) then 1 else 0):=by
 have f:e / 2^(k+1)=e / 2^k / 2:=by rw [Nat.pow_succ,Nat.div_div_eq_div_mul]
 rw [f]
 by_cases h:e / 2^k%2=1
 ·rw [decide_eq_true h,if_pos rfl]; omega
 ·rw [decide_eq_false h,if_neg (by decide)]; omega
omit hpl in
end
theorem qU (k:List UInt32) (f:k.length≤35184372087808):F.Ex k=some ((bi (val k:Int)).1,(bi (val k:Int)).2,decide (nb (val k)≤1024)):=by
 unfold F.Ex
 rw [vX k f,ae,iR k (by omega),ae]
 congr 3
 by_cases h:nb (val k)≤1024
 ·rw [decide_eq_true h,decide_eq_true (by omega)]
 ·rw [decide_eq_false h,decide_eq_false (by omega)]
end Go.Gk.Bn
end

section
namespace Go.Gk.Bn
open Go Go.Gk Go.Gk.Sh Go.Gk.Ec Go.Gk.Pr
abbrev J3 (c:Int):=Fin (cP c)×Fin (cP c)×Fin (cP c)
def gJ (c:Int):J3 c:=(fz (cX c:Int),fz (cY c:Int),1)
theorem vu (c:Int):jpt (gJ c)=gP c:=by
 show jac (fz (p:=cP c) (cX c:Int)) (fz (cY c:Int)) 1=_
 exact (iz c).jac_of (px c) (by grobner) (by grobner)
theorem tH (c:Int) {v:Nat} (h:v<cP c):be (fz (p:=cP c) (v:Int))=bi (v:Int):=by rw [km,Int.emod_eq_of_lt (by omega) (by omega)]
theorem Cd (c:Int):be (1:Fin (cP c))=bi 1:=by
 have:=(iP c).1
 rw [←xG,km,Int.emod_eq_of_lt (by omega) (by omega)]
theorem ux (c:Int):bt ((0,0,0):J3 c)=(false,[],false,[],false,[]):=by
 unfold bt
 dsimp only
 rw [uW]
def gQ (c:Int) (t:J3 c):Bool×List UInt32×Bool×List UInt32×Bool×List UInt32×Bool×List UInt32×Bool×List UInt32×Int×Bool×List UInt32×Bool×List UInt32×Bool×List UInt32:=
 ((gT c).1,(gT c).2.1,(gT c).2.2.1,(gT c).2.2.2.1,(gT c).2.2.2.2.1,(gT c).2.2.2.2.2.1,(gT c).2.2.2.2.2.2.1,(gT c).2.2.2.2.2.2.2.1,(gT c).2.2.2.2.2.2.2.2.1,(gT c).2.2.2.2.2.2.2.2.2.1,(gT c).2.2.2.2.2.2.2.2.2.2,
  (bt t).1,(bt t).2.1,(bt t).2.2.1,(bt t).2.2.2.1,(bt t).2.2.2.2.1,(bt t).2.2.2.2.2)
theorem u6 (c:Int) (t:J3 c):((gQ c t).2.2.2.2.2.2.1,(gQ c t).2.2.2.2.2.2.2.1,(gQ c t).2.2.2.2.2.2.2.2.1,(gQ c t).2.2.2.2.2.2.2.2.2.1,(bi 1).1,(bi 1).2)=bt (gJ c):=by
 obtain ⟨_,_,_,f,g,_⟩:=dp c
 unfold bt gJ
 dsimp only
 rw [tH c f,tH c g,Cd]
 rfl
theorem Ck (c:Int) (t:J3 c) (b:Bool) (q:J3 c) :
  F.DV (gT c).1 (gT c).2.1 (gT c).2.2.1 (gT c).2.2.2.1 (gT c).2.2.2.2.1 (gT c).2.2.2.2.2.1 (gT c).2.2.2.2.2.2.1 (gT c).2.2.2.2.2.2.2.1 (gT c).2.2.2.2.2.2.2.2.1 (gT c).2.2.2.2.2.2.2.2.2.1 (gT c).2.2.2.2.2.2.2.2.2.2
   (bt t).1 (bt t).2.1 (bt t).2.2.1 (bt t).2.2.2.1 (bt t).2.2.2.2.1 (bt t).2.2.2.2.2 b (bt q).1 (bt q).2.1 (bt q).2.2.1 (bt q).2.2.2.1 (bt q).2.2.2.2.1 (bt q).2.2.2.2.2=some (bt (kx t b q)):=
 yD _ _ _ _ _ _ _ _ _ (by have:=nV c; omega) t b q
def whJ (c:Int) (q:J3 c) (x y:Bool):J3 c:=if x&&y then j4 (gJ c).1 (gJ c).2.1 (gJ c).2.2 q.1 q.2.1 q.2.2 else if y then q else if x then gJ c else (0,0,0)
def qf (c:Int) (m n:Nat) (q:J3 c):Nat→J3 c→J3 c
 | 0,t=>t
 | i+1,t=>qf c m n q i (kx t true (whJ c q (decide (m / 2^i%2=1)) (decide (n / 2^i%2=1))))
theorem CD (c:Int) (q:J3 c) (i:Nat) (hi:i≤1000000000) (t u:J3 c) :
  F.DC (gQ c q) (i:Int) (bt t).1 (bt t).2.1 (bt t).2.2.1 (bt t).2.2.2.1 (bt t).2.2.2.2.1 (bt t).2.2.2.2.2 (bt u)=some (.inl ((i:Int) - 1,bt (kx t true u))):=by
 have w:wI ((i:Int) - 1)=(i:Int) - 1:=aJ (by omega) (by omega)
 have h:=Ck c t true u
 unfold F.DC
 generalize bt u=v at h ⊢
 obtain ⟨f,g,j,k,m,o⟩:=v
 show ah (F.DV _ _ _ _ _ _ _ _ _ _ _ _ _ _ _ _ _ _ _ _ _ _ _ _) _=_
 rw [show F.DV (gQ c q).1 (gQ c q).2.1 (gQ c q).2.2.1 (gQ c q).2.2.2.1 (gQ c q).2.2.2.2.1 (gQ c q).2.2.2.2.2.1 (gQ c q).2.2.2.2.2.2.1 (gQ c q).2.2.2.2.2.2.2.1 (gQ c q).2.2.2.2.2.2.2.2.1 (gQ c q).2.2.2.2.2.2.2.2.2.1 (gQ c q).2.2.2.2.2.2.2.2.2.2.1
  (bt t).1 (bt t).2.1 (bt t).2.2.1 (bt t).2.2.2.1 (bt t).2.2.2.2.1 (bt t).2.2.2.2.2 true f g j k m o=_ from h,ae,w]
 rfl
theorem oY (c:Int) (m n:Nat) (k:nl (m:Int)≤1000000000) (o:nl (n:Int)≤1000000000) (q:J3 c) (g j:Bool):∀(i:Nat) (t:J3 c),i≤100000000 →
  loop (F.EH (gQ c q) ((bi (m:Int)).1,(bi (m:Int)).2,g) ((bi (n:Int)).1,(bi (n:Int)).2,j) (bi 1) (bt (j4 (gJ c).1 (gJ c).2.1 (gJ c).2.2 q.1 q.2.1 q.2.2)))
   ((i:Int) - 1,bt t)=some ((rep (jpt (qf c m n q i t))).1,(rep (jpt (qf c m n q i t))).2.1,(rep (jpt (qf c m n q i t))).2.2,0)
 | 0,t,_=>by
  refine bO ?_
  unfold F.EH
  dsimp only
  rw [if_neg (by simp)]
  congr 1
  show ah (F.DW _ _ _ _ _ _ _ _ _ _ _ _ _ _ _ _ _) _=_
  have h:=Ci c t
  rw [show F.DW (gQ c q).1 (gQ c q).2.1 (gQ c q).2.2.1 (gQ c q).2.2.2.1 (gQ c q).2.2.2.2.1 (gQ c q).2.2.2.2.2.1 (gQ c q).2.2.2.2.2.2.1 (gQ c q).2.2.2.2.2.2.2.1 (gQ c q).2.2.2.2.2.2.2.2.1 (gQ c q).2.2.2.2.2.2.2.2.2.1 (gQ c q).2.2.2.2.2.2.2.2.2.2.1
   (bt t).1 (bt t).2.1 (bt t).2.2.1 (bt t).2.2.2.1 (bt t).2.2.2.2.1 (bt t).2.2.2.2.2=_ from h,ae]
  rfl
 | i+1,t,hi=>by
  have e:(((i+1:Nat):Int) - 1)=(i:Int):=by omega
  rw [e]
  have x:F.EH (gQ c q) ((bi (m:Int)).1,(bi (m:Int)).2,g) ((bi (n:Int)).1,(bi (n:Int)).2,j) (bi 1) (bt (j4 (gJ c).1 (gJ c).2.1 (gJ c).2.2 q.1 q.2.1 q.2.2)) ((i:Int),bt t)
    = some (.inl ((i:Int) - 1,bt (kx t true (whJ c q (decide (m / 2^i%2=1)) (decide (n / 2^i%2=1)))))):=by
   unfold F.EH
   show (if decide ((0:Int)≤(i:Int))=true then _ else _)=_
   rw [if_pos (decide_eq_true (by omega))]
   dsimp only
   rw [yh m i (by omega) k,ae,yh n i (by omega) o,ae,rP]
   have f:=fun u=>CD c q i (by omega) t u
   unfold F.Ht whJ
   cases hx:decide (m / 2^i%2=1) with
   | true=>
    rw [if_pos rfl]
    show (if (bw n i == 1)=true then _ else _)=_
    rw [rP]
    cases hy:decide (n / 2^i%2=1) with
    | true=>
     rw [if_pos rfl]
     exact f _
    | false=>
     rw [if_neg (by decide),if_neg (by decide),if_neg (by decide)]
     show F.DC _ _ _ _ _ _ _ _ ((gQ c q).2.2.2.2.2.2.1,(gQ c q).2.2.2.2.2.2.2.1,(gQ c q).2.2.2.2.2.2.2.2.1,(gQ c q).2.2.2.2.2.2.2.2.2.1,(bi 1).1,(bi 1).2)=_
     rw [u6]
     exact f _
   | false=>
    rw [if_neg (by decide)]
    show (if false=true then _ else _)=_
    rw [if_neg (by decide),rP]
    cases hy:decide (n / 2^i%2=1) with
    | true=>
     rw [if_pos rfl]
     exact f _
    | false=>
     rw [if_neg (by decide)]
     rw [if_pos (show (!false)=true from rfl)]
     unfold F.Dx
     rw [ae]
     show F.DC _ _ _ _ _ _ _ _ (false,[],false,[],false,[])=_
     rw [←ux c]
     exact f _
  rw [bI x]
  exact oY c m n k o q g j i _ (by omega)
theorem uO {n:Nat} (h:nb n≤1024):nl (n:Int)≤33:=by
 refine rB ?_
 rw [Int.natAbs_natCast]
 have f:=(dS n).1
 have g:=Nat.pow_le_pow_right (show 0<2 by decide) (show nb n≤32*33 by omega)
 rw [show (4294967296:Nat)=2^32 from rfl,←Nat.pow_mul]
 omega
end Go.Gk.Bn
end

section
namespace Go.Gk.Bn
open Go Go.Gk Go.Gk.Sh Go.Gk.Ec Go.Gk.Pr
theorem yp {c:Int} (P:Pt (cP c)):eE c (rep P).1 (rep P).2.1 (rep P).2.2=P:=by
 rcases P with _ | ⟨x,y⟩
 ·rfl
 ·show some (fz (val (am x.val):Int),fz (val (am y.val):Int))=_
  rw [aq,aq,gt,gt]
theorem AU {c:Int} (hc:isC c) {P:Pt (cP c)} (f:On (-3) (bF c) P):onS c (rep P).1 (rep P).2.1 (rep P).2.2=true:=by
 unfold onS
 rw [if_pos hc]
 rcases P with _ | ⟨x,y⟩
 ·rfl
 ·show (if false=true then _ else onN (cP c) (cB c) (val (am x.val)) (val (am y.val)))=true
  rw [if_neg (by decide),aq,aq,pS c hc _ _ x.isLt y.isLt,gt,gt]
  exact f
noncomputable def res {c:Int} (P:Pt (cP c)):List UInt32×List UInt32×Bool×Int:=((rep P).1,(rep P).2.1,(rep P).2.2,0)
theorem yL (c:Int) (hc:isC c):F.IZ c=some (rep (gP c)):=by
 obtain ⟨_,_,_,f,g,_⟩:=dp c
 rw [uT,if_pos hc]
 show some (am (cX c),am (cY c),false)=some (am (fz (p:=cP c) (cX c:Int)).val,am (fz (p:=cP c) (cY c:Int)).val,false)
 rw [pe _ f,pe _ g]
end Go.Gk.Bn
end

section
namespace Go.Gk.Bn
open Go Go.Gk Go.Gk.Sh Go.Gk.Ec Go.Gk.Pr
theorem qX (n:Nat):cv n n=0:=by unfold cv; rw [if_neg (by omega),if_pos rfl]
theorem qR (a b:List UInt32) (m g:Nat) (A B:List UInt32) (i:a.take m=A) (j:b.take g=B) (o:A.length=B.length) (t:A.length≤4611686018427387904):∀k:Nat,k≤A.length→val (A.drop k)=val (B.drop k)→loop (F.EW a b m g) ((k:Int) - 1)=some (cv (val A) (val B))
 | 0,_,h=>by
  rw [List.drop_zero,List.drop_zero]at h
  refine bO ?_
  unfold F.EW
  rw [if_neg (by decide),h,qX]
 | k+1,hk,h=>by
  have x:(((k+1:Nat):Int)) - 1=(k:Int):=by omega
  rw [x]
  have w:wI ((k:Int) - 1)=(k:Int) - 1:=aJ (by omega) (by omega)
  have f:F.EW a b m g (k:Int)=if (A.getD k 0)<(B.getD k 0) then bo (some (-1)) else if (B.getD k 0)<(A.getD k 0) then bo (some 1) else bC ((k:Int) - 1):=by
   unfold F.EW
   rw [i,j,if_pos (decide_eq_true (by omega)),aO (show k<A.length by omega) 0,ae,aO (show k<B.length by omega) 0,ae]
   by_cases h1:A.getD k 0<B.getD k 0
   ·rw [if_pos (decide_eq_true h1),if_pos h1]
   ·rw [if_neg (by rw [decide_eq_true_eq]; exact h1),if_neg h1,ae,ae]
    by_cases h2:B.getD k 0<A.getD k 0
    ·rw [if_pos (decide_eq_true h2),if_pos h2]
    ·rw [if_neg (by rw [decide_eq_true_eq]; exact h2),if_neg h2,w]
  by_cases h1:A.getD k 0<B.getD k 0
  ·rw [if_pos h1]at f
   have:=ia A B k h (UInt32.lt_iff_toNat_lt.1 h1)
   rw [bO f]; unfold cv; rw [if_pos this]
  ·rw [if_neg h1]at f
   by_cases h2:B.getD k 0<A.getD k 0
   ·rw [if_pos h2]at f
    have:=ia B A k h.symm (UInt32.lt_iff_toNat_lt.1 h2)
    rw [bO f]; unfold cv; rw [if_neg (by omega),if_neg (by omega)]
   ·rw [if_neg h2]at f
    rw [bI f]
    refine qR a b m g A B i j o t k (by omega) ?_
    have y:¬(A.getD k 0).toNat<(B.getD k 0).toNat:=fun q=>h1 (UInt32.lt_iff_toNat_lt.2 q)
    have z:¬(B.getD k 0).toNat<(A.getD k 0).toNat:=fun q=>h2 (UInt32.lt_iff_toNat_lt.2 q)
    rw [cg A k,cg B k,h]; omega
theorem sF {a b:Nat} (h:(am a).length<(am b).length):a<b:=by
 rcases Nat.lt_or_ge a b with f | f
 ·exact f
 ·have:=c0 f; omega
theorem jD (a b:List UInt32) (h:a.length≤4611686018427387904) (i:b.length≤4611686018427387904):F.Dz a b=some (cv (val a) (val b)):=by
 obtain ⟨m,j,q,f⟩:=eu a h
 obtain ⟨k,o,t,g⟩:=eu b i
 have x:(am (val a)).length≤a.length:=bj (bv a)
 unfold F.Dz
 rw [j,ae,o,ae,f,g]
 by_cases hl:(am (val a)).length<(am (val b)).length
 ·have:=sF hl
  rw [if_pos (decide_eq_true (by omega))]; unfold cv; rw [if_pos this]
 ·rw [if_neg (by rw [decide_eq_true_eq]; omega)]
  by_cases hl2:(am (val b)).length<(am (val a)).length
  ·have:=sF hl2
   rw [if_pos (decide_eq_true (by omega))]; unfold cv; rw [if_neg (by omega),if_neg (by omega)]
  ·rw [if_neg (by rw [decide_eq_true_eq]; omega),aS,aJ (by omega) (by omega)]
   have:=qR a b m k (am (val a)) (am (val b)) f g (by omega) (by omega) (am (val a)).length (Nat.le_refl _) (by rw [List.drop_of_length_le (by omega),List.drop_of_length_le (by omega)])
   rw [aq,aq]at this
   exact this
def adS (A B:List UInt32) (x:UInt64×List UInt32) (i:Nat):UInt64×List UInt32:=
 let s:=if i<B.length then (x.1+(A.getD i 0).toUInt64)+(B.getD i 0).toUInt64 else x.1+(A.getD i 0).toUInt64
 (aM s 32,x.2.set i s.toUInt32)
def AdI (A B:List UInt32) (i:Nat) (x:UInt64×List UInt32):Prop:=
 x.2.length=A.length+1∧x.1.toNat≤1∧val (x.2.take i)+4294967296^i*x.1.toNat=val (A.take i)+val (B.take i)
theorem kg {l:List UInt32} {i:Nat} (h:i<l.length):val (l.take (i+1))=val (l.take i)+4294967296^i*(l.getD i 0).toNat:=by
 rw [i4 h,ip,List.length_take,Nat.min_eq_left (by omega)]
 simp [val]
theorem tT {l:List UInt32} {i:Nat} (h:l.length≤i):l.take (i+1)=l.take i:=by
 rw [List.take_of_length_le (by omega),List.take_of_length_le (by omega)]
theorem AF {A B:List UInt32} {x:UInt64×List UInt32} {i:Nat} (hi:i<A.length) (h:AdI A B i x):AdI A B (i+1) (adS A B x i):=by
 obtain ⟨o,J,q⟩:=h
 obtain ⟨s,j⟩:∃s,(if i<B.length then (x.1+(A.getD i 0).toUInt64)+(B.getD i 0).toUInt64 else x.1+(A.getD i 0).toUInt64)=s:=⟨_,rfl⟩
 have e:adS A B x i=(aM s 32,x.2.set i s.toUInt32):=by unfold adS; rw [j]
 have K:=cw (A.getD i 0); have M:=cw (B.getD i 0)
 have f:s.toNat=x.1.toNat+(A.getD i 0).toNat+(if i<B.length then (B.getD i 0).toNat else 0):=by
  rw [←j]
  split
  ·rw [UInt64.toNat_add,UInt64.toNat_add,bW,bW]; omega
  ·rw [UInt64.toNat_add,bW]; omega
 have g:val (B.take (i+1))=val (B.take i)+4294967296^i*(if i<B.length then (B.getD i 0).toNat else 0):=by
  split
  ·rename_i k; exact kg k
  ·rename_i k; rw [tT (by omega)]; omega
 have I:s.toNat<2*4294967296:=by rw [f]; split <;> omega
 rw [e]
 have m:(aM s 32).toNat=s.toNat / 4294967296:=by rw [dU]; rfl
 have t:s.toUInt32.toNat=s.toNat%4294967296:=by rw [UInt64.toNat_toUInt32]
 refine ⟨by simpa using o,by show (aM s 32).toNat≤1; rw [m]; omega,?_⟩
 show val ((x.2.set i s.toUInt32).take (i+1))+4294967296^(i+1)*(aM s 32).toNat=_
 rw [kg (by simp; omega),kg hi,g,m]
 have y:(x.2.set i s.toUInt32).take i=x.2.take i:=List.take_set_of_le (by omega)
 have z:(x.2.set i s.toUInt32).getD i 0=s.toUInt32:=by
  rw [List.getD_eq_getElem?_getD,List.getElem?_set_self (by omega)]; rfl
 rw [y,z,t,Nat.pow_succ]
 obtain ⟨P,F⟩:∃P,(4294967296:Nat)^i=P:=⟨_,rfl⟩
 rw [F]at q g ⊢
 have G:=Nat.div_add_mod s.toNat 4294967296
 have N:P*(s.toNat%4294967296)+P*4294967296*(s.toNat / 4294967296)=P*s.toNat:=by
  rw [Nat.mul_assoc,←Nat.mul_add,Nat.add_comm,G]
 have O:P*s.toNat=P*x.1.toNat+P*(A.getD i 0).toNat+P*(if i<B.length then (B.getD i 0).toNat else 0):=by rw [f,Nat.mul_add,Nat.mul_add]
 omega
theorem uw (A B:List UInt32) (q:B.length≤A.length) (R:A.length≤50000000000000):F.G4 (A,B)=some (am (val A+val B)):=by
 unfold F.G4
 dsimp only
 have t:wI ((A.length:Int)+1)=((A.length+1:Nat):Int):=by rw [aJ (by omega) (by omega)]; rfl
 have y:mkO 4 ((A.length+1:Nat):Int) ((A.length+1:Nat):Int) (0:UInt32)=some (List.replicate (A.length+1) 0):=by
  unfold mkO
  rw [if_pos (by omega),Int.toNat_natCast]
 rw [t,y,ae]
 have g:∀(k i:Nat) (x:UInt64×List UInt32),i+k=A.length→AdI A B i x→loop (F.EJ A B) (x.1,(i:Int),x.2)=some (am (val A+val B)):=by
  intro k
  induction k with
  | zero=>
   intro i x hi f
   obtain ⟨U,V,z⟩:=f
   have h:i=A.length:=by omega
   subst h
   refine bO ?_
   unfold F.EJ
   dsimp only
   rw [if_neg (by rw [decide_eq_true_eq]; omega),aO (show A.length<x.2.length by omega) 0,ae,aS,Int.toNat_natCast]
   obtain ⟨m,G,X,I⟩:=eJ (x.2.set A.length x.1.toUInt32) (by simp; omega)
   rw [G,ae,I]
   congr 2
   have J:(x.2.set A.length x.1.toUInt32)=(x.2.set A.length x.1.toUInt32).take (A.length+1):=by rw [List.take_of_length_le (by simp; omega)]
   have K:(x.2.set A.length x.1.toUInt32).take A.length=x.2.take A.length:=List.take_set_of_le (by omega)
   have M:(x.2.set A.length x.1.toUInt32).getD A.length 0=x.1.toUInt32:=by
    rw [List.getD_eq_getElem?_getD,List.getElem?_set_self (by omega)]; rfl
   have N:x.1.toUInt32.toNat=x.1.toNat:=by rw [UInt64.toNat_toUInt32]; omega
   rw [J,kg (by simp; omega),K,M,N,z,List.take_of_length_le (by omega),List.take_of_length_le q]
  | succ k ih=>
   intro i x hi f
   have j:wI ((i:Int)+1)=((i+1:Nat):Int):=by rw [aJ (by omega) (by omega)]; rfl
   have O:=f.1
   have o:F.EJ A B (x.1,(i:Int),x.2)=some (.inl ((adS A B x i).1,((i+1:Nat):Int),(adS A B x i).2)):=by
    unfold F.EJ adS
    dsimp only
    rw [if_pos (decide_eq_true (by omega)),aO (show i<A.length by omega) 0,ae]
    by_cases hb:i<B.length
    ·rw [if_pos (decide_eq_true (by omega)),aO hb 0,ae,aS,if_pos hb]
     unfold F.Ha
     rw [aO (show i<x.2.length by omega) 0,ae,aS,j,Int.toNat_natCast]
     rfl
    ·rw [if_neg (by rw [decide_eq_true_eq]; omega),if_neg hb]
     unfold F.Ha
     rw [aO (show i<x.2.length by omega) 0,ae,aS,j,Int.toNat_natCast]
     rfl
   rw [bI o]
   exact ih (i+1) (adS A B x i) (by omega) (AF (by omega) f)
 exact g A.length 0 (0,List.replicate (A.length+1) 0) (by omega) ⟨by simp,Nat.zero_le 1,by simp [val]⟩
theorem uJ (a b:List UInt32) (j:a.length≤40000000000000) (k:b.length≤40000000000000):F.F4 a b=some (am (val a+val b)):=by
 obtain ⟨m,f,o,g⟩:=eu a (by omega)
 obtain ⟨q,h,t,i⟩:=eu b (by omega)
 have x:(am (val a)).length≤a.length:=bj (bv a)
 have y:(am (val b)).length≤b.length:=bj (bv b)
 unfold F.F4
 rw [f,ae,h,ae,g,i]
 by_cases hl:(am (val a)).length<(am (val b)).length
 ·rw [if_pos (decide_eq_true (by omega)),uw _ _ (by omega) (by omega),aq,aq,Nat.add_comm]
 ·rw [if_neg (by rw [decide_eq_true_eq]; omega),uw _ _ (by omega) (by omega),aq,aq]
theorem zT {n:Nat} {k:Nat} (h:(am n).length≤k):nb n≤32*k:=Nat.le_trans (je n) (Nat.mul_le_mul_left 32 h)
end Go.Gk.Bn
end
