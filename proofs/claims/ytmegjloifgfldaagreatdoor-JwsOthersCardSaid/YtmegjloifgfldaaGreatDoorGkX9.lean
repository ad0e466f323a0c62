import Derived.Test.YtmegjloifgfldaaGreatDoorGkX5
import Derived.Test.YtmegjloifgfldaaGreatDoorGkFman
import Derived.Test.YtmegjloifgfldaaGreatDoorGkW4
set_option linter.unusedVariables false
set_option linter.unusedSimpArgs false
set_option linter.unusedSectionVars false

section
namespace Go.Gk.Bn
open Go Go.Gk Go.Gk.Sh Go.Gk.Ec Go.Gk.Pr
section
variable (c:Int)
abbrev T3F (c:Int):=Fin (cP c)×Fin (cP c)×Fin (cP c)
def r3 (t:T3F c):Q0×Q0×Q0:=(rl t.1,rl t.2.1,rl t.2.2)
end
end Go.Gk.Bn
end

section
namespace Go.Gk.Bn
open Go Go.Gk Go.Gk.Sh Go.Gk.Ec Go.Gk.Pr
end Go.Gk.Bn
end

section
namespace Go.Gk.Ec
variable {p:Nat} [NeZero p] {a b:Fin p}
noncomputable def wq (a:Fin p) (P Q:Pt p) (x y:Bool):Pt p:=if x&&y then add a P Q else if y then Q else if x then P else none
noncomputable def jq (a:Fin p) (P Q:Pt p) (m n:Nat):Nat->Pt p->Pt p
 | 0,T=>T
 | i+1,T=>jq a P Q m n i (add a (add a T T) (wq a P Q (decide (m / 2^i%2=1)) (decide (n / 2^i%2=1))))
theorem FU (C:Fld p) {P Q:Pt p} (f:On a b P) (g:On a b Q) (x y:Bool):On a b (wq a P Q x y):=by
 unfold wq
 split
 ·exact C.on_add f g
 ·split
  ·exact g
  ·split
   ·exact f
   ·trivial
end Go.Gk.Ec
namespace Go.Gk.Bn
open Go Go.Gk Go.Gk.Sh Go.Gk.Ec Go.Gk.Pr
theorem CW {c:Int} (hc:isC c) {q:J3 c} (f:On (-3) (bF c) (jpt q)) (x y:Bool):jpt (whJ c q x y)=wq (-3) (gP c) (jpt q) x y:=by
 have hg:=Df c hc
 unfold whJ wq
 cases x <;> cases y
 ·exact gg _ _
 ·rfl
 ·show jpt (gJ c)=_
  rw[yg]; rfl
 ·show jpt (lK _ _ _ _ _ _)=_
  rw[xB (b:=bF c) (ou c) _ _ (by rw[yg]; exact hg) f,yg]
  rfl
theorem AN {c:Int} (hc:isC c) (m n:Nat) {q:J3 c} (f:On (-3) (bF c) (jpt q)):∀(i:Nat) (t:J3 c),On (-3) (bF c) (jpt t)->jpt (rW c m n q i t)=jq (-3) (gP c) (jpt q) m n i (jpt t)
 | 0,t,h=>rfl
 | i+1,t,h=>by
  have g:=FU (ou c) (Df c hc) f (decide (m / 2^i%2=1)) (decide (n / 2^i%2=1))
  have e:=CF (b:=bF c) (ou c) h (q:=whJ c q (decide (m / 2^i%2=1)) (decide (n / 2^i%2=1))) (by rw[CW hc f]; exact g) true
  rw[if_pos rfl,CW hc f]at e
  unfold rW
  rw[AN hc m n f i _ (by rw[e]; exact (ou c).on_add ((ou c).on_add h h) g),e]
  rfl
noncomputable def JQ {c:Int} (P Q:Pt (cP c)) (m n:Nat):Pt (cP c):=jq (-3) P Q m n (max (nb m) (nb n)) none
theorem Dn {c:Int}:On (-3) (bF c) (jpt ((0,0,0):J3 c)):=by
 have:jpt ((0,0,0):J3 c)=none:=gg _ _
 rw[this]; trivial
theorem Ee {c:Int} {a k X Y:Q0} {q:Bool} (g:onS c X Y q=true) (hb:nb (val a)<=1024) (h:nb (val k)<=1024) (ha:a.length<=35184372087808) (t:k.length<=35184372087808) (z:X.length<=35184372087808) (A:Y.length<=35184372087808) :
  F.LQ c a k X Y q=some (res (JQ (gP c) (pF c X Y q) (val a) (val k))):=by
 have n1:¬(!true)=true:=by decide
 have hc:=yk g
 unfold F.LQ
 rw[BA c X Y q z A,ae,sV a ha,sV k t,if_pos hc]
 dsimp only[kc]
 rw[g,if_neg n1,ae,ae]
 dsimp only
 rw[decide_eq_true hb,if_neg n1,decide_eq_true h,FD g]
 show F.JY (gQ c (jT c X Y q)) _ _ _=_
 unfold F.JY
 dsimp only
 rw[if_neg n1,iM 1 (by decide) (by decide),ae]
 have f:=FQ c (gJ c) (jT c X Y q)
 have i:=xN c (jT c X Y q)
 rw[<-i]at f
 rw[show F.Hv (gQ c (jT c X Y q)).1 (gQ c (jT c X Y q)).2.1 (gQ c (jT c X Y q)).2.2.1 (gQ c (jT c X Y q)).2.2.2.1 (gQ c (jT c X Y q)).2.2.2.2.1 (gQ c (jT c X Y q)).2.2.2.2.2.1 (gQ c (jT c X Y q)).2.2.2.2.2.2.1 (gQ c (jT c X Y q)).2.2.2.2.2.2.2.1 (gQ c (jT c X Y q)).2.2.2.2.2.2.2.2.1 (gQ c (jT c X Y q)).2.2.2.2.2.2.2.2.2.1 (gQ c (jT c X Y q)).2.2.2.2.2.2.2.2.2.2.1
  (gQ c (jT c X Y q)).2.2.2.2.2.2.1 (gQ c (jT c X Y q)).2.2.2.2.2.2.2.1 (gQ c (jT c X Y q)).2.2.2.2.2.2.2.2.1 (gQ c (jT c X Y q)).2.2.2.2.2.2.2.2.2.1 (bi 1).1 (bi 1).2
  (gQ c (jT c X Y q)).2.2.2.2.2.2.2.2.2.2.2.1 (gQ c (jT c X Y q)).2.2.2.2.2.2.2.2.2.2.2.2.1 (gQ c (jT c X Y q)).2.2.2.2.2.2.2.2.2.2.2.2.2.1 (gQ c (jT c X Y q)).2.2.2.2.2.2.2.2.2.2.2.2.2.2.1 (gQ c (jT c X Y q)).2.2.2.2.2.2.2.2.2.2.2.2.2.2.2.1 (gQ c (jT c X Y q)).2.2.2.2.2.2.2.2.2.2.2.2.2.2.2.2=_ from f,ae]
 unfold F.Hb
 have G:=xu hb; have lk:=xu h
 rw[ae,te _ (by omega),ae,te _ (by omega),ae]
 have j:wI (max ((nb (val a):Nat):Int) ((nb (val k):Nat):Int) - 1)=((max (nb (val a)) (nb (val k)):Nat):Int) - 1:=by
  rw[aI (by omega) (by omega)]; omega
 rw[j]
 have hl:=qm c (val a) (val k) (by omega) (by omega) (jT c X Y q) true true (max (nb (val a)) (nb (val k))) (0,0,0) (by omega)
 rw[xc]at hl
 refine hl.trans ?_
 have o:On (-3) (bF c) (jpt (jT c X Y q)):=by rw[C0]; exact Fp g
 have B:jpt ((0,0,0):J3 c)=none:=gg _ _
 rw[AN hc _ _ o _ _ Dn,C0,B]
 rfl
end Go.Gk.Bn
end

section
namespace Go.Gk.Bn
open Go Go.Gk Go.Gk.Sh Go.Gk.Ec Go.Gk.Pr
end Go.Gk.Bn
end

section
namespace Go.Gk.Bn
open Go Go.Gk Go.Gk.Sh Go.Gk.Ec Go.Gk.Pr
end Go.Gk.Bn
end

section
namespace Go.Gk.Bn
open Go Go.Gk Go.Gk.Sh Go.Gk.Ec Go.Gk.Pr
noncomputable def okJ {c:Int} (z r s:Nat) (Q:Pt (cP c)):Bool:=Bh (JQ (gP c) Q (z*nM c s%cN c) (r*nM c s%cN c)) r
noncomputable def Ba (h c:Int) (x y m sig:Q1):Int:=
 if ¬isH h then 111 else if ¬((jR c x y).2.2.2=0) then 90 else if ¬(sig.length=2*nS c) then 91 else
 if ¬(inN c (beN (sig.take (nS c)))/\inN c (beN (sig.drop (nS c)))) then 91 else
 if okJ (zN h c m) (beN (sig.take (nS c))) (beN (sig.drop (nS c))) (pF c (jR c x y).1 (jR c x y).2.1 (jR c x y).2.2.1)=true then 0 else 91
theorem BJ (h c:Int) (x y m sig:Q1) (hm:m.length<=900000000000000) (hs:sig.length<=140737488351232):F.KS h c x y m sig=some (Ba h c x y m sig):=by
 obtain⟨n1,g,n3⟩:=nS4 c
 obtain⟨t,z,k,c4,c5⟩:=mC c
 unfold F.KS Ba
 rw[pX,ae]
 by_cases hh:isH h
 ·have hz:=iW h
  rw[if_pos hh,if_neg (show ¬(((Sz h:Nat):Int) == 0)=true by rw[beq_iff_eq]; omega),if_neg (not_not_intro hh),sr,ae]
  by_cases hd:(jR c x y).2.2.2=0
  ·obtain⟨hc,R,U,V,X⟩:=D6 hd
   rw[if_neg (by rw[hd]; decide),if_neg (not_not_intro hd),wX,ae,Bx,ae,if_pos hc,if_pos hc,yc,show wI (2*((nS c:Nat):Int))=((2*nS c:Nat):Int) by rw[aI (by omega) (by omega)]; omega]
   by_cases hl:sig.length=2*nS c
   ·have A:(sig.take (nS c)).length=nS c:=by rw[List.length_take]; omega
    have B:(sig.drop (nS c)).length=nS c:=by rw[List.length_drop]; omega
    have b1:=rj (Nat.le_of_eq A) g
    have b2:=rj (Nat.le_of_eq B) g
    have G:slO sig ((nS c:Nat):Int) ((2*nS c:Nat):Int)=some (sig.drop (nS c)):=by
     unfold slO
     rw[if_pos ⟨by omega,by omega,by omega⟩,Int.toNat_natCast,Int.toNat_natCast,List.take_of_length_le (by omega)]
    rw[if_neg (by rw[hl]; simp),grd_true _ ⟨by omega,by omega,rfl⟩,G,ae,Int.toNat_natCast,cz _ (by omega),ae,cz _ (by omega),ae,sA _ _ (by omega) (by omega),ae,aw,aw,
     if_neg (not_not_intro hl)]
    have i:∀(x2:Q0×Q0×Bool×Int) (I J K:Q0),F.J1 h c m x2 I J K true=some 91:=fun _ _ _ _=>rfl
    by_cases hr:inN c (beN (sig.take (nS c)))
    ·have j:0<beN (sig.take (nS c))/\beN (sig.take (nS c))<cN c:=hr
     rw[decide_eq_true j,if_neg (by decide),sA _ _ (by omega) (by omega),ae,aw,aw]
     by_cases hs2:inN c (beN (sig.drop (nS c)))
     ·have f:0<beN (sig.drop (nS c))/\beN (sig.drop (nS c))<cN c:=hs2
      rw[decide_eq_true f,if_neg (not_not_intro ⟨hr,hs2⟩)]
      obtain⟨o,Y,M⟩:=DW (c:=c) (ao (beN (sig.drop (nS c)))) (aw _) (by omega) f.1 f.2
      generalize Z:nM c (beN (sig.drop (nS c)))=w at o Y M
      have nw:=kG o
      have lw:=dG (Nat.le_of_lt o) k
      have nr:=kG j.2
      obtain⟨z1,z2⟩:=FT h c m
      have N:zN h c m*w%cN c<cN c:=Nat.mod_lt _ (by omega)
      have O:beN (sig.take (nS c))*w%cN c<cN c:=Nat.mod_lt _ (by omega)
      have ab:=kG N; have ac:=kG O
      have ad:=dG (Nat.le_of_lt N) k; have ap:=dG (Nat.le_of_lt O) k
      unfold F.J1
      rw[if_neg (by decide),M,ae,yN h c hh hc m hm,ae]
      dsimp only
      rw[sk _ _ _ t z (by rw[aw]; omega) (by rw[aw]; omega) (by omega) (by omega) (by omega),ae]
      rw[sk _ _ _ t z (by rw[aw]; omega) (by rw[aw]; omega) (by omega) (by omega) (by omega),ae,aw,aw,aw,R]
      dsimp only
      rw[Ee U (by rw[aw]; omega) (by rw[aw]; omega) (by omega) (by omega) (by have:=rj (Nat.le_of_eq V) g; omega) (by have:=rj (Nat.le_of_eq X) g; omega),ae,aw,aw]
      show (if ((0:Int) != 0)=true then _ else ah (F.IS (rep _).1 (rep _).2.1 (rep _).2.2 _ _) _)=_
      rw[if_neg (by decide),BV _ _ (by omega),ae,zW,aw]
      unfold okJ
      rw[Z]
      cases Bh (JQ (gP c) (pF c (ao (beN x)) (ao (beN y)) false) (zN h c m*w%cN c) (beN (sig.take (nS c))*w%cN c)) (beN (sig.take (nS c))) <;> rfl
     ·rw[decide_eq_false (show ¬(0<beN (sig.drop (nS c))/\beN (sig.drop (nS c))<cN c) from hs2),if_pos (fun q=>hs2 q.2)]; exact i _ _ _ _
    ·rw[decide_eq_false (show ¬(0<beN (sig.take (nS c))/\beN (sig.take (nS c))<cN c) from hr),if_pos (by decide),if_pos (fun q=>hr q.1)]; exact i _ _ _ _
   ·rw[if_pos (by rw[bne_iff_ne]; omega),if_pos hl]
  ·rw[if_pos (by rw[bne_iff_ne]; exact hd),if_pos hd]
 ·rw[if_neg hh,if_pos (by decide),if_pos hh]
end Go.Gk.Bn
end
