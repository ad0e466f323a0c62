import Derived.Test.YtmegjloifgfldaaGreatDoorGkUG
set_option linter.unusedVariables false
set_option linter.unusedSimpArgs false
set_option linter.unusedSectionVars false

section
namespace Go.Gk.Bn
open Go Go.Gk Go.Gk.Sh
def nS (c:Int):Nat:=if c=1 then 32 else 48
theorem yc (c:Int):cS c=((nS c:Nat):Int):=by unfold cS nS; split <;> rfl
theorem nS4 (c:Int):nS c=4*(nS c / 4)/\nS c<=48/\0<nS c:=by unfold nS; split <;> decide
def jR (c:Int) (x y:Q1):Q0×Q0×Bool×Int:=
 if isC c/\x.length=nS c/\y.length=nS c/\onN (cP c) (cB c) (beN x) (beN y)=true then (ao (beN x),ao (beN y),false,0) else ([],[],false,93)
theorem zI (x:Q1) (h:x.length<=48):nl (beN x:Int)<=1000:=by
 unfold nl; rw[Int.natAbs_natCast]
 have:=iV (gk x); omega
theorem sr (c:Int) (x y:Q1):F.Kc c x y=some (jR c x y):=by
 obtain⟨i,g,_,_,_,j,_⟩:=fV c
 have k:=oT c
 obtain⟨n1,o,t⟩:=nS4 c
 have f:F.IF x y true=some ([],[],false,93):=rfl
 unfold F.Kc jR
 rw[of_eq,ae]
 by_cases hc:isC c
 ·rw[if_pos hc]
  show (if ((x.length:Int) != cS c)=true then _ else _)=_
  rw[yc]
  by_cases h1:x.length=nS c
  ·rw[if_neg (by rw[h1]; simp)]
   show (if ((y.length:Int) != cS c)=true then _ else _)=_
   rw[yc]
   by_cases h2:y.length=nS c
   ·rw[if_neg (by rw[h2]; simp),lH _ _ x (by omega),ae,lH _ _ y (by omega),ae]
    have h:=Dl (cP c) (cB c) (bi (cN c:Int)).1 (bi (cN c:Int)).2 (bi (cX c:Int)).1 (bi (cX c:Int)).2 (bi (cY c:Int)).1 (bi (cY c:Int)).2 (cS c) (by omega) (by omega) g (beN x) (beN y) (by have:=zI x (by omega); omega) (by have:=zI y (by omega); omega)
    show ah (F.IZ (bi (cP c:Int)).1 (bi (cP c:Int)).2 (bi (cB c:Int)).1 (bi (cB c:Int)).2 (bi (cN c:Int)).1 (bi (cN c:Int)).2 (bi (cX c:Int)).1 (bi (cX c:Int)).2 (bi (cY c:Int)).1 (bi (cY c:Int)).2 (cS c) _ _ _ _) _=_
    rw[h,ae]
    cases ho:onN (cP c) (cB c) (beN x) (beN y) with
    | true=>
     rw[if_pos ⟨hc,h1,h2,rfl⟩]
     unfold F.IF
     rw[if_neg (by decide),cz x (by omega),ae,cz y (by omega),ae]
    | false=>
     rw[if_neg (fun h=>by cases h.2.2.2)]
     exact f
   ·rw[if_pos (by simp only[bne_iff_ne]; omega),if_neg (fun h=>h2 h.2.2.1)]; exact f
  ·rw[if_pos (by simp only[bne_iff_ne]; omega),if_neg (fun h=>h1 h.2.1)]; exact f
 ·rw[if_neg hc,if_neg (fun h=>hc h.1)]; rfl
theorem zA {p b x y:Nat} (h:onN p b x y=true):x<p/\y<p:=by
 unfold onN at h
 simp only[Bool.and_eq_true,decide_eq_true_eq]at h
 exact⟨h.1,h.2.1⟩
end Go.Gk.Bn
end

section
namespace Go.Gk.Bn
open Go Go.Gk Go.Gk.Sh
end Go.Gk.Bn
end
