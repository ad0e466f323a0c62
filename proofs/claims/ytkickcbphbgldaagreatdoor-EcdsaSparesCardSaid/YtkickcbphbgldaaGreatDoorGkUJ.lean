import Derived.Test.YtkickcbphbgldaaGreatDoorGkUG
set_option linter.unusedVariables false
set_option linter.unusedSimpArgs false
set_option linter.unusedSectionVars false

section
namespace Go.Gk.Bn
open Go Go.Gk Go.Gk.Sh
theorem yK {v k m:Nat} (h:v<256^k) (hkm:k≤m):List.replicate (m - k) 0++beB k v=beB m v:=by
 refine tf (by simp [cF]; omega) ?_
 rw [pt,iV,iV,Nat.mod_eq_of_lt h,Nat.mod_eq_of_lt (Nat.lt_of_lt_of_le h (Nat.pow_le_pow_right (by decide) hkm))]
def nS (c:Int):Nat:=if c=1 then 32 else 48
theorem mX (c:Int):cS c=((nS c:Nat):Int):=by unfold cS nS; split <;> rfl
theorem nS4 (c:Int):nS c=4*(nS c / 4)∧nS c≤48∧0<nS c:=by unfold nS; split <;> decide
def iy (c:Int) (x y:List UInt8):List UInt32×List UInt32×Bool×Int:=
 if isC c∧x.length=nS c∧y.length=nS c∧onN (cP c) (cB c) (beN x) (beN y)=true then (aA (beN x),aA (beN y),false,0) else ([],[],false,93)
theorem vf (x:List UInt8) (h:x.length≤48):nl (beN x:Int)≤1000:=by
 unfold nl; rw [Int.natAbs_natCast]
 have:=gn (ig x); omega
theorem ve (c:Int) (x y:List UInt8):F.Fn c x y=some (iy c x y):=by
 obtain ⟨s1,s2,_,_,_,s6,_⟩:=dg c
 have hp:=kx c
 obtain ⟨n1,n2,n3⟩:=nS4 c
 have kt:F.C3 x y true=some ([],[],false,93):=rfl
 unfold F.Fn iy
 rw [of_eq,ak]
 by_cases hc:isC c
 ·rw [if_pos hc]
  show (if ((x.length:Int) != cS c)=true then _ else _)=_
  rw [mX]
  by_cases h1:x.length=nS c
  ·rw [if_neg (by rw [h1]; simp)]
   show (if ((y.length:Int) != cS c)=true then _ else _)=_
   rw [mX]
   by_cases h2:y.length=nS c
   ·rw [if_neg (by rw [h2]; simp),jL _ _ x (by omega),ak,jL _ _ y (by omega),ak]
    have h:=yx (cP c) (cB c) (bi (cN c:Int)).1 (bi (cN c:Int)).2 (bi (cX c:Int)).1 (bi (cX c:Int)).2 (bi (cY c:Int)).1 (bi (cY c:Int)).2 (cS c) (by omega) (by omega) s2 (beN x) (beN y) (by have:=vf x (by omega); omega) (by have:=vf y (by omega); omega)
    show an (F.CZ (bi (cP c:Int)).1 (bi (cP c:Int)).2 (bi (cB c:Int)).1 (bi (cB c:Int)).2 (bi (cN c:Int)).1 (bi (cN c:Int)).2 (bi (cX c:Int)).1 (bi (cX c:Int)).2 (bi (cY c:Int)).1 (bi (cY c:Int)).2 (cS c) _ _ _ _) _=_
    rw [h,ak]
    cases ho:onN (cP c) (cB c) (beN x) (beN y) with
    | true=>
     rw [if_pos ⟨hc,h1,h2,rfl⟩]
     unfold F.C3
     rw [if_neg (by decide),eE x (by omega),ak,eE y (by omega),ak]
    | false=>
     rw [if_neg (fun h=>by cases h.2.2.2)]
     exact kt
   ·rw [if_pos (by simp only [bne_iff_ne]; omega),if_neg (fun h=>h2 h.2.2.1)]; exact kt
  ·rw [if_pos (by simp only [bne_iff_ne]; omega),if_neg (fun h=>h1 h.2.1)]; exact kt
 ·rw [if_neg hc,if_neg (fun h=>hc h.1)]; rfl
def xN (c:Int) (X Y:List UInt32) (inf:Bool):List UInt8×List UInt8×Int:=
 if onS c X Y inf=true∧inf=false then (beB (nS c) (val X),beB (nS c) (val Y),0) else ([],[],93)
theorem tS (c:Int) (hc:isC c):cP c<256^nS c:=by
 rcases hc with h | h <;> subst h <;> decide +kernel
theorem qY {p b x y:Nat} (h:onN p b x y=true):x<p∧y<p:=by
 unfold onN at h
 simp only [Bool.and_eq_true,decide_eq_true_eq]at h
 exact ⟨h.1,h.2.1⟩
theorem se (n m:Nat) (hn:nl (n:Int)≤1000) (hm:m≤1000) (h:n<256^m):F.CK (bi (n:Int)).1 (bi (n:Int)).2 (List.replicate m 0)=some (beB m n):=by
 have hk:=wE h
 unfold F.CK
 have w1:wI ((m:Int) - ((nby n:Nat):Int))=((m - nby n:Nat):Int):=by rw [aV (by omega) (by omega)]; omega
 rw [qR _ (by omega),ak,Int.natAbs_natCast,a8,List.length_replicate,List.length_replicate,cF,w1]
 have hd:drO (List.replicate m (0:UInt8)) ((m - nby n:Nat):Int)=some ((List.replicate m (0:UInt8)).drop (m - nby n)):=by
  unfold drO; rw [if_pos (by simp),Int.toNat_natCast]
 rw [hd,ak,a8,Int.toNat_natCast]
 congr 1
 have t1:(List.replicate m (0:UInt8)).take (m - nby n)=List.replicate (m - nby n) 0:=by rw [List.take_replicate,Nat.min_eq_left (by omega)]
 have t2:(beB (nby n) n).take (nby n)=beB (nby n) n:=List.take_of_length_le (by rw [cF]; exact Nat.le_refl _)
 have t3:(List.replicate m (0:UInt8)).drop (m - nby n+nby n)=[]:=List.drop_of_length_le (by simp; omega)
 unfold cpL
 rw [show m - (m - nby n)=nby n by omega,t1,t2,cF,Nat.min_self,t3,List.append_nil,yK (qW n) hk]
theorem vK (c:Int) (X Y:List UInt32) (inf:Bool) (hX:X.length≤35184372087808) (hY:Y.length≤35184372087808):F.FD c X Y inf=some (xN c X Y inf):=by
 obtain ⟨n1,n2,n3⟩:=nS4 c
 have hp:=kx c
 unfold F.FD xN
 rw [nm c X Y inf hX hY,ak]
 by_cases hc:isC c
 ·rw [if_pos hc]
  dsimp only
  show (if (!onS c X Y inf)=true then _ else _)=_
  cases ho:onS c X Y inf with
  | false=>
   rw [if_pos (by decide),if_neg (fun h=>by cases h.1)]
   unfold F.DL
   rw [if_pos rfl]
  | true=>
   rw [if_neg (by decide)]
   cases inf with
   | true=>
    rw [if_neg (fun h=>by cases h.2)]
    show an (F.BR false []) _=_
    have:F.BR false []=some 0:=rfl
    rw [this,ak]
    unfold F.DL
    rw [if_pos (by rfl)]
   | false=>
    rw [if_pos ⟨rfl,rfl⟩]
    show an (F.BR (bi 1).1 (bi 1).2) _=_
    rw [mf,ak,if_neg (by decide),if_neg (by decide)]
    unfold F.DL
    rw [if_neg (by decide)]
    have ho2:=ho
    unfold onS at ho2
    rw [if_pos hc,if_neg (by decide)]at ho2
    obtain ⟨hx,hy⟩:=qY ho2
    have hpb:=tS c hc
    have nx:nl (val X:Int)≤1000:=by have:=d6 (show ((val X:Int)).natAbs≤((cP c:Int)).natAbs by omega); omega
    have ny:nl (val Y:Int)≤1000:=by have:=d6 (show ((val Y:Int)).natAbs≤((cP c:Int)).natAbs by omega); omega
    show (an (mkO 1 (cS c) (cS c) (0:UInt8)) fun x_22=>an (F.CK (bi (val X:Int)).1 (bi (val X:Int)).2 x_22) fun x_25=>an (mkO 1 (cS c) (cS c) (0:UInt8)) fun x_28=>an (F.CK (bi (val Y:Int)).1 (bi (val Y:Int)).2 x_28) fun x_31=>some (x_25,x_31,(0:Int)))=_
    rw [mX,dw (by omega),ak,Int.toNat_natCast,se _ _ nx (by omega) (by omega),ak,ak,se _ _ ny (by omega) (by omega),ak]
 ·rw [if_neg hc]
  have:onS c X Y inf=false:=by unfold onS; rw [if_neg hc]
  have e:(if false=true∧inf=false then (beB (nS c) (val X),beB (nS c) (val Y),(0:Int)) else ([],[],93))=([],[],93):=if_neg (fun h=>by cases h.1)
  rw [this,e]
  rfl
end Go.Gk.Bn
end

section
namespace Go.Gk.Bn
open Go Go.Gk Go.Gk.Sh
end Go.Gk.Bn
end
