import Derived.Test.YtkickcbphbgldaaGreatDoorGkUG
set_option linter.unusedVariables false
set_option linter.unusedSimpArgs false
set_option linter.unusedSectionVars false

section
namespace Go.Gk.Bn
open Go Go.Gk Go.Gk.Sh
theorem y6 {v k m:Nat} (h:v<256^k) (hkm:k≤m):List.replicate (m - k) 0++beB k v=beB m v:=by
 refine tz (by simp [cO]; omega) ?_
 rw [pe,iK,iK,Nat.mod_eq_of_lt h,Nat.mod_eq_of_lt (Nat.lt_of_lt_of_le h (Nat.pow_le_pow_right (by decide) hkm))]
def nS (c:Int):Nat:=if c=1 then 32 else 48
theorem mY (c:Int):cS c=((nS c:Nat):Int):=by unfold cS nS; split <;> rfl
theorem nS4 (c:Int):nS c=4*(nS c / 4)∧nS c≤48∧0<nS c:=by unfold nS; split <;> decide
def gm (c:Int) (x y:List UInt8):List UInt32×List UInt32×Bool×Int:=
 if isC c∧x.length=nS c∧y.length=nS c∧onN (cP c) (cB c) (beN x) (beN y)=true then (ay (beN x),ay (beN y),false,0) else ([],[],false,93)
theorem uH (x:List UInt8) (h:x.length≤48):nl (beN x:Int)≤1000:=by
 unfold nl; rw [Int.natAbs_natCast]
 have:=gr (gW x); omega
theorem vD (c:Int) (x y:List UInt8):F.E6 c x y=some (gm c x y):=by
 obtain ⟨s1,s2,_,_,_,s6,_⟩:=db c
 have hp:=kD c
 obtain ⟨n1,n2,n3⟩:=nS4 c
 have kt:F.Do x y true=some ([],[],false,93):=rfl
 unfold F.E6 gm
 rw [of_eq,ak]
 by_cases hc:isC c
 ·rw [if_pos hc]
  show (if ((x.length:Int) != cS c)=true then _ else _)=_
  rw [mY]
  by_cases h1:x.length=nS c
  ·rw [if_neg (by rw [h1]; simp)]
   show (if ((y.length:Int) != cS c)=true then _ else _)=_
   rw [mY]
   by_cases h2:y.length=nS c
   ·rw [if_neg (by rw [h2]; simp),jH _ _ x (by omega),ak,jH _ _ y (by omega),ak]
    have h:=yj (cP c) (cB c) (bi (cN c:Int)).1 (bi (cN c:Int)).2 (bi (cX c:Int)).1 (bi (cX c:Int)).2 (bi (cY c:Int)).1 (bi (cY c:Int)).2 (cS c) (by omega) (by omega) s2 (beN x) (beN y) (by have:=uH x (by omega); omega) (by have:=uH y (by omega); omega)
    show an (F.Dp (bi (cP c:Int)).1 (bi (cP c:Int)).2 (bi (cB c:Int)).1 (bi (cB c:Int)).2 (bi (cN c:Int)).1 (bi (cN c:Int)).2 (bi (cX c:Int)).1 (bi (cX c:Int)).2 (bi (cY c:Int)).1 (bi (cY c:Int)).2 (cS c) _ _ _ _) _=_
    rw [h,ak]
    cases ho:onN (cP c) (cB c) (beN x) (beN y) with
    | true=>
     rw [if_pos ⟨hc,h1,h2,rfl⟩]
     unfold F.Do
     rw [if_neg (by decide),dC x (by omega),ak,dC y (by omega),ak]
    | false=>
     rw [if_neg (fun h=>by cases h.2.2.2)]
     exact kt
   ·rw [if_pos (by simp only [bne_iff_ne]; omega),if_neg (fun h=>h2 h.2.2.1)]; exact kt
  ·rw [if_pos (by simp only [bne_iff_ne]; omega),if_neg (fun h=>h1 h.2.1)]; exact kt
 ·rw [if_neg hc,if_neg (fun h=>hc h.1)]; rfl
def xW (c:Int) (X Y:List UInt32) (inf:Bool):List UInt8×List UInt8×Int:=
 if onS c X Y inf=true∧inf=false then (beB (nS c) (val X),beB (nS c) (val Y),0) else ([],[],93)
theorem tr (c:Int) (hc:isC c):cP c<256^nS c:=by
 rcases hc with h | h <;> subst h <;> decide +kernel
theorem rc {p b x y:Nat} (h:onN p b x y=true):x<p∧y<p:=by
 unfold onN at h
 simp only [Bool.and_eq_true,decide_eq_true_eq]at h
 exact ⟨h.1,h.2.1⟩
theorem qe (n m:Nat) (hn:nl (n:Int)≤1000) (hm:m≤1000) (h:n<256^m):F.Cr (bi (n:Int)).1 (bi (n:Int)).2 (List.replicate m 0)=some (beB m n):=by
 have hk:=vc h
 unfold F.Cr
 have w1:wI ((m:Int) - ((nby n:Nat):Int))=((m - nby n:Nat):Int):=by rw [aQ (by omega) (by omega)]; omega
 rw [qY _ (by omega),ak,Int.natAbs_natCast,aW,List.length_replicate,List.length_replicate,cO,w1]
 have hd:drO (List.replicate m (0:UInt8)) ((m - nby n:Nat):Int)=some ((List.replicate m (0:UInt8)).drop (m - nby n)):=by
  unfold drO; rw [if_pos (by simp),Int.toNat_natCast]
 rw [hd,ak,aW,Int.toNat_natCast]
 congr 1
 have t1:(List.replicate m (0:UInt8)).take (m - nby n)=List.replicate (m - nby n) 0:=by rw [List.take_replicate,Nat.min_eq_left (by omega)]
 have t2:(beB (nby n) n).take (nby n)=beB (nby n) n:=List.take_of_length_le (by rw [cO]; exact Nat.le_refl _)
 have t3:(List.replicate m (0:UInt8)).drop (m - nby n+nby n)=[]:=List.drop_of_length_le (by simp; omega)
 unfold cpL
 rw [show m - (m - nby n)=nby n by omega,t1,t2,cO,Nat.min_self,t3,List.append_nil,y6 (qM n) hk]
theorem uW (c:Int) (X Y:List UInt32) (inf:Bool) (hX:X.length≤35184372087808) (hY:Y.length≤35184372087808):F.EB c X Y inf=some (xW c X Y inf):=by
 obtain ⟨n1,n2,n3⟩:=nS4 c
 have hp:=kD c
 unfold F.EB xW
 rw [mV c X Y inf hX hY,ak]
 by_cases hc:isC c
 ·rw [if_pos hc]
  dsimp only
  show (if (!onS c X Y inf)=true then _ else _)=_
  cases ho:onS c X Y inf with
  | false=>
   rw [if_pos (by decide),if_neg (fun h=>by cases h.1)]
   unfold F.Dg
   rw [if_pos rfl]
  | true=>
   rw [if_neg (by decide)]
   cases inf with
   | true=>
    rw [if_neg (fun h=>by cases h.2)]
    show an (F.BC false []) _=_
    have:F.BC false []=some 0:=rfl
    rw [this,ak]
    unfold F.Dg
    rw [if_pos (by rfl)]
   | false=>
    rw [if_pos ⟨rfl,rfl⟩]
    show an (F.BC (bi 1).1 (bi 1).2) _=_
    rw [l9,ak,if_neg (by decide),if_neg (by decide)]
    unfold F.Dg
    rw [if_neg (by decide)]
    have ho2:=ho
    unfold onS at ho2
    rw [if_pos hc,if_neg (by decide)]at ho2
    obtain ⟨hx,hy⟩:=rc ho2
    have hpb:=tr c hc
    have nx:nl (val X:Int)≤1000:=by have:=dR (show ((val X:Int)).natAbs≤((cP c:Int)).natAbs by omega); omega
    have ny:nl (val Y:Int)≤1000:=by have:=dR (show ((val Y:Int)).natAbs≤((cP c:Int)).natAbs by omega); omega
    show (an (mkO 1 (cS c) (cS c) (0:UInt8)) fun x_22=>an (F.Cr (bi (val X:Int)).1 (bi (val X:Int)).2 x_22) fun x_25=>an (mkO 1 (cS c) (cS c) (0:UInt8)) fun x_28=>an (F.Cr (bi (val Y:Int)).1 (bi (val Y:Int)).2 x_28) fun x_31=>some (x_25,x_31,(0:Int)))=_
    rw [mY,dl (by omega),ak,Int.toNat_natCast,qe _ _ nx (by omega) (by omega),ak,ak,qe _ _ ny (by omega) (by omega),ak]
 ·rw [if_neg hc]
  have:onS c X Y inf=false:=by unfold onS; rw [if_neg hc]
  have e:(if false=true∧inf=false then (beB (nS c) (val X),beB (nS c) (val Y),(0:Int)) else ([],[],93))=([],[],93):=if_neg (fun h=>by cases h.1)
  rw [this,e]
  rfl
end Go.Gk.Bn
end

section
namespace Go.Gk.Bn
open Go Go.Gk Go.Gk.Sh
end Go.Gk.Bn
end
