import Derived.Test.YtahgjafdhjbkeaaGreatDoorGkUG
set_option linter.unusedVariables false
set_option linter.unusedSimpArgs false
set_option linter.unusedSectionVars false

section
namespace Go.Gk.Bn
open Go Go.Gk Go.Gk.Sh
theorem wd (a:List UInt32) (f:a.length≤50000000000000):F.Ix a=some (am (val a)):=by
 have h:F.Ix a=F.E4 a:=rfl
 rw [h,mZ a f]
theorem wa (s:List UInt8) (L:List UInt32) (i:Nat) (hi:i+4≤s.length) (A:s.length≤1000) (B:L.length≤1000) :
  ∃w:UInt32,loop (F.Er s L ((i+4:Nat):Int)) (0,(i:Int))=some (.inl (L++[w],(i:Int)))∧w.toNat=beN ((s.drop i).take 4):=by
 have o:∀(k:Nat) (f:UInt32) (j:Nat),j+k=4→f.toNat=beN ((s.drop i).take j)→∃w:UInt32,loop (F.Er s L ((i+4:Nat):Int)) (f,((i+j:Nat):Int))=some (.inl (L++[w],(i:Int)))∧w.toNat=beN ((s.drop i).take 4):=by
  intro k
  induction k with
  | zero=>
   intro f j y g
   have:j=4:=by omega
   subst this
   refine ⟨f,?_,g⟩
   refine cM ?_
   have h:wI (((i+4:Nat):Int) - 4)=(i:Int):=by rw [aJ (by omega) (by omega)]; omega
   unfold F.Er
   dsimp only
   rw [if_neg (by simp),eg (by simp; omega),ae,h]; rfl
  | succ k ih=>
   intro f j y g
   have q:i+j<s.length:=by omega
   have h:wI (((i+j:Nat):Int)+1)=((i+(j+1):Nat):Int):=by rw [aJ (by omega) (by omega)]; omega
   have t:F.Er s L ((i+4:Nat):Int) (f,((i+j:Nat):Int))=some (.inl ((f*256)+(s.getD (i+j) 0).toUInt32,((i+(j+1):Nat):Int))):=by
    unfold F.Er
    dsimp only
    rw [if_pos (decide_eq_true (by omega)),if_pos (decide_eq_true (by omega)),aO q 0,ae,aS]
    unfold F.HA
    rw [h]; rfl
   rw [bI t]
   refine ih _ (j+1) (by omega) ?_
   have z:(s.drop i).getD j 0=s.getD (i+j) 0:=by
    rw [List.getD_eq_getElem?_getD,List.getElem?_drop,←List.getD_eq_getElem?_getD]
   have x:=gF ((s.drop i).take (j+1))
   rw [List.length_take,List.length_drop,Nat.min_eq_left (by omega)]at x
   have G:(256:Nat)^(j+1)≤256^4:=Nat.pow_le_pow_right (by decide) (by omega)
   have I:(256:Nat)^4=4294967296:=rfl
   rw [gK _ (by rw [List.length_drop]; omega),z]at x ⊢
   have m:(256:UInt32).toNat=256:=rfl
   rw [UInt32.toNat_add,UInt32.toNat_mul,m,g,UInt8.toNat_toUInt32]
   omega
 have:=o 4 0 0 rfl (by simp [beN])
 simpa using this
theorem mj (s:List UInt8) (m:Nat) (y:s.length=4*m) (z:m≤100):F.Gl s=some (am (beN s)):=by
 have g:∀(k:Nat) (L:List UInt32),k≤m→L.length=m - k→val L=beN (s.drop (4*k))→loop (F.EE s) (L,((4*k:Nat):Int))=some (am (beN s)):=by
  intro k
  induction k with
  | zero=>
   intro L o h f
   refine cM ?_
   unfold F.EE
   dsimp only
   rw [if_neg (by decide),wd _ (by omega),ae,f,List.drop_zero]; rfl
  | succ k ih=>
   intro L o h f
   obtain ⟨w,q,t⟩:=wa s L (4*k) (by omega) (by omega) (by omega)
   have i:F.EE s (L,((4*(k+1):Nat):Int))=some (.inl (L++[w],((4*k:Nat):Int))):=by
    have x:wI (((4*(k+1):Nat):Int) - 4)=((4*k:Nat):Int):=by rw [aJ (by omega) (by omega)]; omega
    unfold F.EE
    dsimp only
    rw [if_pos (decide_eq_true (by omega)),x]
    exact q
   rw [bI i]
   refine ih _ (by omega) (by simp; omega) ?_
   have j:=List.take_append_drop 4 (s.drop (4*k))
   rw [List.drop_drop]at j
   rw [ft,h,←j,lT,←t,List.length_drop,f,show 4*k+4=4*(k+1) by omega,show s.length - 4*(k+1)=4*(m - (k+1)) by omega,Nat.pow_mul,show (256:Nat)^4=4294967296 from rfl,Nat.mul_comm w.toNat]
   omega
 unfold F.Gl
 rw [show (s.length:Int)=((4*m:Nat):Int) by omega]
 exact g m [] (Nat.le_refl _) (by simp) (by rw [List.drop_of_length_le (by omega)]; rfl)
def nS (c:Int):Nat:=if c=1 then 32 else 48
theorem mJ (c:Int):cS c=((nS c:Nat):Int):=by unfold cS nS; split <;> rfl
theorem nS4 (c:Int):nS c=4*(nS c / 4)∧nS c≤48∧0<nS c:=by unfold nS; split <;> decide
def im (c:Int) (x y:List UInt8):List UInt32×List UInt32×Bool×Int:=
 if isC c∧x.length=nS c∧y.length=nS c∧onN (cP c) (cB c) (beN x) (beN y)=true then (am (beN x),am (beN y),false,0) else ([],[],false,93)
theorem wT (x:List UInt8) (h:x.length≤48):nl (beN x:Int)≤1000:=by
 unfold nl; rw [Int.natAbs_natCast]
 have:=fj (gF x); omega
theorem wF (c:Int) (x y:List UInt8):F.Ih c x y=some (im c x y):=by
 obtain ⟨i,g,_,_,_,j,_⟩:=dp c
 have k:=nV c
 obtain ⟨n1,m,o⟩:=nS4 c
 have f:F.Fg x y true=some ([],[],false,93):=rfl
 unfold F.Ih im
 rw [of_eq,ae]
 by_cases hc:isC c
 ·rw [if_pos hc]
  show (if ((x.length:Int) != cS c)=true then _ else _)=_
  rw [mJ]
  by_cases h1:x.length=nS c
  ·rw [if_neg (by rw [h1]; simp)]
   show (if ((y.length:Int) != cS c)=true then _ else _)=_
   rw [mJ]
   by_cases h2:y.length=nS c
   ·rw [if_neg (by rw [h2]; simp),kI _ _ x (by omega),ae,kI _ _ y (by omega),ae]
    have h:=Al (cP c) (cB c) (bi (cN c:Int)).1 (bi (cN c:Int)).2 (bi (cX c:Int)).1 (bi (cX c:Int)).2 (bi (cY c:Int)).1 (bi (cY c:Int)).2 (cS c) (by omega) (by omega) g (beN x) (beN y) (by have:=wT x (by omega); omega) (by have:=wT y (by omega); omega)
    show ah (F.Fx (bi (cP c:Int)).1 (bi (cP c:Int)).2 (bi (cB c:Int)).1 (bi (cB c:Int)).2 (bi (cN c:Int)).1 (bi (cN c:Int)).2 (bi (cX c:Int)).1 (bi (cX c:Int)).2 (bi (cY c:Int)).1 (bi (cY c:Int)).2 (cS c) _ _ _ _) _=_
    rw [h,ae]
    cases ho:onN (cP c) (cB c) (beN x) (beN y) with
    | true=>
     rw [if_pos ⟨hc,h1,h2,rfl⟩]
     unfold F.Fg
     rw [if_neg (by decide),fC x (by omega),ae,fC y (by omega),ae]
    | false=>
     rw [if_neg (fun h=>by cases h.2.2.2)]
     exact f
   ·rw [if_pos (by simp only [bne_iff_ne]; omega),if_neg (fun h=>h2 h.2.2.1)]; exact f
  ·rw [if_pos (by simp only [bne_iff_ne]; omega),if_neg (fun h=>h1 h.2.1)]; exact f
 ·rw [if_neg hc,if_neg (fun h=>hc h.1)]; rfl
theorem vW (c:Int) (x y:List UInt8):F.Iz c x y=some (im c x y):=by
 obtain ⟨n1,j,k⟩:=nS4 c
 have f:F.FA c x y true=some ([],[],false,93):=rfl
 unfold F.Iz im
 rw [lf,ae]
 by_cases hc:isC c
 ·rw [if_pos hc,mJ,if_neg (by rw [beq_iff_eq]; omega),ae]
  by_cases h1:x.length=nS c
  ·rw [if_neg (by rw [h1]; simp),ae]
   by_cases h2:y.length=nS c
   ·have g:((y.length:Int) != ((nS c:Nat):Int))=false:=by rw [h2]; simp
    rw [g]
    unfold F.FA
    have lx:=fj (gF x); have m:=fj (gF y)
    rw [if_neg (by decide),mj x (nS c / 4) (by omega) (by omega),ae,mj y (nS c / 4) (by omega) (by omega),ae,Bz c _ _ false (by omega) (by omega),ae]
    have i:onS c (am (beN x)) (am (beN y)) false=onN (cP c) (cB c) (beN x) (beN y):=by unfold onS; rw [if_pos hc,if_neg (by decide),aq,aq]
    rw [i]
    cases ho:onN (cP c) (cB c) (beN x) (beN y) with
    | true=>rw [if_neg (by decide),if_pos ⟨hc,h1,h2,rfl⟩]
    | false=>rw [if_pos (by decide),if_neg (fun h=>by cases h.2.2.2)]
   ·have g:((y.length:Int) != ((nS c:Nat):Int))=true:=by simp only [bne_iff_ne]; omega
    rw [g,if_neg (fun h=>h2 h.2.2.1)]; exact f
  ·rw [if_pos (by simp only [bne_iff_ne]; omega),if_neg (fun h=>h1 h.2.1)]; exact f
 ·rw [if_neg hc,if_pos (by rfl),if_neg (fun h=>hc h.1)]; exact f
theorem wN {p b x y:Nat} (h:onN p b x y=true):x<p∧y<p:=by
 unfold onN at h
 simp only [Bool.and_eq_true,decide_eq_true_eq]at h
 exact ⟨h.1,h.2.1⟩
end Go.Gk.Bn
end

section
namespace Go.Gk.Bn
open Go Go.Gk Go.Gk.Sh
end Go.Gk.Bn
end
