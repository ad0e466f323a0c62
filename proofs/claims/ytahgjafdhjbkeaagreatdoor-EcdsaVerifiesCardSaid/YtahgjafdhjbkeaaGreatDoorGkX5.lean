import Derived.Test.YtahgjafdhjbkeaaGreatDoorGkX0
import Derived.Test.YtahgjafdhjbkeaaGreatDoorGkFman
set_option linter.unusedVariables false
set_option linter.unusedSimpArgs false
set_option linter.unusedSectionVars false

section
namespace Go.Gk.Bn
open Go Go.Gk Go.Gk.Sh Go.Gk.Ec Go.Gk.Pr
theorem rE {n:Nat} (h:nb n≤4096):(am n).length≤128:=by
 have f:=(dS n).1
 have g:=Nat.pow_le_pow_right (show 0<2 by decide) (show nb n≤32*128 by omega)
 refine bj ?_
 rw [show (4294967296:Nat)=2^32 from rfl,←Nat.pow_mul]
 exact Nat.lt_of_lt_of_le f g
theorem vb (a b:List UInt32) (m:Nat) (j:1<m) (k:nb m≤4096) (f:nb (val a)≤4096) (g:nb (val b)≤4096) (o:a.length≤40000000000000) (q:b.length≤40000000000000) (t:(am m).length≤900) :
  F.Hc a b (am m)=some (am (val a*val b%m),0):=by
 have x:=rE f
 have y:=rE g
 have z:(am (val a*val b)).length≤256:=bj (by
  have h:=bv (am (val a)); have i:=bv (am (val b))
  rw [aq]at h i
  have:=Nat.mul_lt_mul'' h i
  rw [←Nat.pow_add]at this
  exact Nat.lt_of_lt_of_le this (Nat.pow_le_pow_right (by decide) (by omega)))
 unfold F.Hc
 rw [y8 f g (by rw [aq]; omega) (by rw [aq]; omega) (by omega) (by omega) (by omega),ae,if_neg (by decide),A4 _ _ (by omega) (by omega) (by omega),ae,
  oT _ _ (by omega) (by omega) (by rw [aq]; omega),ae,aq,aq]
theorem gd (c:Int):1<cN c∧nb (cN c)≤4096∧(am (cN c)).length≤12∧cN c<cP c∧cP c<4294967296^12:=by
 have h:=dp c
 have l:=dT c (Nat.le_of_lt h.2.2.1)
 exact ⟨(sJ c).1,Nat.le_trans (zT l) (by decide),l,h.2.2.1,h.1⟩
theorem BE (c:Int):cN c%2=1:=by
 unfold cN
 split <;> decide +kernel
theorem wU {c:Int} {s:Nat} (f:0<s) (h:s<cN c):Nat.gcd s (cN c)=1:=by
 rw [Nat.gcd_comm]
 exact (sJ c).coprime fun g=>by have:=Nat.le_of_dvd f g; omega
theorem jZ {c:Int} {s:Nat} (h:s<cN c):nb s≤384:=by
 have f:=zT (dl (Nat.le_of_lt h) (gd c).2.2.1)
 omega
theorem wo {n s w v:Nat} (g:w<n) (h:v<n) (i:s*w%n=1) (j:s*v%n=1):w=v:=by
 have k:s*w*v%n=v%n:=by rw [Nat.mul_mod,i,Nat.one_mul,Nat.mod_mod]
 have f:s*w*v%n=w%n:=by rw [show s*w*v=(s*v)*w by rw [Nat.mul_assoc,Nat.mul_comm w,←Nat.mul_assoc],Nat.mul_mod,j,Nat.one_mul,Nat.mod_mod]
 rw [k,Nat.mod_eq_of_lt h,Nat.mod_eq_of_lt g]at f
 exact f.symm
open Classical in
noncomputable def iK (c:Int) (s:Nat):Nat:=if h:∃w,w<cN c∧s*w%cN c=1 then Classical.choose h else 0
theorem uH {c:Int} {s w:Nat} (f:w<cN c) (h:s*w%cN c=1):iK c s=w:=by
 have g:∃w,w<cN c∧s*w%cN c=1:=⟨w,f,h⟩
 unfold iK
 rw [dif_pos g]
 have i:=Classical.choose_spec g
 exact wo i.1 f i.2 h
theorem uK {c:Int} {s:Nat} (l:List UInt32) (f:val l=s) (j:l.length≤40000000000000) (k:0<s) (h:s<cN c):iK c s<cN c∧s*iK c s%cN c=1∧F.GL l (am (cN c))=some (am (iK c s),0):=by
 obtain ⟨n1,m,q,_,_⟩:=gd c
 have t:=jZ h
 obtain ⟨w,i,g,o⟩:=Bv l (cN c) n1 (BE c) m (by omega) (by rw [f]; omega) j (by rw [f]; exact wU k h)
 rw [f]at g
 rw [uH i g]
 exact ⟨i,g,o⟩
theorem xk {c:Int} {s:Nat} (f:0<s) (h:s<cN c):iK c s<cN c∧s*iK c s%cN c=1:=by
 have l:=dl (Nat.le_of_lt h) (gd c).2.2.1
 obtain ⟨g,i,_⟩:=uK (c:=c) (am s) (aq s) (by omega) f h
 exact ⟨g,i⟩
abbrev isH (a:Int):Prop:=a=1∨a=2∨a=3
theorem ze (a:Int):F.Ek a=some (if isH a then ((Sz a:Nat):Int) else 0):=by
 unfold F.Ek isH
 by_cases h1:a=1
 ·subst h1; rfl
 ·by_cases h2:a=2
  ·subst h2; rfl
  ·by_cases h3:a=3
   ·subst h3; rfl
   ·rw [if_neg (by simpa using h1),if_neg (by simpa using h2),if_neg (by simpa using h3),if_neg (by omega)]
theorem na (a:Int):32≤Sz a∧Sz a≤64:=by unfold Sz; split; decide; split <;> decide
theorem mM (a:Int) (D:List UInt8):(fO a D).length=Sz a:=by
 unfold fO kS
 split
 ·rename_i h
  unfold zR
  have:=cD (fun i (x:List UInt8)=>x.length=4*i) (fun x i=>x++q32 (((gf a (H0 a) (D++cG (Bk a) D) ((D++cG (Bk a) D).length / Bk a)).1).getD i 0)) (fun i x f=>by simp only [List.length_append,q32,List.length_cons,List.length_nil,f]; omega) 8 0 [] rfl
  refine Eq.trans this ?_
  unfold Sz
  rw [if_pos h]
 ·rename_i h
  rw [List.length_take,mQ]; unfold Sz; rw [if_neg h]; split <;> rfl
def zN (h c:Int) (m:List UInt8):Nat:=beN ((fO h m).take (nS c))
theorem Bl (h:Int) (f:isH h) (m:List UInt8) (g:m.length≤900000000000000):F.Gd h [m]=some (fO h m):=by
 rw [vv h f [m] (by simp) (by simpa using g)]
 simp
theorem vY (h c:Int) (g:isH h) (hc:isC c) (m:List UInt8) (i:m.length≤900000000000000):F.HN h c m=some (am (zN h c m)):=by
 obtain ⟨n1,k,o⟩:=nS4 c
 have q:=mM h m
 have t:=na h
 have e:(min ((fO h m).length:Int) ((nS c:Nat):Int)).toNat=min (Sz h) (nS c):=by omega
 have j:(fO h m).take (min (Sz h) (nS c))=(fO h m).take (nS c):=by
  rcases Nat.le_total (nS c) (Sz h) with f | f
  ·rw [Nat.min_eq_right f]
  ·rw [Nat.min_eq_left f,List.take_of_length_le (by omega),List.take_of_length_le (by omega)]
 unfold F.HN zN
 rw [Bl h g m i,ae,uv,ae,if_pos hc,mJ,e,grd_true _ ⟨by omega,by omega⟩,j,fC _ (by rw [List.length_take]; omega),ae]
theorem y4 (l:List UInt8):nb (beN l)≤8*l.length:=lO (by rw [←tG]; exact gF l)
theorem Aa (h c:Int) (m:List UInt8):nb (zN h c m)≤512∧(am (zN h c m)).length≤100:=by
 have i:=mM h m
 have j:=na h
 have f:((fO h m).take (nS c)).length≤64:=by rw [List.length_take]; omega
 have g:zN h c m<256^64:=Nat.lt_of_lt_of_le (gF _) (Nat.pow_le_pow_right (by decide) f)
 have k:nb (zN h c m)≤8*_:=y4 _
 refine ⟨by omega,bj (Nat.lt_of_lt_of_le g (by decide +kernel))⟩
theorem qF (a n:List UInt32) (f:a.length≤100000000000000) (ln:n.length≤100000000000000):F.Ge a n=some (decide (0<val a∧val a<val n)):=by
 unfold F.Ge
 rw [iR a f,ae]
 by_cases h:val a=0
 ·rw [h,gm,if_neg (by decide),decide_eq_false (by omega)]
 ·have:=(dS (val a)).2 h
  rw [if_pos (decide_eq_true (by omega)),jD a n (by omega) (by omega),ae]
  unfold cv
  by_cases h2:val a<val n
  ·rw [if_pos h2,decide_eq_true (show 0<val a∧val a<val n by omega)]; rfl
  ·rw [if_neg h2,decide_eq_false (show ¬(0<val a∧val a<val n) by omega)]
   split <;> rfl
theorem B9 (a b:Nat):(cv a b == 0)=decide (a=b):=by
 unfold cv
 by_cases h:a<b
 ·rw [if_pos h,decide_eq_false (by omega)]; rfl
 ·rw [if_neg h]
  by_cases h2:a=b
  ·rw [if_pos h2,decide_eq_true h2]; rfl
  ·rw [if_neg h2,decide_eq_false h2]; rfl
theorem vc (X Y:List UInt32) (f:Bool) (r n:List UInt32) (g:X.length≤40000000000000) (i:r.length≤40000000000000) (ln:n.length≤40000000000000) (h:val n≠0) :
  F.Fp X Y f r n=some (!f&&decide (val X%val n=val r)):=by
 unfold F.Fp
 cases f with
 | true=>rfl
 | false=>
  have j:(am (val X%val n)).length≤X.length:=dl (Nat.mod_le _ _) (bj (bv X))
  rw [if_neg (by decide),pC X n g ln,if_neg h,ae]
  dsimp only
  rw [jD _ _ (by omega) (by omega),ae,aq,B9]
  rfl
def vj {c:Int} (P:Pt (cP c)) (r:Nat):Bool:=match P with
 | none=>false
 | some (x,_)=>decide (x.val%cN c=r)
theorem sB {c:Int} (P:Pt (cP c)) (r:List UInt32) (f:r.length≤40000000000000):F.Fp (rep P).1 (rep P).2.1 (rep P).2.2 r (am (cN c))=some (vj P (val r)):=by
 obtain ⟨n1,g,h,_,_⟩:=gd c
 have i:(rep P).1.length≤12:=by
  cases P with
  | none=>exact Nat.zero_le _
  | some q=>obtain ⟨x,y⟩:=q; exact j2 c x
 rw [vc _ _ _ _ _ (by omega) f (by omega) (by rw [aq]; omega)]
 cases P with
 | none=>rfl
 | some q=>
  obtain ⟨x,y⟩:=q
  show some (!false&&decide (val (rl x)%val (am (cN c))=val r))=some (decide (x.val%cN c=val r))
  rw [fV,aq]
  rfl
def inN (c:Int) (r:Nat):Prop:=0<r∧r<cN c
instance (c:Int) (r:Nat):Decidable (inN c r):=inferInstanceAs (Decidable (0<r∧r<cN c))
theorem uS {c:Int} {x y:List UInt8} (h:(im c x y).2.2.2=0):isC c∧im c x y=(am (beN x),am (beN y),false,0)∧onS c (am (beN x)) (am (beN y)) false=true∧x.length=nS c∧y.length=nS c:=by
 unfold im at h ⊢
 split at h
 ·rename_i hc
  rw [if_pos hc]
  refine ⟨hc.1,rfl,?_,hc.2.1,hc.2.2.1⟩
  unfold onS
  rw [if_pos hc.1,aq,aq]
  exact hc.2.2.2
 ·exact absurd h (by decide)
theorem xa (b:Bool):F.H6 b=some (if b=true then 91 else 0):=by cases b <;> rfl
theorem jh {l:List UInt8} {k:Nat} (h:l.length≤k) (g:k≤48):(am (beN l)).length≤100:=by
 have f:beN l<256^48:=Nat.lt_of_lt_of_le (gF l) (Nat.pow_le_pow_right (by decide) (by omega))
 exact bj (Nat.lt_of_lt_of_le f (by decide +kernel))
end Go.Gk.Bn
end

section
namespace Go.Gk.Bn
open Go Go.Gk Go.Gk.Sh Go.Gk.Ec Go.Gk.Pr
end Go.Gk.Bn
end

section
namespace Go.Gk.Bn
open Go Go.Gk Go.Gk.Sh Go.Gk.Ec Go.Gk.Pr
end Go.Gk.Bn
end
