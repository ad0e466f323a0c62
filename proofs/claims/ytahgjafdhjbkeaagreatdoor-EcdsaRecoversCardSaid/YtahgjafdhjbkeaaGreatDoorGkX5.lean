import Derived.Test.YtahgjafdhjbkeaaGreatDoorGkX0
import Derived.Test.YtahgjafdhjbkeaaGreatDoorGkFman
set_option linter.unusedVariables false
set_option linter.unusedSimpArgs false
set_option linter.unusedSectionVars false

section
namespace Go.Gk.Bn
open Go Go.Gk Go.Gk.Sh Go.Gk.Ec Go.Gk.Pr
theorem sd {n:Nat} (h:nb n<=4096):(an n).length<=128:=by
 have f:=(d7 n).1
 have g:=Nat.pow_le_pow_right (show 0<2 by decide) (show nb n<=32*128 by omega)
 refine bl ?_
 rw[show (4294967296:Nat)=2^32 from rfl,<-Nat.pow_mul]
 exact Nat.lt_of_lt_of_le f g
theorem vM (a b:L0) (m:Nat) (j:1<m) (k:nb m<=4096) (f:nb (val a)<=4096) (g:nb (val b)<=4096) (o:a.length<=40000000000000) (q:b.length<=40000000000000) (t:(an m).length<=900) :
  F.HP a b (an m)=some (an (val a*val b%m),0):=by
 have x:=sd f
 have y:=sd g
 have z:(an (val a*val b)).length<=256:=bl (by
  have h:=bv (an (val a)); have i:=bv (an (val b))
  rw[ar]at h i
  have:=Nat.mul_lt_mul'' h i
  rw[<-Nat.pow_add]at this
  exact Nat.lt_of_lt_of_le this (Nat.pow_le_pow_right (by decide) (by omega)))
 unfold F.HP
 rw[tl f g (by rw[ar]; omega) (by rw[ar]; omega) (by omega) (by omega) (by omega),ae,if_neg (by decide),Bv _ _ (by omega) (by omega) (by omega),ae,
  ka _ _ (by omega) (by omega) (by rw[ar]; omega),ae,ar,ar]
theorem AS (b:L0) (m:Nat) (h:1<m) (i:nb m<=4096) (g:nb (val b)<=4096) (j:b.length<=1000) (k:(an m).length<=900) :
  F.I0 [] b (an m)=some (an ((m - val b%m)%m),0):=by
 have f:(an 0)=[]:=bR
 have e:=oR (x:=0) (y:=val b%m) (m:=m) (by omega) (Nat.mod_lt _ (by omega)) (by omega) (an m) (ar m) (by omega)
 rw[f,Nat.add_zero]at e
 unfold F.I0
 rw[tl (by rw[d8,ge]; omega) g (by rw[ar]; omega) (by rw[ar]; omega) (by decide) (by omega) (by omega),ae,if_neg (by decide),
  ka _ _ (by decide) (by omega) (by rw[ar]; omega),ae,ka _ _ (by omega) (by omega) (by rw[ar]; omega),ae,ar,d8,Nat.zero_mod,f,e,ae]
theorem iX (c:Int):1<cN c/\nb (cN c)<=4096/\(an (cN c)).length<=12/\cN c<cP c/\cP c<4294967296^12:=by
 have h:=dF c
 have l:=d9 c (Nat.le_of_lt h.2.2.1)
 exact⟨(th c).1,Nat.le_trans (Al l) (by decide),l,h.2.2.1,h.1⟩
theorem B5 (c:Int):cN c%2=1:=by
 unfold cN
 split <;> decide +kernel
theorem xo {c:Int} {s:Nat} (f:0<s) (h:s<cN c):Nat.gcd s (cN c)=1:=by
 rw[Nat.gcd_comm]
 exact (th c).coprime fun g=>by have:=Nat.le_of_dvd f g; omega
theorem iY {c:Int} {s:Nat} (h:s<cN c):nb s<=384:=by
 have f:=Al (cW (Nat.le_of_lt h) (iX c).2.2.1)
 omega
theorem wO {n s w v:Nat} (g:w<n) (h:v<n) (i:s*w%n=1) (j:s*v%n=1):w=v:=by
 have k:s*w*v%n=v%n:=by rw[Nat.mul_mod,i,Nat.one_mul,Nat.mod_mod]
 have f:s*w*v%n=w%n:=by rw[show s*w*v=(s*v)*w by rw[Nat.mul_assoc,Nat.mul_comm w,<-Nat.mul_assoc],Nat.mul_mod,j,Nat.one_mul,Nat.mod_mod]
 rw[k,Nat.mod_eq_of_lt h,Nat.mod_eq_of_lt g]at f
 exact f.symm
open Classical in
noncomputable def dL (c:Int) (s:Nat):Nat:=if h:∃w,w<cN c/\s*w%cN c=1 then Classical.choose h else 0
theorem vf {c:Int} {s w:Nat} (f:w<cN c) (h:s*w%cN c=1):dL c s=w:=by
 have g:∃w,w<cN c/\s*w%cN c=1:=⟨w,f,h⟩
 unfold dL
 rw[dif_pos g]
 have i:=Classical.choose_spec g
 exact wO i.1 f i.2 h
theorem vj {c:Int} {s:Nat} (l:L0) (f:val l=s) (j:l.length<=40000000000000) (k:0<s) (h:s<cN c):dL c s<cN c/\s*dL c s%cN c=1/\F.Hp l (an (cN c))=some (an (dL c s),0):=by
 obtain⟨n1,m,q,_,_⟩:=iX c
 have t:=iY h
 obtain⟨w,i,g,o⟩:=BW l (cN c) n1 (B5 c) m (by omega) (by rw[f]; omega) j (by rw[f]; exact xo k h)
 rw[f]at g
 rw[vf i g]
 exact⟨i,g,o⟩
theorem xI {c:Int} {s:Nat} (f:0<s) (h:s<cN c):dL c s<cN c/\s*dL c s%cN c=1:=by
 have l:=cW (Nat.le_of_lt h) (iX c).2.2.1
 obtain⟨g,i,_⟩:=vj (c:=c) (an s) (ar s) (by omega) f h
 exact⟨g,i⟩
abbrev isH (a:Int):Prop:=a=1\/a=2\/a=3
theorem zG (a:Int):F.ER a=some (if isH a then ((Sz a:Nat):Int) else 0):=by
 unfold F.ER isH
 by_cases h1:a=1
 ·subst h1; rfl
 ·by_cases h2:a=2
  ·subst h2; rfl
  ·by_cases h3:a=3
   ·subst h3; rfl
   ·rw[if_neg (by simpa using h1),if_neg (by simpa using h2),if_neg (by simpa using h3),if_neg (by omega)]
theorem np (a:Int):32<=Sz a/\Sz a<=64:=by unfold Sz; split; decide; split <;> decide
theorem mV (a:Int) (D:L1):(fU a D).length=Sz a:=by
 unfold fU k9
 split
 ·rename_i h
  unfold Aj
  have:=cG (fun i (x:L1)=>x.length=4*i) (fun x i=>x++q32 (((gk a (H0 a) (D++cJ (Bk a) D) ((D++cJ (Bk a) D).length / Bk a)).1).getD i 0)) (fun i x f=>by simp only[List.length_append,q32,List.length_cons,List.length_nil,f]; omega) 8 0 [] rfl
  refine Eq.trans this ?_
  unfold Sz
  rw[if_pos h]
 ·rename_i h
  rw[List.length_take,na]; unfold Sz; rw[if_neg h]; split <;> rfl
def zN (h c:Int) (m:L1):Nat:=beN ((fU h m).take (nS c))
theorem BN (h:Int) (f:isH h) (m:L1) (g:m.length<=900000000000000):F.GS h [m]=some (fU h m):=by
 rw[v9 h f [m] (by simp) (by simpa using g)]
 simp
theorem wD (h c:Int) (g:isH h) (hc:isC c) (m:L1) (i:m.length<=900000000000000):F.Iu h c m=some (an (zN h c m)):=by
 obtain⟨n1,k,o⟩:=nS4 c
 have q:=mV h m
 have t:=np h
 have e:(min ((fU h m).length:Int) ((nS c:Nat):Int)).toNat=min (Sz h) (nS c):=by omega
 have j:(fU h m).take (min (Sz h) (nS c))=(fU h m).take (nS c):=by
  rcases Nat.le_total (nS c) (Sz h) with f | f
  ·rw[Nat.min_eq_right f]
  ·rw[Nat.min_eq_left f,List.take_of_length_le (by omega),List.take_of_length_le (by omega)]
 unfold F.Iu zN
 rw[BN h g m i,ae,uW,ae,if_pos hc,qr,e,grd_true _ ⟨by omega,by omega⟩,j,nk _ (by rw[List.length_take]; omega),ae]
theorem zy (l:L1):nb (beN l)<=8*l.length:=mc (by rw[<-uf]; exact kg l)
theorem Aw (h c:Int) (m:L1):nb (zN h c m)<=512/\(an (zN h c m)).length<=100:=by
 have i:=mV h m
 have j:=np h
 have f:((fU h m).take (nS c)).length<=64:=by rw[List.length_take]; omega
 have g:zN h c m<256^64:=Nat.lt_of_lt_of_le (kg _) (Nat.pow_le_pow_right (by decide) f)
 have k:nb (zN h c m)<=8*_:=zy _
 refine⟨by omega,bl (Nat.lt_of_lt_of_le g (by decide +kernel))⟩
theorem rh (a n:L0) (f:a.length<=100000000000000) (ln:n.length<=100000000000000):F.GU a n=some (decide (0<val a/\val a<val n)):=by
 unfold F.GU
 rw[i3 a f,ae]
 by_cases h:val a=0
 ·rw[h,ge,if_neg (by decide),decide_eq_false (by omega)]
 ·have:=(d7 (val a)).2 h
  rw[if_pos (decide_eq_true (by omega)),jK a n (by omega) (by omega),ae]
  unfold cD
  by_cases h2:val a<val n
  ·rw[if_pos h2,decide_eq_true (show 0<val a/\val a<val n by omega)]; rfl
  ·rw[if_neg h2,decide_eq_false (show ¬(0<val a/\val a<val n) by omega)]
   split <;> rfl
theorem CB (a b:Nat):(cD a b == 0)=decide (a=b):=by
 unfold cD
 by_cases h:a<b
 ·rw[if_pos h,decide_eq_false (by omega)]; rfl
 ·rw[if_neg h]
  by_cases h2:a=b
  ·rw[if_pos h2,decide_eq_true h2]; rfl
  ·rw[if_neg h2,decide_eq_false h2]; rfl
theorem BM (X Y:L0) (f:Bool) (r n:L0) (g:X.length<=40000000000000) (i:r.length<=40000000000000) (ln:n.length<=40000000000000) (h:val n≠0) :
  F.IX X Y f r n=some (!f&&decide (val X%val n=val r)):=by
 unfold F.IX
 cases f with
 | true=>rfl
 | false=>
  have j:(an (val X%val n)).length<=X.length:=cW (Nat.mod_le _ _) (bl (bv X))
  rw[if_neg (by decide),p8 X n g ln,if_neg h,ae]
  dsimp only
  rw[jK _ _ (by omega) (by omega),ae,ar,CB]
  rfl
def inN (c:Int) (r:Nat):Prop:=0<r/\r<cN c
instance (c:Int) (r:Nat):Decidable (inN c r):=inferInstanceAs (Decidable (0<r/\r<cN c))
end Go.Gk.Bn
end

section
namespace Go.Gk.Bn
open Go Go.Gk Go.Gk.Sh Go.Gk.Ec Go.Gk.Pr
noncomputable def Cy {c:Int} (Q:Pt (cP c)):L1×L1×Int:=match Q with
 | none=>([],[],91)
 | some (x,y)=>(beB (nS c) x.val,beB (nS c) y.val,0)
theorem uP (a b:L0) (h:a.length<=4611686018427387904) (j:b.length<=4611686018427387904):F.He a b=some (decide (a=b)):=by
 unfold F.He
 by_cases hl:a.length=b.length
 ·rw[if_neg (by rw[bne_iff_ne]; omega)]
  have g:∀n i:Nat,i+n=a.length->a.take i=b.take i->loop (F.F4 a b) (i:Int)=some (decide (a=b)):=by
   intro n
   induction n with
   | zero=>
    intro i hi f
    rw[List.take_of_length_le (by omega),List.take_of_length_le (by omega)]at f
    refine bL ?_
    unfold F.F4
    rw[if_neg (by rw[decide_eq_true_eq]; omega),decide_eq_true f]
   | succ n ih=>
    intro i hi f
    have w:wI ((i:Int)+1)=((i+1:Nat):Int):=by rw[aJ (by omega) (by omega)]; omega
    by_cases he:a.getD i 0=b.getD i 0
    ·rw[bJ (s':=((i+1:Nat):Int)) (by
      unfold F.F4
      rw[if_pos (decide_eq_true (by omega)),aP (show i<a.length by omega) 0,ae,aP (show i<b.length by omega) 0,ae,if_neg (by rw[bne_iff_ne]; exact fun q=>q he),w]
      rfl)]
     refine ih (i+1) (by omega) ?_
     rw[List.getD_eq_getElem?_getD,List.getD_eq_getElem?_getD,List.getElem?_eq_getElem (by omega),List.getElem?_eq_getElem (by omega)]at he
     rw[List.take_add_one,List.take_add_one,List.getElem?_eq_getElem (show i<a.length by omega),List.getElem?_eq_getElem (show i<b.length by omega),f]
     congr 2
     exact congrArg some he
    ·refine bL ?_
     unfold F.F4
     rw[if_pos (decide_eq_true (by omega)),aP (show i<a.length by omega) 0,ae,aP (show i<b.length by omega) 0,ae,if_pos (by rw[bne_iff_ne]; exact he),decide_eq_false (fun q=>he (by rw[q]))]
  exact g a.length 0 (by omega) rfl
 ·rw[if_pos (by rw[bne_iff_ne]; omega),decide_eq_false (fun q=>hl (by rw[q]))]
end Go.Gk.Bn
end

section
namespace Go.Gk.Bn
open Go Go.Gk Go.Gk.Sh Go.Gk.Ec Go.Gk.Pr
end Go.Gk.Bn
end
