import Derived.Test.YtmegjloifgfldaaGreatDoorGkX0
import Derived.Test.YtmegjloifgfldaaGreatDoorGkFman
set_option linter.unusedVariables false
set_option linter.unusedSimpArgs false
set_option linter.unusedSectionVars false

section
namespace Go.Gk.Bn
open Go Go.Gk Go.Gk.Sh Go.Gk.Ec Go.Gk.Pr
theorem i9 {n:Nat} (h:nb n<=4096):(ao n).length<=128:=by
 have f:=(c9 n).1
 have g:=Nat.pow_le_pow_right (show 0<2 by decide) (show nb n<=32*128 by omega)
 refine ba ?_
 rw[show (4294967296:Nat)=2^32 from rfl,<-Nat.pow_mul]
 exact Nat.lt_of_lt_of_le f g
theorem sk (a b:Q0) (m:Nat) (h:1<m) (hm:nb m<=4096) (ha:nb (val a)<=4096) (hb:nb (val b)<=4096) (i:a.length<=40000000000000) (j:b.length<=40000000000000) (k:(ao m).length<=900) :
  F.I9 a b (ao m)=some (ao (val a*val b%m),0):=by
 have l1:=i9 ha
 have o:=i9 hb
 have hs:(ao (val a*val b)).length<=256:=ba (by
  have f:=bD (ao (val a)); have g:=bD (ao (val b))
  rw[aw]at f g
  have:=Nat.mul_lt_mul'' f g
  rw[<-Nat.pow_add]at this
  exact Nat.lt_of_lt_of_le this (Nat.pow_le_pow_right (by decide) (by omega)))
 unfold F.I9
 rw[mL ha hb (by rw[aw]; omega) (by rw[aw]; omega) (by omega) (by omega) (by omega),ae,if_neg (by decide),xL _ _ (by omega) (by omega) (by omega),ae,
  fH _ _ (by omega) (by omega) (by rw[aw]; omega),ae,aw,aw]
theorem mC (c:Int):1<cN c/\nb (cN c)<=4096/\(ao (cN c)).length<=12/\cN c<cP c/\cP c<4294967296^12:=by
 have h:=fV c
 have l:=xH c (Nat.le_of_lt h.2.2.1)
 exact⟨(uR c).1,Nat.le_trans (CZ l) (by decide),l,h.2.2.1,h.1⟩
theorem EN (c:Int):cN c%2=1:=by
 unfold cN
 split <;> decide +kernel
theorem EM {c:Int} {s:Nat} (f:0<s) (h:s<cN c):Nat.gcd s (cN c)=1:=by
 rw[Nat.gcd_comm]
 exact (uR c).coprime fun g=>by have:=Nat.le_of_dvd f g; omega
theorem kG {c:Int} {s:Nat} (h:s<cN c):nb s<=384:=by
 have f:=CZ (dG (Nat.le_of_lt h) (mC c).2.2.1)
 omega
theorem q6 {n s w v:Nat} (g:w<n) (h:v<n) (i:s*w%n=1) (j:s*v%n=1):w=v:=by
 have k:s*w*v%n=v%n:=by rw[Nat.mul_mod,i,Nat.one_mul,Nat.mod_mod]
 have f:s*w*v%n=w%n:=by rw[show s*w*v=(s*v)*w by rw[Nat.mul_assoc,Nat.mul_comm w,<-Nat.mul_assoc],Nat.mul_mod,j,Nat.one_mul,Nat.mod_mod]
 rw[k,Nat.mod_eq_of_lt h,Nat.mod_eq_of_lt g]at f
 exact f.symm
open Classical in
noncomputable def nM (c:Int) (s:Nat):Nat:=if h:∃w,w<cN c/\s*w%cN c=1 then Classical.choose h else 0
theorem DR {c:Int} {s w:Nat} (f:w<cN c) (h:s*w%cN c=1):nM c s=w:=by
 have hx:∃w,w<cN c/\s*w%cN c=1:=⟨w,f,h⟩
 unfold nM
 rw[dif_pos hx]
 have g:=Classical.choose_spec hx
 exact q6 g.1 f g.2 h
theorem DW {c:Int} {s:Nat} (l:Q0) (hl:val l=s) (i:l.length<=40000000000000) (j:0<s) (h:s<cN c):nM c s<cN c/\s*nM c s%cN c=1/\F.Hy l (ao (cN c))=some (ao (nM c s),0):=by
 obtain⟨n1,k,t,_,_⟩:=mC c
 have hb:=kG h
 obtain⟨w,g,f,o⟩:=zw l (cN c) n1 (EN c) k (by omega) (by rw[hl]; omega) i (by rw[hl]; exact EM j h)
 rw[hl]at f
 rw[DR g f]
 exact⟨g,f,o⟩
abbrev isH (a:Int):Prop:=a=1\/a=2\/a=3
theorem pX (a:Int):F.GH a=some (if isH a then ((Sz a:Nat):Int) else 0):=by
 unfold F.GH isH
 by_cases h1:a=1
 ·subst h1; rfl
 ·by_cases h2:a=2
  ·subst h2; rfl
  ·by_cases h3:a=3
   ·subst h3; rfl
   ·rw[if_neg (by simpa using h1),if_neg (by simpa using h2),if_neg (by simpa using h3),if_neg (by omega)]
theorem iW (a:Int):32<=Sz a/\Sz a<=64:=by unfold Sz; split; decide; split <;> decide
theorem iB (a:Int) (D:Q1):(cT a D).length=Sz a:=by
 unfold cT nX
 split
 ·rename_i h
  unfold tx
  have:=cQ (fun i (x:Q1)=>x.length=4*i) (fun x i=>x++q32 (((jW a (H0 a) (D++ja (Bk a) D) ((D++ja (Bk a) D).length / Bk a)).1).getD i 0)) (fun i x hx=>by simp only[List.length_append,q32,List.length_cons,List.length_nil,hx]; omega) 8 0 [] rfl
  refine Eq.trans this ?_
  unfold Sz
  rw[if_pos h]
 ·rename_i h
  rw[List.length_take,sE]; unfold Sz; rw[if_neg h]; split <;> rfl
def zN (h c:Int) (m:Q1):Nat:=beN ((cT h m).take (nS c))
theorem so (h:Int) (f:isH h) (m:Q1) (hm:m.length<=900000000000000):F.GK h [m]=some (cT h m):=by
 rw[ge h f [m] (by simp) (by simpa using hm)]
 simp
theorem yN (h c:Int) (g:isH h) (hc:isC c) (m:Q1) (hm:m.length<=900000000000000):F.K6 h c m=some (ao (zN h c m)):=by
 obtain⟨n1,j,k⟩:=nS4 c
 have hl:=iB h m
 have o:=iW h
 have e:(min ((cT h m).length:Int) ((nS c:Nat):Int)).toNat=min (Sz h) (nS c):=by omega
 have i:(cT h m).take (min (Sz h) (nS c))=(cT h m).take (nS c):=by
  rcases Nat.le_total (nS c) (Sz h) with f | f
  ·rw[Nat.min_eq_right f]
  ·rw[Nat.min_eq_left f,List.take_of_length_le (by omega),List.take_of_length_le (by omega)]
 unfold F.K6 zN
 rw[so h g m hm,ae,wX,ae,if_pos hc,yc,e,grd_true _ ⟨by omega,by omega⟩,i,cz _ (by rw[List.length_take]; omega),ae]
theorem B1 (l:Q1):nb (beN l)<=8*l.length:=gv (by rw[<-CK]; exact gk l)
theorem FT (h c:Int) (m:Q1):nb (zN h c m)<=512/\(ao (zN h c m)).length<=100:=by
 have hl:=iB h m
 have g:=iW h
 have l1:((cT h m).take (nS c)).length<=64:=by rw[List.length_take]; omega
 have f:zN h c m<256^64:=Nat.lt_of_lt_of_le (gk _) (Nat.pow_le_pow_right (by decide) l1)
 have i:nb (zN h c m)<=8*_:=B1 _
 refine⟨by omega,ba (Nat.lt_of_lt_of_le f (by decide +kernel))⟩
theorem sA (a n:Q0) (f:a.length<=100000000000000) (ln:n.length<=100000000000000):F.JC a n=some (decide (0<val a/\val a<val n)):=by
 unfold F.JC
 rw[ew a f,ae]
 by_cases h:val a=0
 ·rw[h,fR,if_neg (by decide),decide_eq_false (by omega)]
 ·have:=(c9 (val a)).2 h
  rw[if_pos (decide_eq_true (by omega)),eN a n (by omega) (by omega),ae]
  unfold cD
  by_cases h2:val a<val n
  ·rw[if_pos h2,decide_eq_true (show 0<val a/\val a<val n by omega)]; rfl
  ·rw[if_neg h2,decide_eq_false (show ¬(0<val a/\val a<val n) by omega)]
   split <;> rfl
theorem Cp (a b:Nat):(cD a b == 0)=decide (a=b):=by
 unfold cD
 by_cases h:a<b
 ·rw[if_pos h,decide_eq_false (by omega)]; rfl
 ·rw[if_neg h]
  by_cases h2:a=b
  ·rw[if_pos h2,decide_eq_true h2]; rfl
  ·rw[if_neg h2,decide_eq_false h2]; rfl
theorem Ep (X Y:Q0) (f:Bool) (r n:Q0) (g:X.length<=40000000000000) (h:r.length<=40000000000000) (ln:n.length<=40000000000000) (hn:val n≠0) :
  F.IS X Y f r n=some (!f&&decide (val X%val n=val r)):=by
 unfold F.IS
 cases f with
 | true=>rfl
 | false=>
  have l1:(ao (val X%val n)).length<=X.length:=dG (Nat.mod_le _ _) (ba (bD X))
  rw[if_neg (by decide),mU X n g ln,if_neg hn,ae]
  dsimp only
  rw[eN _ _ (by omega) (by omega),ae,aw,Cp]
  rfl
def Bh {c:Int} (P:Pt (cP c)) (r:Nat):Bool:=match P with
 | none=>false
 | some (x,_)=>decide (x.val%cN c=r)
theorem BV {c:Int} (P:Pt (cP c)) (r:Q0) (f:r.length<=40000000000000):F.IS (rep P).1 (rep P).2.1 (rep P).2.2 r (ao (cN c))=some (Bh P (val r)):=by
 obtain⟨n1,g,h,_,_⟩:=mC c
 have hl:(rep P).1.length<=12:=by
  cases P with
  | none=>exact Nat.zero_le _
  | some q=>obtain⟨x,y⟩:=q; exact Fg c x
 rw[Ep _ _ _ _ _ (by omega) f (by omega) (by rw[aw]; omega)]
 cases P with
 | none=>rfl
 | some q=>
  obtain⟨x,y⟩:=q
  show some (!false&&decide (val (rl x)%val (ao (cN c))=val r))=some (decide (x.val%cN c=val r))
  rw[E0,aw]
  rfl
def inN (c:Int) (r:Nat):Prop:=0<r/\r<cN c
instance (c:Int) (r:Nat):Decidable (inN c r):=inferInstanceAs (Decidable (0<r/\r<cN c))
theorem D6 {c:Int} {x y:Q1} (h:(jR c x y).2.2.2=0):isC c/\jR c x y=(ao (beN x),ao (beN y),false,0)/\onS c (ao (beN x)) (ao (beN y)) false=true/\x.length=nS c/\y.length=nS c:=by
 unfold jR at h ⊢
 split at h
 ·rename_i hc
  rw[if_pos hc]
  refine⟨hc.1,rfl,?_,hc.2.1,hc.2.2.1⟩
  unfold onS
  rw[if_pos hc.1,aw,aw]
  exact hc.2.2.2
 ·exact absurd h (by decide)
theorem zW (b:Bool):F.Lm b=some (if b=true then 91 else 0):=by cases b <;> rfl
theorem rj {l:Q1} {k:Nat} (h:l.length<=k) (g:k<=48):(ao (beN l)).length<=100:=by
 have f:beN l<256^48:=Nat.lt_of_lt_of_le (gk l) (Nat.pow_le_pow_right (by decide) (by omega))
 exact ba (Nat.lt_of_lt_of_le f (by decide +kernel))
end Go.Gk.Bn
end

section
namespace Go.Gk.Bn
open Go Go.Gk Go.Gk.Sh Go.Gk.Ec Go.Gk.Pr
theorem AO (a:Q0) (m:Nat) (ha:a.length<=35184372087808) (hm:m<=16384) (g:val a<256^m):F.Hp a (m:Int)=some (beB m (val a),true):=by
 have hb:nb (val a)<=32*a.length:=Nat.le_trans (ib _) (Nat.mul_le_mul_left 32 (ba (bD a)))
 have j:(nb (val a)+7) / 8<=m:=zU g
 obtain⟨k,h,o,i⟩:=dD a (by omega)
 have hl:(ao (val a)).length<=a.length:=ba (bD a)
 have f:mkO 1 (m:Int) (m:Int) (0:UInt8)=some (List.replicate m 0):=by
  unfold mkO
  rw[if_pos ⟨by omega,by omega,by omega,by omega⟩,Int.toNat_natCast]
 unfold F.Hp
 rw[if_neg (by rw[decide_eq_true_eq]; omega),if_neg (by rw[decide_eq_true_eq]; omega),ew a (by omega),ae,aI (x:=((nb (val a):Nat):Int)+7) (by omega) (by omega),Int.tdiv_eq_ediv_of_nonneg (by omega),aI (by omega) (by omega),
  decide_eq_false (show ¬(m:Int)<(((nb (val a):Nat):Int)+7) / 8 by omega)]
 unfold F.JG
 rw[if_neg (by decide),f,ae,h,ae,i,xQ _ _ (by rw[List.length_replicate]; omega) (by omega),ae,List.length_replicate,aw]
end Go.Gk.Bn
end

section
namespace Go.Gk.Bn
open Go Go.Gk Go.Gk.Sh Go.Gk.Ec Go.Gk.Pr
end Go.Gk.Bn
end
