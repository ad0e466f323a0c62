import Derived.Test.YtkickcbphbgldaaGreatDoorGkX0
import Derived.Test.YtkickcbphbgldaaGreatDoorGkFman
set_option linter.unusedVariables false
set_option linter.unusedSimpArgs false
set_option linter.unusedSectionVars false

section
namespace Go.Gk.Bn
open Go Go.Gk Go.Gk.Sh Go.Gk.Ec Go.Gk.Pr
theorem sH {n:Nat} (h:nb n≤4096):(az n).length≤128:=by
 have h1:=(cu n).1
 have h2:=Nat.pow_le_pow_right (show 0<2 by decide) (show nb n≤32*128 by omega)
 refine bh ?_
 rw [show (4294967296:Nat)=2^32 from rfl,←Nat.pow_mul]
 exact Nat.lt_of_lt_of_le h1 h2
theorem mC (a b:List UInt32) (m:Nat) (h1:1<m) (hm:nb m≤4096) (ha:nb (val a)≤4096) (hb:nb (val b)≤4096) (la:a.length≤40000000000000) (lb:b.length≤40000000000000) (lm:(az m).length≤900) :
  F.Cx a b (az m)=some (az (val a*val b%m),0):=by
 have l1:=sH ha
 have l2:=sH hb
 have hs:(az (val a*val b)).length≤256:=bh (by
  have e1:=bv (az (val a)); have e2:=bv (az (val b))
  rw [aA]at e1 e2
  have:=Nat.mul_lt_mul'' e1 e2
  rw [←Nat.pow_add]at this
  exact Nat.lt_of_lt_of_le this (Nat.pow_le_pow_right (by decide) (by omega)))
 unfold F.Cx
 rw [q9 ha hb (by rw [aA]; omega) (by rw [aA]; omega) (by omega) (by omega) (by omega),ak,if_neg (by decide),y7 _ _ (by omega) (by omega) (by omega),ak,
  jg _ _ (by omega) (by omega) (by rw [aA]; omega),ak,aA,aA]
theorem zk (b:List UInt32) (m:Nat) (h1:1<m) (hm:nb m≤4096) (hb:nb (val b)≤4096) (lb:b.length≤1000) (lm:(az m).length≤900) :
  F.Ff [] b (az m)=some (az ((m - val b%m)%m),0):=by
 have h0:(az 0)=[]:=bD
 have e:=nu (x:=0) (y:=val b%m) (m:=m) (by omega) (Nat.mod_lt _ (by omega)) (by omega) (az m) (aA m) (by omega)
 rw [h0,Nat.add_zero]at e
 unfold F.Ff
 rw [q9 (by rw [dm,eH]; omega) hb (by rw [aA]; omega) (by rw [aA]; omega) (by decide) (by omega) (by omega),ak,if_neg (by decide),
  jg _ _ (by decide) (by omega) (by rw [aA]; omega),ak,jg _ _ (by omega) (by omega) (by rw [aA]; omega),ak,aA,dm,Nat.zero_mod,h0,e,ak]
theorem fp (c:Int):1<cN c∧nb (cN c)≤4096∧(az (cN c)).length≤12∧cN c<cP c∧cP c<4294967296^12:=by
 have h:=cZ c
 have l:=tP c (Nat.le_of_lt h.2.2.1)
 exact ⟨(gg c).1,Nat.le_trans (yB l) (by decide),l,h.2.2.1,h.1⟩
theorem AV (c:Int):cN c%2=1:=by
 unfold cN
 split <;> decide +kernel
theorem Ai {c:Int} {s:Nat} (h0:0<s) (h:s<cN c):Nat.gcd s (cN c)=1:=by
 rw [Nat.gcd_comm]
 exact (gg c).coprime fun hd=>by have:=Nat.le_of_dvd h0 hd; omega
theorem ej {c:Int} {s:Nat} (h:s<cN c):nb s≤384:=by
 have h1:=yB (cE (Nat.le_of_lt h) (fp c).2.2.1)
 omega
theorem vf {n s w v:Nat} (hw:w<n) (hv:v<n) (h1:s*w%n=1) (h2:s*v%n=1):w=v:=by
 have e1:s*w*v%n=v%n:=by rw [Nat.mul_mod,h1,Nat.one_mul,Nat.mod_mod]
 have e2:s*w*v%n=w%n:=by rw [show s*w*v=(s*v)*w by rw [Nat.mul_assoc,Nat.mul_comm w,←Nat.mul_assoc],Nat.mul_mod,h2,Nat.one_mul,Nat.mod_mod]
 rw [e1,Nat.mod_eq_of_lt hv,Nat.mod_eq_of_lt hw]at e2
 exact e2.symm
open Classical in
noncomputable def fI (c:Int) (s:Nat):Nat:=if h:∃w,w<cN c∧s*w%cN c=1 then Classical.choose h else 0
theorem tF {c:Int} {s w:Nat} (hw:w<cN c) (h:s*w%cN c=1):fI c s=w:=by
 have hx:∃w,w<cN c∧s*w%cN c=1:=⟨w,hw,h⟩
 unfold fI
 rw [dif_pos hx]
 have h2:=Classical.choose_spec hx
 exact vf h2.1 hw h2.2 h
theorem pC {c:Int} {s:Nat} (l:List UInt32) (hl:val l=s) (ll:l.length≤40000000000000) (h0:0<s) (h:s<cN c):fI c s<cN c∧s*fI c s%cN c=1∧F.DU l (az (cN c))=some (az (fI c s),0):=by
 obtain ⟨n1,n2,n3,_,_⟩:=fp c
 have hb:=ej h
 obtain ⟨w,a1,a2,a3⟩:=Ay l (cN c) n1 (AV c) n2 (by omega) (by rw [hl]; omega) ll (by rw [hl]; exact Ai h0 h)
 rw [hl]at a2
 rw [tF a1 a2]
 exact ⟨a1,a2,a3⟩
theorem jO {c:Int} {s:Nat} (h0:0<s) (h:s<cN c):fI c s<cN c∧s*fI c s%cN c=1:=by
 have l:=cE (Nat.le_of_lt h) (fp c).2.2.1
 obtain ⟨a1,a2,_⟩:=pC (c:=c) (az s) (aA s) (by omega) h0 h
 exact ⟨a1,a2⟩
abbrev isH (a:Int):Prop:=a=1∨a=2∨a=3
theorem gh (a:Int):F.Cc a=some (if isH a then ((Sz a:Nat):Int) else 0):=by
 unfold F.Cc isH
 by_cases h1:a=1
 ·subst h1; rfl
 ·by_cases h2:a=2
  ·subst h2; rfl
  ·by_cases h3:a=3
   ·subst h3; rfl
   ·rw [if_neg (by simpa using h1),if_neg (by simpa using h2),if_neg (by simpa using h3),if_neg (by omega)]
theorem ke (a:Int):32≤Sz a∧Sz a≤64:=by unfold Sz; split; decide; split <;> decide
theorem lh (a:Int) (D:List UInt8):(fJ a D).length=Sz a:=by
 unfold fJ om
 split
 ·rename_i h
  unfold yM
  have:=cJ (fun i (x:List UInt8)=>x.length=4*i) (fun x i=>x++q32 (((iI a (H0 a) (D++ic (Bk a) D) ((D++ic (Bk a) D).length / Bk a)).1).getD i 0)) (fun i x hx=>by simp only [List.length_append,q32,List.length_cons,List.length_nil,hx]; omega) 8 0 [] rfl
  refine Eq.trans this ?_
  unfold Sz
  rw [if_pos h]
 ·rename_i h
  rw [List.length_take,vG]; unfold Sz; rw [if_neg h]; split <;> rfl
def zN (h c:Int) (m:List UInt8):Nat:=beN ((fJ h m).take (nS c))
theorem tV (h:Int) (hh:isH h) (m:List UInt8) (hm:m.length≤900000000000000):F.Dl h [m]=some (fJ h m):=by
 rw [uH h hh [m] (by simp) (by simpa using hm)]
 simp
theorem od (h c:Int) (hh:isH h) (hc:isC c) (m:List UInt8) (hm:m.length≤900000000000000):F.EJ h c m=some (az (zN h c m)):=by
 obtain ⟨n1,n2,n3⟩:=nS4 c
 have hl:=lh h m
 have hz:=ke h
 have e:(min ((fJ h m).length:Int) ((nS c:Nat):Int)).toNat=min (Sz h) (nS c):=by omega
 have ht:(fJ h m).take (min (Sz h) (nS c))=(fJ h m).take (nS c):=by
  rcases Nat.le_total (nS c) (Sz h) with h1 | h1
  ·rw [Nat.min_eq_right h1]
  ·rw [Nat.min_eq_left h1,List.take_of_length_le (by omega),List.take_of_length_le (by omega)]
 unfold F.EJ zN
 rw [tV h hh m hm,ak,fU,ak,if_pos hc,je,e,grd_true _ ⟨by omega,by omega⟩,ht,ek _ (by rw [List.length_take]; omega),ak]
theorem xH (l:List UInt8):nb (beN l)≤8*l.length:=kQ (by rw [←xX]; exact io l)
theorem u5 (h c:Int) (m:List UInt8):nb (zN h c m)≤512∧(az (zN h c m)).length≤100:=by
 have hl:=lh h m
 have hz:=ke h
 have l1:((fJ h m).take (nS c)).length≤64:=by rw [List.length_take]; omega
 have h1:zN h c m<256^64:=Nat.lt_of_lt_of_le (io _) (Nat.pow_le_pow_right (by decide) l1)
 have h2:nb (zN h c m)≤8*_:=xH _
 refine ⟨by omega,bh (Nat.lt_of_lt_of_le h1 (by decide +kernel))⟩
theorem jA (a n:List UInt32) (la:a.length≤100000000000000) (ln:n.length≤100000000000000):F.CF a n=some (decide (0<val a∧val a<val n)):=by
 unfold F.CF
 rw [eB a la,ak]
 by_cases h:val a=0
 ·rw [h,eH,if_neg (by decide),decide_eq_false (by omega)]
 ·have:=(cu (val a)).2 h
  rw [if_pos (decide_eq_true (by omega)),eF a n (by omega) (by omega),ak]
  unfold cM
  by_cases h2:val a<val n
  ·rw [if_pos h2,decide_eq_true (show 0<val a∧val a<val n by omega)]; rfl
  ·rw [if_neg h2,decide_eq_false (show ¬(0<val a∧val a<val n) by omega)]
   split <;> rfl
theorem AA (a b:Nat):(cM a b == 0)=decide (a=b):=by
 unfold cM
 by_cases h:a<b
 ·rw [if_pos h,decide_eq_false (by omega)]; rfl
 ·rw [if_neg h]
  by_cases h2:a=b
  ·rw [if_pos h2,decide_eq_true h2]; rfl
  ·rw [if_neg h2,decide_eq_false h2]; rfl
theorem tl (X Y:List UInt32) (inf:Bool) (r n:List UInt32) (lX:X.length≤40000000000000) (lr:r.length≤40000000000000) (ln:n.length≤40000000000000) (hn:val n≠0) :
  F.Cz X Y inf r n=some (!inf&&decide (val X%val n=val r)):=by
 unfold F.Cz
 cases inf with
 | true=>rfl
 | false=>
  have l1:(az (val X%val n)).length≤X.length:=cE (Nat.mod_le _ _) (bh (bv X))
  rw [if_neg (by decide),gL X n lX ln,if_neg hn,ak]
  dsimp only
  rw [eF _ _ (by omega) (by omega),ak,aA,AA]
  rfl
def o9 {c:Int} (P:Pt (cP c)) (r:Nat):Bool:=match P with
 | none=>false
 | some (x,_)=>decide (x.val%cN c=r)
theorem yk {c:Int} (P:Pt (cP c)) (r:List UInt32) (lr:r.length≤40000000000000):F.Cz (rep P).1 (rep P).2.1 (rep P).2.2 r (az (cN c))=some (o9 P (val r)):=by
 obtain ⟨n1,n2,n3,_,_⟩:=fp c
 have hl:(rep P).1.length≤12:=by
  cases P with
  | none=>exact Nat.zero_le _
  | some q=>obtain ⟨x,y⟩:=q; exact lQ c x
 rw [tl _ _ _ _ _ (by omega) lr (by omega) (by rw [aA]; omega)]
 cases P with
 | none=>rfl
 | some q=>
  obtain ⟨x,y⟩:=q
  show some (!false&&decide (val (rl x)%val (az (cN c))=val r))=some (decide (x.val%cN c=val r))
  rw [kk,aA]
  rfl
noncomputable def uJ {c:Int} (z r w:Nat) (Q:Pt (cP c)):Pt (cP c):=Ec.add (-3) (Ec.mul (-3) (z*w%cN c) (gP c)) (Ec.mul (-3) (r*w%cN c) Q)
noncomputable def okE {c:Int} (z r s:Nat) (Q:Pt (cP c)):Bool:=o9 (uJ z r (fI c s) Q) r
def inN (c:Int) (r:Nat):Prop:=0<r∧r<cN c
instance (c:Int) (r:Nat):Decidable (inN c r):=inferInstanceAs (Decidable (0<r∧r<cN c))
noncomputable def ve (h c:Int) (x y m sig:List UInt8):Int:=
 if ¬isH h then 111 else if ¬((iG c x y).2.2.2=0) then 90 else if ¬(sig.length=2*nS c) then 91 else
 if ¬(inN c (beN (sig.take (nS c)))∧inN c (beN (sig.drop (nS c)))) then 91 else
 if okE (zN h c m) (beN (sig.take (nS c))) (beN (sig.drop (nS c))) (dL c (iG c x y).1 (iG c x y).2.1 (iG c x y).2.2.1)=true then 0 else 91
theorem zE {c:Int} {x y:List UInt8} (h:(iG c x y).2.2.2=0):isC c∧iG c x y=(az (beN x),az (beN y),false,0)∧onS c (az (beN x)) (az (beN y)) false=true∧x.length=nS c∧y.length=nS c:=by
 unfold iG at h ⊢
 split at h
 ·rename_i hc
  rw [if_pos hc]
  refine ⟨hc.1,rfl,?_,hc.2.1,hc.2.2.1⟩
  unfold onS
  rw [if_pos hc.1,aA,aA]
  exact hc.2.2.2
 ·exact absurd h (by decide)
theorem vJ (b:Bool):F.E2 b=some (if b=true then 91 else 0):=by cases b <;> rfl
theorem ow {l:List UInt8} {k:Nat} (h:l.length≤k) (hk:k≤48):(az (beN l)).length≤100:=by
 have h1:beN l<256^48:=Nat.lt_of_lt_of_le (io l) (Nat.pow_le_pow_right (by decide) (by omega))
 exact bh (Nat.lt_of_lt_of_le h1 (by decide +kernel))
theorem pF {c:Int} {a k X Y:List UInt32} {q:Bool} (h:onS c X Y q=true) (ha:nb (val a)≤1024) (hk:nb (val k)≤1024) (la:a.length≤1000) (lk:k.length≤1000) (lX:X.length≤35184372087808) (lY:Y.length≤35184372087808) :
  F.Di c a k X Y q=some (res (Ec.add (-3) (Ec.mul (-3) (val a) (gP c)) (Ec.mul (-3) (val k) (dL c X Y q)))):=by
 rw [uQ c a k X Y q (by omega) (by omega) lX lY,xf h ha hk]
theorem kP (h c:Int) (x y m sig:List UInt8) (hm:m.length≤900000000000000) (hs:sig.length≤140737488351232):F.Cr h c x y m sig=some (ve h c x y m sig):=by
 obtain ⟨n1,n2,n3⟩:=nS4 c
 obtain ⟨c1,c2,c3,c4,c5⟩:=fp c
 unfold F.Cr ve
 rw [gh,ak]
 by_cases hh:isH h
 ·have hz:=ke h
  rw [if_pos hh,if_neg (show ¬(((Sz h:Nat):Int) == 0)=true by rw [beq_iff_eq]; omega),if_neg (not_not_intro hh),wJ,ak]
  by_cases hd:(iG c x y).2.2.2=0
  ·obtain ⟨hc,d1,d2,d3,d4⟩:=zE hd
   rw [if_neg (by rw [hd]; decide),if_neg (not_not_intro hd),fU,ak,fG,ak,if_pos hc,if_pos hc,je,show wI (2*((nS c:Nat):Int))=((2*nS c:Nat):Int) by rw [aQ (by omega) (by omega)]; omega]
   by_cases hl:sig.length=2*nS c
   ·have lt1:(sig.take (nS c)).length=nS c:=by rw [List.length_take]; omega
    have lt2:(sig.drop (nS c)).length=nS c:=by rw [List.length_drop]; omega
    have b1:=ow (Nat.le_of_eq lt1) n2
    have b2:=ow (Nat.le_of_eq lt2) n2
    have hso:slO sig ((nS c:Nat):Int) ((2*nS c:Nat):Int)=some (sig.drop (nS c)):=by
     unfold slO
     rw [if_pos ⟨by omega,by omega,by omega⟩,Int.toNat_natCast,Int.toNat_natCast,List.take_of_length_le (by omega)]
    rw [if_neg (by rw [hl]; simp),grd_true _ ⟨by omega,by omega,rfl⟩,hso,ak,Int.toNat_natCast,ek _ (by omega),ak,ek _ (by omega),ak,jA _ _ (by omega) (by omega),ak,aA,aA,
     if_neg (not_not_intro hl)]
    have k91:∀(x2:List UInt32×List UInt32×Bool×Int) (x10 x15 x18:List UInt32),F.ET h c m x2 x10 x15 x18 true=some 91:=fun _ _ _ _=>rfl
    by_cases hr:inN c (beN (sig.take (nS c)))
    ·have hr':0<beN (sig.take (nS c))∧beN (sig.take (nS c))<cN c:=hr
     rw [decide_eq_true hr',if_neg (by decide),jA _ _ (by omega) (by omega),ak,aA,aA]
     by_cases hs2:inN c (beN (sig.drop (nS c)))
     ·have hs':0<beN (sig.drop (nS c))∧beN (sig.drop (nS c))<cN c:=hs2
      rw [decide_eq_true hs',if_neg (not_not_intro ⟨hr,hs2⟩)]
      obtain ⟨w1,w2,w3⟩:=pC (c:=c) (az (beN (sig.drop (nS c)))) (aA _) (by omega) hs'.1 hs'.2
      generalize hw:fI c (beN (sig.drop (nS c)))=w at w1 w2 w3
      have nw:=ej w1
      have lw:=cE (Nat.le_of_lt w1) c3
      have nr:=ej hr'.2
      obtain ⟨z1,z2⟩:=u5 h c m
      have m1:zN h c m*w%cN c<cN c:=Nat.mod_lt _ (by omega)
      have m2:beN (sig.take (nS c))*w%cN c<cN c:=Nat.mod_lt _ (by omega)
      have nm1:=ej m1; have nm2:=ej m2
      have lm1:=cE (Nat.le_of_lt m1) c3; have lm2:=cE (Nat.le_of_lt m2) c3
      unfold F.ET
      rw [if_neg (by decide),w3,ak,od h c hh hc m hm,ak]
      dsimp only
      rw [mC _ _ _ c1 c2 (by rw [aA]; omega) (by rw [aA]; omega) (by omega) (by omega) (by omega),ak]
      rw [mC _ _ _ c1 c2 (by rw [aA]; omega) (by rw [aA]; omega) (by omega) (by omega) (by omega),ak,aA,aA,aA,d1]
      dsimp only
      rw [pF d2 (by rw [aA]; omega) (by rw [aA]; omega) (by omega) (by omega) (by have:=ow (Nat.le_of_eq d3) n2; omega) (by have:=ow (Nat.le_of_eq d4) n2; omega),ak,aA,aA]
      show (if ((0:Int) != 0)=true then _ else an (F.Cz (rep _).1 (rep _).2.1 (rep _).2.2 _ _) _)=_
      rw [if_neg (by decide),yk _ _ (by omega),ak,vJ,aA]
      unfold okE uJ
      rw [hw]
      cases o9 (Ec.add (-3) (Ec.mul (-3) (zN h c m*w%cN c) (gP c)) (Ec.mul (-3) (beN (sig.take (nS c))*w%cN c) (dL c (az (beN x)) (az (beN y)) false))) (beN (sig.take (nS c))) <;> rfl
     ·rw [decide_eq_false (show ¬(0<beN (sig.drop (nS c))∧beN (sig.drop (nS c))<cN c) from hs2),if_pos (fun q=>hs2 q.2)]; exact k91 _ _ _ _
    ·rw [decide_eq_false (show ¬(0<beN (sig.take (nS c))∧beN (sig.take (nS c))<cN c) from hr),if_pos (by decide),if_pos (fun q=>hr q.1)]; exact k91 _ _ _ _
   ·rw [if_pos (by rw [bne_iff_ne]; omega),if_pos hl]
  ·rw [if_pos (by rw [bne_iff_ne]; exact hd),if_pos hd]
 ·rw [if_neg hh,if_pos (by decide),if_pos hh]
end Go.Gk.Bn
end

section
namespace Go.Gk.Bn
open Go Go.Gk Go.Gk.Sh Go.Gk.Ec Go.Gk.Pr
noncomputable def fi {c:Int} (z r s:Nat) (R:Pt (cP c)):Pt (cP c):=Ec.add (-3) (Ec.mul (-3) ((cN c - z*fI c r%cN c)%cN c) (gP c)) (Ec.mul (-3) (s*fI c r%cN c) R)
noncomputable def rB {c:Int} (Q:Pt (cP c)):List UInt8×List UInt8×Int:=match Q with
 | none=>([],[],91)
 | some (x,y)=>(beB (nS c) x.val,beB (nS c) y.val,0)
noncomputable def ew (h c:Int) (m:List UInt8) (r s:Nat) (X Y:List UInt32) (inf:Bool):List UInt8×List UInt8×Int:=
 if ¬isH h then ([],[],111) else if ¬isC c then ([],[],90) else if ¬(inf=false∧onS c X Y inf=true) then ([],[],93) else
 if ¬(inN c r∧inN c s∧val X%cN c=r) then ([],[],91) else rB (fi (zN h c m) r s (dL c X Y inf))
theorem nc (h c:Int) (m:List UInt8) (r s X Y:List UInt32) (inf:Bool) (hm:m.length≤900000000000000) (lr:r.length≤35184372087808) (ls:s.length≤35184372087808) (lX:X.length≤35184372087808) (lY:Y.length≤35184372087808) :
  F.D4 h c m r s X Y inf=some (ew h c m (val r) (val s) X Y inf):=by
 obtain ⟨n1,n2,n3⟩:=nS4 c
 obtain ⟨c1,c2,c3,c4,c5⟩:=fp c
 unfold F.D4 ew
 rw [gh,ak]
 by_cases hh:isH h
 ·have hz:=ke h
  rw [if_pos hh,if_neg (show ¬(((Sz h:Nat):Int) == 0)=true by rw [beq_iff_eq]; omega),if_neg (not_not_intro hh),fU,ak]
  by_cases hc:isC c
  ·rw [if_pos hc,je,if_neg (show ¬(((nS c:Nat):Int) == 0)=true by rw [beq_iff_eq]; omega),if_neg (not_not_intro hc)]
   cases inf with
   | true=>rw [if_pos rfl,if_pos (fun q=>by cases q.1)]; rfl
   | false=>
    rw [if_neg (by decide),qu c X Y false lX lY,ak]
    unfold F.FA
    by_cases ho:onS c X Y false=true
    ·rw [ho,if_neg (by decide),if_neg (not_not_intro ⟨rfl,rfl⟩),fG,ak,if_pos hc,jA _ _ (by omega) (by omega),ak,aA]
     have k91:F.Da h c m r s X Y false (az (cN c)) true=some ([],[],91):=rfl
     by_cases hr:inN c (val r)
     ·have hr':0<val r∧val r<cN c:=hr
      rw [decide_eq_true hr',if_neg (by decide),jA _ _ (by omega) (by omega),ak,aA]
      by_cases hs:inN c (val s)
      ·have hs':0<val s∧val s<cN c:=hs
       rw [decide_eq_true hs',if_neg (by decide),tl _ _ _ _ _ (by omega) (by omega) (by omega) (by rw [aA]; omega),ak,aA]
       by_cases hf:val X%cN c=val r
       ·obtain ⟨w1,w2,w3⟩:=pC (c:=c) r rfl (by omega) hr'.1 hr'.2
        have nw:=ej w1
        have lw:=cE (Nat.le_of_lt w1) c3
        have ns:=ej hs'.2
        obtain ⟨z1,z2⟩:=u5 h c m
        have m1:zN h c m*fI c (val r)%cN c<cN c:=Nat.mod_lt _ (by omega)
        have m2:val s*fI c (val r)%cN c<cN c:=Nat.mod_lt _ (by omega)
        have m3:(cN c - zN h c m*fI c (val r)%cN c)%cN c<cN c:=Nat.mod_lt _ (by omega)
        have nm1:=ej m1; have nm2:=ej m2; have nm3:=ej m3
        have lm1:=cE (Nat.le_of_lt m1) c3; have lm2:=cE (Nat.le_of_lt m2) c3; have lm3:=cE (Nat.le_of_lt m3) c3
        rw [decide_eq_true hf,if_neg (not_not_intro ⟨hr,hs,hf⟩)]
        unfold F.Da
        rw [if_neg (by decide),w3,ak]
        dsimp only
        rw [mC _ _ _ c1 c2 (by omega) (by rw [aA]; omega) (by omega) (by omega) (by omega),ak,od h c hh hc m hm,ak]
        rw [mC _ _ _ c1 c2 (by rw [aA]; omega) (by rw [aA]; omega) (by omega) (by omega) (by omega),ak,aA,aA]
        dsimp only
        rw [zk _ _ c1 c2 (by rw [aA]; omega) (by omega) (by omega),ak,aA,Nat.mod_mod]
        dsimp only
        rw [pF ho (by rw [aA]; omega) (by rw [aA]; omega) (by omega) (by omega) lX lY,ak,aA,aA]
        have hon:=nZ ho
        have hQ:On (-3) (bF c) (fi (zN h c m) (val r) (val s) (dL c X Y false)):=(ccv c).on_add ((ccv c).on_mul (f7 c hc) _) ((ccv c).on_mul hon _)
        show (if ((0:Int) != 0)=true then _ else F.Dy c (res (fi (zN h c m) (val r) (val s) (dL c X Y false))) (rep (fi (zN h c m) (val r) (val s) (dL c X Y false))).2.2)=_
        rw [if_neg (by decide)]
        generalize fi (zN h c m) (val r) (val s) (dL c X Y false)=Q at hQ
        cases Q with
        | none=>rfl
        | some q=>
         obtain ⟨x,y⟩:=q
         have l1:=lQ c x
         have l2:=lQ c y
         have h3:=mD hc hQ
         have h3':onS c (rl x) (rl y) false=true:=h3
         show F.Dy c (rl x,rl y,false,0) false=some (beB (nS c) x.val,beB (nS c) y.val,0)
         unfold F.Dy
         rw [if_neg (by decide)]
         dsimp only
         rw [vh c _ _ _ (by omega) (by omega),ak]
         unfold yj
         rw [if_pos ⟨h3',rfl⟩,kk,kk]
       ·rw [decide_eq_false hf,if_pos (fun q=>hf q.2.2)]; exact k91
      ·rw [decide_eq_false (show ¬(0<val s∧val s<cN c) from hs),if_pos (by decide),if_pos (fun q=>hs q.2.1)]; exact k91
     ·rw [decide_eq_false (show ¬(0<val r∧val r<cN c) from hr),if_pos (by decide),if_pos (fun q=>hr q.1)]; exact k91
    ·rw [Bool.eq_false_iff.2 ho,if_pos (by decide),if_pos (fun q=>by cases q.2)]
  ·rw [if_neg hc,if_pos (by decide),if_pos hc]
 ·rw [if_neg hh,if_pos (by decide),if_pos hh]
theorem pK (a:List UInt32) (m:Nat) (ha:a.length≤35184372087808) (hm:m≤16384) (hv:val a<256^m):F.EC a (m:Int)=some (beB m (val a),true):=by
 have hb:nb (val a)≤32*a.length:=Nat.le_trans (gH _) (Nat.mul_le_mul_left 32 (bh (bv a)))
 have hk:(nb (val a)+7) / 8≤m:=wo hv
 obtain ⟨k,v1,v2,v3⟩:=dr a (by omega)
 have hl:(az (val a)).length≤a.length:=bh (bv a)
 have hmk:mkO 1 (m:Int) (m:Int) (0:UInt8)=some (List.replicate m 0):=by
  unfold mkO
  rw [if_pos ⟨by omega,by omega,by omega,by omega⟩,Int.toNat_natCast]
 unfold F.EC
 rw [if_neg (by rw [decide_eq_true_eq]; omega),if_neg (by rw [decide_eq_true_eq]; omega),eB a (by omega),ak,aQ (x:=((nb (val a):Nat):Int)+7) (by omega) (by omega),Int.tdiv_eq_ediv_of_nonneg (by omega),aQ (by omega) (by omega),
  decide_eq_false (show ¬(m:Int)<(((nb (val a):Nat):Int)+7) / 8 by omega)]
 unfold F.DV
 rw [if_neg (by decide),hmk,ak,v1,ak,v3,tq _ _ (by rw [List.length_replicate]; omega) (by omega),ak,List.length_replicate,aA]
theorem pV (r s:List UInt32) (m:Nat) (lr:r.length≤35184372087808) (ls:s.length≤35184372087808) (hm:m≤16384) (hr:val r<256^m) (hs:val s<256^m):F.DS r s (m:Int)=some (beB m (val r)++beB m (val s),true):=by
 have e1:apO 1 [] (beB m (val r))=some (beB m (val r)):=by
  unfold apO
  rw [if_pos (by rw [cT,List.length_nil]; omega),List.nil_append]
 have e2:apO 1 (beB m (val r)) (beB m (val s))=some (beB m (val r)++beB m (val s)):=by
  unfold apO
  rw [if_pos (by rw [cT,cT]; omega)]
 unfold F.DS
 rw [pK r m lr hm hr,ak,pK s m ls hm hs,ak,e1,ak,e2,ak,if_pos rfl]
theorem ng (a b:List UInt32) (la:a.length≤4611686018427387904) (lb:b.length≤4611686018427387904):F.DZ a b=some (decide (a=b)):=by
 unfold F.DZ
 by_cases hl:a.length=b.length
 ·rw [if_neg (by rw [bne_iff_ne]; omega)]
  have key:∀n i:Nat,i+n=a.length→a.take i=b.take i→loop (F.DR a b) (i:Int)=some (decide (a=b)):=by
   intro n
   induction n with
   | zero=>
    intro i hi ht
    rw [List.take_of_length_le (by omega),List.take_of_length_le (by omega)]at ht
    refine bE ?_
    unfold F.DR
    rw [if_neg (by rw [decide_eq_true_eq]; omega),decide_eq_true ht]
   | succ n ih=>
    intro i hi ht
    have w:wI ((i:Int)+1)=((i+1:Nat):Int):=by rw [aQ (by omega) (by omega)]; omega
    by_cases he:a.getD i 0=b.getD i 0
    ·rw [bN (s':=((i+1:Nat):Int)) (by
      unfold F.DR
      rw [if_pos (decide_eq_true (by omega)),aU (show i<a.length by omega) 0,ak,aU (show i<b.length by omega) 0,ak,if_neg (by rw [bne_iff_ne]; exact fun q=>q he),w]
      rfl)]
     refine ih (i+1) (by omega) ?_
     rw [List.getD_eq_getElem?_getD,List.getD_eq_getElem?_getD,List.getElem?_eq_getElem (by omega),List.getElem?_eq_getElem (by omega)]at he
     rw [List.take_add_one,List.take_add_one,List.getElem?_eq_getElem (show i<a.length by omega),List.getElem?_eq_getElem (show i<b.length by omega),ht]
     congr 2
     exact congrArg some he
    ·refine bE ?_
     unfold F.DR
     rw [if_pos (decide_eq_true (by omega)),aU (show i<a.length by omega) 0,ak,aU (show i<b.length by omega) 0,ak,if_pos (by rw [bne_iff_ne]; exact he),decide_eq_false (fun q=>he (by rw [q]))]
  exact key a.length 0 (by omega) rfl
 ·rw [if_pos (by rw [bne_iff_ne]; omega),decide_eq_false (fun q=>hl (by rw [q]))]
theorem uY (h c:Int) (hh:isH h) (hc:isC c) (m:List UInt8) (hm:m.length≤900000000000000):F.FJ h c m=some (az (zN h c m)):=by
 obtain ⟨n1,n2,n3⟩:=nS4 c
 have hl:=lh h m
 have hz:=ke h
 have hk:∀b:List UInt8,b.length≤100→F.Ey b=some (az (beN b)):=fun b hb=>by
  unfold F.Ey
  dsimp only
  rw [ek _ (by omega),ak]
 unfold F.FJ zN
 rw [tV h hh m hm,ak,fU,if_pos hc,je,ak]
 by_cases h1:nS c<(fJ h m).length
 ·rw [if_pos (decide_eq_true (by omega)),ak,grd_true _ ⟨by omega,by omega⟩,Int.toNat_natCast,hk _ (by rw [List.length_take]; omega)]
 ·rw [if_neg (by rw [decide_eq_true_eq]; omega),hk _ (by omega),List.take_of_length_le (by omega)]
theorem A3 (c:Int):cN c<256^nS c:=by
 unfold cN nS
 split <;> decide +kernel
theorem ki {c:Int} {r:Nat} (h:r<cN c):r<256^nS c:=Nat.lt_trans h (A3 c)
theorem kN {m n:Nat} (h:n<256^m):beN (beB m n)=n:=by
 rw [i7,Nat.mod_eq_of_lt h]
theorem pT {c:Int} {r s:Nat} (hr:r<cN c) (hs:s<cN c):(beB (nS c) r++beB (nS c) s).length=2*nS c∧beN ((beB (nS c) r++beB (nS c) s).take (nS c))=r∧beN ((beB (nS c) r++beB (nS c) s).drop (nS c))=s:=by
 have l1:(beB (nS c) r).length=nS c:=cT _ _
 have l2:(beB (nS c) s).length=nS c:=cT _ _
 refine ⟨by rw [List.length_append,l1,l2]; omega,?_,?_⟩
 ·rw [List.take_left' l1,kN (ki hr)]
 ·rw [List.drop_left' l1,kN (ki hs)]
end Go.Gk.Bn
end

section
namespace Go.Gk.Bn
open Go Go.Gk Go.Gk.Sh Go.Gk.Ec Go.Gk.Pr
theorem tC {c:Int} (hc:isC c) {z r s:Nat} {R:Pt (cP c)} (hR:On (-3) (bF c) R) (hr:inN c r) (hs:inN c s):okE z r s (fi z r s R)=o9 R r:=by
 obtain ⟨w1,w2⟩:=jO hr.1 hr.2
 obtain ⟨v1,v2⟩:=jO hs.1 hs.2
 unfold okE uJ fi
 rw [vL hc (f7 c hc) hR w2 v2]
theorem zl {c:Int} (hc:isC c) {z r:Nat}:fi z r 1 (gP c)=Ec.mul (-3) ((cN c - z*fI c r%cN c)%cN c+fI c r%cN c) (gP c):=by
 unfold fi
 rw [(ccv c).mul_add (f7 c hc),Nat.one_mul]
theorem zM {n z z' r w:Nat} (h1:1<n) (hw:r*w%n=1):(z'*1%n+r*1%n*((n - z*w%n)%n+w%n))%n=(z'+(n - z%n)+1)%n:=by
 have a1:r*((n - z*w%n)%n)%n=(n - z%n)%n:=by
  refine na (v:=z%n) ?_
  have e1:r*((n - z*w%n)%n)%n=r*(n - z*w%n)%n:=Nat.mul_mod_mod _ _ _
  have e2:(r*(n - z*w%n)+r*(z*w%n))%n=0:=by
   rw [←Nat.mul_add,Nat.sub_add_cancel (Nat.le_of_lt (Nat.mod_lt _ (by omega))),Nat.mul_mod_left]
  have e3:r*(z*w%n)%n=z%n:=tT hw
  have e4:(n - z%n+z%n)%n=0:=by rw [Nat.sub_add_cancel (Nat.le_of_lt (Nat.mod_lt _ (by omega))),Nat.mod_self]
  rw [e4,Nat.add_mod,e1,←e3,Nat.mod_mod,←Nat.add_mod,e2]
 have a2:r*(w%n)%n=1:=by rw [Nat.mul_mod_mod,hw]
 have a3:r*((n - z*w%n)%n+w%n)%n=(n - z%n+1)%n:=by rw [Nat.mul_add,Nat.add_mod,a1,a2,Nat.mod_add_mod]
 rw [Nat.mul_one,Nat.mul_one,Nat.mod_add_mod,Nat.add_mod z',Nat.mod_mul_mod,a3,←Nat.add_mod,Nat.add_assoc z']
theorem zv {c:Int} (hc:isC c) {x y:Fin (cP c)} (h:On (-3) (bF c) (some (x,y))):onN (cP c) (cB c) x.val y.val=true:=by
 have h3:onS c (rl x) (rl y) false=true:=mD hc h
 have:=(mx h3).2.2
 rwa [kk,kk]at this
theorem zn {c:Int} (hc:isC c) {x y:Fin (cP c)} (h:On (-3) (bF c) (some (x,y))):iG c (beB (nS c) x.val) (beB (nS c) y.val)=(rl x,rl y,false,0):=by
 have hp:=ud c hc
 have e1:=kN (Nat.lt_trans x.isLt hp)
 have e2:=kN (Nat.lt_trans y.isLt hp)
 unfold iG
 rw [e1,e2,if_pos ⟨hc,cT _ _,cT _ _,zv hc h⟩]
 rfl
theorem oS {h c:Int} (hh:isH h) (hc:isC c) {x y:Fin (cP c)} (hQ:On (-3) (bF c) (some (x,y))) (m:List UInt8) {r s:Nat} (hr:inN c r) (hs:inN c s) :
  ve h c (beB (nS c) x.val) (beB (nS c) y.val) m (beB (nS c) r++beB (nS c) s)=if okE (zN h c m) r s (some (x,y))=true then 0 else 91:=by
 obtain ⟨j1,j2,j3⟩:=pT (c:=c) hr.2 hs.2
 have ht:dL c (rl x) (rl y) false=some (x,y):=nt (some (x,y))
 unfold ve
 rw [if_neg (not_not_intro hh),zn hc hQ,if_neg (not_not_intro rfl),if_neg (not_not_intro j1),j2,j3,if_neg (not_not_intro ⟨hr,hs⟩),ht]
theorem ue:zN 1 1 [97,98,99]=beN rI:=by
 unfold zN
 rw [yR]
 rfl
theorem zP:zN 1 1 [97,98,100]=beN un:=by
 unfold zN
 rw [zp]
 rfl
theorem zu:beN rI%cN 1≠1:=by decide +kernel
theorem Bo:inN 1 (cX 1)∧inN 1 1:=⟨by decide +kernel,by decide +kernel⟩
theorem Bj (c:Int):gP c≠none:=fun h=>by cases h
theorem At {c:Int} (hc:isC c) {z r s:Nat} {R:Pt (cP c)} (hR:On (-3) (bF c) R):On (-3) (bF c) (fi z r s R):=(ccv c).on_add ((ccv c).on_mul (f7 c hc) _) ((ccv c).on_mul hR _)
theorem yb (c:Int) (r1:inN c (cX c)):o9 (c:=c) (gP c) (cX c)=true:=by
 show decide ((fz (p:=cP c) (cX c:Int)).val%cN c=cX c)=true
 rw [j4 _ (cZ c).2.2.2.1,Nat.mod_eq_of_lt r1.2,decide_eq_true rfl]
theorem Ak (c:Int) (hc:isC c) (r1:inN c (cX c)) (r2:inN c 1) (z z' k:Nat) (hz:z%cN c≠1) (hk:(z'+(cN c - z%cN c)+1)%cN c=k) (hne:∀x y,Ec.mul (-3) k (gP c)=some (x,y)→x.val%cN c≠cX c) :
  ∃x y:Fin (cP c),fi z (cX c) 1 (gP c)=some (x,y)∧On (-3) (bF c) (some (x,y))∧okE z (cX c) 1 (some (x,y))=true∧okE z' (cX c) 1 (some (x,y))=false:=by
 have C:=ccv c
 have hG:=f7 c hc
 obtain ⟨c1,c2,c3,c4,c5⟩:=fp c
 obtain ⟨w1,w2⟩:=jO r1.1 r1.2
 have hQ:=At (z:=z) (r:=cX c) (s:=1) hc hG
 have hn:fi z (cX c) 1 (gP c)≠none:=by
  intro q
  have e:=qc hc hG hG w2 q
  rw [←nJ hc hG z]at e
  have:=C.mul_inj hG (gg c) (Bj c) (i9 c hc hG) c1 (Nat.mod_lt _ (Nat.lt_trans Nat.zero_lt_one c1)) e
  exact hz this.symm
 have habc:okE z (cX c) 1 (fi z (cX c) 1 (gP c))=true:=by rw [tC hc hG r1 r2,yb c r1]
 have habd:okE z' (cX c) 1 (fi z (cX c) 1 (gP c))=false:=by
  unfold okE uJ
  have i1:fI c 1=1:=tF c1 (by rw [Nat.one_mul,Nat.mod_eq_of_lt c1])
  have hk2:k%cN c=k:=by rw [←hk,Nat.mod_mod]
  rw [i1,zl hc,←C.mul_mul hG,←C.mul_add hG,iq (l:=k) hc hG (by rw [zM c1 w2,hk,hk2])]
  cases hm:Ec.mul (-3) k (gP c) with
  | none=>rfl
  | some q=>
   obtain ⟨x,y⟩:=q
   exact decide_eq_false (hne x y hm)
 cases hq:fi z (cX c) 1 (gP c) with
 | none=>exact absurd hq hn
 | some q=>
  obtain ⟨x,y⟩:=q
  rw [hq]at hQ habc habd
  exact ⟨x,y,rfl,hQ,habc,habd⟩
theorem q6 (c:Int):val (rep (gP c)).1=cX c:=by
 show val (rl (fz (p:=cP c) (cX c:Int)))=cX c
 rw [kk,j4 _ (cZ c).2.2.2.1]
theorem xz {h c:Int} (hh:isH h) (hc:isC c) (r1:inN c (cX c)) (r2:inN c 1) (m:List UInt8):ew h c m (cX c) 1 (rep (gP c)).1 (rep (gP c)).2.1 (rep (gP c)).2.2=rB (fi (zN h c m) (cX c) 1 (gP c)):=by
 unfold ew
 rw [if_neg (not_not_intro hh),if_neg (not_not_intro hc),if_neg (not_not_intro ⟨rfl,mD hc (f7 c hc)⟩),if_neg (not_not_intro ⟨r1,r2,by rw [q6,Nat.mod_eq_of_lt r1.2]⟩),nt]
theorem uz:F.FD=some true:=by
 have hc:isC 1:=.inl rfl
 have hh:isH 1:=.inl rfl
 obtain ⟨c1,c2,c3,c4,c5⟩:=fp 1
 obtain ⟨r1,r2⟩:=Bo
 have lG:=mq 1 (gP 1)
 have l1:val [1]=1:=rfl
 have lX:=cE (Nat.le_of_lt r1.2) c3
 obtain ⟨x,y,hq,hQ,habc,habd⟩:=Ak 1 hc r1 r2 (beN rI) (beN un) kAw zu An (fun x y h=>Bp h)
 have b1:(beB (nS 1) x.val).length=32:=cT _ _
 have b2:(beB (nS 1) y.val).length=32:=cT _ _
 have b3:(beB (nS 1) (cX 1)++beB (nS 1) 1).length=64:=by rw [List.length_append,cT,cT]; rfl
 have hj:=pV (az (cX 1)) [1] (nS 1) (Nat.le_trans lX (by decide)) (by decide) (by decide) (by rw [aA]; exact ki r1.2) (by rw [l1]; exact ki r2.2)
 have hr:=nc 1 1 [97,98,99] (az (cX 1)) [1] (rep (gP 1)).1 (rep (gP 1)).2.1 (rep (gP 1)).2.2 (by decide) (Nat.le_trans lX (by decide)) (by decide) (Nat.le_trans lG.1 (by decide)) (Nat.le_trans lG.2 (by decide))
 rw [aA,l1,xz hh hc r1 r2,ue,hq]at hr
 rw [aA,l1]at hj
 have v1:=kP 1 1 (beB (nS 1) x.val) (beB (nS 1) y.val) [97,98,99] (beB (nS 1) (cX 1)++beB (nS 1) 1) (by decide) (by rw [b3]; decide)
 have v2:=kP 1 1 (beB (nS 1) x.val) (beB (nS 1) y.val) [97,98,100] (beB (nS 1) (cX 1)++beB (nS 1) 1) (by decide) (by rw [b3]; decide)
 rw [oS hh hc hQ _ r1 r2,ue,if_pos habc]at v1
 rw [oS hh hc hQ _ r1 r2,zP,habd,if_neg Bool.false_ne_true]at v2
 unfold F.FD
 rw [sE 1 hc,ak,fG,if_pos hc,ak,gL _ _ (Nat.le_trans lG.1 (by decide)) (Nat.le_trans c3 (by decide)),aA,if_neg (Nat.ne_of_gt (Nat.lt_trans Nat.zero_lt_one c1)),ak,q6,Nat.mod_eq_of_lt r1.2]
 dsimp only
 rw [hr,ak,show (32:Int)=((nS 1:Nat):Int) from rfl,hj,ak]
 unfold rB
 dsimp only
 rw [if_neg (by decide),if_neg (by decide),if_neg (by decide),b1,b2,if_neg (by decide)]
 show F.Cj _ _ false=_
 unfold F.Cj
 rw [if_neg (by decide)]
 dsimp only
 rw [v1,ak,if_pos (by decide),v2,ak]
 rfl
end Go.Gk.Bn
end

section
namespace Go.Gk.Bn
open Go Go.Gk Go.Gk.Sh Go.Gk.Ec Go.Gk.Pr
theorem yZ {c:Int} (hc:isC c) {P:Pt (cP c)} (hP:On (-3) (bF c) P) (k:List UInt32) (hk:nb (val k)≤1024) (lk:k.length≤35184372087808) :
  F.Dq c k (rep P).1 (rep P).2.1 (rep P).2.2=some (res (Ec.mul (-3) (val k) P)):=by
 have hl:=mq c P
 rw [si c k _ _ _ lk (by omega) (by omega),sJ (mD hc hP) hk,nt]
theorem AP {c:Int} {X Y:List UInt32} (h:onS c X Y false=true) (r:Nat):o9 (dL c X Y false) r=decide (val X%cN c=r):=by
 show decide ((fz (p:=cP c) (val X:Int)).val%cN c=r)=_
 rw [j4 _ (mx h).1]
theorem law12_EcdsaComplete_eq (h c:Int) (m:List UInt8) (r s X Y:List UInt32) (inf:Bool) (hm:m.length≤140737488351232) (lr:r.length≤35184372087808) (ls:s.length≤35184372087808) (lX:X.length≤35184372087808) (lY:Y.length≤35184372087808) :
  F.FP h c m r s X Y inf=some true:=by
 obtain ⟨n1,n2,n3⟩:=nS4 c
 obtain ⟨c1,c2,c3,c4,c5⟩:=fp c
 unfold F.FP
 rw [uz,ak,if_neg (by decide),nc h c m r s X Y inf (by omega) lr ls lX lY,ak]
 have hz:=ke h
 have kno:∀e:Int,e≠0→ew h c m (val r) (val s) X Y inf=([],[],e)→F.B1 h c X Y inf ([],[],e) r s m false=some true →
   (if ((ew h c m (val r) (val s) X Y inf).2.2 == 0)=true then
    (an (F.B3 c) fun x_9=>an (F.DS r s x_9) fun x_10=>if x_10.2=true then (an (F.Cr h c (ew h c m (val r) (val s) X Y inf).1 (ew h c m (val r) (val s) X Y inf).2.1 m x_10.1) fun x_14=>some (x_14 == 0)) else (some false))
   else (if (((ew h c m (val r) (val s) X Y inf).1.length:Int) != 0)=true then (F.B1 h c X Y inf (ew h c m (val r) (val s) X Y inf) r s m true)
    else (F.B1 h c X Y inf (ew h c m (val r) (val s) X Y inf) r s m (((ew h c m (val r) (val s) X Y inf).2.1.length:Int) != 0))))=some true:=fun e he hr hk=>by
  rw [hr]
  dsimp only
  rw [if_neg (show ¬(e == 0)=true by rw [beq_iff_eq]; exact he),if_neg (by decide)]
  exact hk
 have e0:(if isH h then ((Sz h:Nat):Int) else 0)=if isH h then ((Sz h:Nat):Int) else 0:=rfl
 by_cases hh:isH h
 ·by_cases hc:isC c
  ·by_cases hp:inf=false∧onS c X Y inf=true
   ·obtain ⟨hi,ho⟩:=hp
    subst hi
    have hon:=nZ ho
    have hG:=f7 c hc
    by_cases hf:inN c (val r)∧inN c (val s)∧val X%cN c=val r
    ·obtain ⟨hr,hs,hx⟩:=hf
     have hr':0<val r∧val r<cN c:=hr
     have hs':0<val s∧val s<cN c:=hs
     have hrec:ew h c m (val r) (val s) X Y false=rB (fi (zN h c m) (val r) (val s) (dL c X Y false)):=by
      unfold ew
      rw [if_neg (not_not_intro hh),if_neg (not_not_intro hc),if_neg (not_not_intro ⟨rfl,ho⟩),if_neg (not_not_intro ⟨hr,hs,hx⟩)]
     have hQ:On (-3) (bF c) (fi (zN h c m) (val r) (val s) (dL c X Y false)):=(ccv c).on_add ((ccv c).on_mul hG _) ((ccv c).on_mul hon _)
     have hok:=tC (z:=zN h c m) hc hon hr hs
     have hnone:=fun q=>qc hc hG hon (jO hr.1 hr.2).2 (s:=val s) (z:=zN h c m) q
     rw [AP ho,decide_eq_true hx]at hok
     cases hq:fi (zN h c m) (val r) (val s) (dL c X Y false) with
     | none=>
      rw [hq]at hrec
      refine kno 91 (by decide) hrec ?_
      obtain ⟨z1,z2⟩:=u5 h c m
      have hb:=(cu (val r)).2 (by omega)
      have hb2:=(cu (val s)).2 (by omega)
      have br:nb (val r)≤32*r.length:=Nat.le_trans (gH _) (Nat.mul_le_mul_left 32 (bh (bv r)))
      have lxn:(az (val X%cN c)).length≤12:=cE (Nat.le_of_lt (Nat.mod_lt _ (by omega))) c3
      have d1:¬0≤cM (val r) (cN c):=by unfold cM; rw [if_pos hr'.2]; decide
      have d2:¬0≤cM (val s) (cN c):=by unfold cM; rw [if_pos hs'.2]; decide
      unfold F.B1
      rw [if_neg (by decide),fG,ak,gh,ak,if_pos hc,if_pos hh,if_neg (show ¬(((Sz h:Nat):Int) == 0)=true by rw [beq_iff_eq]; omega),fU,ak,if_pos hc,je,
       if_neg (show ¬(((nS c:Nat):Int) == 0)=true by rw [beq_iff_eq]; omega),if_neg (by decide),qu c X Y false lX lY,ho,ak]
      unfold F.EK
      rw [if_neg (by decide),if_neg (by decide),gL _ _ (by omega) (by omega),aA,if_neg (by omega),ak]
      dsimp only
      rw [if_neg (by decide),eB _ (by omega),ak,if_neg (by rw [beq_iff_eq]; omega),eB _ (by omega),ak,if_neg (by rw [beq_iff_eq]; omega),
       eF _ _ (by omega) (by omega),ak,aA,if_neg (by rw [decide_eq_true_eq]; exact d1),eF _ _ (by omega) (by omega),ak,aA,if_neg (by rw [decide_eq_true_eq]; exact d2),
       eF _ _ (by omega) (by omega),ak,aA,hx,lg]
      have hns:=ej hs'.2
      have hrG:=mq c (gP c)
      unfold F.B7
      rw [if_neg (by decide),si c s X Y false ls lX lY,sJ ho (by omega),ak,uY h c hh hc m (by omega),ak,sE c hc,ak,yZ hc hG _ (by rw [aA]; omega) (by omega),ak,aA,hnone hq]
      have hl:=mq c (Ec.mul (-3) (zN h c m) (gP c))
      unfold res
      dsimp only
      rw [if_pos (by decide),if_pos (by decide),if_pos (beq_self_eq_true _),ng _ _ (by omega) (by omega),ak,decide_eq_true rfl,if_pos rfl,ng _ _ (by omega) (by omega),ak,decide_eq_true rfl]
     | some q=>
      obtain ⟨x,y⟩:=q
      rw [hq]at hrec hQ hok
      rw [hrec]
      unfold rB
      dsimp only
      obtain ⟨j1,j2,j3⟩:=pT (c:=c) hr.2 hs.2
      rw [if_pos (by decide),fU,ak,if_pos hc,je,pV _ _ _ lr ls (by omega) (ki hr.2) (ki hs.2),ak,if_pos rfl,kP _ _ _ _ _ _ (by omega) (by dsimp only; omega),ak,
       oS hh hc hQ m hr hs,if_pos hok]
      rfl
    ·have hrec:ew h c m (val r) (val s) X Y false=([],[],91):=by
      unfold ew
      rw [if_neg (not_not_intro hh),if_neg (not_not_intro hc),if_neg (not_not_intro ⟨rfl,ho⟩),if_pos hf]
     refine kno 91 (by decide) hrec ?_
     have k3:∀(x:List UInt32×List UInt32×Int),x.2.2=0→F.B7 h c m s X Y false x true=some true:=fun x hx=>by
      unfold F.B7
      rw [if_pos rfl,hx]; rfl
     have lxn:(az (val X%cN c)).length≤12:=cE (Nat.le_of_lt (Nat.mod_lt _ (by omega))) c3
     unfold F.B1
     rw [if_neg (by decide),fG,ak,gh,ak,if_pos hc,if_pos hh,if_neg (show ¬(((Sz h:Nat):Int) == 0)=true by rw [beq_iff_eq]; omega),fU,ak,if_pos hc,je,
      if_neg (show ¬(((nS c:Nat):Int) == 0)=true by rw [beq_iff_eq]; omega),if_neg (by decide),qu c X Y false lX lY,ho,ak]
     unfold F.EK
     rw [if_neg (by decide),if_neg (by decide),gL _ _ (by omega) (by omega),aA,if_neg (by omega),ak]
     dsimp only
     rw [if_neg (by decide),eB _ (by omega),ak]
     by_cases r0:val r=0
     ·rw [r0,eH,if_pos (by decide)]; exact k3 _ rfl
     ·have:=(cu (val r)).2 r0
      rw [if_neg (by rw [beq_iff_eq]; omega),eB _ (by omega),ak]
      by_cases s0:val s=0
      ·rw [s0,eH,if_pos (by decide)]; exact k3 _ rfl
      ·have:=(cu (val s)).2 s0
       rw [if_neg (by rw [beq_iff_eq]; omega),eF _ _ (by omega) (by omega),ak,aA]
       by_cases rn:val r<cN c
       ·have d1:¬0≤cM (val r) (cN c):=by unfold cM; rw [if_pos rn]; decide
        rw [if_neg (by rw [decide_eq_true_eq]; exact d1),eF _ _ (by omega) (by omega),ak,aA]
        by_cases sn:val s<cN c
        ·have d2:¬0≤cM (val s) (cN c):=by unfold cM; rw [if_pos sn]; decide
         have hx:val X%cN c≠val r:=fun q=>hf ⟨⟨by omega,rn⟩,⟨by omega,sn⟩,q⟩
         rw [if_neg (by rw [decide_eq_true_eq]; exact d2),eF _ _ (by omega) (by omega),ak,aA]
         have e:(cM (val X%cN c) (val r) != 0)=true:=by
          have:=AA (val X%cN c) (val r)
          rw [decide_eq_false hx]at this
          unfold bne
          rw [this]; rfl
         rw [e]; exact k3 _ rfl
        ·have d2:0≤cM (val s) (cN c):=by unfold cM; rw [if_neg sn]; split <;> decide
         rw [if_pos (decide_eq_true d2)]; exact k3 _ rfl
       ·have d1:0≤cM (val r) (cN c):=by unfold cM; rw [if_neg rn]; split <;> decide
        rw [if_pos (decide_eq_true d1)]; exact k3 _ rfl
   ·have hrec:ew h c m (val r) (val s) X Y inf=([],[],93):=by
     unfold ew
     rw [if_neg (not_not_intro hh),if_neg (not_not_intro hc),if_pos hp]
    refine kno 93 (by decide) hrec ?_
    unfold F.B1
    rw [if_neg (by decide),fG,ak,gh,ak,if_pos hc,if_pos hh,if_neg (show ¬(((Sz h:Nat):Int) == 0)=true by rw [beq_iff_eq]; omega),fU,ak,if_pos hc,je,
      if_neg (show ¬(((nS c:Nat):Int) == 0)=true by rw [beq_iff_eq]; omega)]
    cases inf with
    | true=>rw [if_pos rfl]; rfl
    | false=>
     have ho:onS c X Y false=false:=Bool.eq_false_iff.2 fun q=>hp ⟨rfl,q⟩
     rw [if_neg (by decide),qu c X Y false lX lY,ho,ak]; rfl
  ·have hrec:ew h c m (val r) (val s) X Y inf=([],[],90):=by
    unfold ew
    rw [if_neg (not_not_intro hh),if_pos hc]
   refine kno 90 (by decide) hrec ?_
   unfold F.B1
   rw [if_neg (by decide),fG,ak,gh,ak,if_pos hh,if_neg (show ¬(((Sz h:Nat):Int) == 0)=true by rw [beq_iff_eq]; omega),fU,ak,if_neg hc,if_pos (by decide)]
   rfl
 ·have hrec:ew h c m (val r) (val s) X Y inf=([],[],111):=by
   unfold ew
   rw [if_pos hh]
  refine kno 111 (by decide) hrec ?_
  unfold F.B1
  rw [if_neg (by decide),fG,ak,gh,ak,if_neg hh,if_pos (by decide)]
  rfl
end Go.Gk.Bn
end
