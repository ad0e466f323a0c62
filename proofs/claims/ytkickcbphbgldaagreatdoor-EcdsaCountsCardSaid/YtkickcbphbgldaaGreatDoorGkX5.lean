import Derived.Test.YtkickcbphbgldaaGreatDoorGkX0
import Derived.Test.YtkickcbphbgldaaGreatDoorGkFman
set_option linter.unusedVariables false
set_option linter.unusedSimpArgs false
set_option linter.unusedSectionVars false

section
namespace Go.Gk.Bn
open Go Go.Gk Go.Gk.Sh Go.Gk.Ec Go.Gk.Pr
theorem qa {n:Nat} (h:nb n≤4096):(ay n).length≤128:=by
 have h1:=(cU n).1
 have h2:=Nat.pow_le_pow_right (show 0<2 by decide) (show nb n≤32*128 by omega)
 refine bh ?_
 rw [show (4294967296:Nat)=2^32 from rfl,←Nat.pow_mul]
 exact Nat.lt_of_lt_of_le h1 h2
theorem mo (a b:List UInt32) (m:Nat) (h1:1<m) (hm:nb m≤4096) (ha:nb (val a)≤4096) (hb:nb (val b)≤4096) (la:a.length≤40000000000000) (lb:b.length≤40000000000000) (lm:(ay m).length≤900) :
  F.Cs a b (ay m)=some (ay (val a*val b%m),0):=by
 have l1:=qa ha
 have l2:=qa hb
 have hs:(ay (val a*val b)).length≤256:=bh (by
  have e1:=bu (ay (val a)); have e2:=bu (ay (val b))
  rw [aB]at e1 e2
  have:=Nat.mul_lt_mul'' e1 e2
  rw [←Nat.pow_add]at this
  exact Nat.lt_of_lt_of_le this (Nat.pow_le_pow_right (by decide) (by omega)))
 unfold F.Cs
 rw [qS ha hb (by rw [aB]; omega) (by rw [aB]; omega) (by omega) (by omega) (by omega),ak,if_neg (by decide),zB _ _ (by omega) (by omega) (by omega),ak,
  iY _ _ (by omega) (by omega) (by rw [aB]; omega),ak,aB,aB]
theorem zo (b:List UInt32) (m:Nat) (h1:1<m) (hm:nb m≤4096) (hb:nb (val b)≤4096) (lb:b.length≤1000) (lm:(ay m).length≤900) :
  F.Fs [] b (ay m)=some (ay ((m - val b%m)%m),0):=by
 have h0:(ay 0)=[]:=bC
 have e:=na (x:=0) (y:=val b%m) (m:=m) (by omega) (Nat.mod_lt _ (by omega)) (by omega) (ay m) (aB m) (by omega)
 rw [h0,Nat.add_zero]at e
 unfold F.Fs
 rw [qS (by rw [dg,fa]; omega) hb (by rw [aB]; omega) (by rw [aB]; omega) (by decide) (by omega) (by omega),ak,if_neg (by decide),
  iY _ _ (by decide) (by omega) (by rw [aB]; omega),ak,iY _ _ (by omega) (by omega) (by rw [aB]; omega),ak,aB,dg,Nat.zero_mod,h0,e,ak]
theorem fg (c:Int):1<cN c∧nb (cN c)≤4096∧(ay (cN c)).length≤12∧cN c<cP c∧cP c<4294967296^12:=by
 have h:=da c
 have l:=sI c (Nat.le_of_lt h.2.2.1)
 exact ⟨(gN c).1,Nat.le_trans (yu l) (by decide),l,h.2.2.1,h.1⟩
theorem AI (c:Int):cN c%2=1:=by
 unfold cN
 split <;> decide +kernel
theorem z9 {c:Int} {s:Nat} (h0:0<s) (h:s<cN c):Nat.gcd s (cN c)=1:=by
 rw [Nat.gcd_comm]
 exact (gN c).coprime fun hd=>by have:=Nat.le_of_dvd h0 hd; omega
theorem ep {c:Int} {s:Nat} (h:s<cN c):nb s≤384:=by
 have h1:=yu (cM (Nat.le_of_lt h) (fg c).2.2.1)
 omega
theorem tX {n s w v:Nat} (hw:w<n) (hv:v<n) (h1:s*w%n=1) (h2:s*v%n=1):w=v:=by
 have e1:s*w*v%n=v%n:=by rw [Nat.mul_mod,h1,Nat.one_mul,Nat.mod_mod]
 have e2:s*w*v%n=w%n:=by rw [show s*w*v=(s*v)*w by rw [Nat.mul_assoc,Nat.mul_comm w,←Nat.mul_assoc],Nat.mul_mod,h2,Nat.one_mul,Nat.mod_mod]
 rw [e1,Nat.mod_eq_of_lt hv,Nat.mod_eq_of_lt hw]at e2
 exact e2.symm
open Classical in
noncomputable def fe (c:Int) (s:Nat):Nat:=if h:∃w,w<cN c∧s*w%cN c=1 then Classical.choose h else 0
theorem tG {c:Int} {s w:Nat} (hw:w<cN c) (h:s*w%cN c=1):fe c s=w:=by
 have hx:∃w,w<cN c∧s*w%cN c=1:=⟨w,hw,h⟩
 unfold fe
 rw [dif_pos hx]
 have h2:=Classical.choose_spec hx
 exact tX h2.1 hw h2.2 h
theorem oB {c:Int} {s:Nat} (l:List UInt32) (hl:val l=s) (ll:l.length≤40000000000000) (h0:0<s) (h:s<cN c):fe c s<cN c∧s*fe c s%cN c=1∧F.CI l (ay (cN c))=some (ay (fe c s),0):=by
 obtain ⟨n1,n2,n3,_,_⟩:=fg c
 have hb:=ep h
 obtain ⟨w,a1,a2,a3⟩:=AK l (cN c) n1 (AI c) n2 (by omega) (by rw [hl]; omega) ll (by rw [hl]; exact z9 h0 h)
 rw [hl]at a2
 rw [tG a1 a2]
 exact ⟨a1,a2,a3⟩
theorem kS {c:Int} {s:Nat} (h0:0<s) (h:s<cN c):fe c s<cN c∧s*fe c s%cN c=1:=by
 have l:=cM (Nat.le_of_lt h) (fg c).2.2.1
 obtain ⟨a1,a2,_⟩:=oB (c:=c) (ay s) (aB s) (by omega) h0 h
 exact ⟨a1,a2⟩
abbrev isH (a:Int):Prop:=a=1∨a=2∨a=3
theorem i5 (a:Int):F.BQ a=some (if isH a then ((Sz a:Nat):Int) else 0):=by
 unfold F.BQ isH
 by_cases h1:a=1
 ·subst h1; rfl
 ·by_cases h2:a=2
  ·subst h2; rfl
  ·by_cases h3:a=3
   ·subst h3; rfl
   ·rw [if_neg (by simpa using h1),if_neg (by simpa using h2),if_neg (by simpa using h3),if_neg (by omega)]
theorem ib (a:Int):32≤Sz a∧Sz a≤64:=by unfold Sz; split; decide; split <;> decide
theorem k7 (a:Int) (D:List UInt8):(fk a D).length=Sz a:=by
 unfold fk nQ
 split
 ·rename_i h
  unfold yq
  have:=cD (fun i (x:List UInt8)=>x.length=4*i) (fun x i=>x++q32 (((iu a (H0 a) (D++gK (Bk a) D) ((D++gK (Bk a) D).length / Bk a)).1).getD i 0)) (fun i x hx=>by simp only [List.length_append,q32,List.length_cons,List.length_nil,hx]; omega) 8 0 [] rfl
  refine Eq.trans this ?_
  unfold Sz
  rw [if_pos h]
 ·rename_i h
  rw [List.length_take,vb]; unfold Sz; rw [if_neg h]; split <;> rfl
def zN (h c:Int) (m:List UInt8):Nat:=beN ((fk h m).take (nS c))
theorem tF (h:Int) (hh:isH h) (m:List UInt8) (hm:m.length≤900000000000000):F.Dv h [m]=some (fk h m):=by
 rw [tZ h hh [m] (by simp) (by simpa using hm)]
 simp
theorem nX (h c:Int) (hh:isH h) (hc:isC c) (m:List UInt8) (hm:m.length≤900000000000000):F.Et h c m=some (ay (zN h c m)):=by
 obtain ⟨n1,n2,n3⟩:=nS4 c
 have hl:=k7 h m
 have hz:=ib h
 have e:(min ((fk h m).length:Int) ((nS c:Nat):Int)).toNat=min (Sz h) (nS c):=by omega
 have ht:(fk h m).take (min (Sz h) (nS c))=(fk h m).take (nS c):=by
  rcases Nat.le_total (nS c) (Sz h) with h1 | h1
  ·rw [Nat.min_eq_right h1]
  ·rw [Nat.min_eq_left h1,List.take_of_length_le (by omega),List.take_of_length_le (by omega)]
 unfold F.Et zN
 rw [tF h hh m hm,ak,iM,ak,if_pos hc,ku,e,grd_true _ ⟨by omega,by omega⟩,ht,dW _ (by rw [List.length_take]; omega),ak]
theorem xi (l:List UInt8):nb (beN l)≤8*l.length:=ke (by rw [←wD]; exact ia l)
theorem pQ (h c:Int) (m:List UInt8):nb (zN h c m)≤512∧(ay (zN h c m)).length≤100:=by
 have hl:=k7 h m
 have hz:=ib h
 have l1:((fk h m).take (nS c)).length≤64:=by rw [List.length_take]; omega
 have h1:zN h c m<256^64:=Nat.lt_of_lt_of_le (ia _) (Nat.pow_le_pow_right (by decide) l1)
 have h2:nb (zN h c m)≤8*_:=xi _
 refine ⟨by omega,bh (Nat.lt_of_lt_of_le h1 (by decide +kernel))⟩
theorem jz (a n:List UInt32) (la:a.length≤100000000000000) (ln:n.length≤100000000000000):F.Ch a n=some (decide (0<val a∧val a<val n)):=by
 unfold F.Ch
 rw [f0 a la,ak]
 by_cases h:val a=0
 ·rw [h,fa,if_neg (by decide),decide_eq_false (by omega)]
 ·have:=(cU (val a)).2 h
  rw [if_pos (decide_eq_true (by omega)),iK a n (by omega) (by omega),ak]
  unfold dG
  by_cases h2:val a<val n
  ·rw [if_pos h2,decide_eq_true (show 0<val a∧val a<val n by omega)]; rfl
  ·rw [if_neg h2,decide_eq_false (show ¬(0<val a∧val a<val n) by omega)]
   split <;> rfl
theorem Bx (a b:Nat):(dG a b == 0)=decide (a=b):=by
 unfold dG
 by_cases h:a<b
 ·rw [if_pos h,decide_eq_false (by omega)]; rfl
 ·rw [if_neg h]
  by_cases h2:a=b
  ·rw [if_pos h2,decide_eq_true h2]; rfl
  ·rw [if_neg h2,decide_eq_false h2]; rfl
theorem sY (X Y:List UInt32) (inf:Bool) (r n:List UInt32) (lX:X.length≤40000000000000) (lr:r.length≤40000000000000) (ln:n.length≤40000000000000) (hn:val n≠0) :
  F.CH X Y inf r n=some (!inf&&decide (val X%val n=val r)):=by
 unfold F.CH
 cases inf with
 | true=>rfl
 | false=>
  have l1:(ay (val X%val n)).length≤X.length:=cM (Nat.mod_le _ _) (bh (bu X))
  rw [if_neg (by decide),kE X n lX ln,if_neg hn,ak]
  dsimp only
  rw [iK _ _ (by omega) (by omega),ak,aB,Bx]
  rfl
def qn {c:Int} (P:Pt (cP c)) (r:Nat):Bool:=match P with
 | none=>false
 | some (x,_)=>decide (x.val%cN c=r)
theorem xd {c:Int} (P:Pt (cP c)) (r:List UInt32) (lr:r.length≤40000000000000):F.CH (rep P).1 (rep P).2.1 (rep P).2.2 r (ay (cN c))=some (qn P (val r)):=by
 obtain ⟨n1,n2,n3,_,_⟩:=fg c
 have hl:(rep P).1.length≤12:=by
  cases P with
  | none=>exact Nat.zero_le _
  | some q=>obtain ⟨x,y⟩:=q; exact lE c x
 rw [sY _ _ _ _ _ (by omega) lr (by omega) (by rw [aB]; omega)]
 cases P with
 | none=>rfl
 | some q=>
  obtain ⟨x,y⟩:=q
  show some (!false&&decide (val (rl x)%val (ay (cN c))=val r))=some (decide (x.val%cN c=val r))
  rw [j6,aB]
  rfl
noncomputable def tQ {c:Int} (z r w:Nat) (Q:Pt (cP c)):Pt (cP c):=Ec.add (-3) (Ec.mul (-3) (z*w%cN c) (gP c)) (Ec.mul (-3) (r*w%cN c) Q)
noncomputable def okE {c:Int} (z r s:Nat) (Q:Pt (cP c)):Bool:=qn (tQ z r (fe c s) Q) r
def inN (c:Int) (r:Nat):Prop:=0<r∧r<cN c
instance (c:Int) (r:Nat):Decidable (inN c r):=inferInstanceAs (Decidable (0<r∧r<cN c))
noncomputable def jH (h c:Int) (x y m sig:List UInt8):Int:=
 if ¬isH h then 111 else if ¬((gA c x y).2.2.2=0) then 90 else if ¬(sig.length=2*nS c) then 91 else
 if ¬(inN c (beN (sig.take (nS c)))∧inN c (beN (sig.drop (nS c)))) then 91 else
 if okE (zN h c m) (beN (sig.take (nS c))) (beN (sig.drop (nS c))) (fc c (gA c x y).1 (gA c x y).2.1 (gA c x y).2.2.1)=true then 0 else 91
theorem sS {c:Int} {x y:List UInt8} (h:(gA c x y).2.2.2=0):isC c∧gA c x y=(ay (beN x),ay (beN y),false,0)∧onS c (ay (beN x)) (ay (beN y)) false=true∧x.length=nS c∧y.length=nS c:=by
 unfold gA at h ⊢
 split at h
 ·rename_i hc
  rw [if_pos hc]
  refine ⟨hc.1,rfl,?_,hc.2.1,hc.2.2.1⟩
  unfold onS
  rw [if_pos hc.1,aB,aB]
  exact hc.2.2.2
 ·exact absurd h (by decide)
theorem wm (b:Bool):F.EZ b=some (if b=true then 91 else 0):=by cases b <;> rfl
theorem nT {l:List UInt8} {k:Nat} (h:l.length≤k) (hk:k≤48):(ay (beN l)).length≤100:=by
 have h1:beN l<256^48:=Nat.lt_of_lt_of_le (ia l) (Nat.pow_le_pow_right (by decide) (by omega))
 exact bh (Nat.lt_of_lt_of_le h1 (by decide +kernel))
theorem pb {c:Int} {a k X Y:List UInt32} {q:Bool} (h:onS c X Y q=true) (ha:nb (val a)≤1024) (hk:nb (val k)≤1024) (la:a.length≤1000) (lk:k.length≤1000) (lX:X.length≤35184372087808) (lY:Y.length≤35184372087808) :
  F.Dx c a k X Y q=some (res (Ec.add (-3) (Ec.mul (-3) (val a) (gP c)) (Ec.mul (-3) (val k) (fc c X Y q)))):=by
 rw [uo c a k X Y q (by omega) (by omega) lX lY,wH h ha hk]
theorem gi (h c:Int) (x y m sig:List UInt8) (hm:m.length≤900000000000000) (hs:sig.length≤140737488351232):F.Ca h c x y m sig=some (jH h c x y m sig):=by
 obtain ⟨n1,n2,n3⟩:=nS4 c
 obtain ⟨c1,c2,c3,c4,c5⟩:=fg c
 unfold F.Ca jH
 rw [i5,ak]
 by_cases hh:isH h
 ·have hz:=ib h
  rw [if_pos hh,if_neg (show ¬(((Sz h:Nat):Int) == 0)=true by rw [beq_iff_eq]; omega),if_neg (not_not_intro hh),wv,ak]
  by_cases hd:(gA c x y).2.2.2=0
  ·obtain ⟨hc,d1,d2,d3,d4⟩:=sS hd
   rw [if_neg (by rw [hd]; decide),if_neg (not_not_intro hd),iM,ak,mN,ak,if_pos hc,if_pos hc,ku,show wI (2*((nS c:Nat):Int))=((2*nS c:Nat):Int) by rw [aQ (by omega) (by omega)]; omega]
   by_cases hl:sig.length=2*nS c
   ·have lt1:(sig.take (nS c)).length=nS c:=by rw [List.length_take]; omega
    have lt2:(sig.drop (nS c)).length=nS c:=by rw [List.length_drop]; omega
    have b1:=nT (Nat.le_of_eq lt1) n2
    have b2:=nT (Nat.le_of_eq lt2) n2
    have hso:slO sig ((nS c:Nat):Int) ((2*nS c:Nat):Int)=some (sig.drop (nS c)):=by
     unfold slO
     rw [if_pos ⟨by omega,by omega,by omega⟩,Int.toNat_natCast,Int.toNat_natCast,List.take_of_length_le (by omega)]
    rw [if_neg (by rw [hl]; simp),grd_true _ ⟨by omega,by omega,rfl⟩,hso,ak,Int.toNat_natCast,dW _ (by omega),ak,dW _ (by omega),ak,jz _ _ (by omega) (by omega),ak,aB,aB,
     if_neg (not_not_intro hl)]
    have k91:∀(x2:List UInt32×List UInt32×Bool×Int) (x10 x15 x18:List UInt32),F.Ex h c m x2 x10 x15 x18 true=some 91:=fun _ _ _ _=>rfl
    by_cases hr:inN c (beN (sig.take (nS c)))
    ·have hr':0<beN (sig.take (nS c))∧beN (sig.take (nS c))<cN c:=hr
     rw [decide_eq_true hr',if_neg (by decide),jz _ _ (by omega) (by omega),ak,aB,aB]
     by_cases hs2:inN c (beN (sig.drop (nS c)))
     ·have hs':0<beN (sig.drop (nS c))∧beN (sig.drop (nS c))<cN c:=hs2
      rw [decide_eq_true hs',if_neg (not_not_intro ⟨hr,hs2⟩)]
      obtain ⟨w1,w2,w3⟩:=oB (c:=c) (ay (beN (sig.drop (nS c)))) (aB _) (by omega) hs'.1 hs'.2
      generalize hw:fe c (beN (sig.drop (nS c)))=w at w1 w2 w3
      have nw:=ep w1
      have lw:=cM (Nat.le_of_lt w1) c3
      have nr:=ep hr'.2
      obtain ⟨z1,z2⟩:=pQ h c m
      have m1:zN h c m*w%cN c<cN c:=Nat.mod_lt _ (by omega)
      have m2:beN (sig.take (nS c))*w%cN c<cN c:=Nat.mod_lt _ (by omega)
      have nm1:=ep m1; have nm2:=ep m2
      have lm1:=cM (Nat.le_of_lt m1) c3; have lm2:=cM (Nat.le_of_lt m2) c3
      unfold F.Ex
      rw [if_neg (by decide),w3,ak,nX h c hh hc m hm,ak]
      dsimp only
      rw [mo _ _ _ c1 c2 (by rw [aB]; omega) (by rw [aB]; omega) (by omega) (by omega) (by omega),ak]
      rw [mo _ _ _ c1 c2 (by rw [aB]; omega) (by rw [aB]; omega) (by omega) (by omega) (by omega),ak,aB,aB,aB,d1]
      dsimp only
      rw [pb d2 (by rw [aB]; omega) (by rw [aB]; omega) (by omega) (by omega) (by have:=nT (Nat.le_of_eq d3) n2; omega) (by have:=nT (Nat.le_of_eq d4) n2; omega),ak,aB,aB]
      show (if ((0:Int) != 0)=true then _ else an (F.CH (rep _).1 (rep _).2.1 (rep _).2.2 _ _) _)=_
      rw [if_neg (by decide),xd _ _ (by omega),ak,wm,aB]
      unfold okE tQ
      rw [hw]
      cases qn (Ec.add (-3) (Ec.mul (-3) (zN h c m*w%cN c) (gP c)) (Ec.mul (-3) (beN (sig.take (nS c))*w%cN c) (fc c (ay (beN x)) (ay (beN y)) false))) (beN (sig.take (nS c))) <;> rfl
     ·rw [decide_eq_false (show ¬(0<beN (sig.drop (nS c))∧beN (sig.drop (nS c))<cN c) from hs2),if_pos (fun q=>hs2 q.2)]; exact k91 _ _ _ _
    ·rw [decide_eq_false (show ¬(0<beN (sig.take (nS c))∧beN (sig.take (nS c))<cN c) from hr),if_pos (by decide),if_pos (fun q=>hr q.1)]; exact k91 _ _ _ _
   ·rw [if_pos (by rw [bne_iff_ne]; omega),if_pos hl]
  ·rw [if_pos (by rw [bne_iff_ne]; exact hd),if_pos hd]
 ·rw [if_neg hh,if_pos (by decide),if_pos hh]
end Go.Gk.Bn
end

section
namespace Go.Gk.Bn
open Go Go.Gk Go.Gk.Sh Go.Gk.Ec Go.Gk.Pr
noncomputable def fH {c:Int} (z r s:Nat) (R:Pt (cP c)):Pt (cP c):=Ec.add (-3) (Ec.mul (-3) ((cN c - z*fe c r%cN c)%cN c) (gP c)) (Ec.mul (-3) (s*fe c r%cN c) R)
noncomputable def xe {c:Int} (Q:Pt (cP c)):List UInt8×List UInt8×Int:=match Q with
 | none=>([],[],91)
 | some (x,y)=>(beB (nS c) x.val,beB (nS c) y.val,0)
noncomputable def uJ (h c:Int) (m:List UInt8) (r s:Nat) (X Y:List UInt32) (inf:Bool):List UInt8×List UInt8×Int:=
 if ¬isH h then ([],[],111) else if ¬isC c then ([],[],90) else if ¬(inf=false∧onS c X Y inf=true) then ([],[],93) else
 if ¬(inN c r∧inN c s∧val X%cN c=r) then ([],[],91) else xe (fH (zN h c m) r s (fc c X Y inf))
theorem sn (h c:Int) (m:List UInt8) (r s X Y:List UInt32) (inf:Bool) (hm:m.length≤900000000000000) (lr:r.length≤35184372087808) (ls:s.length≤35184372087808) (lX:X.length≤35184372087808) (lY:Y.length≤35184372087808) :
  F.EH h c m r s X Y inf=some (uJ h c m (val r) (val s) X Y inf):=by
 obtain ⟨n1,n2,n3⟩:=nS4 c
 obtain ⟨c1,c2,c3,c4,c5⟩:=fg c
 unfold F.EH uJ
 rw [i5,ak]
 by_cases hh:isH h
 ·have hz:=ib h
  rw [if_pos hh,if_neg (show ¬(((Sz h:Nat):Int) == 0)=true by rw [beq_iff_eq]; omega),if_neg (not_not_intro hh),iM,ak]
  by_cases hc:isC c
  ·rw [if_pos hc,ku,if_neg (show ¬(((nS c:Nat):Int) == 0)=true by rw [beq_iff_eq]; omega),if_neg (not_not_intro hc)]
   cases inf with
   | true=>rw [if_pos rfl,if_pos (fun q=>by cases q.1)]; rfl
   | false=>
    rw [if_neg (by decide),A4 c X Y false lX lY,ak]
    unfold F.Fj
    by_cases ho:onS c X Y false=true
    ·rw [ho,if_neg (by decide),if_neg (not_not_intro ⟨rfl,rfl⟩),mN,ak,if_pos hc,jz _ _ (by omega) (by omega),ak,aB]
     have k91:F.C6 h c m r s X Y false (ay (cN c)) true=some ([],[],91):=rfl
     by_cases hr:inN c (val r)
     ·have hr':0<val r∧val r<cN c:=hr
      rw [decide_eq_true hr',if_neg (by decide),jz _ _ (by omega) (by omega),ak,aB]
      by_cases hs:inN c (val s)
      ·have hs':0<val s∧val s<cN c:=hs
       rw [decide_eq_true hs',if_neg (by decide),sY _ _ _ _ _ (by omega) (by omega) (by omega) (by rw [aB]; omega),ak,aB]
       by_cases hf:val X%cN c=val r
       ·obtain ⟨w1,w2,w3⟩:=oB (c:=c) r rfl (by omega) hr'.1 hr'.2
        have nw:=ep w1
        have lw:=cM (Nat.le_of_lt w1) c3
        have ns:=ep hs'.2
        obtain ⟨z1,z2⟩:=pQ h c m
        have m1:zN h c m*fe c (val r)%cN c<cN c:=Nat.mod_lt _ (by omega)
        have m2:val s*fe c (val r)%cN c<cN c:=Nat.mod_lt _ (by omega)
        have m3:(cN c - zN h c m*fe c (val r)%cN c)%cN c<cN c:=Nat.mod_lt _ (by omega)
        have nm1:=ep m1; have nm2:=ep m2; have nm3:=ep m3
        have lm1:=cM (Nat.le_of_lt m1) c3; have lm2:=cM (Nat.le_of_lt m2) c3; have lm3:=cM (Nat.le_of_lt m3) c3
        rw [decide_eq_true hf,if_neg (not_not_intro ⟨hr,hs,hf⟩)]
        unfold F.C6
        rw [if_neg (by decide),w3,ak]
        dsimp only
        rw [mo _ _ _ c1 c2 (by omega) (by rw [aB]; omega) (by omega) (by omega) (by omega),ak,nX h c hh hc m hm,ak]
        rw [mo _ _ _ c1 c2 (by rw [aB]; omega) (by rw [aB]; omega) (by omega) (by omega) (by omega),ak,aB,aB]
        dsimp only
        rw [zo _ _ c1 c2 (by rw [aB]; omega) (by omega) (by omega),ak,aB,Nat.mod_mod]
        dsimp only
        rw [pb ho (by rw [aB]; omega) (by rw [aB]; omega) (by omega) (by omega) lX lY,ak,aB,aB]
        have hon:=vz ho
        have hQ:On (-3) (bF c) (fH (zN h c m) (val r) (val s) (fc c X Y false)):=(ccv c).on_add ((ccv c).on_mul (ge c hc) _) ((ccv c).on_mul hon _)
        show (if ((0:Int) != 0)=true then _ else F.C7 c (res (fH (zN h c m) (val r) (val s) (fc c X Y false))) (rep (fH (zN h c m) (val r) (val s) (fc c X Y false))).2.2)=_
        rw [if_neg (by decide)]
        generalize fH (zN h c m) (val r) (val s) (fc c X Y false)=Q at hQ
        cases Q with
        | none=>rfl
        | some q=>
         obtain ⟨x,y⟩:=q
         have l1:=lE c x
         have l2:=lE c y
         have h3:=oN hc hQ
         have h3':onS c (rl x) (rl y) false=true:=h3
         show F.C7 c (rl x,rl y,false,0) false=some (beB (nS c) x.val,beB (nS c) y.val,0)
         unfold F.C7
         rw [if_neg (by decide)]
         dsimp only
         rw [vX c _ _ _ (by omega) (by omega),ak]
         unfold wY
         rw [if_pos ⟨h3',rfl⟩,j6,j6]
       ·rw [decide_eq_false hf,if_pos (fun q=>hf q.2.2)]; exact k91
      ·rw [decide_eq_false (show ¬(0<val s∧val s<cN c) from hs),if_pos (by decide),if_pos (fun q=>hs q.2.1)]; exact k91
     ·rw [decide_eq_false (show ¬(0<val r∧val r<cN c) from hr),if_pos (by decide),if_pos (fun q=>hr q.1)]; exact k91
    ·rw [Bool.eq_false_iff.2 ho,if_pos (by decide),if_pos (fun q=>by cases q.2)]
  ·rw [if_neg hc,if_pos (by decide),if_pos hc]
 ·rw [if_neg hh,if_pos (by decide),if_pos hh]
theorem o0 (a:List UInt32) (m:Nat) (ha:a.length≤35184372087808) (hm:m≤16384) (hv:val a<256^m):F.EB a (m:Int)=some (beB m (val a),true):=by
 have hb:nb (val a)≤32*a.length:=Nat.le_trans (i0 _) (Nat.mul_le_mul_left 32 (bh (bu a)))
 have hk:(nb (val a)+7) / 8≤m:=uR hv
 obtain ⟨k,v1,v2,v3⟩:=dq a (by omega)
 have hl:(ay (val a)).length≤a.length:=bh (bu a)
 have hmk:mkO 1 (m:Int) (m:Int) (0:UInt8)=some (List.replicate m 0):=by
  unfold mkO
  rw [if_pos ⟨by omega,by omega,by omega,by omega⟩,Int.toNat_natCast]
 unfold F.EB
 rw [if_neg (by rw [decide_eq_true_eq]; omega),if_neg (by rw [decide_eq_true_eq]; omega),f0 a (by omega),ak,aQ (x:=((nb (val a):Nat):Int)+7) (by omega) (by omega),Int.tdiv_eq_ediv_of_nonneg (by omega),aQ (by omega) (by omega),
  decide_eq_false (show ¬(m:Int)<(((nb (val a):Nat):Int)+7) / 8 by omega)]
 unfold F.DG
 rw [if_neg (by decide),hmk,ak,v1,ak,v3,ta _ _ (by rw [List.length_replicate]; omega) (by omega),ak,List.length_replicate,aB]
theorem uL (r s:List UInt32) (m:Nat) (lr:r.length≤35184372087808) (ls:s.length≤35184372087808) (hm:m≤16384) (hr:val r<256^m) (hs:val s<256^m):F.EG r s (m:Int)=some (beB m (val r)++beB m (val s),true):=by
 have e1:apO 1 [] (beB m (val r))=some (beB m (val r)):=by
  unfold apO
  rw [if_pos (by rw [cK,List.length_nil]; omega),List.nil_append]
 have e2:apO 1 (beB m (val r)) (beB m (val s))=some (beB m (val r)++beB m (val s)):=by
  unfold apO
  rw [if_pos (by rw [cK,cK]; omega)]
 unfold F.EG
 rw [o0 r m lr hm hr,ak,o0 s m ls hm hs,ak,e1,ak,e2,ak,if_pos rfl]
theorem sF (a b:List UInt32) (la:a.length≤4611686018427387904) (lb:b.length≤4611686018427387904):F.Fi a b=some (decide (a=b)):=by
 unfold F.Fi
 by_cases hl:a.length=b.length
 ·rw [if_neg (by rw [bne_iff_ne]; omega)]
  have key:∀n i:Nat,i+n=a.length→a.take i=b.take i→loop (F.CQ a b) (i:Int)=some (decide (a=b)):=by
   intro n
   induction n with
   | zero=>
    intro i hi ht
    rw [List.take_of_length_le (by omega),List.take_of_length_le (by omega)]at ht
    refine bE ?_
    unfold F.CQ
    rw [if_neg (by rw [decide_eq_true_eq]; omega),decide_eq_true ht]
   | succ n ih=>
    intro i hi ht
    have w:wI ((i:Int)+1)=((i+1:Nat):Int):=by rw [aQ (by omega) (by omega)]; omega
    by_cases he:a.getD i 0=b.getD i 0
    ·rw [bI (s':=((i+1:Nat):Int)) (by
      unfold F.CQ
      rw [if_pos (decide_eq_true (by omega)),aT (show i<a.length by omega) 0,ak,aT (show i<b.length by omega) 0,ak,if_neg (by rw [bne_iff_ne]; exact fun q=>q he),w]
      rfl)]
     refine ih (i+1) (by omega) ?_
     rw [List.getD_eq_getElem?_getD,List.getD_eq_getElem?_getD,List.getElem?_eq_getElem (by omega),List.getElem?_eq_getElem (by omega)]at he
     rw [List.take_add_one,List.take_add_one,List.getElem?_eq_getElem (show i<a.length by omega),List.getElem?_eq_getElem (show i<b.length by omega),ht]
     congr 2
     exact congrArg some he
    ·refine bE ?_
     unfold F.CQ
     rw [if_pos (decide_eq_true (by omega)),aT (show i<a.length by omega) 0,ak,aT (show i<b.length by omega) 0,ak,if_pos (by rw [bne_iff_ne]; exact he),decide_eq_false (fun q=>he (by rw [q]))]
  exact key a.length 0 (by omega) rfl
 ·rw [if_pos (by rw [bne_iff_ne]; omega),decide_eq_false (fun q=>hl (by rw [q]))]
theorem nq (h c:Int) (hh:isH h) (hc:isC c) (m:List UInt8) (hm:m.length≤900000000000000):F.D6 h c m=some (ay (zN h c m)):=by
 obtain ⟨n1,n2,n3⟩:=nS4 c
 have hl:=k7 h m
 have hz:=ib h
 have hk:∀b:List UInt8,b.length≤100→F.Ew b=some (ay (beN b)):=fun b hb=>by
  unfold F.Ew
  dsimp only
  rw [dW _ (by omega),ak]
 unfold F.D6 zN
 rw [tF h hh m hm,ak,iM,if_pos hc,ku,ak]
 by_cases h1:nS c<(fk h m).length
 ·rw [if_pos (decide_eq_true (by omega)),ak,grd_true _ ⟨by omega,by omega⟩,Int.toNat_natCast,hk _ (by rw [List.length_take]; omega)]
 ·rw [if_neg (by rw [decide_eq_true_eq]; omega),hk _ (by omega),List.take_of_length_le (by omega)]
theorem AP (c:Int):cN c<256^nS c:=by
 unfold cN nS
 split <;> decide +kernel
theorem ni {c:Int} {r:Nat} (h:r<cN c):r<256^nS c:=Nat.lt_trans h (AP c)
theorem ki {m n:Nat} (h:n<256^m):beN (beB m n)=n:=by
 rw [iN,Nat.mod_eq_of_lt h]
theorem wn {c:Int} {r s:Nat} (hr:r<cN c) (hs:s<cN c):(beB (nS c) r++beB (nS c) s).length=2*nS c∧beN ((beB (nS c) r++beB (nS c) s).take (nS c))=r∧beN ((beB (nS c) r++beB (nS c) s).drop (nS c))=s:=by
 have l1:(beB (nS c) r).length=nS c:=cK _ _
 have l2:(beB (nS c) s).length=nS c:=cK _ _
 refine ⟨by rw [List.length_append,l1,l2]; omega,?_,?_⟩
 ·rw [List.take_left' l1,ki (ni hr)]
 ·rw [List.drop_left' l1,ki (ni hs)]
end Go.Gk.Bn
end

section
namespace Go.Gk.Bn
open Go Go.Gk Go.Gk.Sh Go.Gk.Ec Go.Gk.Pr
theorem zt {c:Int} (hc:isC c) {z r s:Nat} {R:Pt (cP c)} (hR:On (-3) (bF c) R) (hr:inN c r) (hs:inN c s):okE z r s (fH z r s R)=qn R r:=by
 obtain ⟨w1,w2⟩:=kS hr.1 hr.2
 obtain ⟨v1,v2⟩:=kS hs.1 hs.2
 unfold okE tQ fH
 rw [vP hc (ge c hc) hR w2 v2]
theorem zq {c:Int} (hc:isC c) {z r:Nat}:fH z r 1 (gP c)=Ec.mul (-3) ((cN c - z*fe c r%cN c)%cN c+fe c r%cN c) (gP c):=by
 unfold fH
 rw [(ccv c).mul_add (ge c hc),Nat.one_mul]
theorem zF {n z z' r w:Nat} (h1:1<n) (hw:r*w%n=1):(z'*1%n+r*1%n*((n - z*w%n)%n+w%n))%n=(z'+(n - z%n)+1)%n:=by
 have a1:r*((n - z*w%n)%n)%n=(n - z%n)%n:=by
  refine mF (v:=z%n) ?_
  have e1:r*((n - z*w%n)%n)%n=r*(n - z*w%n)%n:=Nat.mul_mod_mod _ _ _
  have e2:(r*(n - z*w%n)+r*(z*w%n))%n=0:=by
   rw [←Nat.mul_add,Nat.sub_add_cancel (Nat.le_of_lt (Nat.mod_lt _ (by omega))),Nat.mul_mod_left]
  have e3:r*(z*w%n)%n=z%n:=s7 hw
  have e4:(n - z%n+z%n)%n=0:=by rw [Nat.sub_add_cancel (Nat.le_of_lt (Nat.mod_lt _ (by omega))),Nat.mod_self]
  rw [e4,Nat.add_mod,e1,←e3,Nat.mod_mod,←Nat.add_mod,e2]
 have a2:r*(w%n)%n=1:=by rw [Nat.mul_mod_mod,hw]
 have a3:r*((n - z*w%n)%n+w%n)%n=(n - z%n+1)%n:=by rw [Nat.mul_add,Nat.add_mod,a1,a2,Nat.mod_add_mod]
 rw [Nat.mul_one,Nat.mul_one,Nat.mod_add_mod,Nat.add_mod z',Nat.mod_mul_mod,a3,←Nat.add_mod,Nat.add_assoc z']
theorem yY {c:Int} (hc:isC c) {x y:Fin (cP c)} (h:On (-3) (bF c) (some (x,y))):onN (cP c) (cB c) x.val y.val=true:=by
 have h3:onS c (rl x) (rl y) false=true:=oN hc h
 have:=(oO h3).2.2
 rwa [j6,j6]at this
theorem zl {c:Int} (hc:isC c) {x y:Fin (cP c)} (h:On (-3) (bF c) (some (x,y))):gA c (beB (nS c) x.val) (beB (nS c) y.val)=(rl x,rl y,false,0):=by
 have hp:=tt c hc
 have e1:=ki (Nat.lt_trans x.isLt hp)
 have e2:=ki (Nat.lt_trans y.isLt hp)
 unfold gA
 rw [e1,e2,if_pos ⟨hc,cK _ _,cK _ _,yY hc h⟩]
 rfl
theorem tv {h c:Int} (hh:isH h) (hc:isC c) {x y:Fin (cP c)} (hQ:On (-3) (bF c) (some (x,y))) (m:List UInt8) {r s:Nat} (hr:inN c r) (hs:inN c s) :
  jH h c (beB (nS c) x.val) (beB (nS c) y.val) m (beB (nS c) r++beB (nS c) s)=if okE (zN h c m) r s (some (x,y))=true then 0 else 91:=by
 obtain ⟨j1,j2,j3⟩:=wn (c:=c) hr.2 hs.2
 have ht:fc c (rl x) (rl y) false=some (x,y):=qI (some (x,y))
 unfold jH
 rw [if_neg (not_not_intro hh),zl hc hQ,if_neg (not_not_intro rfl),if_neg (not_not_intro j1),j2,j3,if_neg (not_not_intro ⟨hr,hs⟩),ht]
theorem ti:zN 1 1 [97,98,99]=beN qx:=by
 unfold zN
 rw [yN]
 rfl
theorem yF:zN 1 1 [97,98,100]=beN ud:=by
 unfold zN
 rw [zj]
 rfl
theorem yW:beN qx%cN 1≠1:=by decide +kernel
theorem A8:inN 1 (cX 1)∧inN 1 1:=⟨by decide +kernel,by decide +kernel⟩
theorem Ba (c:Int):gP c≠none:=fun h=>by cases h
theorem zK {c:Int} (hc:isC c) {z r s:Nat} {R:Pt (cP c)} (hR:On (-3) (bF c) R):On (-3) (bF c) (fH z r s R):=(ccv c).on_add ((ccv c).on_mul (ge c hc) _) ((ccv c).on_mul hR _)
theorem x9 (c:Int) (r1:inN c (cX c)):qn (c:=c) (gP c) (cX c)=true:=by
 show decide ((fz (p:=cP c) (cX c:Int)).val%cN c=cX c)=true
 rw [lM _ (da c).2.2.2.1,Nat.mod_eq_of_lt r1.2,decide_eq_true rfl]
theorem zL (c:Int) (hc:isC c) (r1:inN c (cX c)) (r2:inN c 1) (z z' k:Nat) (hz:z%cN c≠1) (hk:(z'+(cN c - z%cN c)+1)%cN c=k) (hne:∀x y,Ec.mul (-3) k (gP c)=some (x,y)→x.val%cN c≠cX c) :
  ∃x y:Fin (cP c),fH z (cX c) 1 (gP c)=some (x,y)∧On (-3) (bF c) (some (x,y))∧okE z (cX c) 1 (some (x,y))=true∧okE z' (cX c) 1 (some (x,y))=false:=by
 have C:=ccv c
 have hG:=ge c hc
 obtain ⟨c1,c2,c3,c4,c5⟩:=fg c
 obtain ⟨w1,w2⟩:=kS r1.1 r1.2
 have hQ:=zK (z:=z) (r:=cX c) (s:=1) hc hG
 have hn:fH z (cX c) 1 (gP c)≠none:=by
  intro q
  have e:=uO hc hG hG w2 q
  rw [←mL hc hG z]at e
  have:=C.mul_inj hG (gN c) (Ba c) (j4 c hc hG) c1 (Nat.mod_lt _ (Nat.lt_trans Nat.zero_lt_one c1)) e
  exact hz this.symm
 have habc:okE z (cX c) 1 (fH z (cX c) 1 (gP c))=true:=by rw [zt hc hG r1 r2,x9 c r1]
 have habd:okE z' (cX c) 1 (fH z (cX c) 1 (gP c))=false:=by
  unfold okE tQ
  have i1:fe c 1=1:=tG c1 (by rw [Nat.one_mul,Nat.mod_eq_of_lt c1])
  have hk2:k%cN c=k:=by rw [←hk,Nat.mod_mod]
  rw [i1,zq hc,←C.mul_mul hG,←C.mul_add hG,g8 (l:=k) hc hG (by rw [zF c1 w2,hk,hk2])]
  cases hm:Ec.mul (-3) k (gP c) with
  | none=>rfl
  | some q=>
   obtain ⟨x,y⟩:=q
   exact decide_eq_false (hne x y hm)
 cases hq:fH z (cX c) 1 (gP c) with
 | none=>exact absurd hq hn
 | some q=>
  obtain ⟨x,y⟩:=q
  rw [hq]at hQ habc habd
  exact ⟨x,y,rfl,hQ,habc,habd⟩
theorem qo (c:Int):val (rep (gP c)).1=cX c:=by
 show val (rl (fz (p:=cP c) (cX c:Int)))=cX c
 rw [j6,lM _ (da c).2.2.2.1]
theorem wL {h c:Int} (hh:isH h) (hc:isC c) (r1:inN c (cX c)) (r2:inN c 1) (m:List UInt8):uJ h c m (cX c) 1 (rep (gP c)).1 (rep (gP c)).2.1 (rep (gP c)).2.2=xe (fH (zN h c m) (cX c) 1 (gP c)):=by
 unfold uJ
 rw [if_neg (not_not_intro hh),if_neg (not_not_intro hc),if_neg (not_not_intro ⟨rfl,oN hc (ge c hc)⟩),if_neg (not_not_intro ⟨r1,r2,by rw [qo,Nat.mod_eq_of_lt r1.2]⟩),qI]
theorem tT:F.E2=some true:=by
 have hc:isC 1:=.inl rfl
 have hh:isH 1:=.inl rfl
 obtain ⟨c1,c2,c3,c4,c5⟩:=fg 1
 obtain ⟨r1,r2⟩:=A8
 have lG:=zy 1 (gP 1)
 have l1:val [1]=1:=rfl
 have lX:=cM (Nat.le_of_lt r1.2) c3
 obtain ⟨x,y,hq,hQ,habc,habd⟩:=zL 1 hc r1 r2 (beN qx) (beN ud) kAw yW zH (fun x y h=>Bc h)
 have b1:(beB (nS 1) x.val).length=32:=cK _ _
 have b2:(beB (nS 1) y.val).length=32:=cK _ _
 have b3:(beB (nS 1) (cX 1)++beB (nS 1) 1).length=64:=by rw [List.length_append,cK,cK]; rfl
 have hj:=uL (ay (cX 1)) [1] (nS 1) (Nat.le_trans lX (by decide)) (by decide) (by decide) (by rw [aB]; exact ni r1.2) (by rw [l1]; exact ni r2.2)
 have hr:=sn 1 1 [97,98,99] (ay (cX 1)) [1] (rep (gP 1)).1 (rep (gP 1)).2.1 (rep (gP 1)).2.2 (by decide) (Nat.le_trans lX (by decide)) (by decide) (Nat.le_trans lG.1 (by decide)) (Nat.le_trans lG.2 (by decide))
 rw [aB,l1,wL hh hc r1 r2,ti,hq]at hr
 rw [aB,l1]at hj
 have v1:=gi 1 1 (beB (nS 1) x.val) (beB (nS 1) y.val) [97,98,99] (beB (nS 1) (cX 1)++beB (nS 1) 1) (by decide) (by rw [b3]; decide)
 have v2:=gi 1 1 (beB (nS 1) x.val) (beB (nS 1) y.val) [97,98,100] (beB (nS 1) (cX 1)++beB (nS 1) 1) (by decide) (by rw [b3]; decide)
 rw [tv hh hc hQ _ r1 r2,ti,if_pos habc]at v1
 rw [tv hh hc hQ _ r1 r2,yF,habd,if_neg Bool.false_ne_true]at v2
 unfold F.E2
 rw [xa 1 hc,ak,mN,if_pos hc,ak,kE _ _ (Nat.le_trans lG.1 (by decide)) (Nat.le_trans c3 (by decide)),aB,if_neg (Nat.ne_of_gt (Nat.lt_trans Nat.zero_lt_one c1)),ak,qo,Nat.mod_eq_of_lt r1.2]
 dsimp only
 rw [hr,ak,show (32:Int)=((nS 1:Nat):Int) from rfl,hj,ak]
 unfold xe
 dsimp only
 rw [if_neg (by decide),if_neg (by decide),if_neg (by decide),b1,b2,if_neg (by decide)]
 show F.B8 _ _ false=_
 unfold F.B8
 rw [if_neg (by decide)]
 dsimp only
 rw [v1,ak,if_pos (by decide),v2,ak]
 rfl
theorem zD {h c:Int} {x y m sig:List UInt8} (hq:jH h c x y m sig=0):isH h∧isC c∧sig.length=2*nS c∧inN c (beN (sig.take (nS c)))∧inN c (beN (sig.drop (nS c))):=by
 unfold jH at hq
 by_cases h1:isH h
 ·rw [if_neg (not_not_intro h1)]at hq
  by_cases h2:(gA c x y).2.2.2=0
  ·rw [if_neg (not_not_intro h2)]at hq
   by_cases h3:sig.length=2*nS c
   ·rw [if_neg (not_not_intro h3)]at hq
    by_cases h4:inN c (beN (sig.take (nS c)))∧inN c (beN (sig.drop (nS c)))
    ·exact ⟨h1,(sS h2).1,h3,h4.1,h4.2⟩
    ·rw [if_pos h4]at hq; cases hq
   ·rw [if_pos h3]at hq; cases hq
  ·rw [if_pos h2]at hq; cases hq
 ·rw [if_pos h1]at hq; cases hq
theorem zM {a:Int} (h:a≠0):(a != 0)=true:=by rw [bne_iff_ne]; exact h
theorem uK {a b:Nat} (h:ay a=ay b):a=b:=by rw [←aB a,h,aB]
theorem law12_EcdsaCounts_eq (h i c:Int) (x y one two sig:List UInt8) (hx:x.length≤140737488351232) (hy:y.length≤140737488351232) (h1:one.length≤140737488351232) (h2:two.length≤140737488351232) (hs:sig.length≤140737488351232):F.Fx h i c x y one two sig=some true:=by
 obtain ⟨n1,n2,n3⟩:=nS4 c
 have kT:F.Co h i c x y one two sig true=some true:=by
  unfold F.Co
  rw [if_pos rfl,gi _ _ _ _ _ _ (by omega) hs,ak]
  by_cases hv:jH h c x y one sig=0
  ·obtain ⟨a1,a2,_⟩:=zD hv
   have hz:=ib h
   rw [if_neg (by rw [bne_iff_ne]; exact fun q=>q hv),i5,ak,if_pos a1,if_pos (decide_eq_true (by omega)),iM,ak,if_pos a2,ku,decide_eq_true (by omega)]
  ·rw [if_pos (zM hv)]
 unfold F.Fx
 rw [tT,ak,if_neg (by decide),i5,ak]
 by_cases hh:isH h
 ·have hz:=ib h
  rw [if_pos hh,if_neg (show ¬(((Sz h:Nat):Int) == 0)=true by rw [beq_iff_eq]; omega),i5,ak]
  by_cases hi:isH i
  ·have hz:=ib i
   rw [if_pos hi,if_neg (show ¬(((Sz i:Nat):Int) == 0)=true by rw [beq_iff_eq]; omega),iM,ak]
   by_cases hc:isC c
   ·rw [if_pos hc,ku,show ((((nS c:Nat):Int) == 0))=false by rw [beq_eq_false_iff_ne]; omega]
    unfold F.Co
    obtain ⟨_,z2⟩:=pQ h c one
    obtain ⟨_,z3⟩:=pQ i c two
    rw [if_neg (by decide),nq h c hh hc one (by omega),ak,nq i c hi hc two (by omega),ak,sF _ _ (by omega) (by omega),ak]
    by_cases he:ay (zN h c one)=ay (zN i c two)
    ·rw [decide_eq_true he,if_neg (by decide),gi _ _ _ _ _ _ (by omega) hs,ak,gi _ _ _ _ _ _ (by omega) hs,ak]
     have e:jH h c x y one sig=jH i c x y two sig:=by
      unfold jH
      rw [if_neg (not_not_intro hh),if_neg (not_not_intro hi),uK he]
     rw [e,beq_self_eq_true]
    ·rw [decide_eq_false he,if_pos (by decide)]
   ·rw [if_neg hc]; exact kT
  ·rw [if_neg hi,if_pos (by decide)]; exact kT
 ·rw [if_neg hh,if_pos (by decide)]; exact kT
end Go.Gk.Bn
end
