import Derived.Test.YtkickcbphbgldaaGreatDoorGkX0
import Derived.Test.YtkickcbphbgldaaGreatDoorGkFman
set_option linter.unusedVariables false
set_option linter.unusedSimpArgs false
set_option linter.unusedSectionVars false

section
namespace Go.Gk.Bn
open Go Go.Gk Go.Gk.Sh Go.Gk.Ec Go.Gk.Pr
theorem sA {n:Nat} (h:nb n≤4096):(ay n).length≤128:=by
 have h1:=(cA n).1
 have h2:=Nat.pow_le_pow_right (show 0<2 by decide) (show nb n≤32*128 by omega)
 refine bl ?_
 rw [show (4294967296:Nat)=2^32 from rfl,←Nat.pow_mul]
 exact Nat.lt_of_lt_of_le h1 h2
theorem iX (a b:List UInt32) (m:Nat) (h1:1<m) (hm:nb m≤4096) (ha:nb (val a)≤4096) (hb:nb (val b)≤4096) (la:a.length≤40000000000000) (lb:b.length≤40000000000000) (lm:(ay m).length≤900) :
  F.B9 a b (ay m)=some (ay (val a*val b%m),0):=by
 have l1:=sA ha
 have l2:=sA hb
 have hs:(ay (val a*val b)).length≤256:=bl (by
  have e1:=bA (ay (val a)); have e2:=bA (ay (val b))
  rw [aA]at e1 e2
  have:=Nat.mul_lt_mul'' e1 e2
  rw [←Nat.pow_add]at this
  exact Nat.lt_of_lt_of_le this (Nat.pow_le_pow_right (by decide) (by omega)))
 unfold F.B9
 rw [rj ha hb (by rw [aA]; omega) (by rw [aA]; omega) (by omega) (by omega) (by omega),ak,if_neg (by decide),za _ _ (by omega) (by omega) (by omega),ak,
  ji _ _ (by omega) (by omega) (by rw [aA]; omega),ak,aA,aA]
theorem zi (b:List UInt32) (m:Nat) (h1:1<m) (hm:nb m≤4096) (hb:nb (val b)≤4096) (lb:b.length≤1000) (lm:(ay m).length≤900) :
  F.FD [] b (ay m)=some (ay ((m - val b%m)%m),0):=by
 have h0:(ay 0)=[]:=bG
 have e:=nF (x:=0) (y:=val b%m) (m:=m) (by omega) (Nat.mod_lt _ (by omega)) (by omega) (ay m) (aA m) (by omega)
 rw [h0,Nat.add_zero]at e
 unfold F.FD
 rw [rj (by rw [dp,eD]; omega) hb (by rw [aA]; omega) (by rw [aA]; omega) (by decide) (by omega) (by omega),ak,if_neg (by decide),
  ji _ _ (by decide) (by omega) (by rw [aA]; omega),ak,ji _ _ (by omega) (by omega) (by rw [aA]; omega),ak,aA,dp,Nat.zero_mod,h0,e,ak]
theorem fe (c:Int):1<cN c∧nb (cN c)≤4096∧(ay (cN c)).length≤12∧cN c<cP c∧cP c<4294967296^12:=by
 have h:=cW c
 have l:=tH c (Nat.le_of_lt h.2.2.1)
 exact ⟨(f7 c).1,Nat.le_trans (yJ l) (by decide),l,h.2.2.1,h.1⟩
theorem AE (c:Int):cN c%2=1:=by
 unfold cN
 split <;> decide +kernel
theorem AO {c:Int} {s:Nat} (h0:0<s) (h:s<cN c):Nat.gcd s (cN c)=1:=by
 rw [Nat.gcd_comm]
 exact (f7 c).coprime fun hd=>by have:=Nat.le_of_dvd h0 hd; omega
theorem dn {c:Int} {s:Nat} (h:s<cN c):nb s≤384:=by
 have h1:=yJ (ct (Nat.le_of_lt h) (fe c).2.2.1)
 omega
theorem uW {n s w v:Nat} (hw:w<n) (hv:v<n) (h1:s*w%n=1) (h2:s*v%n=1):w=v:=by
 have e1:s*w*v%n=v%n:=by rw [Nat.mul_mod,h1,Nat.one_mul,Nat.mod_mod]
 have e2:s*w*v%n=w%n:=by rw [show s*w*v=(s*v)*w by rw [Nat.mul_assoc,Nat.mul_comm w,←Nat.mul_assoc],Nat.mul_mod,h2,Nat.one_mul,Nat.mod_mod]
 rw [e1,Nat.mod_eq_of_lt hv,Nat.mod_eq_of_lt hw]at e2
 exact e2.symm
open Classical in
noncomputable def el (c:Int) (s:Nat):Nat:=if h:∃w,w<cN c∧s*w%cN c=1 then Classical.choose h else 0
theorem t5 {c:Int} {s w:Nat} (hw:w<cN c) (h:s*w%cN c=1):el c s=w:=by
 have hx:∃w,w<cN c∧s*w%cN c=1:=⟨w,hw,h⟩
 unfold el
 rw [dif_pos hx]
 have h2:=Classical.choose_spec hx
 exact uW h2.1 hw h2.2 h
theorem mG {c:Int} {s:Nat} (l:List UInt32) (hl:val l=s) (ll:l.length≤40000000000000) (h0:0<s) (h:s<cN c):el c s<cN c∧s*el c s%cN c=1∧F.CJ l (ay (cN c))=some (ay (el c s),0):=by
 obtain ⟨n1,n2,n3,_,_⟩:=fe c
 have hb:=dn h
 obtain ⟨w,a1,a2,a3⟩:=AM l (cN c) n1 (AE c) n2 (by omega) (by rw [hl]; omega) ll (by rw [hl]; exact AO h0 h)
 rw [hl]at a2
 rw [t5 a1 a2]
 exact ⟨a1,a2,a3⟩
theorem mc {c:Int} {s:Nat} (h0:0<s) (h:s<cN c):el c s<cN c∧s*el c s%cN c=1:=by
 have l:=ct (Nat.le_of_lt h) (fe c).2.2.1
 obtain ⟨a1,a2,_⟩:=mG (c:=c) (ay s) (aA s) (by omega) h0 h
 exact ⟨a1,a2⟩
abbrev isH (a:Int):Prop:=a=1∨a=2∨a=3
theorem nB (a:Int):F.Cf a=some (if isH a then ((Sz a:Nat):Int) else 0):=by
 unfold F.Cf isH
 by_cases h1:a=1
 ·subst h1; rfl
 ·by_cases h2:a=2
  ·subst h2; rfl
  ·by_cases h3:a=3
   ·subst h3; rfl
   ·rw [if_neg (by simpa using h1),if_neg (by simpa using h2),if_neg (by simpa using h3),if_neg (by omega)]
theorem kv (a:Int):32≤Sz a∧Sz a≤64:=by unfold Sz; split; decide; split <;> decide
theorem lE (a:Int) (D:List UInt8):(fD a D).length=Sz a:=by
 unfold fD oo
 split
 ·rename_i h
  unfold yH
  have:=cH (fun i (x:List UInt8)=>x.length=4*i) (fun x i=>x++q32 (((iI a (H0 a) (D++g8 (Bk a) D) ((D++g8 (Bk a) D).length / Bk a)).1).getD i 0)) (fun i x hx=>by simp only [List.length_append,q32,List.length_cons,List.length_nil,hx]; omega) 8 0 [] rfl
  refine Eq.trans this ?_
  unfold Sz
  rw [if_pos h]
 ·rename_i h
  rw [List.length_take,vr]; unfold Sz; rw [if_neg h]; split <;> rfl
def zN (h c:Int) (m:List UInt8):Nat:=beN ((fD h m).take (nS c))
theorem tf (h:Int) (hh:isH h) (m:List UInt8) (hm:m.length≤900000000000000):F.DA h [m]=some (fD h m):=by
 rw [ub h hh [m] (by simp) (by simpa using hm)]
 simp
theorem oI (h c:Int) (hh:isH h) (hc:isC c) (m:List UInt8) (hm:m.length≤900000000000000):F.Es h c m=some (ay (zN h c m)):=by
 obtain ⟨n1,n2,n3⟩:=nS4 c
 have hl:=lE h m
 have hz:=kv h
 have e:(min ((fD h m).length:Int) ((nS c:Nat):Int)).toNat=min (Sz h) (nS c):=by omega
 have ht:(fD h m).take (min (Sz h) (nS c))=(fD h m).take (nS c):=by
  rcases Nat.le_total (nS c) (Sz h) with h1 | h1
  ·rw [Nat.min_eq_right h1]
  ·rw [Nat.min_eq_left h1,List.take_of_length_le (by omega),List.take_of_length_le (by omega)]
 unfold F.Es zN
 rw [tf h hh m hm,ak,ko,ak,if_pos hc,lV,e,grd_true _ ⟨by omega,by omega⟩,ht,dx _ (by rw [List.length_take]; omega),ak]
theorem xm (l:List UInt8):nb (beN l)≤8*l.length:=kJ (by rw [←xo]; exact ip l)
theorem uj (h c:Int) (m:List UInt8):nb (zN h c m)≤512∧(ay (zN h c m)).length≤100:=by
 have hl:=lE h m
 have hz:=kv h
 have l1:((fD h m).take (nS c)).length≤64:=by rw [List.length_take]; omega
 have h1:zN h c m<256^64:=Nat.lt_of_lt_of_le (ip _) (Nat.pow_le_pow_right (by decide) l1)
 have h2:nb (zN h c m)≤8*_:=xm _
 refine ⟨by omega,bl (Nat.lt_of_lt_of_le h1 (by decide +kernel))⟩
theorem jF (a n:List UInt32) (la:a.length≤100000000000000) (ln:n.length≤100000000000000):F.CQ a n=some (decide (0<val a∧val a<val n)):=by
 unfold F.CQ
 rw [fo a la,ak]
 by_cases h:val a=0
 ·rw [h,eD,if_neg (by decide),decide_eq_false (by omega)]
 ·have:=(cA (val a)).2 h
  rw [if_pos (decide_eq_true (by omega)),fM a n (by omega) (by omega),ak]
  unfold da
  by_cases h2:val a<val n
  ·rw [if_pos h2,decide_eq_true (show 0<val a∧val a<val n by omega)]; rfl
  ·rw [if_neg h2,decide_eq_false (show ¬(0<val a∧val a<val n) by omega)]
   split <;> rfl
theorem zZ (a b:Nat):(da a b == 0)=decide (a=b):=by
 unfold da
 by_cases h:a<b
 ·rw [if_pos h,decide_eq_false (by omega)]; rfl
 ·rw [if_neg h]
  by_cases h2:a=b
  ·rw [if_pos h2,decide_eq_true h2]; rfl
  ·rw [if_neg h2,decide_eq_false h2]; rfl
theorem t6 (X Y:List UInt32) (inf:Bool) (r n:List UInt32) (lX:X.length≤40000000000000) (lr:r.length≤40000000000000) (ln:n.length≤40000000000000) (hn:val n≠0) :
  F.CE X Y inf r n=some (!inf&&decide (val X%val n=val r)):=by
 unfold F.CE
 cases inf with
 | true=>rfl
 | false=>
  have l1:(ay (val X%val n)).length≤X.length:=ct (Nat.mod_le _ _) (bl (bA X))
  rw [if_neg (by decide),iN X n lX ln,if_neg hn,ak]
  dsimp only
  rw [fM _ _ (by omega) (by omega),ak,aA,zZ]
  rfl
def pp {c:Int} (P:Pt (cP c)) (r:Nat):Bool:=match P with
 | none=>false
 | some (x,_)=>decide (x.val%cN c=r)
theorem xy {c:Int} (P:Pt (cP c)) (r:List UInt32) (lr:r.length≤40000000000000):F.CE (rep P).1 (rep P).2.1 (rep P).2.2 r (ay (cN c))=some (pp P (val r)):=by
 obtain ⟨n1,n2,n3,_,_⟩:=fe c
 have hl:(rep P).1.length≤12:=by
  cases P with
  | none=>exact Nat.zero_le _
  | some q=>obtain ⟨x,y⟩:=q; exact ku c x
 rw [t6 _ _ _ _ _ (by omega) lr (by omega) (by rw [aA]; omega)]
 cases P with
 | none=>rfl
 | some q=>
  obtain ⟨x,y⟩:=q
  show some (!false&&decide (val (rl x)%val (ay (cN c))=val r))=some (decide (x.val%cN c=val r))
  rw [ja,aA]
  rfl
noncomputable def lZ {c:Int} (z r w:Nat) (Q:Pt (cP c)):Pt (cP c):=Ec.add (-3) (Ec.mul (-3) (z*w%cN c) (gP c)) (Ec.mul (-3) (r*w%cN c) Q)
noncomputable def okE {c:Int} (z r s:Nat) (Q:Pt (cP c)):Bool:=pp (lZ z r (el c s) Q) r
def inN (c:Int) (r:Nat):Prop:=0<r∧r<cN c
instance (c:Int) (r:Nat):Decidable (inN c r):=inferInstanceAs (Decidable (0<r∧r<cN c))
noncomputable def gx (h c:Int) (x y m sig:List UInt8):Int:=
 if ¬isH h then 111 else if ¬((g9 c x y).2.2.2=0) then 90 else if ¬(sig.length=2*nS c) then 91 else
 if ¬(inN c (beN (sig.take (nS c)))∧inN c (beN (sig.drop (nS c)))) then 91 else
 if okE (zN h c m) (beN (sig.take (nS c))) (beN (sig.drop (nS c))) (cL c (g9 c x y).1 (g9 c x y).2.1 (g9 c x y).2.2.1)=true then 0 else 91
theorem tg {c:Int} {x y:List UInt8} (h:(g9 c x y).2.2.2=0):isC c∧g9 c x y=(ay (beN x),ay (beN y),false,0)∧onS c (ay (beN x)) (ay (beN y)) false=true∧x.length=nS c∧y.length=nS c:=by
 unfold g9 at h ⊢
 split at h
 ·rename_i hc
  rw [if_pos hc]
  refine ⟨hc.1,rfl,?_,hc.2.1,hc.2.2.1⟩
  unfold onS
  rw [if_pos hc.1,aA,aA]
  exact hc.2.2.2
 ·exact absurd h (by decide)
theorem vR (b:Bool):F.E0 b=some (if b=true then 91 else 0):=by cases b <;> rfl
theorem ij {l:List UInt8} {k:Nat} (h:l.length≤k) (hk:k≤48):(ay (beN l)).length≤100:=by
 have h1:beN l<256^48:=Nat.lt_of_lt_of_le (ip l) (Nat.pow_le_pow_right (by decide) (by omega))
 exact bl (Nat.lt_of_lt_of_le h1 (by decide +kernel))
theorem pK {c:Int} {a k X Y:List UInt32} {q:Bool} (h:onS c X Y q=true) (ha:nb (val a)≤1024) (hk:nb (val k)≤1024) (la:a.length≤1000) (lk:k.length≤1000) (lX:X.length≤35184372087808) (lY:Y.length≤35184372087808) :
  F.Dl c a k X Y q=some (res (Ec.add (-3) (Ec.mul (-3) (val a) (gP c)) (Ec.mul (-3) (val k) (cL c X Y q)))):=by
 rw [uo c a k X Y q (by omega) (by omega) lX lY,xi h ha hk]
theorem kI (h c:Int) (x y m sig:List UInt8) (hm:m.length≤900000000000000) (hs:sig.length≤140737488351232):F.Df h c x y m sig=some (gx h c x y m sig):=by
 obtain ⟨n1,n2,n3⟩:=nS4 c
 obtain ⟨c1,c2,c3,c4,c5⟩:=fe c
 unfold F.Df gx
 rw [nB,ak]
 by_cases hh:isH h
 ·have hz:=kv h
  rw [if_pos hh,if_neg (show ¬(((Sz h:Nat):Int) == 0)=true by rw [beq_iff_eq]; omega),if_neg (not_not_intro hh),pV,ak]
  by_cases hd:(g9 c x y).2.2.2=0
  ·obtain ⟨hc,d1,d2,d3,d4⟩:=tg hd
   rw [if_neg (by rw [hd]; decide),if_neg (not_not_intro hd),ko,ak,kA,ak,if_pos hc,if_pos hc,lV,show wI (2*((nS c:Nat):Int))=((2*nS c:Nat):Int) by rw [aR (by omega) (by omega)]; omega]
   by_cases hl:sig.length=2*nS c
   ·have lt1:(sig.take (nS c)).length=nS c:=by rw [List.length_take]; omega
    have lt2:(sig.drop (nS c)).length=nS c:=by rw [List.length_drop]; omega
    have b1:=ij (Nat.le_of_eq lt1) n2
    have b2:=ij (Nat.le_of_eq lt2) n2
    have hso:slO sig ((nS c:Nat):Int) ((2*nS c:Nat):Int)=some (sig.drop (nS c)):=by
     unfold slO
     rw [if_pos ⟨by omega,by omega,by omega⟩,Int.toNat_natCast,Int.toNat_natCast,List.take_of_length_le (by omega)]
    rw [if_neg (by rw [hl]; simp),grd_true _ ⟨by omega,by omega,rfl⟩,hso,ak,Int.toNat_natCast,dx _ (by omega),ak,dx _ (by omega),ak,jF _ _ (by omega) (by omega),ak,aA,aA,
     if_neg (not_not_intro hl)]
    have k91:∀(x2:List UInt32×List UInt32×Bool×Int) (x10 x15 x18:List UInt32),F.Ex h c m x2 x10 x15 x18 true=some 91:=fun _ _ _ _=>rfl
    by_cases hr:inN c (beN (sig.take (nS c)))
    ·have hr':0<beN (sig.take (nS c))∧beN (sig.take (nS c))<cN c:=hr
     rw [decide_eq_true hr',if_neg (by decide),jF _ _ (by omega) (by omega),ak,aA,aA]
     by_cases hs2:inN c (beN (sig.drop (nS c)))
     ·have hs':0<beN (sig.drop (nS c))∧beN (sig.drop (nS c))<cN c:=hs2
      rw [decide_eq_true hs',if_neg (not_not_intro ⟨hr,hs2⟩)]
      obtain ⟨w1,w2,w3⟩:=mG (c:=c) (ay (beN (sig.drop (nS c)))) (aA _) (by omega) hs'.1 hs'.2
      generalize hw:el c (beN (sig.drop (nS c)))=w at w1 w2 w3
      have nw:=dn w1
      have lw:=ct (Nat.le_of_lt w1) c3
      have nr:=dn hr'.2
      obtain ⟨z1,z2⟩:=uj h c m
      have m1:zN h c m*w%cN c<cN c:=Nat.mod_lt _ (by omega)
      have m2:beN (sig.take (nS c))*w%cN c<cN c:=Nat.mod_lt _ (by omega)
      have nm1:=dn m1; have nm2:=dn m2
      have lm1:=ct (Nat.le_of_lt m1) c3; have lm2:=ct (Nat.le_of_lt m2) c3
      unfold F.Ex
      rw [if_neg (by decide),w3,ak,oI h c hh hc m hm,ak]
      dsimp only
      rw [iX _ _ _ c1 c2 (by rw [aA]; omega) (by rw [aA]; omega) (by omega) (by omega) (by omega),ak]
      rw [iX _ _ _ c1 c2 (by rw [aA]; omega) (by rw [aA]; omega) (by omega) (by omega) (by omega),ak,aA,aA,aA,d1]
      dsimp only
      rw [pK d2 (by rw [aA]; omega) (by rw [aA]; omega) (by omega) (by omega) (by have:=ij (Nat.le_of_eq d3) n2; omega) (by have:=ij (Nat.le_of_eq d4) n2; omega),ak,aA,aA]
      show (if ((0:Int) != 0)=true then _ else an (F.CE (rep _).1 (rep _).2.1 (rep _).2.2 _ _) _)=_
      rw [if_neg (by decide),xy _ _ (by omega),ak,vR,aA]
      unfold okE lZ
      rw [hw]
      cases pp (Ec.add (-3) (Ec.mul (-3) (zN h c m*w%cN c) (gP c)) (Ec.mul (-3) (beN (sig.take (nS c))*w%cN c) (cL c (ay (beN x)) (ay (beN y)) false))) (beN (sig.take (nS c))) <;> rfl
     ·rw [decide_eq_false (show ¬(0<beN (sig.drop (nS c))∧beN (sig.drop (nS c))<cN c) from hs2),if_pos (fun q=>hs2 q.2)]; exact k91 _ _ _ _
    ·rw [decide_eq_false (show ¬(0<beN (sig.take (nS c))∧beN (sig.take (nS c))<cN c) from hr),if_pos (by decide),if_pos (fun q=>hr q.1)]; exact k91 _ _ _ _
   ·rw [if_pos (by rw [bne_iff_ne]; omega),if_pos hl]
  ·rw [if_pos (by rw [bne_iff_ne]; exact hd),if_pos hd]
 ·rw [if_neg hh,if_pos (by decide),if_pos hh]
end Go.Gk.Bn
end

section
namespace Go.Gk.Bn
open Go Go.Gk Go.Gk.Sh Go.Gk.Ec Go.Gk.Pr
noncomputable def fR {c:Int} (z r s:Nat) (R:Pt (cP c)):Pt (cP c):=Ec.add (-3) (Ec.mul (-3) ((cN c - z*el c r%cN c)%cN c) (gP c)) (Ec.mul (-3) (s*el c r%cN c) R)
noncomputable def xd {c:Int} (Q:Pt (cP c)):List UInt8×List UInt8×Int:=match Q with
 | none=>([],[],91)
 | some (x,y)=>(beB (nS c) x.val,beB (nS c) y.val,0)
noncomputable def u6 (h c:Int) (m:List UInt8) (r s:Nat) (X Y:List UInt32) (inf:Bool):List UInt8×List UInt8×Int:=
 if ¬isH h then ([],[],111) else if ¬isC c then ([],[],90) else if ¬(inf=false∧onS c X Y inf=true) then ([],[],93) else
 if ¬(inN c r∧inN c s∧val X%cN c=r) then ([],[],91) else xd (fR (zN h c m) r s (cL c X Y inf))
theorem ta (h c:Int) (m:List UInt8) (r s X Y:List UInt32) (inf:Bool) (hm:m.length≤900000000000000) (lr:r.length≤35184372087808) (ls:s.length≤35184372087808) (lX:X.length≤35184372087808) (lY:Y.length≤35184372087808) :
  F.FG h c m r s X Y inf=some (u6 h c m (val r) (val s) X Y inf):=by
 obtain ⟨n1,n2,n3⟩:=nS4 c
 obtain ⟨c1,c2,c3,c4,c5⟩:=fe c
 unfold F.FG u6
 rw [nB,ak]
 by_cases hh:isH h
 ·have hz:=kv h
  rw [if_pos hh,if_neg (show ¬(((Sz h:Nat):Int) == 0)=true by rw [beq_iff_eq]; omega),if_neg (not_not_intro hh),ko,ak]
  by_cases hc:isC c
  ·rw [if_pos hc,lV,if_neg (show ¬(((nS c:Nat):Int) == 0)=true by rw [beq_iff_eq]; omega),if_neg (not_not_intro hc)]
   cases inf with
   | true=>rw [if_pos rfl,if_pos (fun q=>by cases q.1)]; rfl
   | false=>
    rw [if_neg (by decide),Bb c X Y false lX lY,ak]
    unfold F.E5
    by_cases ho:onS c X Y false=true
    ·rw [ho,if_neg (by decide),if_neg (not_not_intro ⟨rfl,rfl⟩),kA,ak,if_pos hc,jF _ _ (by omega) (by omega),ak,aA]
     have k91:F.C3 h c m r s X Y false (ay (cN c)) true=some ([],[],91):=rfl
     by_cases hr:inN c (val r)
     ·have hr':0<val r∧val r<cN c:=hr
      rw [decide_eq_true hr',if_neg (by decide),jF _ _ (by omega) (by omega),ak,aA]
      by_cases hs:inN c (val s)
      ·have hs':0<val s∧val s<cN c:=hs
       rw [decide_eq_true hs',if_neg (by decide),t6 _ _ _ _ _ (by omega) (by omega) (by omega) (by rw [aA]; omega),ak,aA]
       by_cases hf:val X%cN c=val r
       ·obtain ⟨w1,w2,w3⟩:=mG (c:=c) r rfl (by omega) hr'.1 hr'.2
        have nw:=dn w1
        have lw:=ct (Nat.le_of_lt w1) c3
        have ns:=dn hs'.2
        obtain ⟨z1,z2⟩:=uj h c m
        have m1:zN h c m*el c (val r)%cN c<cN c:=Nat.mod_lt _ (by omega)
        have m2:val s*el c (val r)%cN c<cN c:=Nat.mod_lt _ (by omega)
        have m3:(cN c - zN h c m*el c (val r)%cN c)%cN c<cN c:=Nat.mod_lt _ (by omega)
        have nm1:=dn m1; have nm2:=dn m2; have nm3:=dn m3
        have lm1:=ct (Nat.le_of_lt m1) c3; have lm2:=ct (Nat.le_of_lt m2) c3; have lm3:=ct (Nat.le_of_lt m3) c3
        rw [decide_eq_true hf,if_neg (not_not_intro ⟨hr,hs,hf⟩)]
        unfold F.C3
        rw [if_neg (by decide),w3,ak]
        dsimp only
        rw [iX _ _ _ c1 c2 (by omega) (by rw [aA]; omega) (by omega) (by omega) (by omega),ak,oI h c hh hc m hm,ak]
        rw [iX _ _ _ c1 c2 (by rw [aA]; omega) (by rw [aA]; omega) (by omega) (by omega) (by omega),ak,aA,aA]
        dsimp only
        rw [zi _ _ c1 c2 (by rw [aA]; omega) (by omega) (by omega),ak,aA,Nat.mod_mod]
        dsimp only
        rw [pK ho (by rw [aA]; omega) (by rw [aA]; omega) (by omega) (by omega) lX lY,ak,aA,aA]
        have hon:=jZ ho
        have hQ:On (-3) (bF c) (fR (zN h c m) (val r) (val s) (cL c X Y false)):=(ccv c).on_add ((ccv c).on_mul (f4 c hc) _) ((ccv c).on_mul hon _)
        show (if ((0:Int) != 0)=true then _ else F.Dw c (res (fR (zN h c m) (val r) (val s) (cL c X Y false))) (rep (fR (zN h c m) (val r) (val s) (cL c X Y false))).2.2)=_
        rw [if_neg (by decide)]
        generalize fR (zN h c m) (val r) (val s) (cL c X Y false)=Q at hQ
        cases Q with
        | none=>rfl
        | some q=>
         obtain ⟨x,y⟩:=q
         have l1:=ku c x
         have l2:=ku c y
         have h3:=iW hc hQ
         have h3':onS c (rl x) (rl y) false=true:=h3
         show F.Dw c (rl x,rl y,false,0) false=some (beB (nS c) x.val,beB (nS c) y.val,0)
         unfold F.Dw
         rw [if_neg (by decide)]
         dsimp only
         rw [vA c _ _ _ (by omega) (by omega),ak]
         unfold yk
         rw [if_pos ⟨h3',rfl⟩,ja,ja]
       ·rw [decide_eq_false hf,if_pos (fun q=>hf q.2.2)]; exact k91
      ·rw [decide_eq_false (show ¬(0<val s∧val s<cN c) from hs),if_pos (by decide),if_pos (fun q=>hs q.2.1)]; exact k91
     ·rw [decide_eq_false (show ¬(0<val r∧val r<cN c) from hr),if_pos (by decide),if_pos (fun q=>hr q.1)]; exact k91
    ·rw [Bool.eq_false_iff.2 ho,if_pos (by decide),if_pos (fun q=>by cases q.2)]
  ·rw [if_neg hc,if_pos (by decide),if_pos hc]
 ·rw [if_neg hh,if_pos (by decide),if_pos hh]
theorem pJ (a:List UInt32) (m:Nat) (ha:a.length≤35184372087808) (hm:m≤16384) (hv:val a<256^m):F.D5 a (m:Int)=some (beB m (val a),true):=by
 have hb:nb (val a)≤32*a.length:=Nat.le_trans (iq _) (Nat.mul_le_mul_left 32 (bl (bA a)))
 have hk:(nb (val a)+7) / 8≤m:=vc hv
 obtain ⟨k,v1,v2,v3⟩:=dt a (by omega)
 have hl:(ay (val a)).length≤a.length:=bl (bA a)
 have hmk:mkO 1 (m:Int) (m:Int) (0:UInt8)=some (List.replicate m 0):=by
  unfold mkO
  rw [if_pos ⟨by omega,by omega,by omega,by omega⟩,Int.toNat_natCast]
 unfold F.D5
 rw [if_neg (by rw [decide_eq_true_eq]; omega),if_neg (by rw [decide_eq_true_eq]; omega),fo a (by omega),ak,aR (x:=((nb (val a):Nat):Int)+7) (by omega) (by omega),Int.tdiv_eq_ediv_of_nonneg (by omega),aR (by omega) (by omega),
  decide_eq_false (show ¬(m:Int)<(((nb (val a):Nat):Int)+7) / 8 by omega)]
 unfold F.EI
 rw [if_neg (by decide),hmk,ak,v1,ak,v3,tK _ _ (by rw [List.length_replicate]; omega) (by omega),ak,List.length_replicate,aA]
theorem wh (r s:List UInt32) (m:Nat) (lr:r.length≤35184372087808) (ls:s.length≤35184372087808) (hm:m≤16384) (hr:val r<256^m) (hs:val s<256^m):F.Fw r s (m:Int)=some (beB m (val r)++beB m (val s),true):=by
 have e1:apO 1 [] (beB m (val r))=some (beB m (val r)):=by
  unfold apO
  rw [if_pos (by rw [cT,List.length_nil]; omega),List.nil_append]
 have e2:apO 1 (beB m (val r)) (beB m (val s))=some (beB m (val r)++beB m (val s)):=by
  unfold apO
  rw [if_pos (by rw [cT,cT]; omega)]
 unfold F.Fw
 rw [pJ r m lr hm hr,ak,pJ s m ls hm hs,ak,e1,ak,e2,ak,if_pos rfl]
theorem na (a b:List UInt32) (la:a.length≤4611686018427387904) (lb:b.length≤4611686018427387904):F.Ea a b=some (decide (a=b)):=by
 unfold F.Ea
 by_cases hl:a.length=b.length
 ·rw [if_neg (by rw [bne_iff_ne]; omega)]
  have key:∀n i:Nat,i+n=a.length→a.take i=b.take i→loop (F.Dq a b) (i:Int)=some (decide (a=b)):=by
   intro n
   induction n with
   | zero=>
    intro i hi ht
    rw [List.take_of_length_le (by omega),List.take_of_length_le (by omega)]at ht
    refine bH ?_
    unfold F.Dq
    rw [if_neg (by rw [decide_eq_true_eq]; omega),decide_eq_true ht]
   | succ n ih=>
    intro i hi ht
    have w:wI ((i:Int)+1)=((i+1:Nat):Int):=by rw [aR (by omega) (by omega)]; omega
    by_cases he:a.getD i 0=b.getD i 0
    ·rw [bM (s':=((i+1:Nat):Int)) (by
      unfold F.Dq
      rw [if_pos (decide_eq_true (by omega)),aV (show i<a.length by omega) 0,ak,aV (show i<b.length by omega) 0,ak,if_neg (by rw [bne_iff_ne]; exact fun q=>q he),w]
      rfl)]
     refine ih (i+1) (by omega) ?_
     rw [List.getD_eq_getElem?_getD,List.getD_eq_getElem?_getD,List.getElem?_eq_getElem (by omega),List.getElem?_eq_getElem (by omega)]at he
     rw [List.take_add_one,List.take_add_one,List.getElem?_eq_getElem (show i<a.length by omega),List.getElem?_eq_getElem (show i<b.length by omega),ht]
     congr 2
     exact congrArg some he
    ·refine bH ?_
     unfold F.Dq
     rw [if_pos (decide_eq_true (by omega)),aV (show i<a.length by omega) 0,ak,aV (show i<b.length by omega) 0,ak,if_pos (by rw [bne_iff_ne]; exact he),decide_eq_false (fun q=>he (by rw [q]))]
  exact key a.length 0 (by omega) rfl
 ·rw [if_pos (by rw [bne_iff_ne]; omega),decide_eq_false (fun q=>hl (by rw [q]))]
theorem uT (h c:Int) (hh:isH h) (hc:isC c) (m:List UInt8) (hm:m.length≤900000000000000):F.Fi h c m=some (ay (zN h c m)):=by
 obtain ⟨n1,n2,n3⟩:=nS4 c
 have hl:=lE h m
 have hz:=kv h
 have hk:∀b:List UInt8,b.length≤100→F.Ej b=some (ay (beN b)):=fun b hb=>by
  unfold F.Ej
  dsimp only
  rw [dx _ (by omega),ak]
 unfold F.Fi zN
 rw [tf h hh m hm,ak,ko,if_pos hc,lV,ak]
 by_cases h1:nS c<(fD h m).length
 ·rw [if_pos (decide_eq_true (by omega)),ak,grd_true _ ⟨by omega,by omega⟩,Int.toNat_natCast,hk _ (by rw [List.length_take]; omega)]
 ·rw [if_neg (by rw [decide_eq_true_eq]; omega),hk _ (by omega),List.take_of_length_le (by omega)]
theorem A5 (c:Int):cN c<256^nS c:=by
 unfold cN nS
 split <;> decide +kernel
theorem om {c:Int} {r:Nat} (h:r<cN c):r<256^nS c:=Nat.lt_trans h (A5 c)
theorem kT {m n:Nat} (h:n<256^m):beN (beB m n)=n:=by
 rw [i0,Nat.mod_eq_of_lt h]
theorem vv {c:Int} {r s:Nat} (hr:r<cN c) (hs:s<cN c):(beB (nS c) r++beB (nS c) s).length=2*nS c∧beN ((beB (nS c) r++beB (nS c) s).take (nS c))=r∧beN ((beB (nS c) r++beB (nS c) s).drop (nS c))=s:=by
 have l1:(beB (nS c) r).length=nS c:=cT _ _
 have l2:(beB (nS c) s).length=nS c:=cT _ _
 refine ⟨by rw [List.length_append,l1,l2]; omega,?_,?_⟩
 ·rw [List.take_left' l1,kT (om hr)]
 ·rw [List.drop_left' l1,kT (om hs)]
end Go.Gk.Bn
end

section
namespace Go.Gk.Bn
open Go Go.Gk Go.Gk.Sh Go.Gk.Ec Go.Gk.Pr
theorem zv {c:Int} (hc:isC c) {z r s:Nat} {R:Pt (cP c)} (hR:On (-3) (bF c) R) (hr:inN c r) (hs:inN c s):okE z r s (fR z r s R)=pp R r:=by
 obtain ⟨w1,w2⟩:=mc hr.1 hr.2
 obtain ⟨v1,v2⟩:=mc hs.1 hs.2
 unfold okE lZ fR
 rw [wm hc (f4 c hc) hR w2 v2]
theorem zG {c:Int} (hc:isC c) {z r:Nat}:fR z r 1 (gP c)=Ec.mul (-3) ((cN c - z*el c r%cN c)%cN c+el c r%cN c) (gP c):=by
 unfold fR
 rw [(ccv c).mul_add (f4 c hc),Nat.one_mul]
theorem yW {n z z' r w:Nat} (h1:1<n) (hw:r*w%n=1):(z'*1%n+r*1%n*((n - z*w%n)%n+w%n))%n=(z'+(n - z%n)+1)%n:=by
 have a1:r*((n - z*w%n)%n)%n=(n - z%n)%n:=by
  refine mR (v:=z%n) ?_
  have e1:r*((n - z*w%n)%n)%n=r*(n - z*w%n)%n:=Nat.mul_mod_mod _ _ _
  have e2:(r*(n - z*w%n)+r*(z*w%n))%n=0:=by
   rw [←Nat.mul_add,Nat.sub_add_cancel (Nat.le_of_lt (Nat.mod_lt _ (by omega))),Nat.mul_mod_left]
  have e3:r*(z*w%n)%n=z%n:=mf hw
  have e4:(n - z%n+z%n)%n=0:=by rw [Nat.sub_add_cancel (Nat.le_of_lt (Nat.mod_lt _ (by omega))),Nat.mod_self]
  rw [e4,Nat.add_mod,e1,←e3,Nat.mod_mod,←Nat.add_mod,e2]
 have a2:r*(w%n)%n=1:=by rw [Nat.mul_mod_mod,hw]
 have a3:r*((n - z*w%n)%n+w%n)%n=(n - z%n+1)%n:=by rw [Nat.mul_add,Nat.add_mod,a1,a2,Nat.mod_add_mod]
 rw [Nat.mul_one,Nat.mul_one,Nat.mod_add_mod,Nat.add_mod z',Nat.mod_mul_mod,a3,←Nat.add_mod,Nat.add_assoc z']
theorem yX {c:Int} (hc:isC c) {x y:Fin (cP c)} (h:On (-3) (bF c) (some (x,y))):onN (cP c) (cB c) x.val y.val=true:=by
 have h3:onS c (rl x) (rl y) false=true:=iW hc h
 have:=(pr h3).2.2
 rwa [ja,ja]at this
theorem zM {c:Int} (hc:isC c) {x y:Fin (cP c)} (h:On (-3) (bF c) (some (x,y))):g9 c (beB (nS c) x.val) (beB (nS c) y.val)=(rl x,rl y,false,0):=by
 have hp:=tz c hc
 have e1:=kT (Nat.lt_trans x.isLt hp)
 have e2:=kT (Nat.lt_trans y.isLt hp)
 unfold g9
 rw [e1,e2,if_pos ⟨hc,cT _ _,cT _ _,yX hc h⟩]
 rfl
theorem tF {h c:Int} (hh:isH h) (hc:isC c) {x y:Fin (cP c)} (hQ:On (-3) (bF c) (some (x,y))) (m:List UInt8) {r s:Nat} (hr:inN c r) (hs:inN c s) :
  gx h c (beB (nS c) x.val) (beB (nS c) y.val) m (beB (nS c) r++beB (nS c) s)=if okE (zN h c m) r s (some (x,y))=true then 0 else 91:=by
 obtain ⟨j1,j2,j3⟩:=vv (c:=c) hr.2 hs.2
 have ht:cL c (rl x) (rl y) false=some (x,y):=jb (some (x,y))
 unfold gx
 rw [if_neg (not_not_intro hh),zM hc hQ,if_neg (not_not_intro rfl),if_neg (not_not_intro j1),j2,j3,if_neg (not_not_intro ⟨hr,hs⟩),ht]
theorem tN:zN 1 1 [97,98,99]=beN rP:=by
 unfold zN
 rw [yY]
 rfl
theorem yU:zN 1 1 [97,98,100]=beN un:=by
 unfold zN
 rw [zu]
 rfl
theorem zp:beN rP%cN 1≠1:=by decide +kernel
theorem A7:inN 1 (cX 1)∧inN 1 1:=⟨by decide +kernel,by decide +kernel⟩
theorem Bm (c:Int):gP c≠none:=fun h=>by cases h
theorem Ar {c:Int} (hc:isC c) {z r s:Nat} {R:Pt (cP c)} (hR:On (-3) (bF c) R):On (-3) (bF c) (fR z r s R):=(ccv c).on_add ((ccv c).on_mul (f4 c hc) _) ((ccv c).on_mul hR _)
theorem xr (c:Int) (r1:inN c (cX c)):pp (c:=c) (gP c) (cX c)=true:=by
 show decide ((fz (p:=cP c) (cX c:Int)).val%cN c=cX c)=true
 rw [lJ _ (cW c).2.2.2.1,Nat.mod_eq_of_lt r1.2,decide_eq_true rfl]
theorem AL (c:Int) (hc:isC c) (r1:inN c (cX c)) (r2:inN c 1) (z z' k:Nat) (hz:z%cN c≠1) (hk:(z'+(cN c - z%cN c)+1)%cN c=k) (hne:∀x y,Ec.mul (-3) k (gP c)=some (x,y)→x.val%cN c≠cX c) :
  ∃x y:Fin (cP c),fR z (cX c) 1 (gP c)=some (x,y)∧On (-3) (bF c) (some (x,y))∧okE z (cX c) 1 (some (x,y))=true∧okE z' (cX c) 1 (some (x,y))=false:=by
 have C:=ccv c
 have hG:=f4 c hc
 obtain ⟨c1,c2,c3,c4,c5⟩:=fe c
 obtain ⟨w1,w2⟩:=mc r1.1 r1.2
 have hQ:=Ar (z:=z) (r:=cX c) (s:=1) hc hG
 have hn:fR z (cX c) 1 (gP c)≠none:=by
  intro q
  have e:=vX hc hG hG w2 q
  rw [←nJ hc hG z]at e
  have:=C.mul_inj hG (f7 c) (Bm c) (iU c hc hG) c1 (Nat.mod_lt _ (Nat.lt_trans Nat.zero_lt_one c1)) e
  exact hz this.symm
 have habc:okE z (cX c) 1 (fR z (cX c) 1 (gP c))=true:=by rw [zv hc hG r1 r2,xr c r1]
 have habd:okE z' (cX c) 1 (fR z (cX c) 1 (gP c))=false:=by
  unfold okE lZ
  have i1:el c 1=1:=t5 c1 (by rw [Nat.one_mul,Nat.mod_eq_of_lt c1])
  have hk2:k%cN c=k:=by rw [←hk,Nat.mod_mod]
  rw [i1,zG hc,←C.mul_mul hG,←C.mul_add hG,fy (l:=k) hc hG (by rw [yW c1 w2,hk,hk2])]
  cases hm:Ec.mul (-3) k (gP c) with
  | none=>rfl
  | some q=>
   obtain ⟨x,y⟩:=q
   exact decide_eq_false (hne x y hm)
 cases hq:fR z (cX c) 1 (gP c) with
 | none=>exact absurd hq hn
 | some q=>
  obtain ⟨x,y⟩:=q
  rw [hq]at hQ habc habd
  exact ⟨x,y,rfl,hQ,habc,habd⟩
theorem qO (c:Int):val (rep (gP c)).1=cX c:=by
 show val (rl (fz (p:=cP c) (cX c:Int)))=cX c
 rw [ja,lJ _ (cW c).2.2.2.1]
theorem yu {h c:Int} (hh:isH h) (hc:isC c) (r1:inN c (cX c)) (r2:inN c 1) (m:List UInt8):u6 h c m (cX c) 1 (rep (gP c)).1 (rep (gP c)).2.1 (rep (gP c)).2.2=xd (fR (zN h c m) (cX c) 1 (gP c)):=by
 unfold u6
 rw [if_neg (not_not_intro hh),if_neg (not_not_intro hc),if_neg (not_not_intro ⟨rfl,iW hc (f4 c hc)⟩),if_neg (not_not_intro ⟨r1,r2,by rw [qO,Nat.mod_eq_of_lt r1.2]⟩),jb]
theorem ud:F.FI=some true:=by
 have hc:isC 1:=.inl rfl
 have hh:isH 1:=.inl rfl
 obtain ⟨c1,c2,c3,c4,c5⟩:=fe 1
 obtain ⟨r1,r2⟩:=A7
 have lG:=kr 1 (gP 1)
 have l1:val [1]=1:=rfl
 have lX:=ct (Nat.le_of_lt r1.2) c3
 obtain ⟨x,y,hq,hQ,habc,habd⟩:=AL 1 hc r1 r2 (beN rP) (beN un) kAw zp zY (fun x y h=>Ba h)
 have b1:(beB (nS 1) x.val).length=32:=cT _ _
 have b2:(beB (nS 1) y.val).length=32:=cT _ _
 have b3:(beB (nS 1) (cX 1)++beB (nS 1) 1).length=64:=by rw [List.length_append,cT,cT]; rfl
 have hj:=wh (ay (cX 1)) [1] (nS 1) (Nat.le_trans lX (by decide)) (by decide) (by decide) (by rw [aA]; exact om r1.2) (by rw [l1]; exact om r2.2)
 have hr:=ta 1 1 [97,98,99] (ay (cX 1)) [1] (rep (gP 1)).1 (rep (gP 1)).2.1 (rep (gP 1)).2.2 (by decide) (Nat.le_trans lX (by decide)) (by decide) (Nat.le_trans lG.1 (by decide)) (Nat.le_trans lG.2 (by decide))
 rw [aA,l1,yu hh hc r1 r2,tN,hq]at hr
 rw [aA,l1]at hj
 have v1:=kI 1 1 (beB (nS 1) x.val) (beB (nS 1) y.val) [97,98,99] (beB (nS 1) (cX 1)++beB (nS 1) 1) (by decide) (by rw [b3]; decide)
 have v2:=kI 1 1 (beB (nS 1) x.val) (beB (nS 1) y.val) [97,98,100] (beB (nS 1) (cX 1)++beB (nS 1) 1) (by decide) (by rw [b3]; decide)
 rw [tF hh hc hQ _ r1 r2,tN,if_pos habc]at v1
 rw [tF hh hc hQ _ r1 r2,yU,habd,if_neg Bool.false_ne_true]at v2
 unfold F.FI
 rw [nq 1 hc,ak,kA,if_pos hc,ak,iN _ _ (Nat.le_trans lG.1 (by decide)) (Nat.le_trans c3 (by decide)),aA,if_neg (Nat.ne_of_gt (Nat.lt_trans Nat.zero_lt_one c1)),ak,qO,Nat.mod_eq_of_lt r1.2]
 dsimp only
 rw [hr,ak,show (32:Int)=((nS 1:Nat):Int) from rfl,hj,ak]
 unfold xd
 dsimp only
 rw [if_neg (by decide),if_neg (by decide),if_neg (by decide),b1,b2,if_neg (by decide)]
 show F.Cm _ _ false=_
 unfold F.Cm
 rw [if_neg (by decide)]
 dsimp only
 rw [v1,ak,if_pos (by decide),v2,ak]
 rfl
end Go.Gk.Bn
end

section
namespace Go.Gk.Bn
open Go Go.Gk Go.Gk.Sh Go.Gk.Ec Go.Gk.Pr
theorem pu {c:Int} (hc:isC c) {P:Pt (cP c)} (hP:On (-3) (bF c) P) (k:List UInt32) (hk:nb (val k)≤1024) (lk:k.length≤35184372087808) :
  F.B4 c k (rep P).1 (rep P).2.1 (rep P).2.2=some (res (Ec.mul (-3) (val k) P)):=by
 have hl:=kr c P
 rw [nj c k _ _ _ lk (by omega) (by omega),nm (iW hc hP) hk,jb]
theorem t9 {c:Int} (hc:isC c) {P Q:Pt (cP c)} (hP:On (-3) (bF c) P) (hQ:On (-3) (bF c) Q) :
  F.DM c (rep P).1 (rep P).2.1 (rep P).2.2 (rep Q).1 (rep Q).2.1 (rep Q).2.2=some (res (Ec.add (-3) P Q)):=by
 have hl:=kr c P
 have hl2:=kr c Q
 rw [xc c _ _ _ _ _ _ (by omega) (by omega) (by omega) (by omega),wZ (iW hc hP) (iW hc hQ),jb,jb]
theorem law12_EcdsaEquation_eq (h c:Int) (x y m sig:List UInt8) (hx:x.length≤140737488351232) (hy:y.length≤140737488351232) (hm:m.length≤140737488351232) (hs:sig.length≤140737488351232):F.F5 h c x y m sig=some true:=by
 obtain ⟨n1,n2,n3⟩:=nS4 c
 obtain ⟨c1,c2,c3,c4,c5⟩:=fe c
 have hz:=kv h
 unfold F.F5
 rw [ud,ak,if_neg (by decide),kI _ _ _ _ _ _ (by omega) hs,ak,nB,ak]
 by_cases hh:isH h
 ·rw [if_pos hh,if_neg (show ¬(((Sz h:Nat):Int) == 0)=true by rw [beq_iff_eq]; omega),pV,ak]
  by_cases hd:(g9 c x y).2.2.2=0
  ·obtain ⟨hc,d1,d2,d3,d4⟩:=tg hd
   have hG:=f4 c hc
   have hQ:=jZ d2
   rw [if_neg (by rw [hd]; decide),ko,ak,kA,ak,if_pos hc,if_pos hc,lV,show wI (2*((nS c:Nat):Int))=((2*nS c:Nat):Int) by rw [aR (by omega) (by omega)]; omega]
   by_cases hl:sig.length=2*nS c
   ·have lt1:(sig.take (nS c)).length=nS c:=by rw [List.length_take]; omega
    have lt2:(sig.drop (nS c)).length=nS c:=by rw [List.length_drop]; omega
    have b1:=ij (Nat.le_of_eq lt1) n2
    have b2:=ij (Nat.le_of_eq lt2) n2
    have t1:tkO sig ((nS c:Nat):Int)=some (sig.take (nS c)):=by unfold tkO; rw [if_pos ⟨by omega,by omega⟩,Int.toNat_natCast]
    have t2:drO sig ((nS c:Nat):Int)=some (sig.drop (nS c)):=by unfold drO; rw [if_pos ⟨by omega,by omega⟩,Int.toNat_natCast]
    rw [if_neg (by rw [hl]; simp),t1,ak,dx _ (by omega),ak,t2,ak,dx _ (by omega),ak,fo _ (by omega),ak,aA]
    have hv:gx h c x y m sig=if ¬(inN c (beN (sig.take (nS c)))∧inN c (beN (sig.drop (nS c)))) then 91 else if okE (zN h c m) (beN (sig.take (nS c))) (beN (sig.drop (nS c))) (cL c (ay (beN x)) (ay (beN y)) false)=true then 0 else 91:=by
     unfold gx
     rw [if_neg (not_not_intro hh),if_neg (not_not_intro hd),if_neg (not_not_intro hl),d1]
    generalize beN (sig.take (nS c))=r at *
    generalize beN (sig.drop (nS c))=s at *
    have k1:∀v x4 x12,v=91→F.CF h c m v x4 x12 (ay r) (ay s) true=some true:=fun v x4 x12 q=>by rw [q]; rfl
    by_cases r0:r=0
    ·rw [r0,eD,if_pos (by decide),←r0]
     exact k1 _ _ _ (by rw [hv,if_pos (fun q=>by have:=q.1.1; omega)])
    ·have:=(cA r).2 r0
     rw [if_neg (by rw [beq_iff_eq]; omega),fo _ (by omega),ak,aA]
     by_cases s0:s=0
     ·rw [s0,eD,if_pos (by decide),←s0]
      exact k1 _ _ _ (by rw [hv,if_pos (fun q=>by have:=q.2.1; omega)])
     ·have:=(cA s).2 s0
      rw [if_neg (by rw [beq_iff_eq]; omega),fM _ _ (by omega) (by omega),ak,aA,aA]
      by_cases rn:r<cN c
      ·have e1:¬0≤da r (cN c):=by unfold da; rw [if_pos rn]; decide
       rw [if_neg (by rw [decide_eq_true_eq]; exact e1),fM _ _ (by omega) (by omega),ak,aA,aA]
       by_cases sn:s<cN c
       ·have e2:¬0≤da s (cN c):=by unfold da; rw [if_pos sn]; decide
        rw [decide_eq_false e2]
        rw [if_neg (not_not_intro ⟨⟨by omega,rn⟩,⟨by omega,sn⟩⟩)]at hv
        obtain ⟨w1,w2,w3⟩:=mG (c:=c) (ay s) (aA _) (by omega) (by omega) sn
        have nw:=dn w1
        have lw:=ct (Nat.le_of_lt w1) c3
        have nr:=dn rn
        have ns:=dn sn
        obtain ⟨z1,z2⟩:=uj h c m
        have m1:zN h c m*el c s%cN c<cN c:=Nat.mod_lt _ (by omega)
        have m2:r*el c s%cN c<cN c:=Nat.mod_lt _ (by omega)
        have nm1:=dn m1; have nm2:=dn m2
        have lm1:=ct (Nat.le_of_lt m1) c3; have lm2:=ct (Nat.le_of_lt m2) c3
        have C:=ccv c
        have hq:cL c (ay (beN x)) (ay (beN y)) false=cL c (ay (beN x)) (ay (beN y)) false:=rfl
        have lq1:=ij (Nat.le_of_eq d3) n2
        have lq2:=ij (Nat.le_of_eq d4) n2
        have eq:=zC hc hG hQ (r:=r) (z:=zN h c m) w2
        unfold F.CF
        rw [if_neg (by decide),uT h c hh hc m (by omega),ak,w3,ak]
        dsimp only
        rw [iX _ _ _ c1 c2 (by rw [aA]; omega) (by rw [aA]; omega) (by omega) (by omega) (by omega),ak]
        rw [iX _ _ _ c1 c2 (by rw [aA]; omega) (by rw [aA]; omega) (by omega) (by omega) (by omega),ak,aA,aA,aA,nq c hc,ak,d1]
        dsimp only
        rw [pu hc hG _ (by rw [aA]; omega) (by omega),ak,nj c _ _ _ _ (by omega) (by omega) (by omega),nm d2 (by rw [aA]; omega),ak,aA,aA]
        unfold res
        dsimp only
        rw [t9 hc (C.on_mul hG _) (C.on_mul hQ _),ak,if_neg (by decide),if_neg (by decide),if_neg (by decide),if_neg (by decide),if_neg (by decide)]
        have hS:On (-3) (bF c) (lZ (zN h c m) r (el c s) (cL c (ay (beN x)) (ay (beN y)) false)):=C.on_add (C.on_mul hG _) (C.on_mul hQ _)
        unfold okE at hv
        show F.Ca c (gx h c x y m sig) _ _ _ _ _ (res (lZ (zN h c m) r (el c s) (cL c (ay (beN x)) (ay (beN y)) false))) false=_
        have eq':Ec.mul (-3) s (lZ (zN h c m) r (el c s) (cL c (ay (beN x)) (ay (beN y)) false))=_:=eq
        generalize lZ (zN h c m) r (el c s) (cL c (ay (beN x)) (ay (beN y)) false)=P at hv hS eq' ⊢
        generalize gx h c x y m sig=v at hv ⊢
        unfold F.Ca
        rw [if_neg (by decide)]
        cases P with
        | none=>subst hv; rfl
        | some p=>
         obtain ⟨px,py⟩:=p
         have lp:=ku c px
         have lxn:(ay (px.val%cN c)).length≤12:=ct (Nat.le_of_lt (Nat.mod_lt _ (by omega))) c3
         have hm1:=pu hc hS (ay s) (by rw [aA]; omega) (by omega)
         rw [aA,eq']at hm1
         show (if false=true then _ else an (F.Cn (rl px) (ay (cN c))) _)=_
         rw [if_neg (by decide),iN _ _ (by omega) (by omega),aA,if_neg (by omega),ak,ja]
         dsimp only
         rw [if_neg (by decide),fM _ _ (by omega) (by omega),ak,aA,aA]
         have hf:pp (c:=c) (some (px,py)) r=decide (px.val%cN c=r):=rfl
         rw [hf]at hv
         by_cases he:px.val%cN c=r
         ·rw [decide_eq_true he,if_pos rfl]at hv
          rw [he,lC,if_neg (by decide),hv]
          show an (F.B4 c (ay s) (rep (some (px,py):Pt (cP c))).1 (rep (some (px,py):Pt (cP c))).2.1 (rep (some (px,py):Pt (cP c))).2.2) _=_
          rw [hm1,ak,nq c hc,ak,pu hc hG _ (by rw [aA]; omega) (by omega),ak,nj c _ _ _ _ (by omega) (by omega) (by omega),nm d2 (by rw [aA]; omega),ak,aA,aA]
          have hl:=kr c (Ec.add (-3) (Ec.mul (-3) (zN h c m) (gP c)) (Ec.mul (-3) r (cL c (ay (beN x)) (ay (beN y)) false)))
          unfold res
          dsimp only
          rw [t9 hc (C.on_mul hG _) (C.on_mul hQ _),ak]
          unfold res
          dsimp only
          rw [if_pos (by decide),if_pos (by decide),if_pos (by decide),if_pos (by decide),if_pos (by decide),if_pos (beq_self_eq_true _),na _ _ (by omega) (by omega),ak,decide_eq_true rfl,if_pos rfl,na _ _ (by omega) (by omega),ak,decide_eq_true rfl]
         ·rw [decide_eq_false he,if_neg (by decide)]at hv
          have e:(da (px.val%cN c) r != 0)=true:=by
           have:=zZ (px.val%cN c) r
           rw [decide_eq_false he]at this
           unfold bne
           rw [this]; rfl
          rw [if_pos e,hv]; rfl
       ·have e2:0≤da s (cN c):=by unfold da; rw [if_neg sn]; split <;> decide
        rw [decide_eq_true e2]
        exact k1 _ _ _ (by rw [hv,if_pos (fun q=>sn q.2.2)])
      ·have e1:0≤da r (cN c):=by unfold da; rw [if_neg rn]; split <;> decide
       rw [if_pos (decide_eq_true e1)]
       exact k1 _ _ _ (by rw [hv,if_pos (fun q=>rn q.1.2)])
   ·rw [if_pos (by rw [bne_iff_ne]; omega)]
    have hv:gx h c x y m sig=91:=by
     unfold gx
     rw [if_neg (not_not_intro hh),if_neg (not_not_intro hd),if_pos hl]
    rw [hv]; rfl
  ·rw [if_pos (by rw [bne_iff_ne]; exact hd)]
   have hv:gx h c x y m sig=90:=by
    unfold gx
    rw [if_neg (not_not_intro hh),if_pos hd]
   rw [hv]; rfl
 ·rw [if_neg hh,if_pos (by decide)]
  have hv:gx h c x y m sig=111:=by
   unfold gx
   rw [if_pos hh]
  rw [hv]; rfl
end Go.Gk.Bn
end
