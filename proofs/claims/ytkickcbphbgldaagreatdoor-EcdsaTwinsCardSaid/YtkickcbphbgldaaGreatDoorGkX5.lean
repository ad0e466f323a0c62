import Derived.Test.YtkickcbphbgldaaGreatDoorGkX0
import Derived.Test.YtkickcbphbgldaaGreatDoorGkFman
set_option linter.unusedVariables false
set_option linter.unusedSimpArgs false
set_option linter.unusedSectionVars false

section
namespace Go.Gk.Bn
open Go Go.Gk Go.Gk.Sh Go.Gk.Ec Go.Gk.Pr
theorem qz {n:Nat} (h:nb n≤4096):(ay n).length≤128:=by
 have h1:=(cC n).1
 have h2:=Nat.pow_le_pow_right (show 0<2 by decide) (show nb n≤32*128 by omega)
 refine bg ?_
 rw [show (4294967296:Nat)=2^32 from rfl,←Nat.pow_mul]
 exact Nat.lt_of_lt_of_le h1 h2
theorem lU (a b:List UInt32) (m:Nat) (h1:1<m) (hm:nb m≤4096) (ha:nb (val a)≤4096) (hb:nb (val b)≤4096) (la:a.length≤40000000000000) (lb:b.length≤40000000000000) (lm:(ay m).length≤900) :
  F.Cy a b (ay m)=some (ay (val a*val b%m),0):=by
 have l1:=qz ha
 have l2:=qz hb
 have hs:(ay (val a*val b)).length≤256:=bg (by
  have e1:=br (ay (val a)); have e2:=br (ay (val b))
  rw [aA]at e1 e2
  have:=Nat.mul_lt_mul'' e1 e2
  rw [←Nat.pow_add]at this
  exact Nat.lt_of_lt_of_le this (Nat.pow_le_pow_right (by decide) (by omega)))
 unfold F.Cy
 rw [qt ha hb (by rw [aA]; omega) (by rw [aA]; omega) (by omega) (by omega) (by omega),ak,if_neg (by decide),yD _ _ (by omega) (by omega) (by omega),ak,
  jc _ _ (by omega) (by omega) (by rw [aA]; omega),ak,aA,aA]
theorem yB (b:List UInt32) (m:Nat) (h1:1<m) (hm:nb m≤4096) (hb:nb (val b)≤4096) (lb:b.length≤1000) (lm:(ay m).length≤900) :
  F.ED [] b (ay m)=some (ay ((m - val b%m)%m),0):=by
 have h0:(ay 0)=[]:=bB
 have e:=mI (x:=0) (y:=val b%m) (m:=m) (by omega) (Nat.mod_lt _ (by omega)) (by omega) (ay m) (aA m) (by omega)
 rw [h0,Nat.add_zero]at e
 unfold F.ED
 rw [qt (by rw [dh,ee]; omega) hb (by rw [aA]; omega) (by rw [aA]; omega) (by decide) (by omega) (by omega),ak,if_neg (by decide),
  jc _ _ (by decide) (by omega) (by rw [aA]; omega),ak,jc _ _ (by omega) (by omega) (by rw [aA]; omega),ak,aA,dh,Nat.zero_mod,h0,e,ak]
theorem eo (c:Int):1<cN c∧nb (cN c)≤4096∧(ay (cN c)).length≤12∧cN c<cP c∧cP c<4294967296^12:=by
 have h:=db c
 have l:=te c (Nat.le_of_lt h.2.2.1)
 exact ⟨(gH c).1,Nat.le_trans (yf l) (by decide),l,h.2.2.1,h.1⟩
theorem z5 (c:Int):cN c%2=1:=by
 unfold cN
 split <;> decide +kernel
theorem At {c:Int} {s:Nat} (h0:0<s) (h:s<cN c):Nat.gcd s (cN c)=1:=by
 rw [Nat.gcd_comm]
 exact (gH c).coprime fun hd=>by have:=Nat.le_of_dvd h0 hd; omega
theorem et {c:Int} {s:Nat} (h:s<cN c):nb s≤384:=by
 have h1:=yf (cG (Nat.le_of_lt h) (eo c).2.2.1)
 omega
theorem tW {n s w v:Nat} (hw:w<n) (hv:v<n) (h1:s*w%n=1) (h2:s*v%n=1):w=v:=by
 have e1:s*w*v%n=v%n:=by rw [Nat.mul_mod,h1,Nat.one_mul,Nat.mod_mod]
 have e2:s*w*v%n=w%n:=by rw [show s*w*v=(s*v)*w by rw [Nat.mul_assoc,Nat.mul_comm w,←Nat.mul_assoc],Nat.mul_mod,h2,Nat.one_mul,Nat.mod_mod]
 rw [e1,Nat.mod_eq_of_lt hv,Nat.mod_eq_of_lt hw]at e2
 exact e2.symm
open Classical in
noncomputable def eQ (c:Int) (s:Nat):Nat:=if h:∃w,w<cN c∧s*w%cN c=1 then Classical.choose h else 0
theorem oG {c:Int} {s w:Nat} (hw:w<cN c) (h:s*w%cN c=1):eQ c s=w:=by
 have hx:∃w,w<cN c∧s*w%cN c=1:=⟨w,hw,h⟩
 unfold eQ
 rw [dif_pos hx]
 have h2:=Classical.choose_spec hx
 exact tW h2.1 hw h2.2 h
theorem ot {c:Int} {s:Nat} (l:List UInt32) (hl:val l=s) (ll:l.length≤40000000000000) (h0:0<s) (h:s<cN c):eQ c s<cN c∧s*eQ c s%cN c=1∧F.CE l (ay (cN c))=some (ay (eQ c s),0):=by
 obtain ⟨n1,n2,n3,_,_⟩:=eo c
 have hb:=et h
 obtain ⟨w,a1,a2,a3⟩:=zZ l (cN c) n1 (z5 c) n2 (by omega) (by rw [hl]; omega) ll (by rw [hl]; exact At h0 h)
 rw [hl]at a2
 rw [oG a1 a2]
 exact ⟨a1,a2,a3⟩
theorem gU {c:Int} {s:Nat} (h0:0<s) (h:s<cN c):eQ c s<cN c∧s*eQ c s%cN c=1:=by
 have l:=cG (Nat.le_of_lt h) (eo c).2.2.1
 obtain ⟨a1,a2,_⟩:=ot (c:=c) (ay s) (aA s) (by omega) h0 h
 exact ⟨a1,a2⟩
abbrev isH (a:Int):Prop:=a=1∨a=2∨a=3
theorem rV (a:Int):F.BV a=some (if isH a then ((Sz a:Nat):Int) else 0):=by
 unfold F.BV isH
 by_cases h1:a=1
 ·subst h1; rfl
 ·by_cases h2:a=2
  ·subst h2; rfl
  ·by_cases h3:a=3
   ·subst h3; rfl
   ·rw [if_neg (by simpa using h1),if_neg (by simpa using h2),if_neg (by simpa using h3),if_neg (by omega)]
theorem nX (a:Int):32≤Sz a∧Sz a≤64:=by unfold Sz; split; decide; split <;> decide
theorem pv (a:Int) (D:List UInt8):(fG a D).length=Sz a:=by
 unfold fG nU
 split
 ·rename_i h
  unfold ye
  have:=cD (fun i (x:List UInt8)=>x.length=4*i) (fun x i=>x++q32 (((il a (H0 a) (D++gy (Bk a) D) ((D++gy (Bk a) D).length / Bk a)).1).getD i 0)) (fun i x hx=>by simp only [List.length_append,q32,List.length_cons,List.length_nil,hx]; omega) 8 0 [] rfl
  refine Eq.trans this ?_
  unfold Sz
  rw [if_pos h]
 ·rename_i h
  rw [List.length_take,wd]; unfold Sz; rw [if_neg h]; split <;> rfl
def zN (h c:Int) (m:List UInt8):Nat:=beN ((fG h m).take (nS c))
theorem zk (h:Int) (hh:isH h) (m:List UInt8) (hm:m.length≤900000000000000):F.DC h [m]=some (fG h m):=by
 rw [un h hh [m] (by simp) (by simpa using hm)]
 simp
theorem nY (h c:Int) (hh:isH h) (hc:isC c) (m:List UInt8) (hm:m.length≤900000000000000):F.DA h c m=some (ay (zN h c m)):=by
 obtain ⟨n1,n2,n3⟩:=nS4 c
 have hl:=pv h m
 have hz:=nX h
 have e:(min ((fG h m).length:Int) ((nS c:Nat):Int)).toNat=min (Sz h) (nS c):=by omega
 have ht:(fG h m).take (min (Sz h) (nS c))=(fG h m).take (nS c):=by
  rcases Nat.le_total (nS c) (Sz h) with h1 | h1
  ·rw [Nat.min_eq_right h1]
  ·rw [Nat.min_eq_left h1,List.take_of_length_le (by omega),List.take_of_length_le (by omega)]
 unfold F.DA zN
 rw [zk h hh m hm,ak,me,ak,if_pos hc,mY,e,grd_true _ ⟨by omega,by omega⟩,ht,dC _ (by rw [List.length_take]; omega),ak]
theorem xD (l:List UInt8):nb (beN l)≤8*l.length:=kw (by rw [←wA]; exact gW l)
theorem yd (h c:Int) (m:List UInt8):nb (zN h c m)≤512∧(ay (zN h c m)).length≤100:=by
 have hl:=pv h m
 have hz:=nX h
 have l1:((fG h m).take (nS c)).length≤64:=by rw [List.length_take]; omega
 have h1:zN h c m<256^64:=Nat.lt_of_lt_of_le (gW _) (Nat.pow_le_pow_right (by decide) l1)
 have h2:nb (zN h c m)≤8*_:=xD _
 refine ⟨by omega,bg (Nat.lt_of_lt_of_le h1 (by decide +kernel))⟩
theorem jv (a n:List UInt32) (la:a.length≤100000000000000) (ln:n.length≤100000000000000):F.Cu a n=some (decide (0<val a∧val a<val n)):=by
 unfold F.Cu
 rw [fa a la,ak]
 by_cases h:val a=0
 ·rw [h,ee,if_neg (by decide),decide_eq_false (by omega)]
 ·have:=(cC (val a)).2 h
  rw [if_pos (decide_eq_true (by omega)),fY a n (by omega) (by omega),ak]
  unfold c9
  by_cases h2:val a<val n
  ·rw [if_pos h2,decide_eq_true (show 0<val a∧val a<val n by omega)]; rfl
  ·rw [if_neg h2,decide_eq_false (show ¬(0<val a∧val a<val n) by omega)]
   split <;> rfl
theorem A8 (a b:Nat):(c9 a b == 0)=decide (a=b):=by
 unfold c9
 by_cases h:a<b
 ·rw [if_pos h,decide_eq_false (by omega)]; rfl
 ·rw [if_neg h]
  by_cases h2:a=b
  ·rw [if_pos h2,decide_eq_true h2]; rfl
  ·rw [if_neg h2,decide_eq_false h2]; rfl
theorem tw (X Y:List UInt32) (inf:Bool) (r n:List UInt32) (lX:X.length≤40000000000000) (lr:r.length≤40000000000000) (ln:n.length≤40000000000000) (hn:val n≠0) :
  F.Cx X Y inf r n=some (!inf&&decide (val X%val n=val r)):=by
 unfold F.Cx
 cases inf with
 | true=>rfl
 | false=>
  have l1:(ay (val X%val n)).length≤X.length:=cG (Nat.mod_le _ _) (bg (br X))
  rw [if_neg (by decide),kf X n lX ln,if_neg hn,ak]
  dsimp only
  rw [fY _ _ (by omega) (by omega),ak,aA,A8]
  rfl
def mG {c:Int} (P:Pt (cP c)) (r:Nat):Bool:=match P with
 | none=>false
 | some (x,_)=>decide (x.val%cN c=r)
theorem wE {c:Int} (P:Pt (cP c)) (r:List UInt32) (lr:r.length≤40000000000000):F.Cx (rep P).1 (rep P).2.1 (rep P).2.2 r (ay (cN c))=some (mG P (val r)):=by
 obtain ⟨n1,n2,n3,_,_⟩:=eo c
 have hl:(rep P).1.length≤12:=by
  cases P with
  | none=>exact Nat.zero_le _
  | some q=>obtain ⟨x,y⟩:=q; exact k6 c x
 rw [tw _ _ _ _ _ (by omega) lr (by omega) (by rw [aA]; omega)]
 cases P with
 | none=>rfl
 | some q=>
  obtain ⟨x,y⟩:=q
  show some (!false&&decide (val (rl x)%val (ay (cN c))=val r))=some (decide (x.val%cN c=val r))
  rw [jP,aA]
  rfl
noncomputable def qC {c:Int} (z r w:Nat) (Q:Pt (cP c)):Pt (cP c):=Ec.add (-3) (Ec.mul (-3) (z*w%cN c) (gP c)) (Ec.mul (-3) (r*w%cN c) Q)
noncomputable def okE {c:Int} (z r s:Nat) (Q:Pt (cP c)):Bool:=mG (qC z r (eQ c s) Q) r
def inN (c:Int) (r:Nat):Prop:=0<r∧r<cN c
instance (c:Int) (r:Nat):Decidable (inN c r):=inferInstanceAs (Decidable (0<r∧r<cN c))
noncomputable def iT (h c:Int) (x y m sig:List UInt8):Int:=
 if ¬isH h then 111 else if ¬((gm c x y).2.2.2=0) then 90 else if ¬(sig.length=2*nS c) then 91 else
 if ¬(inN c (beN (sig.take (nS c)))∧inN c (beN (sig.drop (nS c)))) then 91 else
 if okE (zN h c m) (beN (sig.take (nS c))) (beN (sig.drop (nS c))) (fc c (gm c x y).1 (gm c x y).2.1 (gm c x y).2.2.1)=true then 0 else 91
theorem ol {c:Int} {x y:List UInt8} (h:(gm c x y).2.2.2=0):isC c∧gm c x y=(ay (beN x),ay (beN y),false,0)∧onS c (ay (beN x)) (ay (beN y)) false=true∧x.length=nS c∧y.length=nS c:=by
 unfold gm at h ⊢
 split at h
 ·rename_i hc
  rw [if_pos hc]
  refine ⟨hc.1,rfl,?_,hc.2.1,hc.2.2.1⟩
  unfold onS
  rw [if_pos hc.1,aA,aA]
  exact hc.2.2.2
 ·exact absurd h (by decide)
theorem wi (b:Bool):F.Fh b=some (if b=true then 91 else 0):=by cases b <;> rfl
theorem kb {l:List UInt8} {k:Nat} (h:l.length≤k) (hk:k≤48):(ay (beN l)).length≤100:=by
 have h1:beN l<256^48:=Nat.lt_of_lt_of_le (gW l) (Nat.pow_le_pow_right (by decide) (by omega))
 exact bg (Nat.lt_of_lt_of_le h1 (by decide +kernel))
theorem oW {c:Int} {a k X Y:List UInt32} {q:Bool} (h:onS c X Y q=true) (ha:nb (val a)≤1024) (hk:nb (val k)≤1024) (la:a.length≤1000) (lk:k.length≤1000) (lX:X.length≤35184372087808) (lY:Y.length≤35184372087808) :
  F.CR c a k X Y q=some (res (Ec.add (-3) (Ec.mul (-3) (val a) (gP c)) (Ec.mul (-3) (val k) (fc c X Y q)))):=by
 rw [uv c a k X Y q (by omega) (by omega) lX lY,xG h ha hk]
theorem fx (h c:Int) (x y m sig:List UInt8) (hm:m.length≤900000000000000) (hs:sig.length≤140737488351232):F.BP h c x y m sig=some (iT h c x y m sig):=by
 obtain ⟨n1,n2,n3⟩:=nS4 c
 obtain ⟨c1,c2,c3,c4,c5⟩:=eo c
 unfold F.BP iT
 rw [rV,ak]
 by_cases hh:isH h
 ·have hz:=nX h
  rw [if_pos hh,if_neg (show ¬(((Sz h:Nat):Int) == 0)=true by rw [beq_iff_eq]; omega),if_neg (not_not_intro hh),vD,ak]
  by_cases hd:(gm c x y).2.2.2=0
  ·obtain ⟨hc,d1,d2,d3,d4⟩:=ol hd
   rw [if_neg (by rw [hd]; decide),if_neg (not_not_intro hd),me,ak,kr,ak,if_pos hc,if_pos hc,mY,show wI (2*((nS c:Nat):Int))=((2*nS c:Nat):Int) by rw [aQ (by omega) (by omega)]; omega]
   by_cases hl:sig.length=2*nS c
   ·have lt1:(sig.take (nS c)).length=nS c:=by rw [List.length_take]; omega
    have lt2:(sig.drop (nS c)).length=nS c:=by rw [List.length_drop]; omega
    have b1:=kb (Nat.le_of_eq lt1) n2
    have b2:=kb (Nat.le_of_eq lt2) n2
    have hso:slO sig ((nS c:Nat):Int) ((2*nS c:Nat):Int)=some (sig.drop (nS c)):=by
     unfold slO
     rw [if_pos ⟨by omega,by omega,by omega⟩,Int.toNat_natCast,Int.toNat_natCast,List.take_of_length_le (by omega)]
    rw [if_neg (by rw [hl]; simp),grd_true _ ⟨by omega,by omega,rfl⟩,hso,ak,Int.toNat_natCast,dC _ (by omega),ak,dC _ (by omega),ak,jv _ _ (by omega) (by omega),ak,aA,aA,
     if_neg (not_not_intro hl)]
    have k91:∀(x2:List UInt32×List UInt32×Bool×Int) (x10 x15 x18:List UInt32),F.DH h c m x2 x10 x15 x18 true=some 91:=fun _ _ _ _=>rfl
    by_cases hr:inN c (beN (sig.take (nS c)))
    ·have hr':0<beN (sig.take (nS c))∧beN (sig.take (nS c))<cN c:=hr
     rw [decide_eq_true hr',if_neg (by decide),jv _ _ (by omega) (by omega),ak,aA,aA]
     by_cases hs2:inN c (beN (sig.drop (nS c)))
     ·have hs':0<beN (sig.drop (nS c))∧beN (sig.drop (nS c))<cN c:=hs2
      rw [decide_eq_true hs',if_neg (not_not_intro ⟨hr,hs2⟩)]
      obtain ⟨w1,w2,w3⟩:=ot (c:=c) (ay (beN (sig.drop (nS c)))) (aA _) (by omega) hs'.1 hs'.2
      generalize hw:eQ c (beN (sig.drop (nS c)))=w at w1 w2 w3
      have nw:=et w1
      have lw:=cG (Nat.le_of_lt w1) c3
      have nr:=et hr'.2
      obtain ⟨z1,z2⟩:=yd h c m
      have m1:zN h c m*w%cN c<cN c:=Nat.mod_lt _ (by omega)
      have m2:beN (sig.take (nS c))*w%cN c<cN c:=Nat.mod_lt _ (by omega)
      have nm1:=et m1; have nm2:=et m2
      have lm1:=cG (Nat.le_of_lt m1) c3; have lm2:=cG (Nat.le_of_lt m2) c3
      unfold F.DH
      rw [if_neg (by decide),w3,ak,nY h c hh hc m hm,ak]
      dsimp only
      rw [lU _ _ _ c1 c2 (by rw [aA]; omega) (by rw [aA]; omega) (by omega) (by omega) (by omega),ak]
      rw [lU _ _ _ c1 c2 (by rw [aA]; omega) (by rw [aA]; omega) (by omega) (by omega) (by omega),ak,aA,aA,aA,d1]
      dsimp only
      rw [oW d2 (by rw [aA]; omega) (by rw [aA]; omega) (by omega) (by omega) (by have:=kb (Nat.le_of_eq d3) n2; omega) (by have:=kb (Nat.le_of_eq d4) n2; omega),ak,aA,aA]
      show (if ((0:Int) != 0)=true then _ else an (F.Cx (rep _).1 (rep _).2.1 (rep _).2.2 _ _) _)=_
      rw [if_neg (by decide),wE _ _ (by omega),ak,wi,aA]
      unfold okE qC
      rw [hw]
      cases mG (Ec.add (-3) (Ec.mul (-3) (zN h c m*w%cN c) (gP c)) (Ec.mul (-3) (beN (sig.take (nS c))*w%cN c) (fc c (ay (beN x)) (ay (beN y)) false))) (beN (sig.take (nS c))) <;> rfl
     ·rw [decide_eq_false (show ¬(0<beN (sig.drop (nS c))∧beN (sig.drop (nS c))<cN c) from hs2),if_pos (fun q=>hs2 q.2)]; exact k91 _ _ _ _
    ·rw [decide_eq_false (show ¬(0<beN (sig.take (nS c))∧beN (sig.take (nS c))<cN c) from hr),if_pos (by decide),if_pos (fun q=>hr q.1)]; exact k91 _ _ _ _
   ·rw [if_pos (by rw [bne_iff_ne]; omega),if_pos hl]
  ·rw [if_pos (by rw [bne_iff_ne]; exact hd),if_pos hd]
 ·rw [if_neg hh,if_pos (by decide),if_pos hh]
end Go.Gk.Bn
end

section
namespace Go.Gk.Bn
open Go Go.Gk Go.Gk.Sh Go.Gk.Ec Go.Gk.Pr
noncomputable def fE {c:Int} (z r s:Nat) (R:Pt (cP c)):Pt (cP c):=Ec.add (-3) (Ec.mul (-3) ((cN c - z*eQ c r%cN c)%cN c) (gP c)) (Ec.mul (-3) (s*eQ c r%cN c) R)
noncomputable def xh {c:Int} (Q:Pt (cP c)):List UInt8×List UInt8×Int:=match Q with
 | none=>([],[],91)
 | some (x,y)=>(beB (nS c) x.val,beB (nS c) y.val,0)
noncomputable def up (h c:Int) (m:List UInt8) (r s:Nat) (X Y:List UInt32) (inf:Bool):List UInt8×List UInt8×Int:=
 if ¬isH h then ([],[],111) else if ¬isC c then ([],[],90) else if ¬(inf=false∧onS c X Y inf=true) then ([],[],93) else
 if ¬(inN c r∧inN c s∧val X%cN c=r) then ([],[],91) else xh (fE (zN h c m) r s (fc c X Y inf))
theorem sa (h c:Int) (m:List UInt8) (r s X Y:List UInt32) (inf:Bool) (hm:m.length≤900000000000000) (lr:r.length≤35184372087808) (ls:s.length≤35184372087808) (lX:X.length≤35184372087808) (lY:Y.length≤35184372087808) :
  F.Ff h c m r s X Y inf=some (up h c m (val r) (val s) X Y inf):=by
 obtain ⟨n1,n2,n3⟩:=nS4 c
 obtain ⟨c1,c2,c3,c4,c5⟩:=eo c
 unfold F.Ff up
 rw [rV,ak]
 by_cases hh:isH h
 ·have hz:=nX h
  rw [if_pos hh,if_neg (show ¬(((Sz h:Nat):Int) == 0)=true by rw [beq_iff_eq]; omega),if_neg (not_not_intro hh),me,ak]
  by_cases hc:isC c
  ·rw [if_pos hc,mY,if_neg (show ¬(((nS c:Nat):Int) == 0)=true by rw [beq_iff_eq]; omega),if_neg (not_not_intro hc)]
   cases inf with
   | true=>rw [if_pos rfl,if_pos (fun q=>by cases q.1)]; rfl
   | false=>
    rw [if_neg (by decide),AP c X Y false lX lY,ak]
    unfold F.EP
    by_cases ho:onS c X Y false=true
    ·rw [ho,if_neg (by decide),if_neg (not_not_intro ⟨rfl,rfl⟩),kr,ak,if_pos hc,jv _ _ (by omega) (by omega),ak,aA]
     have k91:F.Dj h c m r s X Y false (ay (cN c)) true=some ([],[],91):=rfl
     by_cases hr:inN c (val r)
     ·have hr':0<val r∧val r<cN c:=hr
      rw [decide_eq_true hr',if_neg (by decide),jv _ _ (by omega) (by omega),ak,aA]
      by_cases hs:inN c (val s)
      ·have hs':0<val s∧val s<cN c:=hs
       rw [decide_eq_true hs',if_neg (by decide),tw _ _ _ _ _ (by omega) (by omega) (by omega) (by rw [aA]; omega),ak,aA]
       by_cases hf:val X%cN c=val r
       ·obtain ⟨w1,w2,w3⟩:=ot (c:=c) r rfl (by omega) hr'.1 hr'.2
        have nw:=et w1
        have lw:=cG (Nat.le_of_lt w1) c3
        have ns:=et hs'.2
        obtain ⟨z1,z2⟩:=yd h c m
        have m1:zN h c m*eQ c (val r)%cN c<cN c:=Nat.mod_lt _ (by omega)
        have m2:val s*eQ c (val r)%cN c<cN c:=Nat.mod_lt _ (by omega)
        have m3:(cN c - zN h c m*eQ c (val r)%cN c)%cN c<cN c:=Nat.mod_lt _ (by omega)
        have nm1:=et m1; have nm2:=et m2; have nm3:=et m3
        have lm1:=cG (Nat.le_of_lt m1) c3; have lm2:=cG (Nat.le_of_lt m2) c3; have lm3:=cG (Nat.le_of_lt m3) c3
        rw [decide_eq_true hf,if_neg (not_not_intro ⟨hr,hs,hf⟩)]
        unfold F.Dj
        rw [if_neg (by decide),w3,ak]
        dsimp only
        rw [lU _ _ _ c1 c2 (by omega) (by rw [aA]; omega) (by omega) (by omega) (by omega),ak,nY h c hh hc m hm,ak]
        rw [lU _ _ _ c1 c2 (by rw [aA]; omega) (by rw [aA]; omega) (by omega) (by omega) (by omega),ak,aA,aA]
        dsimp only
        rw [yB _ _ c1 c2 (by rw [aA]; omega) (by omega) (by omega),ak,aA,Nat.mod_mod]
        dsimp only
        rw [oW ho (by rw [aA]; omega) (by rw [aA]; omega) (by omega) (by omega) lX lY,ak,aA,aA]
        have hon:=qy ho
        have hQ:On (-3) (bF c) (fE (zN h c m) (val r) (val s) (fc c X Y false)):=(ccv c).on_add ((ccv c).on_mul (fM c hc) _) ((ccv c).on_mul hon _)
        show (if ((0:Int) != 0)=true then _ else F.Dn c (res (fE (zN h c m) (val r) (val s) (fc c X Y false))) (rep (fE (zN h c m) (val r) (val s) (fc c X Y false))).2.2)=_
        rw [if_neg (by decide)]
        generalize fE (zN h c m) (val r) (val s) (fc c X Y false)=Q at hQ
        cases Q with
        | none=>rfl
        | some q=>
         obtain ⟨x,y⟩:=q
         have l1:=k6 c x
         have l2:=k6 c y
         have h3:=oB hc hQ
         have h3':onS c (rl x) (rl y) false=true:=h3
         show F.Dn c (rl x,rl y,false,0) false=some (beB (nS c) x.val,beB (nS c) y.val,0)
         unfold F.Dn
         rw [if_neg (by decide)]
         dsimp only
         rw [uW c _ _ _ (by omega) (by omega),ak]
         unfold xW
         rw [if_pos ⟨h3',rfl⟩,jP,jP]
       ·rw [decide_eq_false hf,if_pos (fun q=>hf q.2.2)]; exact k91
      ·rw [decide_eq_false (show ¬(0<val s∧val s<cN c) from hs),if_pos (by decide),if_pos (fun q=>hs q.2.1)]; exact k91
     ·rw [decide_eq_false (show ¬(0<val r∧val r<cN c) from hr),if_pos (by decide),if_pos (fun q=>hr q.1)]; exact k91
    ·rw [Bool.eq_false_iff.2 ho,if_pos (by decide),if_pos (fun q=>by cases q.2)]
  ·rw [if_neg hc,if_pos (by decide),if_pos hc]
 ·rw [if_neg hh,if_pos (by decide),if_pos hh]
theorem oU (a:List UInt32) (m:Nat) (ha:a.length≤35184372087808) (hm:m≤16384) (hv:val a<256^m):F.Et a (m:Int)=some (beB m (val a),true):=by
 have hb:nb (val a)≤32*a.length:=Nat.le_trans (iS _) (Nat.mul_le_mul_left 32 (bg (br a)))
 have hk:(nb (val a)+7) / 8≤m:=vc hv
 obtain ⟨k,v1,v2,v3⟩:=dn a (by omega)
 have hl:(ay (val a)).length≤a.length:=bg (br a)
 have hmk:mkO 1 (m:Int) (m:Int) (0:UInt8)=some (List.replicate m 0):=by
  unfold mkO
  rw [if_pos ⟨by omega,by omega,by omega,by omega⟩,Int.toNat_natCast]
 unfold F.Et
 rw [if_neg (by rw [decide_eq_true_eq]; omega),if_neg (by rw [decide_eq_true_eq]; omega),fa a (by omega),ak,aQ (x:=((nb (val a):Nat):Int)+7) (by omega) (by omega),Int.tdiv_eq_ediv_of_nonneg (by omega),aQ (by omega) (by omega),
  decide_eq_false (show ¬(m:Int)<(((nb (val a):Nat):Int)+7) / 8 by omega)]
 unfold F.Ee
 rw [if_neg (by decide),hmk,ak,v1,ak,v3,tj _ _ (by rw [List.length_replicate]; omega) (by omega),ak,List.length_replicate,aA]
theorem pd (r s:List UInt32) (m:Nat) (lr:r.length≤35184372087808) (ls:s.length≤35184372087808) (hm:m≤16384) (hr:val r<256^m) (hs:val s<256^m):F.Ej r s (m:Int)=some (beB m (val r)++beB m (val s),true):=by
 have e1:apO 1 [] (beB m (val r))=some (beB m (val r)):=by
  unfold apO
  rw [if_pos (by rw [cO,List.length_nil]; omega),List.nil_append]
 have e2:apO 1 (beB m (val r)) (beB m (val s))=some (beB m (val r)++beB m (val s)):=by
  unfold apO
  rw [if_pos (by rw [cO,cO]; omega)]
 unfold F.Ej
 rw [oU r m lr hm hr,ak,oU s m ls hm hs,ak,e1,ak,e2,ak,if_pos rfl]
theorem AK (c:Int):cN c<256^nS c:=by
 unfold cN nS
 split <;> decide +kernel
theorem j7 {c:Int} {r:Nat} (h:r<cN c):r<256^nS c:=Nat.lt_trans h (AK c)
theorem kA {m n:Nat} (h:n<256^m):beN (beB m n)=n:=by
 rw [iK,Nat.mod_eq_of_lt h]
theorem o8 {c:Int} {r s:Nat} (hr:r<cN c) (hs:s<cN c):(beB (nS c) r++beB (nS c) s).length=2*nS c∧beN ((beB (nS c) r++beB (nS c) s).take (nS c))=r∧beN ((beB (nS c) r++beB (nS c) s).drop (nS c))=s:=by
 have l1:(beB (nS c) r).length=nS c:=cO _ _
 have l2:(beB (nS c) s).length=nS c:=cO _ _
 refine ⟨by rw [List.length_append,l1,l2]; omega,?_,?_⟩
 ·rw [List.take_left' l1,kA (j7 hr)]
 ·rw [List.drop_left' l1,kA (j7 hs)]
end Go.Gk.Bn
end

section
namespace Go.Gk.Bn
open Go Go.Gk Go.Gk.Sh Go.Gk.Ec Go.Gk.Pr
theorem zw {c:Int} (P:Pt (cP c)) (r:Nat):mG (neg P) r=mG P r:=by
 cases P with
 | none=>rfl
 | some q=>obtain ⟨x,y⟩:=q; rfl
theorem t7 {n s w:Nat} (h1:1<n) (h:s*w%n=1):0<w:=by
 rcases Nat.eq_zero_or_pos w with h0 | h0
 ·rw [h0,Nat.mul_zero,Nat.zero_mod]at h; omega
 ·exact h0
theorem xY {c:Int} {s:Nat} (h0:0<s) (h:s<cN c):eQ c (cN c - s)=cN c - eQ c s:=by
 obtain ⟨w1,w2⟩:=gU h0 h
 have n1:=(eo c).1
 have w0:=t7 n1 w2
 exact oG (by omega) (x4 n1 (by omega) (by omega) w2)
theorem zu {c:Int} (hc:isC c) {z r s:Nat} {Q:Pt (cP c)} (hQ:On (-3) (bF c) Q) (h0:0<s) (h:s<cN c):okE z r (cN c - s) Q=okE z r s Q:=by
 obtain ⟨w1,w2⟩:=gU h0 h
 unfold okE qC
 rw [xY h0 h,wh hc (fM c hc) hQ (by omega),zw]
theorem yX {c:Int} (hc:isC c) {z r s:Nat} {R:Pt (cP c)} (hR:On (-3) (bF c) R) (hr:inN c r) (hs:inN c s):okE z r s (fE z r s R)=mG R r:=by
 obtain ⟨w1,w2⟩:=gU hr.1 hr.2
 obtain ⟨v1,v2⟩:=gU hs.1 hs.2
 unfold okE qC fE
 rw [wm hc (fM c hc) hR w2 v2]
theorem zi {c:Int} (hc:isC c) {z r:Nat}:fE z r 1 (gP c)=Ec.mul (-3) ((cN c - z*eQ c r%cN c)%cN c+eQ c r%cN c) (gP c):=by
 unfold fE
 rw [(ccv c).mul_add (fM c hc),Nat.one_mul]
theorem yA {n z z' r w:Nat} (h1:1<n) (hw:r*w%n=1):(z'*1%n+r*1%n*((n - z*w%n)%n+w%n))%n=(z'+(n - z%n)+1)%n:=by
 have a1:r*((n - z*w%n)%n)%n=(n - z%n)%n:=by
  refine mu (v:=z%n) ?_
  have e1:r*((n - z*w%n)%n)%n=r*(n - z*w%n)%n:=Nat.mul_mod_mod _ _ _
  have e2:(r*(n - z*w%n)+r*(z*w%n))%n=0:=by
   rw [←Nat.mul_add,Nat.sub_add_cancel (Nat.le_of_lt (Nat.mod_lt _ (by omega))),Nat.mul_mod_left]
  have e3:r*(z*w%n)%n=z%n:=td hw
  have e4:(n - z%n+z%n)%n=0:=by rw [Nat.sub_add_cancel (Nat.le_of_lt (Nat.mod_lt _ (by omega))),Nat.mod_self]
  rw [e4,Nat.add_mod,e1,←e3,Nat.mod_mod,←Nat.add_mod,e2]
 have a2:r*(w%n)%n=1:=by rw [Nat.mul_mod_mod,hw]
 have a3:r*((n - z*w%n)%n+w%n)%n=(n - z%n+1)%n:=by rw [Nat.mul_add,Nat.add_mod,a1,a2,Nat.mod_add_mod]
 rw [Nat.mul_one,Nat.mul_one,Nat.mod_add_mod,Nat.add_mod z',Nat.mod_mul_mod,a3,←Nat.add_mod,Nat.add_assoc z']
theorem y5 {c:Int} (hc:isC c) {x y:Fin (cP c)} (h:On (-3) (bF c) (some (x,y))):onN (cP c) (cB c) x.val y.val=true:=by
 have h3:onS c (rl x) (rl y) false=true:=oB hc h
 have:=(n7 h3).2.2
 rwa [jP,jP]at this
theorem zb {c:Int} (hc:isC c) {x y:Fin (cP c)} (h:On (-3) (bF c) (some (x,y))):gm c (beB (nS c) x.val) (beB (nS c) y.val)=(rl x,rl y,false,0):=by
 have hp:=tr c hc
 have e1:=kA (Nat.lt_trans x.isLt hp)
 have e2:=kA (Nat.lt_trans y.isLt hp)
 unfold gm
 rw [e1,e2,if_pos ⟨hc,cO _ _,cO _ _,y5 hc h⟩]
 rfl
theorem sL {h c:Int} (hh:isH h) (hc:isC c) {x y:Fin (cP c)} (hQ:On (-3) (bF c) (some (x,y))) (m:List UInt8) {r s:Nat} (hr:inN c r) (hs:inN c s) :
  iT h c (beB (nS c) x.val) (beB (nS c) y.val) m (beB (nS c) r++beB (nS c) s)=if okE (zN h c m) r s (some (x,y))=true then 0 else 91:=by
 obtain ⟨j1,j2,j3⟩:=o8 (c:=c) hr.2 hs.2
 have ht:fc c (rl x) (rl y) false=some (x,y):=rU (some (x,y))
 unfold iT
 rw [if_neg (not_not_intro hh),zb hc hQ,if_neg (not_not_intro rfl),if_neg (not_not_intro j1),j2,j3,if_neg (not_not_intro ⟨hr,hs⟩),ht]
theorem sJ:zN 1 1 [97,98,99]=beN qG:=by
 unfold zN
 rw [yo]
 rfl
theorem yE:zN 1 1 [97,98,100]=beN tQ:=by
 unfold zN
 rw [y9]
 rfl
theorem yZ:beN qG%cN 1≠1:=by decide +kernel
theorem AT:inN 1 (cX 1)∧inN 1 1:=⟨by decide +kernel,by decide +kernel⟩
theorem AQ (c:Int):gP c≠none:=fun h=>by cases h
theorem Ap {c:Int} (hc:isC c) {z r s:Nat} {R:Pt (cP c)} (hR:On (-3) (bF c) R):On (-3) (bF c) (fE z r s R):=(ccv c).on_add ((ccv c).on_mul (fM c hc) _) ((ccv c).on_mul hR _)
theorem xf (c:Int) (r1:inN c (cX c)):mG (c:=c) (gP c) (cX c)=true:=by
 show decide ((fz (p:=cP c) (cX c:Int)).val%cN c=cX c)=true
 rw [kU _ (db c).2.2.2.1,Nat.mod_eq_of_lt r1.2,decide_eq_true rfl]
theorem zE (c:Int) (hc:isC c) (r1:inN c (cX c)) (r2:inN c 1) (z z' k:Nat) (hz:z%cN c≠1) (hk:(z'+(cN c - z%cN c)+1)%cN c=k) (hne:∀x y,Ec.mul (-3) k (gP c)=some (x,y)→x.val%cN c≠cX c) :
  ∃x y:Fin (cP c),fE z (cX c) 1 (gP c)=some (x,y)∧On (-3) (bF c) (some (x,y))∧okE z (cX c) 1 (some (x,y))=true∧okE z' (cX c) 1 (some (x,y))=false:=by
 have C:=ccv c
 have hG:=fM c hc
 obtain ⟨c1,c2,c3,c4,c5⟩:=eo c
 obtain ⟨w1,w2⟩:=gU r1.1 r1.2
 have hQ:=Ap (z:=z) (r:=cX c) (s:=1) hc hG
 have hn:fE z (cX c) 1 (gP c)≠none:=by
  intro q
  have e:=vm hc hG hG w2 q
  rw [←ko hc hG z]at e
  have:=C.mul_inj hG (gH c) (AQ c) (jV c hc hG) c1 (Nat.mod_lt _ (Nat.lt_trans Nat.zero_lt_one c1)) e
  exact hz this.symm
 have habc:okE z (cX c) 1 (fE z (cX c) 1 (gP c))=true:=by rw [yX hc hG r1 r2,xf c r1]
 have habd:okE z' (cX c) 1 (fE z (cX c) 1 (gP c))=false:=by
  unfold okE qC
  have i1:eQ c 1=1:=oG c1 (by rw [Nat.one_mul,Nat.mod_eq_of_lt c1])
  have hk2:k%cN c=k:=by rw [←hk,Nat.mod_mod]
  rw [i1,zi hc,←C.mul_mul hG,←C.mul_add hG,gZ (l:=k) hc hG (by rw [yA c1 w2,hk,hk2])]
  cases hm:Ec.mul (-3) k (gP c) with
  | none=>rfl
  | some q=>
   obtain ⟨x,y⟩:=q
   exact decide_eq_false (hne x y hm)
 cases hq:fE z (cX c) 1 (gP c) with
 | none=>exact absurd hq hn
 | some q=>
  obtain ⟨x,y⟩:=q
  rw [hq]at hQ habc habd
  exact ⟨x,y,rfl,hQ,habc,habd⟩
theorem qQ (c:Int):val (rep (gP c)).1=cX c:=by
 show val (rl (fz (p:=cP c) (cX c:Int)))=cX c
 rw [jP,kU _ (db c).2.2.2.1]
theorem xp {h c:Int} (hh:isH h) (hc:isC c) (r1:inN c (cX c)) (r2:inN c 1) (m:List UInt8):up h c m (cX c) 1 (rep (gP c)).1 (rep (gP c)).2.1 (rep (gP c)).2.2=xh (fE (zN h c m) (cX c) 1 (gP c)):=by
 unfold up
 rw [if_neg (not_not_intro hh),if_neg (not_not_intro hc),if_neg (not_not_intro ⟨rfl,oB hc (fM c hc)⟩),if_neg (not_not_intro ⟨r1,r2,by rw [qQ,Nat.mod_eq_of_lt r1.2]⟩),rU]
theorem t9:F.E1=some true:=by
 have hc:isC 1:=.inl rfl
 have hh:isH 1:=.inl rfl
 obtain ⟨c1,c2,c3,c4,c5⟩:=eo 1
 obtain ⟨r1,r2⟩:=AT
 have lG:=y4 1 (gP 1)
 have l1:val [1]=1:=rfl
 have lX:=cG (Nat.le_of_lt r1.2) c3
 obtain ⟨x,y,hq,hQ,habc,habd⟩:=zE 1 hc r1 r2 (beN qG) (beN tQ) kAw yZ Af (fun x y h=>AJ h)
 have b1:(beB (nS 1) x.val).length=32:=cO _ _
 have b2:(beB (nS 1) y.val).length=32:=cO _ _
 have b3:(beB (nS 1) (cX 1)++beB (nS 1) 1).length=64:=by rw [List.length_append,cO,cO]; rfl
 have hj:=pd (ay (cX 1)) [1] (nS 1) (Nat.le_trans lX (by decide)) (by decide) (by decide) (by rw [aA]; exact j7 r1.2) (by rw [l1]; exact j7 r2.2)
 have hr:=sa 1 1 [97,98,99] (ay (cX 1)) [1] (rep (gP 1)).1 (rep (gP 1)).2.1 (rep (gP 1)).2.2 (by decide) (Nat.le_trans lX (by decide)) (by decide) (Nat.le_trans lG.1 (by decide)) (Nat.le_trans lG.2 (by decide))
 rw [aA,l1,xp hh hc r1 r2,sJ,hq]at hr
 rw [aA,l1]at hj
 have v1:=fx 1 1 (beB (nS 1) x.val) (beB (nS 1) y.val) [97,98,99] (beB (nS 1) (cX 1)++beB (nS 1) 1) (by decide) (by rw [b3]; decide)
 have v2:=fx 1 1 (beB (nS 1) x.val) (beB (nS 1) y.val) [97,98,100] (beB (nS 1) (cX 1)++beB (nS 1) 1) (by decide) (by rw [b3]; decide)
 rw [sL hh hc hQ _ r1 r2,sJ,if_pos habc]at v1
 rw [sL hh hc hQ _ r1 r2,yE,habd,if_neg Bool.false_ne_true]at v2
 unfold F.E1
 rw [wZ 1 hc,ak,kr,if_pos hc,ak,kf _ _ (Nat.le_trans lG.1 (by decide)) (Nat.le_trans c3 (by decide)),aA,if_neg (Nat.ne_of_gt (Nat.lt_trans Nat.zero_lt_one c1)),ak,qQ,Nat.mod_eq_of_lt r1.2]
 dsimp only
 rw [hr,ak,show (32:Int)=((nS 1:Nat):Int) from rfl,hj,ak]
 unfold xh
 dsimp only
 rw [if_neg (by decide),if_neg (by decide),if_neg (by decide),b1,b2,if_neg (by decide)]
 show F.B3 _ _ false=_
 unfold F.B3
 rw [if_neg (by decide)]
 dsimp only
 rw [v1,ak,if_pos (by decide),v2,ak]
 rfl
theorem iQ {h c:Int} {x y m sig:List UInt8} (hq:iT h c x y m sig=0):isH h∧isC c∧sig.length=2*nS c∧inN c (beN (sig.take (nS c)))∧inN c (beN (sig.drop (nS c))):=by
 unfold iT at hq
 by_cases h1:isH h
 ·rw [if_neg (not_not_intro h1)]at hq
  by_cases h2:(gm c x y).2.2.2=0
  ·rw [if_neg (not_not_intro h2)]at hq
   by_cases h3:sig.length=2*nS c
   ·rw [if_neg (not_not_intro h3)]at hq
    by_cases h4:inN c (beN (sig.take (nS c)))∧inN c (beN (sig.drop (nS c)))
    ·exact ⟨h1,(ol h2).1,h3,h4.1,h4.2⟩
    ·rw [if_pos h4]at hq; cases hq
   ·rw [if_pos h3]at hq; cases hq
  ·rw [if_pos h2]at hq; cases hq
 ·rw [if_pos h1]at hq; cases hq
theorem vw {a:Int} (h:a≠0):(a != 0)=true:=by rw [bne_iff_ne]; exact h
theorem law12_EcdsaTwins_eq (h c:Int) (x y m sig:List UInt8) (hx:x.length≤140737488351232) (hy:y.length≤140737488351232) (hm:m.length≤140737488351232) (hs:sig.length≤140737488351232):F.FE h c x y m sig=some true:=by
 obtain ⟨n1,n2,n3⟩:=nS4 c
 obtain ⟨c1,c2,c3,c4,c5⟩:=eo c
 have kT:∀(x2:Int) (x3:List UInt32),iT h c x y m sig≠0→F.Df h c x y m sig x2 x3 true=some true:=fun x2 x3 hv=>by
  unfold F.Df
  rw [if_pos rfl,fx _ _ _ _ _ _ (by omega) hs,ak,vw hv]
 have kT2:∀(x2:Int) (x3 x11 x15:List UInt32),iT h c x y m sig≠0→F.BY h c x y m sig x2 x3 x11 x15 true=some true:=fun x2 x3 x11 x15 hv=>by
  unfold F.BY
  rw [if_pos rfl,fx _ _ _ _ _ _ (by omega) hs,ak,vw hv]
 unfold F.FE
 rw [t9,ak,if_neg (by decide),me,ak,kr,ak]
 by_cases hc:isC c
 ·rw [if_pos hc,if_pos hc,mY,if_neg (show ¬(((nS c:Nat):Int) == 0)=true by rw [beq_iff_eq]; omega),show wI (2*((nS c:Nat):Int))=((2*nS c:Nat):Int) by rw [aQ (by omega) (by omega)]; omega]
  by_cases hl:sig.length=2*nS c
  ·rw [show ((sig.length:Int) != ((2*nS c:Nat):Int))=false by rw [hl]; simp]
   have lt1:(sig.take (nS c)).length=nS c:=by rw [List.length_take]; omega
   have lt2:(sig.drop (nS c)).length=nS c:=by rw [List.length_drop]; omega
   have b1:=kb (Nat.le_of_eq lt1) n2
   have b2:=kb (Nat.le_of_eq lt2) n2
   have t1:tkO sig ((nS c:Nat):Int)=some (sig.take (nS c)):=by unfold tkO; rw [if_pos ⟨by omega,by omega⟩,Int.toNat_natCast]
   have t2:drO sig ((nS c:Nat):Int)=some (sig.drop (nS c)):=by unfold drO; rw [if_pos ⟨by omega,by omega⟩,Int.toNat_natCast]
   unfold F.Df
   rw [if_neg (by decide),t1,ak,dC _ (by omega),ak,t2,ak,dC _ (by omega),ak,fa _ (by omega),ak,aA]
   generalize hR:beN (sig.take (nS c))=r at *
   generalize hS:beN (sig.drop (nS c))=s at *
   by_cases r0:r=0
   ·rw [r0,ee,if_pos (by decide)]
    exact kT2 _ _ _ _ fun q=>by have:=(iQ q).2.2.2.1.1; rw [hR]at this; omega
   ·have:=(cC r).2 r0
    rw [if_neg (by rw [beq_iff_eq]; omega),fa _ (by omega),ak,aA]
    by_cases s0:s=0
    ·rw [s0,ee,if_pos (by decide)]
     exact kT2 _ _ _ _ fun q=>by have:=(iQ q).2.2.2.2.1; rw [hS]at this; omega
    ·have:=(cC s).2 s0
     rw [if_neg (by rw [beq_iff_eq]; omega),fY _ _ (by omega) (by omega),ak,aA,aA]
     by_cases rn:r<cN c
     ·have d1:¬0≤c9 r (cN c):=by unfold c9; rw [if_pos rn]; decide
      rw [if_neg (by rw [decide_eq_true_eq]; exact d1),fY _ _ (by omega) (by omega),ak,aA,aA]
      by_cases sn:s<cN c
      ·have d2:¬0≤c9 s (cN c):=by unfold c9; rw [if_pos sn]; decide
       have hr:inN c r:=⟨by omega,rn⟩
       have hs':inN c s:=⟨by omega,sn⟩
       have ht:inN c (cN c - s):=⟨by omega,by omega⟩
       have lns:=cG (show cN c - s≤cN c by omega) c3
       rw [decide_eq_false d2]
       unfold F.BY
       rw [if_neg (by decide),j8 _ _ (by omega) (by omega),aA,aA,if_neg (by omega),ak]
       dsimp only
       rw [pd _ _ (nS c) (by omega) (by omega) (by omega) (by rw [aA]; exact j7 rn) (by rw [aA]; exact j7 ht.2),ak,aA,aA]
       obtain ⟨j1,j2,j3⟩:=o8 (c:=c) rn ht.2
       rw [fx _ _ _ _ _ _ (by omega) hs,ak,fx _ _ _ _ _ _ (by omega) (by dsimp only; omega),ak,if_pos rfl,if_pos rfl]
       have e:iT h c x y m sig=iT h c x y m (beB (nS c) r++beB (nS c) (cN c - s)):=by
        unfold iT
        by_cases h1:isH h
        ·rw [if_neg (not_not_intro h1),if_neg (not_not_intro h1)]
         by_cases h2:(gm c x y).2.2.2=0
         ·obtain ⟨_,e1,e2,_,_⟩:=ol h2
          rw [if_neg (not_not_intro h2),if_neg (not_not_intro h2),if_neg (not_not_intro hl),if_neg (not_not_intro j1),hR,hS,j2,j3,if_neg (not_not_intro ⟨hr,hs'⟩),if_neg (not_not_intro ⟨hr,ht⟩),e1]
          dsimp only
          rw [zu hc (qy e2) hs'.1 hs'.2]
         ·rw [if_pos h2,if_pos h2]
        ·rw [if_pos h1,if_pos h1]
       rw [e,beq_self_eq_true]
      ·have d2:0≤c9 s (cN c):=by unfold c9; rw [if_neg sn]; split <;> decide
       rw [decide_eq_true d2]
       exact kT2 _ _ _ _ fun q=>by have:=(iQ q).2.2.2.2.2; rw [hS]at this; omega
     ·have d1:0≤c9 r (cN c):=by unfold c9; rw [if_neg rn]; split <;> decide
      rw [if_pos (decide_eq_true d1)]
      exact kT2 _ _ _ _ fun q=>by have:=(iQ q).2.2.2.1.2; rw [hR]at this; omega
  ·rw [show ((sig.length:Int) != ((2*nS c:Nat):Int))=true by rw [bne_iff_ne]; omega]
   exact kT _ _ fun q=>hl (iQ q).2.2.1
 ·rw [if_neg hc,if_neg hc,if_pos (by decide)]
  exact kT _ _ fun q=>hc (iQ q).2.1
end Go.Gk.Bn
end
