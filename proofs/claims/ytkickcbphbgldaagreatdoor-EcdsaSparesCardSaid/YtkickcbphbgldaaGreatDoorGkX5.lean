import Derived.Test.YtkickcbphbgldaaGreatDoorGkX0
import Derived.Test.YtkickcbphbgldaaGreatDoorGkFman
set_option linter.unusedVariables false
set_option linter.unusedSimpArgs false
set_option linter.unusedSectionVars false

section
namespace Go.Gk.Bn
open Go Go.Gk Go.Gk.Sh Go.Gk.Ec Go.Gk.Pr
theorem qC {n:Nat} (h:nb n≤4096):(aA n).length≤128:=by
 have h1:=(c6 n).1
 have h2:=Nat.pow_le_pow_right (show 0<2 by decide) (show nb n≤32*128 by omega)
 refine bm ?_
 rw [show (4294967296:Nat)=2^32 from rfl,←Nat.pow_mul]
 exact Nat.lt_of_lt_of_le h1 h2
theorem l9 (a b:List UInt32) (m:Nat) (h1:1<m) (hm:nb m≤4096) (ha:nb (val a)≤4096) (hb:nb (val b)≤4096) (la:a.length≤40000000000000) (lb:b.length≤40000000000000) (lm:(aA m).length≤900) :
  F.CM a b (aA m)=some (aA (val a*val b%m),0):=by
 have l1:=qC ha
 have l2:=qC hb
 have hs:(aA (val a*val b)).length≤256:=bm (by
  have e1:=bB (aA (val a)); have e2:=bB (aA (val b))
  rw [aE]at e1 e2
  have:=Nat.mul_lt_mul'' e1 e2
  rw [←Nat.pow_add]at this
  exact Nat.lt_of_lt_of_le this (Nat.pow_le_pow_right (by decide) (by omega)))
 unfold F.CM
 rw [rU ha hb (by rw [aE]; omega) (by rw [aE]; omega) (by omega) (by omega) (by omega),ak,if_neg (by decide),y8 _ _ (by omega) (by omega) (by omega),ak,
  i6 _ _ (by omega) (by omega) (by rw [aE]; omega),ak,aE,aE]
theorem zG (b:List UInt32) (m:Nat) (h1:1<m) (hm:nb m≤4096) (hb:nb (val b)≤4096) (lb:b.length≤1000) (lm:(aA m).length≤900) :
  F.E6 [] b (aA m)=some (aA ((m - val b%m)%m),0):=by
 have h0:(aA 0)=[]:=bG
 have e:=mV (x:=0) (y:=val b%m) (m:=m) (by omega) (Nat.mod_lt _ (by omega)) (by omega) (aA m) (aE m) (by omega)
 rw [h0,Nat.add_zero]at e
 unfold F.E6
 rw [rU (by rw [dl,fc]; omega) hb (by rw [aE]; omega) (by rw [aE]; omega) (by decide) (by omega) (by omega),ak,if_neg (by decide),
  i6 _ _ (by decide) (by omega) (by rw [aE]; omega),ak,i6 _ _ (by omega) (by omega) (by rw [aE]; omega),ak,aE,dl,Nat.zero_mod,h0,e,ak]
theorem eW (c:Int):1<cN c∧nb (cN c)≤4096∧(aA (cN c)).length≤12∧cN c<cP c∧cP c<4294967296^12:=by
 have h:=dg c
 have l:=tK c (Nat.le_of_lt h.2.2.1)
 exact ⟨(gN c).1,Nat.le_trans (yE l) (by decide),l,h.2.2.1,h.1⟩
theorem AH (c:Int):cN c%2=1:=by
 unfold cN
 split <;> decide +kernel
theorem Ad {c:Int} {s:Nat} (h0:0<s) (h:s<cN c):Nat.gcd s (cN c)=1:=by
 rw [Nat.gcd_comm]
 exact (gN c).coprime fun hd=>by have:=Nat.le_of_dvd h0 hd; omega
theorem eu {c:Int} {s:Nat} (h:s<cN c):nb s≤384:=by
 have h1:=yE (cL (Nat.le_of_lt h) (eW c).2.2.1)
 omega
theorem uJ {n s w v:Nat} (hw:w<n) (hv:v<n) (h1:s*w%n=1) (h2:s*v%n=1):w=v:=by
 have e1:s*w*v%n=v%n:=by rw [Nat.mul_mod,h1,Nat.one_mul,Nat.mod_mod]
 have e2:s*w*v%n=w%n:=by rw [show s*w*v=(s*v)*w by rw [Nat.mul_assoc,Nat.mul_comm w,←Nat.mul_assoc],Nat.mul_mod,h2,Nat.one_mul,Nat.mod_mod]
 rw [e1,Nat.mod_eq_of_lt hv,Nat.mod_eq_of_lt hw]at e2
 exact e2.symm
open Classical in
noncomputable def fq (c:Int) (s:Nat):Nat:=if h:∃w,w<cN c∧s*w%cN c=1 then Classical.choose h else 0
theorem tM {c:Int} {s w:Nat} (hw:w<cN c) (h:s*w%cN c=1):fq c s=w:=by
 have hx:∃w,w<cN c∧s*w%cN c=1:=⟨w,hw,h⟩
 unfold fq
 rw [dif_pos hx]
 have h2:=Classical.choose_spec hx
 exact uJ h2.1 hw h2.2 h
theorem oQ {c:Int} {s:Nat} (l:List UInt32) (hl:val l=s) (ll:l.length≤40000000000000) (h0:0<s) (h:s<cN c):fq c s<cN c∧s*fq c s%cN c=1∧F.DJ l (aA (cN c))=some (aA (fq c s),0):=by
 obtain ⟨n1,n2,n3,_,_⟩:=eW c
 have hb:=eu h
 obtain ⟨w,a1,a2,a3⟩:=AS l (cN c) n1 (AH c) n2 (by omega) (by rw [hl]; omega) ll (by rw [hl]; exact Ad h0 h)
 rw [hl]at a2
 rw [tM a1 a2]
 exact ⟨a1,a2,a3⟩
theorem lf {c:Int} {s:Nat} (h0:0<s) (h:s<cN c):fq c s<cN c∧s*fq c s%cN c=1:=by
 have l:=cL (Nat.le_of_lt h) (eW c).2.2.1
 obtain ⟨a1,a2,_⟩:=oQ (c:=c) (aA s) (aE s) (by omega) h0 h
 exact ⟨a1,a2⟩
abbrev isH (a:Int):Prop:=a=1∨a=2∨a=3
theorem nf (a:Int):F.B4 a=some (if isH a then ((Sz a:Nat):Int) else 0):=by
 unfold F.B4 isH
 by_cases h1:a=1
 ·subst h1; rfl
 ·by_cases h2:a=2
  ·subst h2; rfl
  ·by_cases h3:a=3
   ·subst h3; rfl
   ·rw [if_neg (by simpa using h1),if_neg (by simpa using h2),if_neg (by simpa using h3),if_neg (by omega)]
theorem lc (a:Int):32≤Sz a∧Sz a≤64:=by unfold Sz; split; decide; split <;> decide
theorem pJ (a:Int) (D:List UInt8):(fM a D).length=Sz a:=by
 unfold fM og
 split
 ·rename_i h
  unfold yz
  have:=cK (fun i (x:List UInt8)=>x.length=4*i) (fun x i=>x++q32 (((iz a (H0 a) (D++gG (Bk a) D) ((D++gG (Bk a) D).length / Bk a)).1).getD i 0)) (fun i x hx=>by simp only [List.length_append,q32,List.length_cons,List.length_nil,hx]; omega) 8 0 [] rfl
  refine Eq.trans this ?_
  unfold Sz
  rw [if_pos h]
 ·rename_i h
  rw [List.length_take,vb]; unfold Sz; rw [if_neg h]; split <;> rfl
def zN (h c:Int) (m:List UInt8):Nat:=beN ((fM h m).take (nS c))
theorem zp (h:Int) (hh:isH h) (m:List UInt8) (hm:m.length≤900000000000000):F.DY h [m]=some (fM h m):=by
 rw [uH h hh [m] (by simp) (by simpa using hm)]
 simp
theorem nK (h c:Int) (hh:isH h) (hc:isC c) (m:List UInt8) (hm:m.length≤900000000000000):F.D3 h c m=some (aA (zN h c m)):=by
 obtain ⟨n1,n2,n3⟩:=nS4 c
 have hl:=pJ h m
 have hz:=lc h
 have e:(min ((fM h m).length:Int) ((nS c:Nat):Int)).toNat=min (Sz h) (nS c):=by omega
 have ht:(fM h m).take (min (Sz h) (nS c))=(fM h m).take (nS c):=by
  rcases Nat.le_total (nS c) (Sz h) with h1 | h1
  ·rw [Nat.min_eq_right h1]
  ·rw [Nat.min_eq_left h1,List.take_of_length_le (by omega),List.take_of_length_le (by omega)]
 unfold F.D3 zN
 rw [zp h hh m hm,ak,kj,ak,if_pos hc,mX,e,grd_true _ ⟨by omega,by omega⟩,ht,eE _ (by rw [List.length_take]; omega),ak]
theorem xy (l:List UInt8):nb (beN l)≤8*l.length:=kM (by rw [←x7]; exact ig l)
theorem yF (h c:Int) (m:List UInt8):nb (zN h c m)≤512∧(aA (zN h c m)).length≤100:=by
 have hl:=pJ h m
 have hz:=lc h
 have l1:((fM h m).take (nS c)).length≤64:=by rw [List.length_take]; omega
 have h1:zN h c m<256^64:=Nat.lt_of_lt_of_le (ig _) (Nat.pow_le_pow_right (by decide) l1)
 have h2:nb (zN h c m)≤8*_:=xy _
 refine ⟨by omega,bm (Nat.lt_of_lt_of_le h1 (by decide +kernel))⟩
theorem jI (a n:List UInt32) (la:a.length≤100000000000000) (ln:n.length≤100000000000000):F.CF a n=some (decide (0<val a∧val a<val n)):=by
 unfold F.CF
 rw [gg a la,ak]
 by_cases h:val a=0
 ·rw [h,fc,if_neg (by decide),decide_eq_false (by omega)]
 ·have:=(c6 (val a)).2 h
  rw [if_pos (decide_eq_true (by omega)),iU a n (by omega) (by omega),ak]
  unfold dN
  by_cases h2:val a<val n
  ·rw [if_pos h2,decide_eq_true (show 0<val a∧val a<val n by omega)]; rfl
  ·rw [if_neg h2,decide_eq_false (show ¬(0<val a∧val a<val n) by omega)]
   split <;> rfl
theorem BE (a b:Nat):(dN a b == 0)=decide (a=b):=by
 unfold dN
 by_cases h:a<b
 ·rw [if_pos h,decide_eq_false (by omega)]; rfl
 ·rw [if_neg h]
  by_cases h2:a=b
  ·rw [if_pos h2,decide_eq_true h2]; rfl
  ·rw [if_neg h2,decide_eq_false h2]; rfl
theorem tP (X Y:List UInt32) (inf:Bool) (r n:List UInt32) (lX:X.length≤40000000000000) (lr:r.length≤40000000000000) (ln:n.length≤40000000000000) (hn:val n≠0) :
  F.CV X Y inf r n=some (!inf&&decide (val X%val n=val r)):=by
 unfold F.CV
 cases inf with
 | true=>rfl
 | false=>
  have l1:(aA (val X%val n)).length≤X.length:=cL (Nat.mod_le _ _) (bm (bB X))
  rw [if_neg (by decide),iM X n lX ln,if_neg hn,ak]
  dsimp only
  rw [iU _ _ (by omega) (by omega),ak,aE,BE]
  rfl
def qP {c:Int} (P:Pt (cP c)) (r:Nat):Bool:=match P with
 | none=>false
 | some (x,_)=>decide (x.val%cN c=r)
theorem yg {c:Int} (P:Pt (cP c)) (r:List UInt32) (lr:r.length≤40000000000000):F.CV (rep P).1 (rep P).2.1 (rep P).2.2 r (aA (cN c))=some (qP P (val r)):=by
 obtain ⟨n1,n2,n3,_,_⟩:=eW c
 have hl:(rep P).1.length≤12:=by
  cases P with
  | none=>exact Nat.zero_le _
  | some q=>obtain ⟨x,y⟩:=q; exact lU c x
 rw [tP _ _ _ _ _ (by omega) lr (by omega) (by rw [aE]; omega)]
 cases P with
 | none=>rfl
 | some q=>
  obtain ⟨x,y⟩:=q
  show some (!false&&decide (val (rl x)%val (aA (cN c))=val r))=some (decide (x.val%cN c=val r))
  rw [ke,aE]
  rfl
noncomputable def uQ {c:Int} (z r w:Nat) (Q:Pt (cP c)):Pt (cP c):=Ec.add (-3) (Ec.mul (-3) (z*w%cN c) (gP c)) (Ec.mul (-3) (r*w%cN c) Q)
noncomputable def okE {c:Int} (z r s:Nat) (Q:Pt (cP c)):Bool:=qP (uQ z r (fq c s) Q) r
def inN (c:Int) (r:Nat):Prop:=0<r∧r<cN c
instance (c:Int) (r:Nat):Decidable (inN c r):=inferInstanceAs (Decidable (0<r∧r<cN c))
noncomputable def uk (h c:Int) (x y m sig:List UInt8):Int:=
 if ¬isH h then 111 else if ¬((iy c x y).2.2.2=0) then 90 else if ¬(sig.length=2*nS c) then 91 else
 if ¬(inN c (beN (sig.take (nS c)))∧inN c (beN (sig.drop (nS c)))) then 91 else
 if okE (zN h c m) (beN (sig.take (nS c))) (beN (sig.drop (nS c))) (ff c (iy c x y).1 (iy c x y).2.1 (iy c x y).2.2.1)=true then 0 else 91
theorem ze {c:Int} {x y:List UInt8} (h:(iy c x y).2.2.2=0):isC c∧iy c x y=(aA (beN x),aA (beN y),false,0)∧onS c (aA (beN x)) (aA (beN y)) false=true∧x.length=nS c∧y.length=nS c:=by
 unfold iy at h ⊢
 split at h
 ·rename_i hc
  rw [if_pos hc]
  refine ⟨hc.1,rfl,?_,hc.2.1,hc.2.2.1⟩
  unfold onS
  rw [if_pos hc.1,aE,aE]
  exact hc.2.2.2
 ·exact absurd h (by decide)
theorem wo (b:Bool):F.Fd b=some (if b=true then 91 else 0):=by cases b <;> rfl
theorem nL {l:List UInt8} {k:Nat} (h:l.length≤k) (hk:k≤48):(aA (beN l)).length≤100:=by
 have h1:beN l<256^48:=Nat.lt_of_lt_of_le (ig l) (Nat.pow_le_pow_right (by decide) (by omega))
 exact bm (Nat.lt_of_lt_of_le h1 (by decide +kernel))
theorem pD {c:Int} {a k X Y:List UInt32} {q:Bool} (h:onS c X Y q=true) (ha:nb (val a)≤1024) (hk:nb (val k)≤1024) (la:a.length≤1000) (lk:k.length≤1000) (lX:X.length≤35184372087808) (lY:Y.length≤35184372087808) :
  F.C6 c a k X Y q=some (res (Ec.add (-3) (Ec.mul (-3) (val a) (gP c)) (Ec.mul (-3) (val k) (ff c X Y q)))):=by
 rw [uR c a k X Y q (by omega) (by omega) lX lY,xl h ha hk]
theorem nJ (h c:Int) (x y m sig:List UInt8) (hm:m.length≤900000000000000) (hs:sig.length≤140737488351232):F.Eg h c x y m sig=some (uk h c x y m sig):=by
 obtain ⟨n1,n2,n3⟩:=nS4 c
 obtain ⟨c1,c2,c3,c4,c5⟩:=eW c
 unfold F.Eg uk
 rw [nf,ak]
 by_cases hh:isH h
 ·have hz:=lc h
  rw [if_pos hh,if_neg (show ¬(((Sz h:Nat):Int) == 0)=true by rw [beq_iff_eq]; omega),if_neg (not_not_intro hh),ve,ak]
  by_cases hd:(iy c x y).2.2.2=0
  ·obtain ⟨hc,d1,d2,d3,d4⟩:=ze hd
   rw [if_neg (by rw [hd]; decide),if_neg (not_not_intro hd),kj,ak,i3,ak,if_pos hc,if_pos hc,mX,show wI (2*((nS c:Nat):Int))=((2*nS c:Nat):Int) by rw [aV (by omega) (by omega)]; omega]
   by_cases hl:sig.length=2*nS c
   ·have lt1:(sig.take (nS c)).length=nS c:=by rw [List.length_take]; omega
    have lt2:(sig.drop (nS c)).length=nS c:=by rw [List.length_drop]; omega
    have b1:=nL (Nat.le_of_eq lt1) n2
    have b2:=nL (Nat.le_of_eq lt2) n2
    have hso:slO sig ((nS c:Nat):Int) ((2*nS c:Nat):Int)=some (sig.drop (nS c)):=by
     unfold slO
     rw [if_pos ⟨by omega,by omega,by omega⟩,Int.toNat_natCast,Int.toNat_natCast,List.take_of_length_le (by omega)]
    rw [if_neg (by rw [hl]; simp),grd_true _ ⟨by omega,by omega,rfl⟩,hso,ak,Int.toNat_natCast,eE _ (by omega),ak,eE _ (by omega),ak,jI _ _ (by omega) (by omega),ak,aE,aE,
     if_neg (not_not_intro hl)]
    have k91:∀(x2:List UInt32×List UInt32×Bool×Int) (x10 x15 x18:List UInt32),F.Em h c m x2 x10 x15 x18 true=some 91:=fun _ _ _ _=>rfl
    by_cases hr:inN c (beN (sig.take (nS c)))
    ·have hr':0<beN (sig.take (nS c))∧beN (sig.take (nS c))<cN c:=hr
     rw [decide_eq_true hr',if_neg (by decide),jI _ _ (by omega) (by omega),ak,aE,aE]
     by_cases hs2:inN c (beN (sig.drop (nS c)))
     ·have hs':0<beN (sig.drop (nS c))∧beN (sig.drop (nS c))<cN c:=hs2
      rw [decide_eq_true hs',if_neg (not_not_intro ⟨hr,hs2⟩)]
      obtain ⟨w1,w2,w3⟩:=oQ (c:=c) (aA (beN (sig.drop (nS c)))) (aE _) (by omega) hs'.1 hs'.2
      generalize hw:fq c (beN (sig.drop (nS c)))=w at w1 w2 w3
      have nw:=eu w1
      have lw:=cL (Nat.le_of_lt w1) c3
      have nr:=eu hr'.2
      obtain ⟨z1,z2⟩:=yF h c m
      have m1:zN h c m*w%cN c<cN c:=Nat.mod_lt _ (by omega)
      have m2:beN (sig.take (nS c))*w%cN c<cN c:=Nat.mod_lt _ (by omega)
      have nm1:=eu m1; have nm2:=eu m2
      have lm1:=cL (Nat.le_of_lt m1) c3; have lm2:=cL (Nat.le_of_lt m2) c3
      unfold F.Em
      rw [if_neg (by decide),w3,ak,nK h c hh hc m hm,ak]
      dsimp only
      rw [l9 _ _ _ c1 c2 (by rw [aE]; omega) (by rw [aE]; omega) (by omega) (by omega) (by omega),ak]
      rw [l9 _ _ _ c1 c2 (by rw [aE]; omega) (by rw [aE]; omega) (by omega) (by omega) (by omega),ak,aE,aE,aE,d1]
      dsimp only
      rw [pD d2 (by rw [aE]; omega) (by rw [aE]; omega) (by omega) (by omega) (by have:=nL (Nat.le_of_eq d3) n2; omega) (by have:=nL (Nat.le_of_eq d4) n2; omega),ak,aE,aE]
      show (if ((0:Int) != 0)=true then _ else an (F.CV (rep _).1 (rep _).2.1 (rep _).2.2 _ _) _)=_
      rw [if_neg (by decide),yg _ _ (by omega),ak,wo,aE]
      unfold okE uQ
      rw [hw]
      cases qP (Ec.add (-3) (Ec.mul (-3) (zN h c m*w%cN c) (gP c)) (Ec.mul (-3) (beN (sig.take (nS c))*w%cN c) (ff c (aA (beN x)) (aA (beN y)) false))) (beN (sig.take (nS c))) <;> rfl
     ·rw [decide_eq_false (show ¬(0<beN (sig.drop (nS c))∧beN (sig.drop (nS c))<cN c) from hs2),if_pos (fun q=>hs2 q.2)]; exact k91 _ _ _ _
    ·rw [decide_eq_false (show ¬(0<beN (sig.take (nS c))∧beN (sig.take (nS c))<cN c) from hr),if_pos (by decide),if_pos (fun q=>hr q.1)]; exact k91 _ _ _ _
   ·rw [if_pos (by rw [bne_iff_ne]; omega),if_pos hl]
  ·rw [if_pos (by rw [bne_iff_ne]; exact hd),if_pos hd]
 ·rw [if_neg hh,if_pos (by decide),if_pos hh]
end Go.Gk.Bn
end

section
namespace Go.Gk.Bn
open Go Go.Gk Go.Gk.Sh Go.Gk.Ec Go.Gk.Pr
noncomputable def fK {c:Int} (z r s:Nat) (R:Pt (cP c)):Pt (cP c):=Ec.add (-3) (Ec.mul (-3) ((cN c - z*fq c r%cN c)%cN c) (gP c)) (Ec.mul (-3) (s*fq c r%cN c) R)
noncomputable def tX {c:Int} (Q:Pt (cP c)):List UInt8×List UInt8×Int:=match Q with
 | none=>([],[],91)
 | some (x,y)=>(beB (nS c) x.val,beB (nS c) y.val,0)
noncomputable def lA (h c:Int) (m:List UInt8) (r s:Nat) (X Y:List UInt32) (inf:Bool):List UInt8×List UInt8×Int:=
 if ¬isH h then ([],[],111) else if ¬isC c then ([],[],90) else if ¬(inf=false∧onS c X Y inf=true) then ([],[],93) else
 if ¬(inN c r∧inN c s∧val X%cN c=r) then ([],[],91) else tX (fK (zN h c m) r s (ff c X Y inf))
theorem mQ (h c:Int) (m:List UInt8) (r s X Y:List UInt32) (inf:Bool) (hm:m.length≤900000000000000) (lr:r.length≤35184372087808) (ls:s.length≤35184372087808) (lX:X.length≤35184372087808) (lY:Y.length≤35184372087808) :
  F.CB h c m r s X Y inf=some (lA h c m (val r) (val s) X Y inf):=by
 obtain ⟨n1,n2,n3⟩:=nS4 c
 obtain ⟨c1,c2,c3,c4,c5⟩:=eW c
 unfold F.CB lA
 rw [nf,ak]
 by_cases hh:isH h
 ·have hz:=lc h
  rw [if_pos hh,if_neg (show ¬(((Sz h:Nat):Int) == 0)=true by rw [beq_iff_eq]; omega),if_neg (not_not_intro hh),kj,ak]
  by_cases hc:isC c
  ·rw [if_pos hc,mX,if_neg (show ¬(((nS c:Nat):Int) == 0)=true by rw [beq_iff_eq]; omega),if_neg (not_not_intro hc)]
   cases inf with
   | true=>rw [if_pos rfl,if_pos (fun q=>by cases q.1)]; rfl
   | false=>
    rw [if_neg (by decide),A8 c X Y false lX lY,ak]
    unfold F.Fk
    by_cases ho:onS c X Y false=true
    ·rw [ho,if_neg (by decide),if_neg (not_not_intro ⟨rfl,rfl⟩),i3,ak,if_pos hc,jI _ _ (by omega) (by omega),ak,aE]
     have k91:F.DI h c m r s X Y false (aA (cN c)) true=some ([],[],91):=rfl
     by_cases hr:inN c (val r)
     ·have hr':0<val r∧val r<cN c:=hr
      rw [decide_eq_true hr',if_neg (by decide),jI _ _ (by omega) (by omega),ak,aE]
      by_cases hs:inN c (val s)
      ·have hs':0<val s∧val s<cN c:=hs
       rw [decide_eq_true hs',if_neg (by decide),tP _ _ _ _ _ (by omega) (by omega) (by omega) (by rw [aE]; omega),ak,aE]
       by_cases hf:val X%cN c=val r
       ·obtain ⟨w1,w2,w3⟩:=oQ (c:=c) r rfl (by omega) hr'.1 hr'.2
        have nw:=eu w1
        have lw:=cL (Nat.le_of_lt w1) c3
        have ns:=eu hs'.2
        obtain ⟨z1,z2⟩:=yF h c m
        have m1:zN h c m*fq c (val r)%cN c<cN c:=Nat.mod_lt _ (by omega)
        have m2:val s*fq c (val r)%cN c<cN c:=Nat.mod_lt _ (by omega)
        have m3:(cN c - zN h c m*fq c (val r)%cN c)%cN c<cN c:=Nat.mod_lt _ (by omega)
        have nm1:=eu m1; have nm2:=eu m2; have nm3:=eu m3
        have lm1:=cL (Nat.le_of_lt m1) c3; have lm2:=cL (Nat.le_of_lt m2) c3; have lm3:=cL (Nat.le_of_lt m3) c3
        rw [decide_eq_true hf,if_neg (not_not_intro ⟨hr,hs,hf⟩)]
        unfold F.DI
        rw [if_neg (by decide),w3,ak]
        dsimp only
        rw [l9 _ _ _ c1 c2 (by omega) (by rw [aE]; omega) (by omega) (by omega) (by omega),ak,nK h c hh hc m hm,ak]
        rw [l9 _ _ _ c1 c2 (by rw [aE]; omega) (by rw [aE]; omega) (by omega) (by omega) (by omega),ak,aE,aE]
        dsimp only
        rw [zG _ _ c1 c2 (by rw [aE]; omega) (by omega) (by omega),ak,aE,Nat.mod_mod]
        dsimp only
        rw [pD ho (by rw [aE]; omega) (by rw [aE]; omega) (by omega) (by omega) lX lY,ak,aE,aE]
        have hon:=vQ ho
        have hQ:On (-3) (bF c) (fK (zN h c m) (val r) (val s) (ff c X Y false)):=(ccv c).on_add ((ccv c).on_mul (gv c hc) _) ((ccv c).on_mul hon _)
        show (if ((0:Int) != 0)=true then _ else F.C7 c (res (fK (zN h c m) (val r) (val s) (ff c X Y false))) (rep (fK (zN h c m) (val r) (val s) (ff c X Y false))).2.2)=_
        rw [if_neg (by decide)]
        generalize fK (zN h c m) (val r) (val s) (ff c X Y false)=Q at hQ
        cases Q with
        | none=>rfl
        | some q=>
         obtain ⟨x,y⟩:=q
         have l1:=lU c x
         have l2:=lU c y
         have h3:=oz hc hQ
         have h3':onS c (rl x) (rl y) false=true:=h3
         show F.C7 c (rl x,rl y,false,0) false=some (beB (nS c) x.val,beB (nS c) y.val,0)
         unfold F.C7
         rw [if_neg (by decide)]
         dsimp only
         rw [vK c _ _ _ (by omega) (by omega),ak]
         unfold xN
         rw [if_pos ⟨h3',rfl⟩,ke,ke]
       ·rw [decide_eq_false hf,if_pos (fun q=>hf q.2.2)]; exact k91
      ·rw [decide_eq_false (show ¬(0<val s∧val s<cN c) from hs),if_pos (by decide),if_pos (fun q=>hs q.2.1)]; exact k91
     ·rw [decide_eq_false (show ¬(0<val r∧val r<cN c) from hr),if_pos (by decide),if_pos (fun q=>hr q.1)]; exact k91
    ·rw [Bool.eq_false_iff.2 ho,if_pos (by decide),if_pos (fun q=>by cases q.2)]
  ·rw [if_neg hc,if_pos (by decide),if_pos hc]
 ·rw [if_neg hh,if_pos (by decide),if_pos hh]
theorem pr (a:List UInt32) (m:Nat) (ha:a.length≤35184372087808) (hm:m≤16384) (hv:val a<256^m):F.EQ a (m:Int)=some (beB m (val a),true):=by
 have hb:nb (val a)≤32*a.length:=Nat.le_trans (jh _) (Nat.mul_le_mul_left 32 (bm (bB a)))
 have hk:(nb (val a)+7) / 8≤m:=wE hv
 obtain ⟨k,v1,v2,v3⟩:=dt a (by omega)
 have hl:(aA (val a)).length≤a.length:=bm (bB a)
 have hmk:mkO 1 (m:Int) (m:Int) (0:UInt8)=some (List.replicate m 0):=by
  unfold mkO
  rw [if_pos ⟨by omega,by omega,by omega,by omega⟩,Int.toNat_natCast]
 unfold F.EQ
 rw [if_neg (by rw [decide_eq_true_eq]; omega),if_neg (by rw [decide_eq_true_eq]; omega),gg a (by omega),ak,aV (x:=((nb (val a):Nat):Int)+7) (by omega) (by omega),Int.tdiv_eq_ediv_of_nonneg (by omega),aV (by omega) (by omega),
  decide_eq_false (show ¬(m:Int)<(((nb (val a):Nat):Int)+7) / 8 by omega)]
 unfold F.Ew
 rw [if_neg (by decide),hmk,ak,v1,ak,v3,tD _ _ (by rw [List.length_replicate]; omega) (by omega),ak,List.length_replicate,aE]
theorem uX (r s:List UInt32) (m:Nat) (lr:r.length≤35184372087808) (ls:s.length≤35184372087808) (hm:m≤16384) (hr:val r<256^m) (hs:val s<256^m):F.EZ r s (m:Int)=some (beB m (val r)++beB m (val s),true):=by
 have e1:apO 1 [] (beB m (val r))=some (beB m (val r)):=by
  unfold apO
  rw [if_pos (by rw [cF,List.length_nil]; omega),List.nil_append]
 have e2:apO 1 (beB m (val r)) (beB m (val s))=some (beB m (val r)++beB m (val s)):=by
  unfold apO
  rw [if_pos (by rw [cF,cF]; omega)]
 unfold F.EZ
 rw [pr r m lr hm hr,ak,pr s m ls hm hs,ak,e1,ak,e2,ak,if_pos rfl]
theorem Ba (c:Int):cN c<256^nS c:=by
 unfold cN nS
 split <;> decide +kernel
theorem nR {c:Int} {r:Nat} (h:r<cN c):r<256^nS c:=Nat.lt_trans h (Ba c)
theorem kP {m n:Nat} (h:n<256^m):beN (beB m n)=n:=by
 rw [iV,Nat.mod_eq_of_lt h]
theorem wH {c:Int} {r s:Nat} (hr:r<cN c) (hs:s<cN c):(beB (nS c) r++beB (nS c) s).length=2*nS c∧beN ((beB (nS c) r++beB (nS c) s).take (nS c))=r∧beN ((beB (nS c) r++beB (nS c) s).drop (nS c))=s:=by
 have l1:(beB (nS c) r).length=nS c:=cF _ _
 have l2:(beB (nS c) s).length=nS c:=cF _ _
 refine ⟨by rw [List.length_append,l1,l2]; omega,?_,?_⟩
 ·rw [List.take_left' l1,kP (nR hr)]
 ·rw [List.drop_left' l1,kP (nR hs)]
end Go.Gk.Bn
end

section
namespace Go.Gk.Bn
open Go Go.Gk Go.Gk.Sh Go.Gk.Ec Go.Gk.Pr
theorem zk {c:Int} (hc:isC c) {z r s:Nat} {R:Pt (cP c)} (hR:On (-3) (bF c) R) (hr:inN c r) (hs:inN c s):okE z r s (fK z r s R)=qP R r:=by
 obtain ⟨w1,w2⟩:=lf hr.1 hr.2
 obtain ⟨v1,v2⟩:=lf hs.1 hs.2
 unfold okE uQ fK
 rw [vN hc (gv c hc) hR w2 v2]
theorem yX {c:Int} (hc:isC c) {z r:Nat}:fK z r 1 (gP c)=Ec.mul (-3) ((cN c - z*fq c r%cN c)%cN c+fq c r%cN c) (gP c):=by
 unfold fK
 rw [(ccv c).mul_add (gv c hc),Nat.one_mul]
theorem zr {n z z' r w:Nat} (h1:1<n) (hw:r*w%n=1):(z'*1%n+r*1%n*((n - z*w%n)%n+w%n))%n=(z'+(n - z%n)+1)%n:=by
 have a1:r*((n - z*w%n)%n)%n=(n - z%n)%n:=by
  refine mR (v:=z%n) ?_
  have e1:r*((n - z*w%n)%n)%n=r*(n - z*w%n)%n:=Nat.mul_mod_mod _ _ _
  have e2:(r*(n - z*w%n)+r*(z*w%n))%n=0:=by
   rw [←Nat.mul_add,Nat.sub_add_cancel (Nat.le_of_lt (Nat.mod_lt _ (by omega))),Nat.mul_mod_left]
  have e3:r*(z*w%n)%n=z%n:=tF hw
  have e4:(n - z%n+z%n)%n=0:=by rw [Nat.sub_add_cancel (Nat.le_of_lt (Nat.mod_lt _ (by omega))),Nat.mod_self]
  rw [e4,Nat.add_mod,e1,←e3,Nat.mod_mod,←Nat.add_mod,e2]
 have a2:r*(w%n)%n=1:=by rw [Nat.mul_mod_mod,hw]
 have a3:r*((n - z*w%n)%n+w%n)%n=(n - z%n+1)%n:=by rw [Nat.mul_add,Nat.add_mod,a1,a2,Nat.mod_add_mod]
 rw [Nat.mul_one,Nat.mul_one,Nat.mod_add_mod,Nat.add_mod z',Nat.mod_mul_mod,a3,←Nat.add_mod,Nat.add_assoc z']
theorem zQ {c:Int} (hc:isC c) {x y:Fin (cP c)} (h:On (-3) (bF c) (some (x,y))):onN (cP c) (cB c) x.val y.val=true:=by
 have h3:onS c (rl x) (rl y) false=true:=oz hc h
 have:=(o8 h3).2.2
 rwa [ke,ke]at this
theorem zu {c:Int} (hc:isC c) {x y:Fin (cP c)} (h:On (-3) (bF c) (some (x,y))):iy c (beB (nS c) x.val) (beB (nS c) y.val)=(rl x,rl y,false,0):=by
 have hp:=tS c hc
 have e1:=kP (Nat.lt_trans x.isLt hp)
 have e2:=kP (Nat.lt_trans y.isLt hp)
 unfold iy
 rw [e1,e2,if_pos ⟨hc,cF _ _,cF _ _,zQ hc h⟩]
 rfl
theorem tc {h c:Int} (hh:isH h) (hc:isC c) {x y:Fin (cP c)} (hQ:On (-3) (bF c) (some (x,y))) (m:List UInt8) {r s:Nat} (hr:inN c r) (hs:inN c s) :
  uk h c (beB (nS c) x.val) (beB (nS c) y.val) m (beB (nS c) r++beB (nS c) s)=if okE (zN h c m) r s (some (x,y))=true then 0 else 91:=by
 obtain ⟨j1,j2,j3⟩:=wH (c:=c) hr.2 hs.2
 have ht:ff c (rl x) (rl y) false=some (x,y):=qL (some (x,y))
 unfold uk
 rw [if_neg (not_not_intro hh),zu hc hQ,if_neg (not_not_intro rfl),if_neg (not_not_intro j1),j2,j3,if_neg (not_not_intro ⟨hr,hs⟩),ht]
theorem sT:zN 1 1 [97,98,99]=beN rM:=by
 unfold zN
 rw [zF]
 rfl
theorem zJ:zN 1 1 [97,98,100]=beN uq:=by
 unfold zN
 rw [zR]
 rfl
theorem zO:beN rM%cN 1≠1:=by decide +kernel
theorem Bj:inN 1 (cX 1)∧inN 1 1:=⟨by decide +kernel,by decide +kernel⟩
theorem Be (c:Int):gP c≠none:=fun h=>by cases h
theorem Ah {c:Int} (hc:isC c) {z r s:Nat} {R:Pt (cP c)} (hR:On (-3) (bF c) R):On (-3) (bF c) (fK z r s R):=(ccv c).on_add ((ccv c).on_mul (gv c hc) _) ((ccv c).on_mul hR _)
theorem xV (c:Int) (r1:inN c (cX c)):qP (c:=c) (gP c) (cX c)=true:=by
 show decide ((fz (p:=cP c) (cX c:Int)).val%cN c=cX c)=true
 rw [lj _ (dg c).2.2.2.1,Nat.mod_eq_of_lt r1.2,decide_eq_true rfl]
theorem zX (c:Int) (hc:isC c) (r1:inN c (cX c)) (r2:inN c 1) (z z' k:Nat) (hz:z%cN c≠1) (hk:(z'+(cN c - z%cN c)+1)%cN c=k) (hne:∀x y,Ec.mul (-3) k (gP c)=some (x,y)→x.val%cN c≠cX c) :
  ∃x y:Fin (cP c),fK z (cX c) 1 (gP c)=some (x,y)∧On (-3) (bF c) (some (x,y))∧okE z (cX c) 1 (some (x,y))=true∧okE z' (cX c) 1 (some (x,y))=false:=by
 have C:=ccv c
 have hG:=gv c hc
 obtain ⟨c1,c2,c3,c4,c5⟩:=eW c
 obtain ⟨w1,w2⟩:=lf r1.1 r1.2
 have hQ:=Ah (z:=z) (r:=cX c) (s:=1) hc hG
 have hn:fK z (cX c) 1 (gP c)≠none:=by
  intro q
  have e:=vJ hc hG hG w2 q
  rw [←mZ hc hG z]at e
  have:=C.mul_inj hG (gN c) (Be c) (j7 c hc hG) c1 (Nat.mod_lt _ (Nat.lt_trans Nat.zero_lt_one c1)) e
  exact hz this.symm
 have habc:okE z (cX c) 1 (fK z (cX c) 1 (gP c))=true:=by rw [zk hc hG r1 r2,xV c r1]
 have habd:okE z' (cX c) 1 (fK z (cX c) 1 (gP c))=false:=by
  unfold okE uQ
  have i1:fq c 1=1:=tM c1 (by rw [Nat.one_mul,Nat.mod_eq_of_lt c1])
  have hk2:k%cN c=k:=by rw [←hk,Nat.mod_mod]
  rw [i1,yX hc,←C.mul_mul hG,←C.mul_add hG,ic (l:=k) hc hG (by rw [zr c1 w2,hk,hk2])]
  cases hm:Ec.mul (-3) k (gP c) with
  | none=>rfl
  | some q=>
   obtain ⟨x,y⟩:=q
   exact decide_eq_false (hne x y hm)
 cases hq:fK z (cX c) 1 (gP c) with
 | none=>exact absurd hq hn
 | some q=>
  obtain ⟨x,y⟩:=q
  rw [hq]at hQ habc habd
  exact ⟨x,y,rfl,hQ,habc,habd⟩
theorem qQ (c:Int):val (rep (gP c)).1=cX c:=by
 show val (rl (fz (p:=cP c) (cX c:Int)))=cX c
 rw [ke,lj _ (dg c).2.2.2.1]
theorem xM {h c:Int} (hh:isH h) (hc:isC c) (r1:inN c (cX c)) (r2:inN c 1) (m:List UInt8):lA h c m (cX c) 1 (rep (gP c)).1 (rep (gP c)).2.1 (rep (gP c)).2.2=tX (fK (zN h c m) (cX c) 1 (gP c)):=by
 unfold lA
 rw [if_neg (not_not_intro hh),if_neg (not_not_intro hc),if_neg (not_not_intro ⟨rfl,oz hc (gv c hc)⟩),if_neg (not_not_intro ⟨r1,r2,by rw [qQ,Nat.mod_eq_of_lt r1.2]⟩),qL]
theorem uE:F.E2=some true:=by
 have hc:isC 1:=.inl rfl
 have hh:isH 1:=.inl rfl
 obtain ⟨c1,c2,c3,c4,c5⟩:=eW 1
 obtain ⟨r1,r2⟩:=Bj
 have lG:=tJ 1 (gP 1)
 have l1:val [1]=1:=rfl
 have lX:=cL (Nat.le_of_lt r1.2) c3
 obtain ⟨x,y,hq,hQ,habc,habd⟩:=zX 1 hc r1 r2 (beN rM) (beN uq) kAw zO z5 (fun x y h=>Bm h)
 have b1:(beB (nS 1) x.val).length=32:=cF _ _
 have b2:(beB (nS 1) y.val).length=32:=cF _ _
 have b3:(beB (nS 1) (cX 1)++beB (nS 1) 1).length=64:=by rw [List.length_append,cF,cF]; rfl
 have hj:=uX (aA (cX 1)) [1] (nS 1) (Nat.le_trans lX (by decide)) (by decide) (by decide) (by rw [aE]; exact nR r1.2) (by rw [l1]; exact nR r2.2)
 have hr:=mQ 1 1 [97,98,99] (aA (cX 1)) [1] (rep (gP 1)).1 (rep (gP 1)).2.1 (rep (gP 1)).2.2 (by decide) (Nat.le_trans lX (by decide)) (by decide) (Nat.le_trans lG.1 (by decide)) (Nat.le_trans lG.2 (by decide))
 rw [aE,l1,xM hh hc r1 r2,sT,hq]at hr
 rw [aE,l1]at hj
 have v1:=nJ 1 1 (beB (nS 1) x.val) (beB (nS 1) y.val) [97,98,99] (beB (nS 1) (cX 1)++beB (nS 1) 1) (by decide) (by rw [b3]; decide)
 have v2:=nJ 1 1 (beB (nS 1) x.val) (beB (nS 1) y.val) [97,98,100] (beB (nS 1) (cX 1)++beB (nS 1) 1) (by decide) (by rw [b3]; decide)
 rw [tc hh hc hQ _ r1 r2,sT,if_pos habc]at v1
 rw [tc hh hc hQ _ r1 r2,zJ,habd,if_neg Bool.false_ne_true]at v2
 unfold F.E2
 rw [rg 1 hc,ak,i3,if_pos hc,ak,iM _ _ (Nat.le_trans lG.1 (by decide)) (Nat.le_trans c3 (by decide)),aE,if_neg (Nat.ne_of_gt (Nat.lt_trans Nat.zero_lt_one c1)),ak,qQ,Nat.mod_eq_of_lt r1.2]
 dsimp only
 rw [hr,ak,show (32:Int)=((nS 1:Nat):Int) from rfl,hj,ak]
 unfold tX
 dsimp only
 rw [if_neg (by decide),if_neg (by decide),if_neg (by decide),b1,b2,if_neg (by decide)]
 show F.Ch _ _ false=_
 unfold F.Ch
 rw [if_neg (by decide)]
 dsimp only
 rw [v1,ak,if_pos (by decide),v2,ak]
 rfl
end Go.Gk.Bn
end

section
namespace Go.Gk.Bn
open Go Go.Gk Go.Gk.Sh Go.Gk.Ec Go.Gk.Pr
theorem yJ {τ:Type} (l:List τ) (i r:Nat) (v:τ) (h:i+(r+1)=l.length):(l.set i v).take (i+1)++List.replicate r v=l.take i++List.replicate (r+1) v:=by
 rw [List.take_set,List.take_add_one,List.getElem?_eq_getElem (by omega)]
 have hl:(l.take i).length=i:=by rw [List.length_take]; omega
 rw [List.set_append_right _ _ (by omega),hl,Nat.sub_self]
 show l.take i++[v]++_=_
 rw [List.append_assoc]
 rfl
theorem pL {τ ρ:Type} [Inhabited τ] {f:Int×List τ→Option ((Int×List τ)⊕ρ)} {X:List τ→Option ρ} (v:τ)
  (hf:∀i l,f (i,l)=if (decide (i<(l.length:Int)))=true then (an (aB l (i:Int)) fun _=>bq (l.set (i:Int).toNat v) fun x=>bv (wI (i+1),x)) else bl (X l)) :
  ∀(r i:Nat) (l:List τ),i+r=l.length→l.length≤4611686018427387904→loop f ((i:Int),l)=X (l.take i++List.replicate r v)
 | 0,i,l,h,hl=>by
  refine bE ?_
  rw [hf,if_neg (by rw [decide_eq_true_eq]; omega),List.take_of_length_le (by omega),List.replicate_zero,List.append_nil]
 | r+1,i,l,h,hl=>by
  have w:wI ((i:Int)+1)=((i+1:Nat):Int):=by rw [aV (by omega) (by omega)]; omega
  have hs:f ((i:Int),l)=some (.inl (((i+1:Nat):Int),l.set i v)):=by
   rw [hf,if_pos (decide_eq_true (by omega)),a7 (show i<l.length by omega) v,ak,a8,Int.toNat_natCast,w]
   rfl
  rw [bI hs,pL v hf r (i+1) (l.set i v) (by rw [List.length_set]; omega) (by rw [List.length_set]; exact hl),yJ l i r v h]
theorem y5 {τ:Type} [Inhabited τ] [BEq τ] [LawfulBEq τ] {f:Int→Option (Int⊕Bool)} (a:List τ) (d:τ) (ha:a.length≤4611686018427387904)
  (hf:∀i:Int,f i=if (decide (i<(a.length:Int)))=true then (an (aB a i) fun x=>an (aB a i) fun y=>if (x != y)=true then bl (some false) else bv (wI (i+1))) else bl (some true)):loop f 0=some true:=by
 refine wU (n:=a.length) (fun i hi=>?_) ?_
 ·have w:wI ((i:Int)+1)=((i:Int)+1):=aV (by omega) (by omega)
  rw [hf,if_pos (decide_eq_true (by omega)),a7 hi d,ak,ak,if_neg (by simp),w]
  rfl
 ·rw [hf,if_neg (by simp)]
  rfl
theorem kN (a:List UInt8) (ha:a.length≤4611686018427387904):F.CN a a=some true:=by
 unfold F.CN
 rw [if_neg (by simp)]
 exact y5 a 0 ha (fun i=>rfl)
theorem rC (b:List UInt8) (hb:b.length≤140737488351232):F.D7 b=some (b++List.replicate 9 165,b.length):=by
 have w1:wI ((b.length:Int)+9)=((b.length+9:Nat):Int):=by rw [aV (by omega) (by omega)]; omega
 have hmk:mkO 1 ((b.length+9:Nat):Int) ((b.length+9:Nat):Int) (0:UInt8)=some (List.replicate (b.length+9) 0):=by
  unfold mkO
  rw [if_pos ⟨by omega,by omega,by omega,by omega⟩,Int.toNat_natCast]
 have hc:cpL (List.replicate (b.length+9) (0:UInt8)) b 0 (List.replicate (b.length+9) (0:UInt8)).length=b++List.replicate 9 0:=by
  unfold cpL
  rw [List.length_replicate,Nat.sub_zero,Nat.min_eq_left (by omega),List.take_zero,List.nil_append,List.take_of_length_le (by omega),Nat.zero_add,List.drop_replicate,Nat.add_sub_cancel_left]
 unfold F.D7
 rw [w1,hmk,ak,a8,hc,pL (f:=F.FV b) (X:=fun l=>grd (0≤((b.length:Int):Int)∧((b.length:Int):Int).toNat≤l.length) (some (l,((b.length:Int):Int).toNat))) 165 (fun i l=>rfl) 9 b.length _ (by simp) (by simp; omega)]
 rw [List.take_left' rfl,grd_true _ ⟨by omega,by simp⟩,Int.toNat_natCast]
theorem xU (h c:Int) (m:List UInt8) (r s:Nat) (X Y:List UInt32) (inf:Bool):(lA h c m r s X Y inf).1.length≤48∧(lA h c m r s X Y inf).2.1.length≤48:=by
 obtain ⟨n1,n2,n3⟩:=nS4 c
 unfold lA
 split
 ·exact ⟨by decide,by decide⟩
 split
 ·exact ⟨by decide,by decide⟩
 split
 ·exact ⟨by decide,by decide⟩
 split
 ·exact ⟨by decide,by decide⟩
 unfold tX
 split
 ·exact ⟨by decide,by decide⟩
 ·exact ⟨by rw [cF]; exact n2,by rw [cF]; exact n2⟩
end Go.Gk.Bn
end

section
namespace Go.Gk.Bn
open Go Go.Gk Go.Gk.Sh Go.Gk.Ec Go.Gk.Pr
theorem law12_EcdsaSpares_eq (h c:Int) (m:List UInt8) (s:List UInt32) (hm:m.length≤140737488351232) (ls:s.length≤35184372087808):F.FR h c m s=some true:=by
 have k1:∀x2 x9,F.Eb h c m s x2 x9 true=some true:=fun _ _=>rfl
 unfold F.FR
 rw [uE,ak,if_neg (by decide)]
 by_cases hc:isC c
 ·obtain ⟨n1,n2,n3⟩:=nS4 c
  obtain ⟨c1,c2,c3,c4,c5⟩:=eW c
  have hb:=tJ c (gP c)
  rw [rg c hc,ak,i3,if_pos hc,ak,kj,if_pos hc,ak,mX,if_neg (show ¬(((nS c:Nat):Int) == 0)=true by rw [beq_iff_eq]; omega),nf,ak]
  by_cases hh:isH h
  ·have hz:=lc h
   rw [if_pos hh,show ((((Sz h:Nat):Int)) == 0)=false by rw [beq_eq_false_iff_ne]; omega]
   have lxn:(aA (val (rep (gP c)).1%cN c)).length≤12:=cL (Nat.le_of_lt (Nat.mod_lt _ (by omega))) c3
   unfold F.Eb
   rw [if_neg (by decide),iM _ _ (by omega) (by omega),aE,if_neg (by omega),ak]
   dsimp only
   have hr:=mQ h c m (aA (val (rep (gP c)).1%cN c)) s (rep (gP c)).1 (rep (gP c)).2.1 (rep (gP c)).2.2 (by omega) (by omega) ls (by omega) (by omega)
   have hR:=xU h c m (val (aA (val (rep (gP c)).1%cN c))) (val s) (rep (gP c)).1 (rep (gP c)).2.1 (rep (gP c)).2.2
   generalize lA h c m (val (aA (val (rep (gP c)).1%cN c))) (val s) (rep (gP c)).1 (rep (gP c)).2.1 (rep (gP c)).2.2=R at hr hR
   obtain ⟨a,b,e⟩:=R
   dsimp only at hR
   obtain ⟨la,lb⟩:=hR
   rw [hr,ak,ak,if_neg (by decide)]
   dsimp only
   rw [if_neg (by simp),kN a (by omega),ak,if_neg (by decide),kN b (by omega),ak]
   unfold F.Dm
   rw [Bool.not_true,if_neg (by decide),rC a (by omega),ak,rC b (by omega),ak]
   rw [jE (c:=UInt8.ofInt 70) (fun i l=>rfl) a (by omega),jE (c:=UInt8.ofInt 71) (fun i l=>rfl) b (by omega),jE (c:=UInt8.ofInt 72) (fun i l=>rfl) a (by omega),jE (c:=UInt8.ofInt 73) (fun i l=>rfl) b (by omega)]
   rw [jx (c:=UInt8.ofInt 80) (bytes:=1) (fun l k=>rfl) _ (by simp; omega),jx (c:=UInt8.ofInt 81) (bytes:=1) (fun l k=>rfl) _ (by simp; omega),jx (c:=UInt8.ofInt 82) (bytes:=1) (fun l k=>rfl) _ (by simp; omega),jx (c:=UInt8.ofInt 83) (bytes:=1) (fun l k=>rfl) _ (by simp; omega)]
   refine mz a.length (UInt8.ofInt 70) (UInt8.ofInt 80) (fun x=>x != UInt8.ofInt 70) (fun x=>x != UInt8.ofInt 80) rfl rfl (by omega) (fun i=>rfl) ?_
   refine mz b.length (UInt8.ofInt 71) (UInt8.ofInt 81) (fun x=>x != UInt8.ofInt 71) (fun x=>x != UInt8.ofInt 81) rfl rfl (by omega) (fun i=>rfl) ?_
   refine mz a.length (UInt8.ofInt 72) (UInt8.ofInt 82) (fun x=>x != UInt8.ofInt 72) (fun x=>x != UInt8.ofInt 82) rfl rfl (by omega) (fun i=>rfl) ?_
   refine mz b.length (UInt8.ofInt 73) (UInt8.ofInt 83) (fun x=>x != UInt8.ofInt 73) (fun x=>x != UInt8.ofInt 83) rfl rfl (by omega) (fun i=>rfl) ?_
   dsimp only
   rw [hr,ak]
   dsimp only
   rw [if_pos (beq_self_eq_true _),List.take_left' rfl,List.take_left' rfl,kN a (by omega),ak,if_pos rfl,kN b (by omega),ak]
  ·rw [if_neg hh]; exact k1 _ _
 ·rw [tR,if_neg hc,ak,i3,if_neg hc,ak,kj,if_neg hc,ak,if_pos (by decide)]
  exact k1 _ _
end Go.Gk.Bn
end
