import Derived.Test.YtkickcbphbgldaaGreatDoorTW0
import Derived.Test.YtkickcbphbgldaaGreatDoorGkFman
import Derived.Test.YtkickcbphbgldaaGreatDoorTWnata
set_option linter.unusedVariables false
set_option linter.unusedSimpArgs false
set_option linter.unusedSectionVars false
set_option maxRecDepth 4000
namespace Go.Proofs
open Go Go.RowKit Go.Gk
open Go.Gk renaming aa → Q, ae → N, af → H, ah → M, ai → J, e32 → U, own → O
open Nat renaming le_of_ble_eq_true → R
theorem jz {f:World} {a0 a1:List UInt32} {g j:Value} {r:List UInt32×Bool}
  (h:F.CO a0 a1=some r) (d:RP [] f U g a0) (k:RP [] f U j a1):Calls Tryz.prog 25 #[g,j] f (Ret fun v w=>∃u0:Value,v=.tuple #[u0,vB r.2]∧St [] f w [O U u0 r.1]):=by
 refine aN 28 Tryz.func25 Z Z Z ?_
 have a:=St.l f
 refine ar [(0,g),(1,j)] ⟨Z,Z,V⟩ ?_
 unfold F.CO at h
 refine M (H (Q 2 Z ?_))
 refine J (N (M (M (H (Q 2 Z ?_)))))
 obtain ⟨D,t,h⟩:=aj h
 refine ao Z (f9  t (d.d a.fr).rp (k.d a.fr).rp) Z ?_
 rintro _ w ⟨rfl,b⟩
 have a:=a.f b
 refine Q 1 Z ?_
 refine J (N ?_)
 refine av Z (fun c=>?_) (fun c=>?_)
 ·have h:=aJ h c
  refine M (H (Q 2 Z ?_))
  refine J (N (ay (aG ?_)))
  cases h
  exact bX Z Z Z ⟨.slice none 0 0,Z,(a.nil U).e [0] Z Z⟩
 have h:=aI h c
 refine aw (N (M (H (Q 1 Z ?_))))
 obtain ⟨E,u,h⟩:=aj h
 refine ao Z (cH  u (d.d a.fr).rp) Z ?_
 rintro _ w ⟨rfl,l,b⟩
 have a:=a.f b
 refine Q 1 Z ?_
 obtain ⟨G,x,h⟩:=aj h
 refine ao Z (cH  x (k.d a.fr).rp) Z ?_
 rintro _ w ⟨rfl,y,b⟩
 have a:=a.f b
 refine Q 2 Z ?_
 refine J (N (M (H (Q 1 Z ?_))))
 refine al (aL u30 Z ((d.tk3 l).d a.fr)) Z ?_
 obtain ⟨L,z,h⟩:=aj h
 refine aU (cZ (e:=U) u30 aZ Z Z Z a z) Z ?_
 rintro q w a
 refine Q 1 Z ?_
 refine J (N (M (H (Q 2 Z ?_))))
 refine aU (rv (e:=U) u30 aZ Z Z Z a (i:=0) Z ((d.tk3 l).d a.fr)) Z ?_
 rintro v_q w ⟨hv_q,a⟩
 subst v_q
 obtain ⟨s,A,h⟩:=aQ h
 rw [A]at a
 refine J (N (M (H (Q 2 Z ?_))))
 have B:=a.pick (os':=[O U q s]++[]) [0] (by decide) Z
 obtain ⟨C,n,h⟩:=aj h
 refine ao Z (ol 0 s.length n B.g (a.ro 0 Z).whole ((k.tk3 y).g (R Z) B)) Z ?_
 rintro _ w ⟨rfl,b⟩
 have a:=B.h b
 refine J (N (M (H (Q 1 Z ?_))))
 obtain ⟨m,o,h⟩:=aj h
 refine ao Z (dh  o (a.ro 0 Z).rp) Z ?_
 rintro _ w ⟨rfl,p,b⟩
 have a:=a.f b
 refine Q 2 Z ?_
 refine J (N (ay ?_))
 cases h
 replace a:=a.trunc3 (i:=0) rfl p
 exact bX Z Z Z ⟨slV3 q U.sz 0 m m,Z,a.e [0] Z Z⟩
theorem vF {z:World} {a0 a1:List UInt32} {g f:Value} {r:List UInt32}
  (h:F.Fu a0 a1=some r) (x:RP [] z U g a0) (l:RP [] z U f a1):Calls Tryz.prog 83 #[g,f] z (Ret fun v w=>St [] z w [O U v r]):=by
 refine aN 73 Tryz.func83 Z Z Z ?_
 have a:=St.l z
 refine ar [(0,g),(1,f)] ⟨Z,Z,V⟩ ?_
 unfold F.Fu at h
 refine M (H (Q 1 Z ?_))
 refine J (N (M (H (Q 1 Z ?_))))
 obtain ⟨c,au,h⟩:=aj h
 refine ao Z (cH  au (x.d a.fr).rp) Z ?_
 rintro _ w ⟨rfl,o,y⟩
 have a:=a.f y
 refine Q 1 Z ?_
 obtain ⟨b,ax,h⟩:=aj h
 refine ao Z (cH  ax (l.d a.fr).rp) Z ?_
 rintro _ w ⟨rfl,j,y⟩
 have a:=a.f y
 refine Q 2 Z ?_
 refine J (N (M (H (Q 1 Z ?_))))
 refine al (aL u30 Z ((x.tk3 o).d a.fr)) Z (Q 1 Z ?_)
 refine al (aL u30 Z ((l.tk3 j).d a.fr)) Z (Q 1 Z ?_)
 obtain ⟨aG,aA,h⟩:=aj h
 refine aU (cZ (e:=U) u30 aZ Z Z Z a aA) Z ?_
 rintro m w a
 refine Q 1 Z ?_
 refine J (N (M (M (H (Q 1 Z ?_)))))
 refine al (aL u30 Z ((x.tk3 o).d a.fr)) Z (Q 1 Z ?_)
 refine J (N (az ?_))
 refine ar [(6,slV3 f U.sz 0 b b),(7,m),(23,slV3 g U.sz 0 c c),(24,vI ((a0.take c).length:Int)),(25,vI 0)] ⟨Z,Z,Z,Z,Z,V⟩ ?_
 refine bd (F.Dj a0 c a1 b) (fun (s:Int×List UInt32) L w=>L=[(6,slV3 f U.sz 0 b b),(7,m),(23,slV3 g U.sz 0 c c),(24,vI ((a0.take c).length:Int)),(25,vI s.1)]∧St [] z w [O U m s.2]) ?_ (0,aG) ⟨Z,a⟩ h
 rintro aO ⟨n,aH⟩ L w aS hI ac h C
 try dsimp only at hI
 obtain ⟨rfl,a⟩:=hI
 unfold F.Dj at h
 refine M (H (Q 1 Z ?_))
 refine J (N (M ?_))
 refine av Z (fun p=>?_) (fun p=>?_)
 ·have h:=aJ h p
  refine aw (N (M (az ?_)))
  refine M (H (Q 1 Z ?_))
  obtain ⟨d,D,h⟩:=aj h
  refine al (aW u30 aZ Z Z ((x.tk3 o).d a.fr) D) Z (al (aR u38 Z Z ((x.tk3 o).d a.fr) D Z) Z (Q 2 Z ?_))
  refine J (N (M (H (Q 1 Z ?_))))
  refine J (N (M (M (H (Q 1 Z ?_)))))
  refine al (aL u30 Z ((l.tk3 j).d a.fr)) Z (Q 1 Z ?_)
  refine J (N (az ?_))
  refine ar [(6,slV3 f U.sz 0 b b),(7,m),(8,vI n),(9,v32 d),(10,v64 0),(23,slV3 g U.sz 0 c c),(24,vI ((a0.take c).length:Int)),(25,vI n),(30,slV3 f U.sz 0 b b),(31,vI ((a1.take b).length:Int)),(32,vI 0)] ⟨Z,Z,Z,Z,Z,Z,Z,Z,Z,Z,Z,V⟩ ?_
  refine bd (F.Cn a1 b n d) (fun (s:UInt64×Int×List UInt32) L w=>L=[(6,slV3 f U.sz 0 b b),(7,m),(8,vI n),(9,v32 d),(10,v64 s.1),(23,slV3 g U.sz 0 c c),(24,vI ((a0.take c).length:Int)),(25,vI n),(30,slV3 f U.sz 0 b b),(31,vI ((a1.take b).length:Int)),(32,vI s.2.1)]∧St [] z w [O U m s.2.2]) ?_ (0,0,aH) ⟨Z,a⟩ h
  rintro aV ⟨A,aB,a2⟩ L w a3 hI ad h E
  try dsimp only at hI
  obtain ⟨rfl,a⟩:=hI
  unfold F.Cn at h
  refine M (H (Q 1 Z ?_))
  refine J (N (M ?_))
  refine av Z (fun q=>?_) (fun q=>?_)
  ·have h:=aJ h q
   refine aw (N (M (az ?_)))
   refine M (H (Q 1 Z ?_))
   obtain ⟨u,G,h⟩:=aj h
   refine al (aW u30 aZ Z Z ((l.tk3 j).d a.fr) G) Z (al (aR u38 Z Z ((l.tk3 j).d a.fr) G Z) Z (Q 2 Z ?_))
   refine J (N (M (H (Q 2 Z ?_))))
   refine al (aK Z (bu u38 u87 d)) Z (Q 1 Z ?_)
   refine al (aK Z (bu u38 u87 u)) Z (al (aq Z Z (gX _ d.toUInt64 u.toUInt64)) Z (Q 4 Z ?_))
   obtain ⟨B,S,h⟩:=aj h
   refine al (aW u30 aZ Z Z (a.ro 0 Z) S) Z (al (aR u38 Z Z (a.ro 0 Z) S Z) Z (al (aK Z (bu u38 u87 B)) Z (al (aq Z Z (cv _ (d.toUInt64*u.toUInt64) B.toUInt64)) Z (al (aq Z Z (cv _ A ((d.toUInt64*u.toUInt64)+B.toUInt64))) Z ?_))))
   obtain ⟨k,ag,h⟩:=aQ h
   refine al (aD (v:=v64 k) (by rw [←ag]; rfl)) Z ?_
   refine J (N (M (H (Q 5 Z ?_))))
   refine al (aK Z (bQ u87 u38 k)) Z ?_
   obtain ⟨a4,T,h⟩:=aj h
   refine al (aW u30 aZ Z Z (a.ro 0 Z) T) Z (bn (bP (t:=k.toUInt32) aZ Z Z a (i:=0) Z T Z) ?_)
   intro w a
   obtain ⟨aE,ak,h⟩:=aQ h
   rw [ak]at a
   refine J (N (H (Q 1 Z ?_)))
   refine al (aq Z Z (cq _ k 32)) Z (Q 1 Z ?_)
   refine J (aP ?_)
   refine N (H (Q 2 Z ?_))
   refine J ?_
   exact bh (bo _ (by exact ⟨Z,Z,Z,Z,Z,Z,Z,Z,Z,Z,Z,V⟩) (ad (aX k 32,wI (aB+1),aE) _ _ ⟨Z,a⟩ (aY h E)))
  have h:=aI h q
  refine ba ?_
  refine aC (aC ?_)
  have h:=aT h E
  refine a9 ?_
  refine N (H (Q 3 Z ?_))
  refine al (aL u30 Z ((l.tk3 j).d a.fr)) Z (Q 2 Z ?_)
  refine al (aK Z (bQ u87 u38 A)) Z ?_
  obtain ⟨a5,ab,h⟩:=aj h
  refine al (aW u30 aZ Z Z (a.ro 0 Z) ab) Z (bn (bP (t:=A.toUInt32) aZ Z Z a (i:=0) Z ab Z) ?_)
  intro w a
  obtain ⟨aF,am,h⟩:=aQ h
  rw [am]at a
  refine J (aP ?_)
  refine N (H (Q 2 Z ?_))
  refine J ?_
  exact bh (bo _ (by exact ⟨Z,Z,Z,Z,Z,V⟩) (ac (wI (n+1),aF) _ _ ⟨Z,a⟩ (aY h C)))
 have h:=aI h p
 refine ba ?_
 refine aC (aC ?_)
 have h:=aT h C
 refine a9 ?_
 refine N (M (H (Q 1 Z ?_)))
 obtain ⟨a6,an,h⟩:=aj h
 refine ao Z (dh  an (a.ro 0 Z).rp) Z ?_
 rintro _ w ⟨rfl,ap,y⟩
 have a:=a.f y
 refine Q 1 Z ?_
 refine J (N (ay ?_))
 cases h
 replace a:=a.trunc3 (i:=0) rfl ap
 exact aM Z Z (a.e [0] Z Z)
theorem mM {k:World} {a0:List UInt32} {j:Value} (a1:Int) {r:List UInt8×Bool}
  (h:F.EQ a0 a1=some r) (l:RP [] k U j a0):Calls Tryz.prog 66 #[j,vI a1] k (Ret fun v w=>∃u0:Value,v=.tuple #[u0,vB r.2]∧St [] k w [O e8 u0 r.1]):=by
 refine aN 28 Tryz.func66 Z Z Z ?_
 have a:=St.l k
 refine ar [(0,j),(1,vI a1)] ⟨Z,Z,V⟩ ?_
 unfold F.EQ at h
 refine M (H (Q 2 Z ?_))
 refine J (N (M ?_))
 refine bf (r:=r) (fun (g:Bool) L w=>L=[(0,j),(1,vI a1),(20,vB g)]∧St [] k w []) (F.Ew a0 a1) ?_ ?_
 rotate_left
 ·intro i
  refine H (Q 3 Z ?_)
  cases b:(decide (a1<0))
  case true=>
   have h:=aJ h b
   try simp only [b]
   refine Q 11 Z ?_
   refine J (N ?_)
   exact ar _ (by exact ⟨Z,Z,Z,V⟩) (i true _ _ ⟨Z,a⟩ h)
  case false=>
   have h:=aI h b
   try simp only [b]
   refine Q 4 Z ?_
   cases c:(decide ((16384:Int)<a1))
   case true=>
    have h:=aJ h c
    try simp only [c]
    refine Q 7 Z ?_
    refine J (N ?_)
    exact ar _ (by exact ⟨Z,Z,Z,V⟩) (i true _ _ ⟨Z,a⟩ h)
   case false=>
    have h:=aI h c
    try simp only [c]
    refine Q 1 Z ?_
    obtain ⟨o,q,h⟩:=aj h
    refine cr (t:=13) Z Z (by kernel_rfl) Z (eQ  q (l.d a.fr).rp) Z ?_
    rintro _ w ⟨rfl,f⟩
    have a:=a.f f
    refine Q 1 Z ?_
    refine aF (t:=13) Z Z (aq Z Z (dR _ (wI (o+7)) 8 (by decide))) Z ?_
    refine Q 3 Z ?_
    refine J (N ?_)
    exact ar _ (by exact ⟨Z,Z,Z,V⟩) (i (decide (a1<(wI (Int.tdiv (wI (o+7)) 8)))) _ _ ⟨Z,a⟩ h)
 rintro A L w hJ h
 try dsimp only at hJ
 obtain ⟨rfl,a⟩:=hJ
 unfold F.Ew at h
 refine av Z (fun d=>?_) (fun d=>?_)
 ·have h:=aJ h d
  refine M (H (Q 2 Z ?_))
  refine J (N (ay (aG ?_)))
  cases h
  exact bX Z Z Z ⟨.slice none 0 0,Z,(a.nil e8).e [0] Z Z⟩
 have h:=aI h d
 refine aw (N (M (H (Q 1 Z ?_))))
 obtain ⟨y,s,h⟩:=aj h
 refine aU (cZ (e:=e8) u24 ti5 Z Z Z a s) Z ?_
 rintro p w a
 refine Q 1 Z ?_
 refine J (N (M (H (Q 2 Z ?_))))
 obtain ⟨B,u,h⟩:=aj h
 refine ao Z (cH  u (l.d a.fr).rp) Z ?_
 rintro _ w ⟨rfl,m,f⟩
 have a:=a.f f
 have x:=a.pick (os':=[O e8 p y]++[]) [0] (by decide) Z
 obtain ⟨z,n,h⟩:=aj h
 refine ao Z (nQ  n x.g ((l.tk3 m).g (R Z) x)) Z ?_
 rintro _ w ⟨rfl,f⟩
 have a:=x.h f
 refine J (N (M (H (Q 3 Z ?_))))
 refine J (N (ay ?_))
 cases h
 exact bX Z Z Z ⟨p,Z,a.e [0] Z Z⟩
end Go.Proofs
