import Derived.Test.YtkickcbphbgldaaGreatDoorTW0
import Derived.Test.YtkickcbphbgldaaGreatDoorGkFman
import Derived.Test.YtkickcbphbgldaaGreatDoorTWnata
set_option linter.unusedVariables false
set_option linter.unusedSimpArgs false
set_option linter.unusedSectionVars false
set_option maxRecDepth 4000
namespace Go.Proofs
open Go Go.RowKit Go.Gk
open Go.Gk renaming aa → P, ae → O, af → H, ah → J, ai → I, e32 → U, own → N
open Nat renaming le_of_ble_eq_true → R
theorem jA {f:World} {a0 a1:List UInt32} {g j:Value} {r:List UInt32×Bool}
  (h:F.Cu a0 a1=some r) (d:RP [] f U g a0) (k:RP [] f U j a1):Calls Tryz.prog 25 #[g,j] f (Ret fun v w=>∃u0:Value,v=.tuple #[u0,vB r.2]∧St [] f w [N U u0 r.1]):=by
 refine aH 28 Tryz.func25 Z Z Z ?_
 have a:=St.l f
 refine au [(0,g),(1,j)] ⟨Z,Z,V⟩ ?_
 unfold F.Cu at h
 refine J (H (P 2 Z ?_))
 refine I (O (J (J (H (P 2 Z ?_)))))
 obtain ⟨D,t,h⟩:=aj h
 refine ao Z (f3  t (d.d a.fr).rp (k.d a.fr).rp) Z ?_
 rintro _ w ⟨rfl,b⟩
 have a:=a.f b
 refine P 1 Z ?_
 refine I (O ?_)
 refine aw Z (fun c=>?_) (fun c=>?_)
 ·have h:=aJ h c
  refine J (H (P 2 Z ?_))
  refine I (O (ax (aE ?_)))
  cases h
  exact bU Z Z Z ⟨.slice none 0 0,Z,(a.nil U).e [0] Z Z⟩
 have h:=aI h c
 refine az (O (J (H (P 1 Z ?_))))
 obtain ⟨E,u,h⟩:=aj h
 refine ao Z (cA  u (d.d a.fr).rp) Z ?_
 rintro _ w ⟨rfl,l,b⟩
 have a:=a.f b
 refine P 1 Z ?_
 obtain ⟨G,x,h⟩:=aj h
 refine ao Z (cA  x (k.d a.fr).rp) Z ?_
 rintro _ w ⟨rfl,y,b⟩
 have a:=a.f b
 refine P 2 Z ?_
 refine I (O (J (H (P 1 Z ?_))))
 refine am (aN u30 Z ((d.tk3 l).d a.fr)) Z ?_
 obtain ⟨L,z,h⟩:=aj h
 refine aV (c8 (e:=U) u30 aU Z Z Z a z) Z ?_
 rintro q w a
 refine P 1 Z ?_
 refine I (O (J (H (P 2 Z ?_))))
 refine aV (vu (e:=U) u30 aU Z Z Z a (i:=0) Z ((d.tk3 l).d a.fr)) Z ?_
 rintro v_q w ⟨hv_q,a⟩
 subst v_q
 obtain ⟨s,A,h⟩:=aO h
 rw [A]at a
 refine I (O (J (H (P 2 Z ?_))))
 have B:=a.pick (os':=[N U q s]++[]) [0] (by decide) Z
 obtain ⟨C,n,h⟩:=aj h
 refine ao Z (nB 0 s.length n B.g (a.ro 0 Z).whole ((k.tk3 y).g (R Z) B)) Z ?_
 rintro _ w ⟨rfl,b⟩
 have a:=B.h b
 refine I (O (J (H (P 1 Z ?_))))
 obtain ⟨m,o,h⟩:=aj h
 refine ao Z (db  o (a.ro 0 Z).rp) Z ?_
 rintro _ w ⟨rfl,p,b⟩
 have a:=a.f b
 refine P 2 Z ?_
 refine I (O (ax ?_))
 cases h
 replace a:=a.trunc3 (i:=0) rfl p
 exact bU Z Z Z ⟨slV3 q U.sz 0 m m,Z,a.e [0] Z Z⟩
theorem u9 {z:World} {a0 a1:List UInt32} {g f:Value} {r:List UInt32}
  (h:F.EQ a0 a1=some r) (x:RP [] z U g a0) (l:RP [] z U f a1):Calls Tryz.prog 83 #[g,f] z (Ret fun v w=>St [] z w [N U v r]):=by
 refine aH 73 Tryz.func83 Z Z Z ?_
 have a:=St.l z
 refine au [(0,g),(1,f)] ⟨Z,Z,V⟩ ?_
 unfold F.EQ at h
 refine J (H (P 1 Z ?_))
 refine I (O (J (H (P 1 Z ?_))))
 obtain ⟨c,ar,h⟩:=aj h
 refine ao Z (cA  ar (x.d a.fr).rp) Z ?_
 rintro _ w ⟨rfl,o,y⟩
 have a:=a.f y
 refine P 1 Z ?_
 obtain ⟨b,av,h⟩:=aj h
 refine ao Z (cA  av (l.d a.fr).rp) Z ?_
 rintro _ w ⟨rfl,j,y⟩
 have a:=a.f y
 refine P 2 Z ?_
 refine I (O (J (H (P 1 Z ?_))))
 refine am (aN u30 Z ((x.tk3 o).d a.fr)) Z (P 1 Z ?_)
 refine am (aN u30 Z ((l.tk3 j).d a.fr)) Z (P 1 Z ?_)
 obtain ⟨aK,ay,h⟩:=aj h
 refine aV (c8 (e:=U) u30 aU Z Z Z a ay) Z ?_
 rintro m w a
 refine P 1 Z ?_
 refine I (O (J (J (H (P 1 Z ?_)))))
 refine am (aN u30 Z ((x.tk3 o).d a.fr)) Z (P 1 Z ?_)
 refine I (O (aD ?_))
 refine au [(6,slV3 f U.sz 0 b b),(7,m),(23,slV3 g U.sz 0 c c),(24,vI ((a0.take c).length:Int)),(25,vI 0)] ⟨Z,Z,Z,Z,Z,V⟩ ?_
 refine bj (F.CT a0 c a1 b) (fun (s:Int×List UInt32) L w=>L=[(6,slV3 f U.sz 0 b b),(7,m),(23,slV3 g U.sz 0 c c),(24,vI ((a0.take c).length:Int)),(25,vI s.1)]∧St [] z w [N U m s.2]) ?_ (0,aK) ⟨Z,a⟩ h
 rintro aQ ⟨n,aL⟩ L w aS hI ac h C
 try dsimp only at hI
 obtain ⟨rfl,a⟩:=hI
 unfold F.CT at h
 refine J (H (P 1 Z ?_))
 refine I (O (J ?_))
 refine aw Z (fun p=>?_) (fun p=>?_)
 ·have h:=aJ h p
  refine az (O (J (aD ?_)))
  refine J (H (P 1 Z ?_))
  obtain ⟨d,D,h⟩:=aj h
  refine am (bk u30 aU Z Z ((x.tk3 o).d a.fr) D) Z (am (bb u38 Z Z ((x.tk3 o).d a.fr) D Z) Z (P 2 Z ?_))
  refine I (O (J (H (P 1 Z ?_))))
  refine I (O (J (J (H (P 1 Z ?_)))))
  refine am (aN u30 Z ((l.tk3 j).d a.fr)) Z (P 1 Z ?_)
  refine I (O (aD ?_))
  refine au [(6,slV3 f U.sz 0 b b),(7,m),(8,vI n),(9,v32 d),(10,v64 0),(23,slV3 g U.sz 0 c c),(24,vI ((a0.take c).length:Int)),(25,vI n),(30,slV3 f U.sz 0 b b),(31,vI ((a1.take b).length:Int)),(32,vI 0)] ⟨Z,Z,Z,Z,Z,Z,Z,Z,Z,Z,Z,V⟩ ?_
  refine bj (F.Cl a1 b n d) (fun (s:UInt64×Int×List UInt32) L w=>L=[(6,slV3 f U.sz 0 b b),(7,m),(8,vI n),(9,v32 d),(10,v64 s.1),(23,slV3 g U.sz 0 c c),(24,vI ((a0.take c).length:Int)),(25,vI n),(30,slV3 f U.sz 0 b b),(31,vI ((a1.take b).length:Int)),(32,vI s.2.1)]∧St [] z w [N U m s.2.2]) ?_ (0,0,aL) ⟨Z,a⟩ h
  rintro aT ⟨A,aB,aX⟩ L w aY hI ad h E
  try dsimp only at hI
  obtain ⟨rfl,a⟩:=hI
  unfold F.Cl at h
  refine J (H (P 1 Z ?_))
  refine I (O (J ?_))
  refine aw Z (fun q=>?_) (fun q=>?_)
  ·have h:=aJ h q
   refine az (O (J (aD ?_)))
   refine J (H (P 1 Z ?_))
   obtain ⟨u,G,h⟩:=aj h
   refine am (bk u30 aU Z Z ((l.tk3 j).d a.fr) G) Z (am (bb u38 Z Z ((l.tk3 j).d a.fr) G Z) Z (P 2 Z ?_))
   refine I (O (J (H (P 2 Z ?_))))
   refine am (aM Z (bp u38 u87 d)) Z (P 1 Z ?_)
   refine am (aM Z (bp u38 u87 u)) Z (am (aq Z Z (gy _ d.toUInt64 u.toUInt64)) Z (P 4 Z ?_))
   obtain ⟨B,S,h⟩:=aj h
   refine am (bk u30 aU Z Z (a.ro 0 Z) S) Z (am (bb u38 Z Z (a.ro 0 Z) S Z) Z (am (aM Z (bp u38 u87 B)) Z (am (aq Z Z (cq _ (d.toUInt64*u.toUInt64) B.toUInt64)) Z (am (aq Z Z (cq _ A ((d.toUInt64*u.toUInt64)+B.toUInt64))) Z ?_))))
   obtain ⟨k,ag,h⟩:=aO h
   refine am (aA (v:=v64 k) (by rw [←ag]; rfl)) Z ?_
   refine I (O (J (H (P 5 Z ?_))))
   refine am (aM Z (bO u87 u38 k)) Z ?_
   obtain ⟨aZ,T,h⟩:=aj h
   refine am (bk u30 aU Z Z (a.ro 0 Z) T) Z (bn (cb (t:=k.toUInt32) aU Z Z a (i:=0) Z T Z) ?_)
   intro w a
   obtain ⟨aC,ak,h⟩:=aO h
   rw [ak]at a
   refine I (O (H (P 1 Z ?_)))
   refine am (aq Z Z (cl _ k 32)) Z (P 1 Z ?_)
   refine I (aR ?_)
   refine O (H (P 2 Z ?_))
   refine I ?_
   exact bv (bz _ (by exact ⟨Z,Z,Z,Z,Z,Z,Z,Z,Z,Z,Z,V⟩) (ad (aP k 32,wI (aB+1),aC) _ _ ⟨Z,a⟩ (a8 h E)))
  have h:=aI h q
  refine bg ?_
  refine aF (aF ?_)
  have h:=aW h E
  refine bd ?_
  refine O (H (P 3 Z ?_))
  refine am (aN u30 Z ((l.tk3 j).d a.fr)) Z (P 2 Z ?_)
  refine am (aM Z (bO u87 u38 A)) Z ?_
  obtain ⟨a2,ab,h⟩:=aj h
  refine am (bk u30 aU Z Z (a.ro 0 Z) ab) Z (bn (cb (t:=A.toUInt32) aU Z Z a (i:=0) Z ab Z) ?_)
  intro w a
  obtain ⟨aE,al,h⟩:=aO h
  rw [al]at a
  refine I (aR ?_)
  refine O (H (P 2 Z ?_))
  refine I ?_
  exact bv (bz _ (by exact ⟨Z,Z,Z,Z,Z,V⟩) (ac (wI (n+1),aE) _ _ ⟨Z,a⟩ (a8 h C)))
 have h:=aI h p
 refine bg ?_
 refine aF (aF ?_)
 have h:=aW h C
 refine bd ?_
 refine O (J (H (P 1 Z ?_)))
 obtain ⟨a3,an,h⟩:=aj h
 refine ao Z (db  an (a.ro 0 Z).rp) Z ?_
 rintro _ w ⟨rfl,ap,y⟩
 have a:=a.f y
 refine P 1 Z ?_
 refine I (O (ax ?_))
 cases h
 replace a:=a.trunc3 (i:=0) rfl ap
 exact aG Z Z (a.e [0] Z Z)
theorem mz {k:World} {a0:List UInt32} {j:Value} (a1:Int) {r:List UInt8×Bool}
  (h:F.EB a0 a1=some r) (l:RP [] k U j a0):Calls Tryz.prog 66 #[j,vI a1] k (Ret fun v w=>∃u0:Value,v=.tuple #[u0,vB r.2]∧St [] k w [N e8 u0 r.1]):=by
 refine aH 28 Tryz.func66 Z Z Z ?_
 have a:=St.l k
 refine au [(0,j),(1,vI a1)] ⟨Z,Z,V⟩ ?_
 unfold F.EB at h
 refine J (H (P 2 Z ?_))
 refine I (O (J ?_))
 refine a9 (r:=r) (fun (g:Bool) L w=>L=[(0,j),(1,vI a1),(20,vB g)]∧St [] k w []) (F.DG a0 a1) ?_ ?_
 rotate_left
 ·intro i
  refine H (P 3 Z ?_)
  cases b:(decide (a1<0))
  case true=>
   have h:=aJ h b
   try simp only [b]
   refine P 11 Z ?_
   refine I (O ?_)
   exact au _ (by exact ⟨Z,Z,Z,V⟩) (i true _ _ ⟨Z,a⟩ h)
  case false=>
   have h:=aI h b
   try simp only [b]
   refine P 4 Z ?_
   cases c:(decide ((16384:Int)<a1))
   case true=>
    have h:=aJ h c
    try simp only [c]
    refine P 7 Z ?_
    refine I (O ?_)
    exact au _ (by exact ⟨Z,Z,Z,V⟩) (i true _ _ ⟨Z,a⟩ h)
   case false=>
    have h:=aI h c
    try simp only [c]
    refine P 1 Z ?_
    obtain ⟨o,q,h⟩:=aj h
    refine cr (t:=13) Z Z (by kernel_rfl) Z (eR  q (l.d a.fr).rp) Z ?_
    rintro _ w ⟨rfl,f⟩
    have a:=a.f f
    refine P 1 Z ?_
    refine bo (t:=13) Z Z (aq Z Z (dI _ (wI (o+7)) 8 (by decide))) Z ?_
    refine P 3 Z ?_
    refine I (O ?_)
    exact au _ (by exact ⟨Z,Z,Z,V⟩) (i (decide (a1<(wI (Int.tdiv (wI (o+7)) 8)))) _ _ ⟨Z,a⟩ h)
 rintro A L w hJ h
 try dsimp only at hJ
 obtain ⟨rfl,a⟩:=hJ
 unfold F.DG at h
 refine aw Z (fun d=>?_) (fun d=>?_)
 ·have h:=aJ h d
  refine J (H (P 2 Z ?_))
  refine I (O (ax (aE ?_)))
  cases h
  exact bU Z Z Z ⟨.slice none 0 0,Z,(a.nil e8).e [0] Z Z⟩
 have h:=aI h d
 refine az (O (J (H (P 1 Z ?_))))
 obtain ⟨y,s,h⟩:=aj h
 refine aV (c8 (e:=e8) u24 ti5 Z Z Z a s) Z ?_
 rintro p w a
 refine P 1 Z ?_
 refine I (O (J (H (P 2 Z ?_))))
 obtain ⟨B,u,h⟩:=aj h
 refine ao Z (cA  u (l.d a.fr).rp) Z ?_
 rintro _ w ⟨rfl,m,f⟩
 have a:=a.f f
 have x:=a.pick (os':=[N e8 p y]++[]) [0] (by decide) Z
 obtain ⟨z,n,h⟩:=aj h
 refine ao Z (np  n x.g ((l.tk3 m).g (R Z) x)) Z ?_
 rintro _ w ⟨rfl,f⟩
 have a:=x.h f
 refine I (O (J (H (P 3 Z ?_))))
 refine I (O (ax ?_))
 cases h
 exact bU Z Z Z ⟨p,Z,a.e [0] Z Z⟩
end Go.Proofs
