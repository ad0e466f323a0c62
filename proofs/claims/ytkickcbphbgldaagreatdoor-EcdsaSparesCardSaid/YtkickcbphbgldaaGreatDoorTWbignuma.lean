import Derived.Test.YtkickcbphbgldaaGreatDoorTW0
import Derived.Test.YtkickcbphbgldaaGreatDoorGkFman
set_option linter.unusedVariables false
set_option linter.unusedSimpArgs false
set_option linter.unusedSectionVars false
set_option maxRecDepth 4000
namespace Go.Proofs
open Go Go.RowKit Go.Gk
open Go.Gk renaming aa → Q, ae → N, af → H, ah → M, ai → J, e32 → U, own → O, pB → K
open Go.Gk.OE renaming bx → X
theorem c7 {j:World} {a0:List UInt32} {a:Value} {S:List Nat} {r:List UInt32}
  (h:F.BP a0=some r) (b:St S j j [O U a a0]):Calls Tryz.prog 180 #[a] j (Ret fun v w=>∃u0:Value,v=u0∧St S j w [O U u0 r]):=by
 refine aN 21 Tryz.func180 Z Z Z ?_
 refine ar [(0,a)] ⟨Z,V⟩ ?_
 unfold F.BP at h
 refine M (H (Q 1 Z ?_))
 refine J (N (M (H (Q 1 Z ?_))))
 refine al (aL u30 Z (b.ro 0 Z)) Z (Q 1 Z ?_)
 refine J (N (M (az ?_)))
 refine ar [(0,a),(3,vI (a0.length:Int))] ⟨Z,Z,V⟩ ?_
 refine bd (F.Fy a0) (fun (s:Int) L w=>L=[(0,a),(3,vI s)]∧St S j w [O U a a0]) ?_ (a0.length:Int) ⟨Z,b⟩ h
 rintro q e L w p hI o h k
 try dsimp only at hI
 obtain ⟨rfl,b⟩:=hI
 unfold F.Fy at h
 refine M ?_
 refine bf (r:=p) (fun (g:Bool) L w=>L=[(0,a),(3,vI e),(15,vB g)]∧St S j w [O U a a0]) (F.Fg a0 e) ?_ ?_
 rotate_left
 ·intro l
  refine H (Q 3 Z ?_)
  cases c:(decide ((0:Int)<e))
  case true=>
   have h:=aJ h c
   try simp only [c]
   refine Q 3 Z ?_
   obtain ⟨n,m,h⟩:=aj h
   refine aF (t:=8) Z Z (aW u30 aZ Z Z (b.ro 0 Z) m) Z (aF (t:=8) Z Z (aR u38 Z Z (b.ro 0 Z) m Z) Z (aF (t:=8) Z Z (aq Z Z (oJ _ n 0)) Z (Q 1 Z ?_)))
   refine J (N ?_)
   exact ar _ (by exact ⟨Z,Z,Z,V⟩) (l (n == 0) _ _ ⟨Z,b⟩ h)
  case false=>
   have h:=aI h c
   try simp only [c]
   refine Q 7 Z ?_
   refine J (N ?_)
   exact ar _ (by exact ⟨Z,Z,Z,V⟩) (l false _ _ ⟨Z,b⟩ h)
 rintro u L w hJ h
 try dsimp only at hJ
 obtain ⟨rfl,b⟩:=hJ
 unfold F.Fg at h
 refine av Z (fun d=>?_) (fun d=>?_)
 ·have h:=aJ h d
  refine aw (N (az ?_))
  refine H (Q 3 Z ?_)
  refine J (aP ?_)
  exact bh (bo _ (by exact ⟨Z,Z,V⟩) (o (wI (e - 1)) _ _ ⟨Z,b⟩ (aY h k)))
 have h:=aI h d
 refine ba ?_
 refine aC (aC ?_)
 have h:=aT h k
 refine a9 ?_
 refine N (M (H (Q 2 Z ?_)))
 obtain ⟨f,h⟩:=bZ h
 refine al (pX u30 aZ Z Z (b.ro 0 Z) (kY f)) Z (Q 1 Z ?_)
 refine J (N (ay ?_))
 cases h
 replace b:=b.trunc (i:=0) rfl f.2
 exact aM Z Z ⟨slV a U.sz 0 ((e:Int).toNat),Z,b.e [0] Z Z⟩
theorem dY {d:World} (a0:UInt64) {r:List UInt32}
  (h:F.B3 a0=some r) :Calls Tryz.prog 144 #[v64 a0] d (Ret fun v w=>St [] d w [O U v r]):=by
 refine aN 10 Tryz.func144 Z Z Z ?_
 have a:=St.l d
 refine ar [(0,v64 a0)] ⟨Z,V⟩ ?_
 unfold F.B3 at h
 refine M (H (Q 1 Z ?_))
 refine J (N (M (H (Q 1 Z ?_))))
 refine al (aK Z (bQ u87 u38 a0)) Z (Q 1 Z ?_)
 refine al (aq Z Z (cq _ a0 32)) Z (al (aK Z (bQ u87 u38 (aX a0 32))) Z ?_)
 refine aU (ci (e:=U) (l:=([a0.toUInt32,(aX a0 32).toUInt32]:List UInt32)) (vs:=[v32 a0.toUInt32,v32 ((aX a0 32).toUInt32)]) u30 aZ Z Z Z Z (by decide) (by decide) a) Z ?_
 rintro g w a
 have i:=a.pick (os':=[O U g ([a0.toUInt32,(aX a0 32).toUInt32]:List UInt32)]++[]) [0] (by decide) Z
 obtain ⟨k,f,h⟩:=aj h
 refine ao Z (c7  f i.g ) Z ?_
 rintro m w ⟨j,b,c⟩
 rw [←b]at c
 have a:=i.h c
 refine Q 1 Z ?_
 refine J (N (ay ?_))
 cases h
 exact aM Z Z (a.e [0] Z Z)
theorem l7 {k:World} {a0 a1:List UInt32} {b c:Value} {r:List UInt32}
  (h:F.DS a0 a1=some r) (u:RP [] k U b a0) (j:RP [] k U c a1):Calls Tryz.prog 192 #[b,c] k (Ret fun v w=>St [] k w [O U v r]):=by
 refine aN 75 Tryz.func192 Z Z Z ?_
 have a:=St.l k
 refine ar [(0,b),(1,c)] ⟨Z,Z,V⟩ ?_
 unfold F.DS at h
 refine M (H (Q 1 Z ?_))
 refine J (N (M ?_))
 refine bf (r:=r) (fun (g:Bool) L w=>L=[(0,b),(1,c),(16,vB g)]∧St [] k w []) (F.Dy a0 a1) ?_ ?_
 rotate_left
 ·intro S
  refine H (Q 1 Z ?_)
  refine al (aL u30 Z (u.d a.fr)) Z (Q 2 Z ?_)
  cases l:((a0.length:Int) == 0)
  case true=>
   have h:=aJ h l
   try simp only [l]
   refine Q 4 Z ?_
   refine J (N ?_)
   exact ar _ (by exact ⟨Z,Z,Z,V⟩) (S true _ _ ⟨Z,a⟩ h)
  case false=>
   have h:=aI h l
   try simp only [l]
   refine Q 1 Z ?_
   refine aF (t:=12) Z Z (aL u30 Z (j.d a.fr)) Z (Q 2 Z ?_)
   refine J (N ?_)
   exact ar _ (by exact ⟨Z,Z,Z,V⟩) (S ((a1.length:Int) == 0) _ _ ⟨Z,a⟩ h)
 rintro bj L w hJ h
 try dsimp only at hJ
 obtain ⟨rfl,a⟩:=hJ
 unfold F.Dy at h
 refine av Z (fun m=>?_) (fun m=>?_)
 ·have h:=aJ h m
  refine M (H (Q 1 Z ?_))
  refine J (N (ay (aG ?_)))
  cases h
  exact aM Z Z ((a.nil U).e [0] Z Z)
 have h:=aI h m
 refine aw (N (M (H (Q 1 Z ?_))))
 refine al (aL u30 Z (u.d a.fr)) Z (Q 1 Z ?_)
 refine al (aL u30 Z (j.d a.fr)) Z (Q 1 Z ?_)
 obtain ⟨a2,aE,h⟩:=aj h
 refine aU (cZ (e:=U) u30 aZ Z Z Z a aE) Z ?_
 rintro d w a
 refine Q 1 Z ?_
 refine J (N (M (M (H (Q 1 Z ?_)))))
 refine J (N (az ?_))
 refine ar [(0,b),(1,c),(5,d),(6,vI 0)] ⟨Z,Z,Z,Z,V⟩ ?_
 refine bd (F.Dd a0 a1) (fun (s:Int×List UInt32) L w=>L=[(0,b),(1,c),(5,d),(6,vI s.1)]∧St [] k w [O U d s.2]) ?_ (0,a2) ⟨Z,a⟩ h
 rintro a5 ⟨x,aA⟩ L w a6 hI ad h T
 try dsimp only at hI
 obtain ⟨rfl,a⟩:=hI
 unfold F.Dd at h
 refine M (M (H (Q 2 Z ?_)))
 refine al (aL u30 Z (u.d a.fr)) Z (Q 1 Z ?_)
 refine J (N ?_)
 refine av Z (fun n=>?_) (fun n=>?_)
 ·have h:=aJ h n
  refine aw (N (M (az ?_)))
  refine M (H (Q 1 Z ?_))
  refine J (N (M (M (H (Q 1 Z ?_)))))
  refine J (N (az ?_))
  refine ar [(0,b),(1,c),(5,d),(6,vI x),(7,v64 0),(8,vI 0)] ⟨Z,Z,Z,Z,Z,Z,V⟩ ?_
  refine bd (F.DE a0 a1 x) (fun (s:UInt64×Int×List UInt32) L w=>L=[(0,b),(1,c),(5,d),(6,vI x),(7,v64 s.1),(8,vI s.2.1)]∧St [] k w [O U d s.2.2]) ?_ (0,0,aA) ⟨Z,a⟩ h
  rintro a7 ⟨y,ab,aH⟩ L w a8 hI ag h A
  try dsimp only at hI
  obtain ⟨rfl,a⟩:=hI
  unfold F.DE at h
  refine M (M (H (Q 2 Z ?_)))
  refine al (aL u30 Z (j.d a.fr)) Z (Q 1 Z ?_)
  refine J (N ?_)
  refine av Z (fun o=>?_) (fun o=>?_)
  ·have h:=aJ h o
   refine aw (N (M (az ?_)))
   refine M ?_
   refine bb (fun w'=>St [] k w' [O U d aH]) (fun _=>true) bR (fun _ _ _ hf=>hf.2) (fun _ _ hf=>hf) (by kernel_rfl) ?_
   have a:=a.drew
   show lxE _ _ _ _ _ _ _ [0,1,2,3,4,5,6,7,8,9,10,11,12,13,14,15,16,17,18,19,20,21] _ _
   refine am a Z Z (fun w hF=>au Z) Z (am a Z Z (fun w hF=>au Z) Z (am a Z Z (fun w hF=>au Z) Z ?_))
   obtain ⟨p,B,h⟩:=aj h
   refine am a Z Z (fun w hF=>aW u30 aZ Z Z (u.d hF.fr) B) Z (am a Z Z (fun w hF=>aR u38 Z Z (u.d hF.fr) B Z) Z (am a Z Z (fun w hF=>aK Z (bu u38 u87 p)) Z (am a Z Z (fun w hF=>au Z) Z (am a Z Z (fun w hF=>au Z) Z ?_))))
   obtain ⟨q,C,h⟩:=aj h
   refine am a Z Z (fun w hF=>aW u30 aZ Z Z (j.d hF.fr) C) Z (am a Z Z (fun w hF=>aR u38 Z Z (j.d hF.fr) C Z) Z (am a Z Z (fun w hF=>aK Z (bu u38 u87 q)) Z (am a Z Z (fun w hF=>aq Z Z (gX _ p.toUInt64 q.toUInt64)) Z (am a Z Z (fun w hF=>au Z) Z (am a Z Z (fun w hF=>au Z) Z (am a Z Z (fun w hF=>au Z) Z (am a Z Z (fun w hF=>aq Z Z (bS _ x ab)) Z ?_)))))))
   obtain ⟨z,D,h⟩:=aj h
   refine am a Z Z (fun w hF=>aW u30 aZ Z Z (hF.ro 0 Z) D) Z (am a Z Z (fun w hF=>aR u38 Z Z (hF.ro 0 Z) D Z) Z (am a Z Z (fun w hF=>aK Z (bu u38 u87 z)) Z (am a Z Z (fun w hF=>aq Z Z (cv _ (p.toUInt64*q.toUInt64) z.toUInt64)) Z (am a Z Z (fun w hF=>aq Z Z (cv _ y ((p.toUInt64*q.toUInt64)+z.toUInt64))) Z ?_))))
   obtain ⟨f,ak,h⟩:=aQ h
   refine am a Z Z (fun w hF=>aD (v:=v64 f) (by rw [←ak]; rfl)) Z ?_
   refine bp a ?_
   refine N (M (H (Q 5 Z ?_)))
   refine al (aK Z (bQ u87 u38 f)) Z ?_
   obtain ⟨bc,E,h⟩:=aj h
   refine al (aW u30 aZ Z Z (a.ro 0 Z) E) Z (bn (bP (t:=f.toUInt32) aZ Z Z a (i:=0) Z E Z) ?_)
   intro w a
   obtain ⟨aS,an,h⟩:=aQ h
   rw [an]at a
   refine J (N (H (Q 1 Z ?_)))
   refine al (aq Z Z (cq _ f 32)) Z (Q 1 Z ?_)
   refine J (aP ?_)
   refine N (H (Q 3 Z ?_))
   refine J ?_
   exact bh (bo _ (by exact ⟨Z,Z,Z,Z,Z,Z,V⟩) (ag (aX f 32,wI (ab+1),aS) _ _ ⟨Z,a⟩ (aY h A)))
  have h:=aI h o
  refine ba ?_
  refine aC (aC ?_)
  have h:=aT h A
  refine a9 ?_
  refine N (H (Q 3 Z ?_))
  refine al (aL u30 Z (j.d a.fr)) Z (Q 2 Z ?_)
  refine al (aK Z (bQ u87 u38 y)) Z ?_
  obtain ⟨be,G,h⟩:=aj h
  refine al (aW u30 aZ Z Z (a.ro 0 Z) G) Z (bn (bP (t:=y.toUInt32) aZ Z Z a (i:=0) Z G Z) ?_)
  intro w a
  obtain ⟨aV,ap,h⟩:=aQ h
  rw [ap]at a
  refine J (aP ?_)
  refine N (H (Q 3 Z ?_))
  refine J ?_
  exact bh (bo _ (by exact ⟨Z,Z,Z,Z,V⟩) (ad (wI (x+1),aV) _ _ ⟨Z,a⟩ (aY h T)))
 have h:=aI h n
 refine ba ?_
 refine aC (aC ?_)
 have h:=aT h T
 refine a9 ?_
 refine N (M (H (Q 1 Z ?_)))
 have hG:=a.pick (os':=[O U d aA]++[]) [0] (by decide) Z
 obtain ⟨bg,ax,h⟩:=aj h
 refine ao Z (c7  ax hG.g ) Z ?_
 rintro bi w ⟨a4,ac,aB⟩
 rw [←ac]at aB
 have a:=hG.h aB
 refine Q 1 Z ?_
 refine J (N (ay ?_))
 cases h
 exact aM Z Z (a.e [0] Z Z)
theorem i5 {f:World} {a0 a1:List UInt32} {p q:Value} {r:List UInt32}
  (h:F.Du a0 a1=some r) (G:RP [] f U p a0) (S:RP [] f U q a1):Calls Tryz.prog 142 #[p,q] f (Ret fun v w=>St [] f w [O U v r]):=by
 refine aN 58 Tryz.func142 Z Z Z ?_
 have a:=St.l f
 refine ar [(0,p),(1,q)] ⟨Z,Z,V⟩ ?_
 unfold F.Du at h
 refine M (H (Q 1 Z ?_))
 refine J (N ?_)
 refine bf (r:=r) (fun (g:List UInt32×List UInt32) L w=>∃(j:Value) (k:Value),L=[(0,j),(1,k)]∧RP [] f U j g.1∧RP [] f U k g.2∧St [] f w []) (F.ER) ?_ ?_
 rotate_left
 ·intro T
  refine M (H (Q 1 Z ?_))
  refine al (aL u30 Z (G.d a.fr)) Z (Q 1 Z ?_)
  refine al (aL u30 Z (S.d a.fr)) Z (Q 1 Z ?_)
  refine J (N ?_)
  refine av Z (fun u=>?_) (fun u=>?_)
  ·have h:=aJ h u
   refine H (Q 4 Z ?_)
   refine J (N ?_)
   exact ar _ (by exact ⟨Z,Z,V⟩) (T (a1,a0) _ _ ⟨q,p,Z,S,G,a⟩ h)
  have h:=aI h u
  refine aw (N ?_)
  exact ar _ (by exact ⟨Z,Z,V⟩) (T (a0,a1) _ _ ⟨p,q,Z,G,S,a⟩ h)
 rintro ⟨aG,aH⟩ L w hJ h
 try dsimp only at hJ
 obtain ⟨j,k,rfl,c,x,a⟩:=hJ
 unfold F.ER at h
 refine M (H (Q 1 Z ?_))
 refine al (aL u30 Z (c.d a.fr)) Z (Q 1 Z ?_)
 obtain ⟨aO,aA,h⟩:=aj h
 refine aU (cZ (e:=U) u30 aZ Z Z Z a aA) Z ?_
 rintro b w a
 refine Q 1 Z ?_
 refine J (N (M (H (Q 1 Z ?_))))
 refine J (N (M (M (H (Q 1 Z ?_)))))
 refine J (N (az ?_))
 refine ar [(0,j),(1,k),(5,b),(6,v64 0),(7,vI 0)] ⟨Z,Z,Z,Z,Z,V⟩ ?_
 refine bd (F.Dc aG aH) (fun (s:UInt64×Int×List UInt32) L w=>L=[(0,j),(1,k),(5,b),(6,v64 s.1),(7,vI s.2.1)]∧St [] f w [O U b s.2.2]) ?_ (0,0,aO) ⟨Z,a⟩ h
 rintro a2 ⟨d,y,ab⟩ L w aB hI ak h z
 try dsimp only at hI
 obtain ⟨rfl,a⟩:=hI
 unfold F.Dc at h
 refine M (M (H (Q 2 Z ?_)))
 refine al (aL u30 Z (c.d a.fr)) Z (Q 1 Z ?_)
 refine J (N ?_)
 refine av Z (fun l=>?_) (fun l=>?_)
 ·have h:=aJ h l
  refine aw (N (M (az ?_)))
  refine M (H (Q 3 Z ?_))
  obtain ⟨m,A,h⟩:=aj h
  refine al (aW u30 aZ Z Z (c.d a.fr) A) Z (al (aR u38 Z Z (c.d a.fr) A Z) Z (al (aK Z (bu u38 u87 m)) Z (al (aq Z Z (cv _ d m.toUInt64)) Z (Q 1 Z ?_))))
  refine J (N ?_)
  refine bf (r:=aB) (fun (g:UInt64) L w=>L=[(0,j),(1,k),(5,b),(6,v64 g),(7,vI y)]∧St [] f w [O U b ab]) (F.DV y ab) ?_ ?_
  rotate_left
  ·intro B
   refine M (H (Q 2 Z ?_))
   refine al (aL u30 Z (x.d a.fr)) Z (Q 1 Z ?_)
   refine J (N ?_)
   refine av Z (fun n=>?_) (fun n=>?_)
   ·have h:=aJ h n
    refine H (Q 3 Z ?_)
    obtain ⟨ac,C,h⟩:=aj h
    refine al (aW u30 aZ Z Z (x.d a.fr) C) Z (al (aR u38 Z Z (x.d a.fr) C Z) Z (al (aK Z (bu u38 u87 ac)) Z (al (aq Z Z (cv _ (d+m.toUInt64) ac.toUInt64)) Z ?_)))
    obtain ⟨ad,am,h⟩:=aQ h
    refine al (aD (v:=v64 ad) (by rw [←am]; rfl)) Z ?_
    refine J (N ?_)
    exact ar _ (by exact ⟨Z,Z,Z,Z,Z,V⟩) (B ad _ _ ⟨Z,a⟩ h)
   have h:=aI h n
   refine aw (N ?_)
   exact ar _ (by exact ⟨Z,Z,Z,Z,Z,V⟩) (B (d+m.toUInt64) _ _ ⟨Z,a⟩ h)
  rintro o L w hJ h
  try dsimp only at hJ
  obtain ⟨rfl,a⟩:=hJ
  unfold F.DV at h
  refine M (H (Q 3 Z ?_))
  refine al (aK Z (bQ u87 u38 o)) Z ?_
  obtain ⟨a3,D,h⟩:=aj h
  refine al (aW u30 aZ Z Z (a.ro 0 Z) D) Z (bn (bP (t:=o.toUInt32) aZ Z Z a (i:=0) Z D Z) ?_)
  intro w a
  obtain ⟨aE,an,h⟩:=aQ h
  rw [an]at a
  refine J (N (H (Q 1 Z ?_)))
  refine al (aq Z Z (cq _ o 32)) Z (Q 1 Z ?_)
  refine J (aP ?_)
  refine N (H (Q 3 Z ?_))
  refine J ?_
  exact bh (bo _ (by exact ⟨Z,Z,Z,Z,Z,V⟩) (ak (aX o 32,wI (y+1),aE) _ _ ⟨Z,a⟩ (aY h z)))
 have h:=aI h l
 refine ba ?_
 refine aC (aC ?_)
 have h:=aT h z
 refine a9 ?_
 refine N (M (H (Q 2 Z ?_)))
 refine al (aL u30 Z (c.d a.fr)) Z (Q 1 Z ?_)
 refine al (aK Z (bQ u87 u38 d)) Z ?_
 obtain ⟨a4,E,h⟩:=aj h
 refine al (aW u30 aZ Z Z (a.ro 0 Z) E) Z (bn (bP (t:=d.toUInt32) aZ Z Z a (i:=0) Z E Z) ?_)
 intro w a
 obtain ⟨aF,ap,h⟩:=aQ h
 rw [ap]at a
 refine J (N (M (H (Q 1 Z ?_))))
 have hG:=a.pick (os':=[O U b aF]++[]) [0] (by decide) Z
 obtain ⟨a5,au,h⟩:=aj h
 refine ao Z (c7  au hG.g ) Z ?_
 rintro a6 w ⟨aV,ag,ax⟩
 rw [←ag]at ax
 have a:=hG.h ax
 refine Q 1 Z ?_
 refine J (N (ay ?_))
 cases h
 exact aM Z Z (a.e [0] Z Z)
theorem bH {f:World} {j a2:List UInt32} {e b:Value} {c:Nat} {S:List Nat} (l a1:Bool) {r:Bool×List UInt32}
  (h:F.BO l j a1 a2=some r) (a:St S f f [X c [vB l,e],O U e j,O U b a2]):Calls Tryz.prog 145 #[K c 0,vB a1,b] f (Ret fun v w=>∃m:Value,v=K c 0∧St S f w [X c [vB r.1,m],O U m r.2]):=by
 refine aN 21 Tryz.func145 Z Z Z ?_
 refine ar [(0,K c 0),(1,vB a1),(2,b)] ⟨Z,Z,Z,V⟩ ?_
 unfold F.BO at h
 refine M (H (Q 1 Z ?_))
 refine J (N (M (H (Q 2 Z ?_))))
 refine al (aO Z) Z (al (ax (k:=1) u101 Z Z da Z) Z (bn (bA (i:=0) (us:=[b]) Z Br Z Z (fo (a.ro 2 Z).one) ⟨(a.ro 2 Z).one,V⟩ Z a) ?_))
 intro w a
 refine J (N ?_)
 refine bf (r:=r) (fun (g:Bool) L w=>L=[(0,K c 0)]∧St S f w [X c [vB g,b],O U b a2]) (F.E8 a2) ?_ ?_
 rotate_left
 ·intro n
  refine H (Q 3 Z ?_)
  cases d:a1
  case true=>
   have h:=aJ h d
   try simp only [d]
   refine Q 1 Z ?_
   refine aF (t:=13) Z Z (aL u30 Z (a.ro 2 Z)) Z (Q 2 Z ?_)
   refine al (aO Z) Z (al (ax (k:=0) u101 Z Z nz4 Z) Z (bn (bA (i:=0) (us:=[vB (decide ((0:Int)<(a2.length:Int)))]) Z sz4 Z Z Z ⟨Z,V⟩ Z a) ?_))
   intro w a
   refine J (N ?_)
   exact ar _ (by exact ⟨Z,V⟩) (n (decide ((0:Int)<(a2.length:Int))) _ _ ⟨Z,(a.e [0,2] Z Z)⟩ h)
  case false=>
   have h:=aI h d
   try simp only [d]
   refine Q 4 Z ?_
   refine al (aO Z) Z (al (ax (k:=0) u101 Z Z nz4 Z) Z (bn (bA (i:=0) (us:=[vB false]) Z sz4 Z Z Z ⟨Z,V⟩ Z a) ?_))
   intro w a
   refine J (N ?_)
   exact ar _ (by exact ⟨Z,V⟩) (n false _ _ ⟨Z,(a.e [0,2] Z Z)⟩ h)
 rintro o L w hJ h
 try dsimp only at hJ
 obtain ⟨rfl,a⟩:=hJ
 unfold F.E8 at h
 refine M (H (Q 2 Z ?_))
 refine J (N (ay ?_))
 cases h
 exact aM Z Z ⟨b,Z,a.e [0,1] Z Z⟩
theorem jQ {q:World} {d:List UInt32} {a:Value} {e:Nat} {S:List Nat} (c:Bool) (a1:List UInt8) (a2:Int) {r:Bool×Bool×List UInt32}
  (h:F.E0 c d a1 a2=some r) (b:St S q q [X e [vB c,a],O U a d]):Calls Tryz.prog 186 #[K e 0,vS a1,vI a2] q (Ret fun v w=>∃a7:Value,v=.tuple #[K e 0,vB r.1]∧St S q w [X e [vB r.2.1,a7],O U a7 r.2.2]):=by
 refine aN 124 Tryz.func186 Z Z Z ?_
 refine ar [(0,K e 0),(1,vS a1),(2,vI a2)] ⟨Z,Z,Z,V⟩ ?_
 unfold F.E0 at h
 refine M (H (Q 2 Z ?_))
 refine J (N (M (H (Q 1 Z ?_))))
 refine J (N ?_)
 refine bf (r:=r) (fun (g:List UInt8×Bool) L w=>L=[(0,K e 0),(1,vS g.1),(2,vI a2),(8,vB g.2)]∧St S q w [X e [vB c,a],O U a d]) (F.E9 a2 c d) ?_ ?_
 rotate_left
 ·intro aW
  refine bf (r:=r) (fun (g:Bool) L w=>L=[(0,K e 0),(1,vS a1),(2,vI a2),(8,vB false),(25,vB g)]∧St S q w [X e [vB c,a],O U a d]) (F.Ey a1 a2 c d) ?_ ?_
  rotate_left
  ·intro aV
   refine H (Q 1 Z ?_)
   refine al (kq Tryz.underlying9 Z) Z (Q 2 Z ?_)
   cases T:(decide ((0:Int)<(a1.length:Int)))
   case true=>
    have h:=aJ h T
    try simp only [T]
    refine Q 1 Z ?_
    obtain ⟨bB,bE,h⟩:=aj h
    refine aF (t:=16) Z Z (ku Tryz.underlying9 Z Z bE) Z (aF (t:=16) Z Z (aq Z Z (fO _ bB 45)) Z (Q 1 Z ?_))
    cases ab:(bB == 45)
    case true=>
     have h:=aJ h ab
     try simp only [ab]
     refine Q 5 Z ?_
     refine J (N ?_)
     exact ar _ (by exact ⟨Z,Z,Z,Z,Z,V⟩) (aV true _ _ ⟨Z,b⟩ h)
    case false=>
     have h:=aI h ab
     try simp only [ab]
     refine Q 1 Z ?_
     obtain ⟨bC,bF,h⟩:=aj h
     refine aF (t:=20) Z Z (ku Tryz.underlying9 Z Z bF) Z (aF (t:=20) Z Z (aq Z Z (fO _ bC 43)) Z (Q 2 Z ?_))
     refine J (N ?_)
     exact ar _ (by exact ⟨Z,Z,Z,Z,Z,V⟩) (aV (bC == 43) _ _ ⟨Z,b⟩ h)
   case false=>
    have h:=aI h T
    try simp only [T]
    refine Q 9 Z ?_
    refine J (N ?_)
    exact ar _ (by exact ⟨Z,Z,Z,Z,Z,V⟩) (aV false _ _ ⟨Z,b⟩ h)
  rintro b5 L w hJ h
  try dsimp only at hJ
  obtain ⟨rfl,b⟩:=hJ
  unfold F.Ey at h
  refine av Z (fun ac=>?_) (fun ac=>?_)
  ·have h:=aJ h ac
   refine M (H (Q 1 Z ?_))
   obtain ⟨bD,bG,h⟩:=aj h
   refine al (ku Tryz.underlying9 Z Z bG) Z (al (aq Z Z (fO _ bD 45)) Z (Q 1 Z ?_))
   refine J (N (H (Q 1 Z ?_)))
   obtain ⟨bI,bj,h⟩:=aj h
   refine al (vO Tryz.underlying9 Z Z bj) Z (Q 1 Z ?_)
   refine J (N ?_)
   exact ar _ (by exact ⟨Z,Z,Z,Z,V⟩) (aW (bI,bD == 45) _ _ ⟨Z,b⟩ h)
  have h:=aI h ac
  refine aw (N ?_)
  exact ar _ (by exact ⟨Z,Z,Z,Z,V⟩) (aW (a1,false) _ _ ⟨Z,b⟩ h)
 rintro ⟨l,i⟩ L w hJ h
 try dsimp only at hJ
 obtain ⟨rfl,b⟩:=hJ
 unfold F.E9 at h
 refine bf (r:=r) (fun (g:List UInt8×Int) L w=>L=[(0,K e 0),(1,vS g.1),(2,vI g.2),(8,vB i)]∧St S q w [X e [vB c,a],O U a d]) (F.DP c d i) ?_ ?_
 rotate_left
 ·intro x
  refine M (H (Q 2 Z ?_))
  refine J (N ?_)
  refine av Z (fun ad=>?_) (fun ad=>?_)
  ·have h:=aJ h ad
   refine M (H (Q 1 Z ?_))
   refine J (N ?_)
   refine bf (r:=r) (fun (g:Bool) L w=>L=[(0,K e 0),(1,vS l),(2,vI 10),(8,vB i),(40,vB g)]∧St S q w [X e [vB c,a],O U a d]) (F.FJ l c d i) ?_ ?_
   rotate_left
   ·intro aX
    refine H (Q 1 Z ?_)
    refine al (kq Tryz.underlying9 Z) Z (Q 2 Z ?_)
    cases y:(decide ((2:Int)<(l.length:Int)))
    case true=>
     have h:=aJ h y
     try simp only [y]
     refine Q 1 Z ?_
     obtain ⟨a8,bk,h⟩:=aj h
     refine aF (t:=36) Z Z (ku Tryz.underlying9 Z Z bk) Z (aF (t:=36) Z Z (aq Z Z (fO _ a8 48)) Z (Q 1 Z ?_))
     refine J (N ?_)
     exact ar _ (by exact ⟨Z,Z,Z,Z,Z,V⟩) (aX (a8 == 48) _ _ ⟨Z,b⟩ h)
    case false=>
     have h:=aI h y
     try simp only [y]
     refine Q 4 Z ?_
     refine J (N ?_)
     exact ar _ (by exact ⟨Z,Z,Z,Z,Z,V⟩) (aX false _ _ ⟨Z,b⟩ h)
   rintro bO L w hJ h
   try dsimp only at hJ
   obtain ⟨rfl,b⟩:=hJ
   unfold F.FJ at h
   refine av Z (fun ag=>?_) (fun ag=>?_)
   ·have h:=aJ h ag
    refine bf (r:=r) (fun (g:Int) L w=>L=[(0,K e 0),(1,vS l),(2,vI g),(8,vB i)]∧St S q w [X e [vB c,a],O U a d]) (F.Ea l c d i) ?_ ?_
    rotate_left
    ·intro z
     refine M (H (Q 1 Z ?_))
     obtain ⟨k,bl,h⟩:=aj h
     refine al (ku Tryz.underlying9 Z Z bl) Z (J (N (az ?_)))
     refine bf (r:=r) (fun (g:Bool) L w=>L=[(0,K e 0),(1,vS l),(2,vI 10),(8,vB i),(42,v8 k),(43,vB g)]∧St S q w [X e [vB c,a],O U a d]) (F.FN k l c d i) ?_ ?_
     rotate_left
     ·intro aZ
      refine M (H (al (aq Z Z (fO _ k 120)) Z (Q 1 Z ?_)))
      refine J (N ?_)
      refine av Z (fun ak=>?_) (fun ak=>?_)
      ·have h:=aJ h ak
       refine aw (N ?_)
       exact ar _ (by exact ⟨Z,Z,Z,Z,Z,Z,V⟩) (aZ (k == 120) _ _ ⟨Z,b⟩ h)
      have h:=aI h ak
      refine H (al (aq Z Z (fO _ k 88)) Z (Q 1 Z ?_))
      refine J (N ?_)
      exact ar _ (by exact ⟨Z,Z,Z,Z,Z,Z,V⟩) (aZ (k == 88) _ _ ⟨Z,b⟩ h)
     rintro bP L w hJ h
     try dsimp only at hJ
     obtain ⟨rfl,b⟩:=hJ
     unfold F.FN at h
     refine av Z (fun am=>?_) (fun am=>?_)
     ·have h:=aJ h am
      refine H (Q 1 Z ?_)
      refine J (aP ?_)
      refine N ?_
      exact ar _ (by exact ⟨Z,Z,Z,Z,V⟩) (z 16 _ _ ⟨Z,b⟩ h)
     have h:=aI h am
     refine bf (r:=r) (fun (g:Bool) L w=>L=[(0,K e 0),(1,vS l),(2,vI 10),(8,vB i),(42,v8 k),(46,vB g)]∧St S q w [X e [vB c,a],O U a d]) (F.FS k l c d i) ?_ ?_
     rotate_left
     ·intro a0
      refine M (H (al (aq Z Z (fO _ k 98)) Z (Q 1 Z ?_)))
      refine J (N ?_)
      refine av Z (fun an=>?_) (fun an=>?_)
      ·have h:=aJ h an
       refine aw (N ?_)
       exact ar _ (by exact ⟨Z,Z,Z,Z,Z,Z,V⟩) (a0 (k == 98) _ _ ⟨Z,b⟩ h)
      have h:=aI h an
      refine H (al (aq Z Z (fO _ k 66)) Z (Q 1 Z ?_))
      refine J (N ?_)
      exact ar _ (by exact ⟨Z,Z,Z,Z,Z,Z,V⟩) (a0 (k == 66) _ _ ⟨Z,b⟩ h)
     rintro bQ L w hJ h
     try dsimp only at hJ
     obtain ⟨rfl,b⟩:=hJ
     unfold F.FS at h
     refine av Z (fun ap=>?_) (fun ap=>?_)
     ·have h:=aJ h ap
      refine H (Q 1 Z ?_)
      refine J (aP ?_)
      refine N ?_
      exact ar _ (by exact ⟨Z,Z,Z,Z,V⟩) (z 2 _ _ ⟨Z,b⟩ h)
     have h:=aI h ap
     refine bf (r:=r) (fun (g:Bool) L w=>L=[(0,K e 0),(1,vS l),(2,vI 10),(8,vB i),(49,vB g)]∧St S q w [X e [vB c,a],O U a d]) (F.FY l c d i) ?_ ?_
     rotate_left
     ·intro a3
      refine M (H (al (aq Z Z (fO _ k 111)) Z (Q 1 Z ?_)))
      refine J (N ?_)
      refine av Z (fun au=>?_) (fun au=>?_)
      ·have h:=aJ h au
       refine aw (N ?_)
       exact ar _ (by exact ⟨Z,Z,Z,Z,Z,V⟩) (a3 (k == 111) _ _ ⟨Z,b⟩ h)
      have h:=aI h au
      refine H (al (aq Z Z (fO _ k 79)) Z (Q 1 Z ?_))
      refine J (N ?_)
      exact ar _ (by exact ⟨Z,Z,Z,Z,Z,V⟩) (a3 (k == 79) _ _ ⟨Z,b⟩ h)
     rintro bR L w hJ h
     try dsimp only at hJ
     obtain ⟨rfl,b⟩:=hJ
     unfold F.FY at h
     refine av Z (fun ax=>?_) (fun ax=>?_)
     ·have h:=aJ h ax
      refine H (Q 1 Z ?_)
      refine J (aP ?_)
      refine N ?_
      exact ar _ (by exact ⟨Z,Z,Z,Z,V⟩) (z 8 _ _ ⟨Z,b⟩ h)
     have h:=aI h ax
     refine aw (aP ?_)
     refine N ?_
     exact ar _ (by exact ⟨Z,Z,Z,Z,V⟩) (z 10 _ _ ⟨Z,b⟩ h)
    rintro bb L w hJ h
    try dsimp only at hJ
    obtain ⟨rfl,b⟩:=hJ
    unfold F.Ea at h
    refine M (H (Q 2 Z ?_))
    refine J (N ?_)
    refine av Z (fun aA=>?_) (fun aA=>?_)
    ·have h:=aJ h aA
     refine H (Q 1 Z ?_)
     obtain ⟨bJ,bm,h⟩:=aj h
     refine al (vO Tryz.underlying9 Z Z bm) Z (Q 1 Z ?_)
     refine J (N ?_)
     exact ar _ (by exact ⟨Z,Z,Z,Z,V⟩) (x (bJ,bb) _ _ ⟨Z,b⟩ h)
    have h:=aI h aA
    refine aw (N ?_)
    exact ar _ (by exact ⟨Z,Z,Z,Z,V⟩) (x (l,bb) _ _ ⟨Z,b⟩ h)
   have h:=aI h ag
   refine aw (N ?_)
   exact ar _ (by exact ⟨Z,Z,Z,Z,V⟩) (x (l,10) _ _ ⟨Z,b⟩ h)
  have h:=aI h ad
  refine aw (N ?_)
  exact ar _ (by exact ⟨Z,Z,Z,Z,V⟩) (x (l,a2) _ _ ⟨Z,b⟩ h)
 rintro ⟨n,j⟩ L w hJ h
 try dsimp only at hJ
 obtain ⟨rfl,b⟩:=hJ
 unfold F.DP at h
 refine M ?_
 refine bf (r:=r) (fun (g:Bool) L w=>L=[(0,K e 0),(1,vS n),(2,vI j),(8,vB i),(66,vB g)]∧St S q w [X e [vB c,a],O U a d]) (F.DU c d i n j) ?_ ?_
 rotate_left
 ·intro aB
  refine H (Q 1 Z ?_)
  refine al (kq Tryz.underlying9 Z) Z (Q 2 Z ?_)
  cases A:((n.length:Int) == 0)
  case true=>
   have h:=aJ h A
   try simp only [A]
   refine Q 7 Z ?_
   refine J (N ?_)
   exact ar _ (by exact ⟨Z,Z,Z,Z,Z,V⟩) (aB true _ _ ⟨Z,b⟩ h)
  case false=>
   have h:=aI h A
   try simp only [A]
   refine Q 4 Z ?_
   cases B:(decide (j<2))
   case true=>
    have h:=aJ h B
    try simp only [B]
    refine Q 3 Z ?_
    refine J (N ?_)
    exact ar _ (by exact ⟨Z,Z,Z,Z,Z,V⟩) (aB true _ _ ⟨Z,b⟩ h)
   case false=>
    have h:=aI h B
    try simp only [B]
    refine Q 3 Z ?_
    refine J (N ?_)
    exact ar _ (by exact ⟨Z,Z,Z,Z,Z,V⟩) (aB (decide ((36:Int)<j)) _ _ ⟨Z,b⟩ h)
 rintro bS L w hJ h
 try dsimp only at hJ
 obtain ⟨rfl,b⟩:=hJ
 unfold F.DU at h
 refine av Z (fun aE=>?_) (fun aE=>?_)
 ·have h:=aJ h aE
  refine M (H (Q 2 Z ?_))
  refine J (N (ay (aG ?_)))
  cases h
 have h:=aI h aE
 refine aw (N (M (H (Q 1 Z ?_))))
 refine J (N (M (M (H (Q 1 Z ?_)))))
 refine J (N (az ?_))
 refine ar [(0,K e 0),(1,vS n),(2,vI j),(8,vB i),(9,.slice none 0 0),(10,vI 0)] ⟨Z,Z,Z,Z,Z,Z,V⟩ ?_
 refine bd (F.Dw c d i n j) (fun (s:List UInt32×Int) L w=>∃(m:Value),L=[(0,K e 0),(1,vS n),(2,vI j),(8,vB i),(9,m),(10,vI s.2)]∧St S q w [O U m s.1,X e [vB c,a],O U a d]) ?_ ([],0) ⟨.slice none 0 0,Z,(b.nil U)⟩ h
 rintro bT ⟨o,p⟩ L w aH hI bn h aL
 try dsimp only at hI
 obtain ⟨m,rfl,b⟩:=hI
 unfold F.Dw at h
 refine M (M (H (Q 2 Z ?_)))
 refine al (kq Tryz.underlying9 Z) Z (Q 1 Z ?_)
 refine J (N ?_)
 refine av Z (fun aM=>?_) (fun aM=>?_)
 ·have h:=aJ h aM
  refine aw (N (M (az ?_)))
  refine M (H (Q 1 Z ?_))
  refine J (N ?_)
  refine bf (r:=aH) (fun (g:Int) L w=>L=[(0,K e 0),(1,vS n),(2,vI j),(8,vB i),(9,m),(10,vI p),(11,vI g)]∧St S q w [X e [vB c,a],O U a d,O U m o]) (F.CG j o p) ?_ ?_
  rotate_left
  ·intro C
   refine M (H (Q 2 Z ?_))
   obtain ⟨f,bp,h⟩:=aj h
   refine al (ku Tryz.underlying9 Z Z bp) Z (Q 1 Z ?_)
   refine J (N (az ?_))
   refine bf (r:=aH) (fun (g:Bool) L w=>L=[(0,K e 0),(1,vS n),(2,vI j),(8,vB i),(9,m),(10,vI p),(11,vI 99),(12,v8 f),(76,vB g)]∧St S q w [X e [vB c,a],O U a d,O U m o]) (F.Ff f j o p) ?_ ?_
   rotate_left
   ·intro a4
    refine H (Q 1 Z ?_)
    refine al (aq Z Z (rS _ f 48)) Z (Q 1 Z ?_)
    cases D:(decide ((48:UInt8)≤f))
    case true=>
     have h:=aJ h D
     try simp only [D]
     refine Q 1 Z ?_
     refine aF (t:=79) Z Z (aq Z Z (qA _ f 57)) Z (Q 2 Z ?_)
     refine J (N ?_)
     exact ar _ (by exact ⟨Z,Z,Z,Z,Z,Z,Z,Z,Z,V⟩) (a4 (decide (f≤57)) _ _ ⟨Z,(b.e [1,2,0] Z Z)⟩ h)
    case false=>
     have h:=aI h D
     try simp only [D]
     refine Q 4 Z ?_
     refine J (N ?_)
     exact ar _ (by exact ⟨Z,Z,Z,Z,Z,Z,Z,Z,Z,V⟩) (a4 false _ _ ⟨Z,(b.e [1,2,0] Z Z)⟩ h)
   rintro bU L w hJ h
   try dsimp only at hJ
   obtain ⟨rfl,b⟩:=hJ
   unfold F.Ff at h
   refine av Z (fun aO=>?_) (fun aO=>?_)
   ·have h:=aJ h aO
    refine H (Q 1 Z ?_)
    refine al (aq Z Z (qH _ f 48)) Z (al (aK Z (nG Tryz.underlying5 Tryz.underlying3 (f - 48))) Z ?_)
    obtain ⟨bc,bq,h⟩:=aQ h
    refine al (aD (v:=vI bc) (by rw [←bq]; rfl)) Z ?_
    refine J (aP ?_)
    refine N ?_
    exact ar _ (by exact ⟨Z,Z,Z,Z,Z,Z,Z,V⟩) (C bc _ _ ⟨Z,b⟩ h)
   have h:=aI h aO
   refine bf (r:=aH) (fun (g:Bool) L w=>L=[(0,K e 0),(1,vS n),(2,vI j),(8,vB i),(9,m),(10,vI p),(11,vI 99),(12,v8 f),(86,vB g)]∧St S q w [X e [vB c,a],O U a d,O U m o]) (F.Fv f j o p) ?_ ?_
   rotate_left
   ·intro a5
    refine H (Q 1 Z ?_)
    refine al (aq Z Z (rS _ f 97)) Z (Q 1 Z ?_)
    cases E:(decide ((97:UInt8)≤f))
    case true=>
     have h:=aJ h E
     try simp only [E]
     refine Q 1 Z ?_
     refine aF (t:=89) Z Z (aq Z Z (qA _ f 122)) Z (Q 2 Z ?_)
     refine J (N ?_)
     exact ar _ (by exact ⟨Z,Z,Z,Z,Z,Z,Z,Z,Z,V⟩) (a5 (decide (f≤122)) _ _ ⟨Z,b⟩ h)
    case false=>
     have h:=aI h E
     try simp only [E]
     refine Q 4 Z ?_
     refine J (N ?_)
     exact ar _ (by exact ⟨Z,Z,Z,Z,Z,Z,Z,Z,Z,V⟩) (a5 false _ _ ⟨Z,b⟩ h)
   rintro bV L w hJ h
   try dsimp only at hJ
   obtain ⟨rfl,b⟩:=hJ
   unfold F.Fv at h
   refine av Z (fun aR=>?_) (fun aR=>?_)
   ·have h:=aJ h aR
    refine H (Q 1 Z ?_)
    refine al (aq Z Z (qH _ f 97)) Z (al (aK Z (nG Tryz.underlying5 Tryz.underlying3 (f - 97))) Z (Q 1 Z ?_))
    obtain ⟨be,br,h⟩:=aQ h
    refine al (aD (v:=vI be) (by rw [←br]; rfl)) Z ?_
    refine J (aP ?_)
    refine N ?_
    exact ar _ (by exact ⟨Z,Z,Z,Z,Z,Z,Z,V⟩) (C be _ _ ⟨Z,b⟩ h)
   have h:=aI h aR
   refine bf (r:=aH) (fun (g:Bool) L w=>L=[(0,K e 0),(1,vS n),(2,vI j),(8,vB i),(9,m),(10,vI p),(11,vI 99),(12,v8 f),(97,vB g)]∧St S q w [X e [vB c,a],O U a d,O U m o]) (F.FL f j o p) ?_ ?_
   rotate_left
   ·intro a6
    refine H (Q 1 Z ?_)
    refine al (aq Z Z (rS _ f 65)) Z (Q 1 Z ?_)
    cases G:(decide ((65:UInt8)≤f))
    case true=>
     have h:=aJ h G
     try simp only [G]
     refine Q 1 Z ?_
     refine aF (t:=100) Z Z (aq Z Z (qA _ f 90)) Z (Q 2 Z ?_)
     refine J (N ?_)
     exact ar _ (by exact ⟨Z,Z,Z,Z,Z,Z,Z,Z,Z,V⟩) (a6 (decide (f≤90)) _ _ ⟨Z,b⟩ h)
    case false=>
     have h:=aI h G
     try simp only [G]
     refine Q 4 Z ?_
     refine J (N ?_)
     exact ar _ (by exact ⟨Z,Z,Z,Z,Z,Z,Z,Z,Z,V⟩) (a6 false _ _ ⟨Z,b⟩ h)
   rintro bW L w hJ h
   try dsimp only at hJ
   obtain ⟨rfl,b⟩:=hJ
   unfold F.FL at h
   refine av Z (fun aS=>?_) (fun aS=>?_)
   ·have h:=aJ h aS
    refine H (Q 1 Z ?_)
    refine al (aq Z Z (qH _ f 65)) Z (al (aK Z (nG Tryz.underlying5 Tryz.underlying3 (f - 65))) Z (Q 1 Z ?_))
    obtain ⟨bg,bs,h⟩:=aQ h
    refine al (aD (v:=vI bg) (by rw [←bs]; rfl)) Z ?_
    refine J (aP ?_)
    refine N ?_
    exact ar _ (by exact ⟨Z,Z,Z,Z,Z,Z,Z,V⟩) (C bg _ _ ⟨Z,b⟩ h)
   have h:=aI h aS
   refine aw (aP ?_)
   refine N ?_
   exact ar _ (by exact ⟨Z,Z,Z,Z,Z,Z,Z,V⟩) (C 99 _ _ ⟨Z,b⟩ h)
  rintro bi L w hJ h
  try dsimp only at hJ
  obtain ⟨rfl,b⟩:=hJ
  unfold F.CG at h
  refine M (M (H (Q 3 Z ?_)))
  refine J (N ?_)
  refine av Z (fun aU=>?_) (fun aU=>?_)
  ·have h:=aJ h aU
   refine M (H (Q 2 Z ?_))
   refine J (N (ay (aG (bz ?_))))
   refine aG (aG ?_)
   have h:=aT h aL
   refine bz ?_
   refine aG ?_
   cases h
  have h:=aI h aU
  refine aw (N (H (Q 2 Z ?_)))
  refine al (aK Z (eA Tryz.underlying3 u87 j)) Z ?_
  obtain ⟨bY,bt,h⟩:=aj h
  refine ao Z (dY (UInt64.ofInt j) bt ) Z ?_
  rintro bZ w u
  have b:=b.f u
  obtain ⟨b0,bu,h⟩:=aj h
  refine ao Z (l7  bu (b.ro 3 Z).rp (b.ro 0 Z).rp) Z ?_
  rintro b1 w u
  have b:=b.f u
  refine Q 1 Z ?_
  refine al (aK Z (eA Tryz.underlying3 u87 bi)) Z ?_
  obtain ⟨b2,bv,h⟩:=aj h
  refine ao Z (dY (UInt64.ofInt bi) bv ) Z ?_
  rintro b3 w u
  have b:=b.f u
  obtain ⟨bK,bw,h⟩:=aj h
  refine ao Z (i5  bw (b.ro 1 Z).rp (b.ro 0 Z).rp) Z ?_
  rintro bL w u
  have b:=b.f u
  refine Q 1 Z ?_
  refine J (aP ?_)
  refine N (H (Q 3 Z ?_))
  refine J ?_
  exact bh (bo _ (by exact ⟨Z,Z,Z,Z,Z,Z,V⟩) (bn (bK,wI (p+1)) _ _ ⟨bL,Z,(b.e [0,4,5] Z Z)⟩ (aY h aL)))
 have h:=aI h aM
 refine ba ?_
 refine aC (aC ?_)
 have h:=aT h aL
 refine a9 ?_
 refine N (M (H (Q 3 Z ?_)))
 have hG:=b.pick (os':=[X e [vB c,a],O U a d,O U m o]++[]) [1,2,0] (by decide) Z
 obtain ⟨b4,bA,h⟩:=aj h
 refine ao Z (bH c i bA hG.g ) Z ?_
 rintro _ w ⟨bM,rfl,u⟩
 have b:=hG.h u
 refine Q 2 Z ?_
 refine J (N (ay ?_))
 cases h
 exact bX Z Z Z ⟨bM,Z,b.e [0,1] Z Z⟩
theorem gl {f:World} {a0:List UInt32} {b:Value} {r:Int}
  (h:F.DB a0=some r) (c:RP [] f U b a0):Calls Tryz.prog 151 #[b] f (Ret fun v w=>v=vI r∧St [] f w []):=by
 refine aN 26 Tryz.func151 Z Z Z ?_
 have a:=St.l f
 refine ar [(0,b)] ⟨Z,V⟩ ?_
 unfold F.DB at h
 refine M (H (Q 1 Z ?_))
 refine J (N (M (M (H (Q 1 Z ?_)))))
 refine al (aL u30 Z (c.d a.fr)) Z (Q 1 Z ?_)
 refine J (N ?_)
 refine av Z (fun d=>?_) (fun d=>?_)
 ·have h:=aJ h d
  refine M (H (Q 1 Z ?_))
  refine J (N (ay (aG ?_)))
  cases h
  exact aM Z Z ⟨Z,a⟩
 have h:=aI h d
 refine aw (N (M (H (Q 1 Z ?_))))
 refine J (N (M (M (H (Q 2 Z ?_)))))
 refine al (aL u30 Z (c.d a.fr)) Z (Q 1 Z ?_)
 obtain ⟨k,g,h⟩:=aj h
 refine al (aW u30 aZ Z Z (c.d a.fr) g) Z (al (aR u38 Z Z (c.d a.fr) g Z) Z (Q 1 Z ?_))
 refine J (N (az ?_))
 refine ar [(0,b),(3,vI 0),(4,v32 k)] ⟨Z,Z,Z,V⟩ ?_
 refine bd (F.C4 a0) (fun (s:Int×UInt32) L w=>L=[(0,b),(3,vI s.1),(4,v32 s.2)]∧St [] f w []) ?_ (0,k) ⟨Z,a⟩ h
 rintro n ⟨m,i⟩ L w o hI l h j
 try dsimp only at hI
 obtain ⟨rfl,a⟩:=hI
 unfold F.C4 at h
 refine M (M (H (Q 1 Z ?_)))
 refine al (aq Z Z (ma _ i 0)) Z (J (N ?_))
 refine av Z (fun e=>?_) (fun e=>?_)
 ·have h:=aJ h e
  refine aw (N (M (az ?_)))
  refine H (Q 3 Z ?_)
  refine J (aP ?_)
  refine N (H (Q 1 Z ?_))
  refine al (aq Z Z (di _ i 1)) Z (Q 1 Z ?_)
  refine J ?_
  exact bh (bo _ (by exact ⟨Z,Z,Z,V⟩) (l (wI (m+1),bC i 1) _ _ ⟨Z,a⟩ (aY h j)))
 have h:=aI h e
 refine ba ?_
 refine aC (aC ?_)
 have h:=aT h j
 refine a9 ?_
 refine N (M (H (Q 1 Z ?_)))
 refine al (aL u30 Z (c.d a.fr)) Z (Q 1 Z ?_)
 refine al (aq Z Z (fj _ (wI ((a0.length:Int) - 1)) 32)) Z (Q 3 Z ?_)
 refine J (N (ay ?_))
 cases h
 exact aM Z Z ⟨Z,a⟩
theorem im {p:World} {g:List UInt32} {l:Value} {f:Nat} (q:Bool) {r:List UInt8}
  (h:F.Eo q g=some r) (c:RP [] p U l g) (hBa0:RB [] p f [vB q,l]):Calls Tryz.prog 120 #[K f 0] p (Ret fun v w=>St [] p w [O e8 v r]):=by
 refine aN 41 Tryz.func120 Z Z Z ?_
 have a:=St.l p
 refine ar [(0,K f 0)] ⟨Z,V⟩ ?_
 unfold F.Eo at h
 refine M (H (Q 1 Z ?_))
 refine J (N (M (H (Q 1 Z ?_))))
 refine al (aO Z) Z (al (ax (k:=1) u101 Z Z da Z) Z (al (aH u30 Z Z (hBa0.cell a.fr 1 Z)) Z ?_))
 obtain ⟨E,z,h⟩:=aj h
 refine ao Z (gl  z (c.d a.fr).rp) Z ?_
 rintro _ w ⟨rfl,G⟩
 have a:=a.f G
 refine Q 1 Z ?_
 refine al (aq Z Z (dR _ (wI (E+7)) 8 (by decide))) Z ?_
 obtain ⟨m,A,h⟩:=aQ h
 refine al (aD (v:=vI m) (by rw [←A]; rfl)) Z ?_
 refine J (N (M (H (Q 1 Z ?_))))
 obtain ⟨S,B,h⟩:=aj h
 refine aU (cZ (e:=e8) u24 ti5 Z Z Z a B) Z ?_
 rintro u w a
 refine Q 1 Z ?_
 refine J (N (M (M (H (Q 1 Z ?_)))))
 refine J (N (az ?_))
 refine ar [(0,K f 0),(3,vI m),(4,u),(5,vI 0)] ⟨Z,Z,Z,Z,V⟩ ?_
 refine bd (F.Er g m) (fun (s:Int×List UInt8) L w=>L=[(0,K f 0),(3,vI m),(4,u),(5,vI s.1)]∧St [] p w [O e8 u s.2]) ?_ (0,S) ⟨Z,a⟩ h
 rintro T ⟨b,ad⟩ L w ab hI C h x
 try dsimp only at hI
 obtain ⟨rfl,a⟩:=hI
 unfold F.Er at h
 refine M (M (H (Q 3 Z ?_)))
 refine J (N ?_)
 refine av Z (fun d=>?_) (fun d=>?_)
 ·have h:=aJ h d
  refine aw (N (M (az ?_)))
  refine H (Q 6 Z ?_)
  refine al (aO Z) Z (al (ax (k:=1) u101 Z Z da Z) Z (al (aH u30 Z Z (hBa0.cell a.fr 1 Z)) Z (Q 1 Z ?_)))
  refine al (aq Z Z (dR _ b 4 (by decide))) Z ?_
  obtain ⟨j,n,h⟩:=aj h
  refine al (aW u30 aZ Z Z (c.d a.fr) n) Z (al (aR u38 Z Z (c.d a.fr) n Z) Z (Q 1 Z ?_))
  refine al (aK Z (eA Tryz.underlying3 u112 b)) Z ?_
  refine al (aq Z Z (eM _ (UInt64.ofInt b) 4 (by decide))) Z ?_
  refine al (aq Z Z (gX _ 8 ((UInt64.ofInt b)%4))) Z (al (aq Z Z (di _ j (8*((UInt64.ofInt b)%4)))) Z (al (aK Z (gK u38 Tryz.underlying5 (bC j ((8*((UInt64.ofInt b)%4)).toNat)))) Z ?_))
  obtain ⟨ac,o,h⟩:=aj h
  refine al (aW u24 ti5 Z Z (a.ro 0 Z) o) Z (bn (bP (t:=((bC j ((8*((UInt64.ofInt b)%4)).toNat)).toUInt8)) ti5 Z Z a (i:=0) Z o Z) ?_)
  intro w a
  obtain ⟨D,y,h⟩:=aQ h
  rw [y]at a
  refine J (aP ?_)
  refine N (H (Q 3 Z ?_))
  refine J ?_
  exact bh (bo _ (by exact ⟨Z,Z,Z,Z,V⟩) (C (wI (b+1),D) _ _ ⟨Z,a⟩ (aY h x)))
 have h:=aI h d
 refine ba ?_
 refine aC (aC ?_)
 have h:=aT h x
 refine a9 ?_
 refine N (M (H (Q 2 Z ?_)))
 refine J (N (ay ?_))
 cases h
 exact aM Z Z (a.e [0] Z Z)
theorem iC {q:World} {a0:List UInt32} {f:Value} (a1:UInt64) {r:List UInt32}
  (h:F.DA a0 a1=some r) (g:RP [] q U f a0):Calls Tryz.prog 143 #[f,v64 a1] q (Ret fun v w=>St [] q w [O U v r]):=by
 refine aN 61 Tryz.func143 Z Z Z ?_
 have a:=St.l q
 refine ar [(0,f),(1,v64 a1)] ⟨Z,Z,V⟩ ?_
 unfold F.DA at h
 refine M (H (Q 1 Z ?_))
 refine J (N (M (M (H (Q 1 Z ?_)))))
 refine al (aL u30 Z (g.d a.fr)) Z (Q 1 Z ?_)
 refine J (N ?_)
 refine av Z (fun c=>?_) (fun c=>?_)
 ·have h:=aJ h c
  refine M (H (Q 1 Z ?_))
  refine J (N (ay (aG ?_)))
  cases h
  exact aM Z Z ((a.nil U).e [0] Z Z)
 have h:=aI h c
 refine aw (N (M (H (Q 1 Z ?_))))
 refine al (aq Z Z (gI _ a1 32 (by decide))) Z ?_
 refine al (aK Z (l8 u112 Tryz.underlying3 (a1 / 32))) Z (Q 1 Z ?_)
 refine al (aq Z Z (eM _ a1 32 (by decide))) Z ?_
 obtain ⟨j,S,h⟩:=aQ h
 refine al (aD (v:=vI j) (by rw [←S]; rfl)) Z ?_
 refine Q 1 Z ?_
 refine J (N (M (H (Q 1 Z ?_))))
 refine al (aL u30 Z (g.d a.fr)) Z (Q 3 Z ?_)
 obtain ⟨ad,T,h⟩:=aj h
 refine aU (cZ (e:=U) u30 aZ Z Z Z a T) Z ?_
 rintro k w a
 refine Q 1 Z ?_
 refine J (N (M (M (H (Q 1 Z ?_)))))
 refine J (N (az ?_))
 refine ar [(0,f),(5,vI j),(6,v64 (a1%32)),(7,k),(8,vI 0)] ⟨Z,Z,Z,Z,Z,V⟩ ?_
 refine bd (F.EI a0 a1 j) (fun (s:Int×List UInt32) L w=>L=[(0,f),(5,vI j),(6,v64 (a1%32)),(7,k),(8,vI s.1)]∧St [] q w [O U k s.2]) ?_ (0,ad) ⟨Z,a⟩ h
 rintro ap ⟨ag,ak⟩ L w aF hI ab h u
 try dsimp only at hI
 obtain ⟨rfl,a⟩:=hI
 unfold F.EI at h
 refine M (M (H (Q 2 Z ?_)))
 refine al (aL u30 Z (g.d a.fr)) Z (Q 1 Z ?_)
 refine J (N ?_)
 refine av Z (fun d=>?_) (fun d=>?_)
 ·have h:=aJ h d
  refine aw (N (M (az ?_)))
  refine M (H (Q 2 Z ?_))
  obtain ⟨x,l,h⟩:=aj h
  refine al (aW u30 aZ Z Z (g.d a.fr) l) Z (al (aR u38 Z Z (g.d a.fr) l Z) Z (al (aK Z (bu u38 u87 x)) Z (Q 1 Z ?_)))
  refine al (aq Z Z (c9 _ x.toUInt64 (a1%32))) Z ?_
  obtain ⟨b,B,h⟩:=aQ h
  refine al (aD (v:=v64 b) (by rw [←B]; rfl)) Z ?_
  refine J (N (M (H (Q 4 Z ?_))))
  obtain ⟨y,m,h⟩:=aj h
  refine al (aW u30 aZ Z Z (a.ro 0 Z) m) Z (al (aR u38 Z Z (a.ro 0 Z) m Z) Z (Q 1 Z ?_))
  refine al (aK Z (bQ u87 u38 b)) Z (al (aq Z Z (fu _ y b.toUInt32)) Z ?_)
  obtain ⟨au,n,h⟩:=aj h
  refine al (aW u30 aZ Z Z (a.ro 0 Z) n) Z (bn (bP (t:=(y ||| b.toUInt32)) aZ Z Z a (i:=0) Z n Z) ?_)
  intro w a
  obtain ⟨ax,C,h⟩:=aQ h
  rw [C]at a
  refine J (N (H (Q 5 Z ?_)))
  obtain ⟨z,o,h⟩:=aj h
  refine al (aW u30 aZ Z Z (a.ro 0 Z) o) Z (al (aR u38 Z Z (a.ro 0 Z) o Z) Z (Q 1 Z ?_))
  refine al (aq Z Z (cq _ b 32)) Z (al (aK Z (bQ u87 u38 (aX b 32))) Z (al (aq Z Z (fu _ z ((aX b 32).toUInt32))) Z ?_))
  obtain ⟨aA,p,h⟩:=aj h
  refine al (aW u30 aZ Z Z (a.ro 0 Z) p) Z (bn (bP (t:=(z ||| ((aX b 32).toUInt32))) aZ Z Z a (i:=0) Z p Z) ?_)
  intro w a
  obtain ⟨ac,D,h⟩:=aQ h
  rw [D]at a
  refine J (aP ?_)
  refine N (H (Q 3 Z ?_))
  refine J ?_
  exact bh (bo _ (by exact ⟨Z,Z,Z,Z,Z,V⟩) (ab (wI (ag+1),ac) _ _ ⟨Z,a⟩ (aY h u)))
 have h:=aI h d
 refine ba ?_
 refine aC (aC ?_)
 have h:=aT h u
 refine a9 ?_
 refine N (M (H (Q 1 Z ?_)))
 have hG:=a.pick (os':=[O U k ak]++[]) [0] (by decide) Z
 obtain ⟨aB,E,h⟩:=aj h
 refine ao Z (c7  E hG.g ) Z ?_
 rintro aE w ⟨an,A,G⟩
 rw [←A]at G
 have a:=hG.h G
 refine Q 1 Z ?_
 refine J (N (ay ?_))
 cases h
 exact aM Z Z (a.e [0] Z Z)
theorem eI {l:World} {e:List UInt32} {a1:List UInt8} {b j:Value} {c:Nat} {S:List Nat} (d:Bool) {r:Bool×List UInt32}
  (h:F.Do d e a1=some r) (a:St S l l [X c [vB d,b],O U b e]) (n:RP S l e8 j a1):Calls Tryz.prog 77 #[K c 0,j] l (Ret fun v w=>∃o:Value,v=K c 0∧St S l w [X c [vB r.1,o],O U o r.2]):=by
 refine aN 25 Tryz.func77 Z Z Z ?_
 refine ar [(0,K c 0),(1,j)] ⟨Z,Z,V⟩ ?_
 unfold F.Do at h
 refine M (H (Q 1 Z ?_))
 refine J (N (M (H (Q 1 Z ?_))))
 refine J (N (M (M (H (Q 1 Z ?_)))))
 refine J (N (az ?_))
 refine ar [(0,K c 0),(1,j),(5,.slice none 0 0),(6,vI 0)] ⟨Z,Z,Z,Z,V⟩ ?_
 refine bd (F.Ep d e a1) (fun (s:List UInt32×Int) L w=>∃(k:Value),L=[(0,K c 0),(1,j),(5,k),(6,vI s.2)]∧St S l w [O U k s.1,X c [vB d,b],O U b e]) ?_ ([],0) ⟨.slice none 0 0,Z,(a.nil U)⟩ h
 rintro ab ⟨z,G⟩ L w ap hI A h p
 try dsimp only at hI
 obtain ⟨k,rfl,a⟩:=hI
 unfold F.Ep at h
 refine M (M (H (Q 2 Z ?_)))
 refine al (aL u24 Z (n.d a.fr)) Z (Q 1 Z ?_)
 refine J (N ?_)
 refine av Z (fun g=>?_) (fun g=>?_)
 ·have h:=aJ h g
  refine aw (N (M (az ?_)))
  refine bb (fun w'=>St S l w' [O U k z,X c [vB d,b],O U b e]) (fun i=>!([1,7,8].contains i)) bR (fun _ _ _ B=>B.2) (fun _ _ B=>B) (by kernel_rfl) ?_
  have a:=a.drew
  show lxE _ _ _ _ _ _ _ [0,1,2,3,4,5,6,7,8,9] _ _
  refine am a Z Z (fun w hF=>au Z) Z ?_
  obtain ⟨ac,t,h⟩:=aj h
  refine bk a Z Z (by kernel_rfl) Z (iC 8 t (a.ro 0 Z).rp) Z ?_
  rintro ad w f
  have a:=a.f f
  refine am (a.e [1,2,3] Z Z) Z Z (fun w hF=>au Z) Z (am (a.e [1,2,3] Z Z) Z Z (fun w hF=>au Z) Z ?_)
  obtain ⟨q,m,h⟩:=aj h
  refine am (a.e [1,2,3] Z Z) Z Z (fun w hF=>aW u24 ti5 Z Z (n.d hF.fr) m) Z (am (a.e [1,2,3] Z Z) Z Z (fun w hF=>aR Tryz.underlying5 Z Z (n.d hF.fr) m Z) Z (am (a.e [1,2,3] Z Z) Z Z (fun w hF=>aK Z (tx Tryz.underlying5 u87 q)) Z ?_))
  obtain ⟨ag,u,h⟩:=aj h
  refine bk (a.e [1,2,3] Z Z) Z Z (by kernel_rfl) Z (dY q.toUInt64 u ) Z ?_
  rintro ak w f
  have a:=a.f f
  obtain ⟨C,x,h⟩:=aj h
  refine bk (a.e [2,3,4] Z Z) Z Z (by kernel_rfl) Z (i5  x (a.ro 1 Z).rp (a.ro 0 Z).rp) Z ?_
  rintro D w f
  have a:=a.f f
  refine am (a.e [3,4,5] Z Z) Z Z (fun w hF=>aD Z) Z (bp (a.e [3,4,5] Z Z) ?_)
  refine aP ?_
  refine N (H (Q 3 Z ?_))
  refine J ?_
  exact bh (bo _ (by exact ⟨Z,Z,Z,Z,V⟩) (A (C,wI (G+1)) _ _ ⟨D,Z,(a.e [0,4,5] Z Z)⟩ (aY h p)))
 have h:=aI h g
 refine ba ?_
 refine aC (aC ?_)
 have h:=aT h p
 refine a9 ?_
 refine N (M (H (Q 2 Z ?_)))
 have T:=a.pick (os':=[X c [vB d,b],O U b e,O U k z]++[]) [1,2,0] (by decide) Z
 obtain ⟨an,y,h⟩:=aj h
 refine ao Z (bH d false y T.g ) Z ?_
 rintro _ w ⟨E,rfl,f⟩
 have a:=T.h f
 refine Q 1 Z ?_
 refine J (N (ay ?_))
 cases h
 exact aM Z Z ⟨E,Z,a.e [0,1] Z Z⟩
theorem cE {e:World} {f:List UInt32} {c:Value} {g:Nat} (i:Bool) {r:Int}
  (h:F.BR i f=some r) (j:RP [] e U c f) (hBa0:RB [] e g [vB i,c]):Calls Tryz.prog 93 #[K g 0] e (Ret fun v w=>v=vI r∧St [] e w []):=by
 refine aN 13 Tryz.func93 Z Z Z ?_
 have d:=St.l e
 refine ar [(0,K g 0)] ⟨Z,V⟩ ?_
 unfold F.BR at h
 refine M (H (Q 1 Z ?_))
 refine J (N (M (M (H (Q 1 Z ?_)))))
 refine al (aO Z) Z (al (ax (k:=1) u101 Z Z da Z) Z (al (aH u30 Z Z (hBa0.cell d.fr 1 Z)) Z (al (aL u30 Z (j.d d.fr)) Z (Q 1 Z ?_))))
 refine J (N ?_)
 refine av Z (fun a=>?_) (fun a=>?_)
 ·have h:=aJ h a
  refine M (H (Q 1 Z ?_))
  refine J (N (ay (aG ?_)))
  cases h
  exact aM Z Z ⟨Z,d⟩
 have h:=aI h a
 refine aw (N (M (M (H (Q 1 Z ?_)))))
 refine al (aO Z) Z (al (ax (k:=0) u101 Z Z nz4 Z) Z (al (aH Tryz.underlying4 Z Z (hBa0.cell d.fr 0 Z)) Z (J (N ?_))))
 refine av Z (fun b=>?_) (fun b=>?_)
 ·have h:=aJ h b
  refine M (H (Q 1 Z ?_))
  refine J (N (ay (aG ?_)))
  cases h
  exact aM Z Z ⟨Z,d⟩
 have h:=aI h b
 refine aw (N (M (H (Q 1 Z ?_))))
 refine J (N (ay ?_))
 cases h
 exact aM Z Z ⟨Z,d⟩
theorem eJ {i:World} {d:List UInt32} {a:Value} {c:Nat} {S:List Nat} (b:Bool) (a1:Int) {r:Bool×List UInt32}
  (h:F.Da b d a1=some r) (e:St S i i [X c [vB b,a],O U a d]):Calls Tryz.prog 150 #[K c 0,vI a1] i (Ret fun v w=>∃j:Value,v=K c 0∧St S i w [X c [vB r.1,j],O U j r.2]):=by
 refine aN 18 Tryz.func150 Z Z Z ?_
 refine ar [(0,K c 0),(1,vI a1)] ⟨Z,Z,V⟩ ?_
 unfold F.Da at h
 refine M (H (Q 1 Z ?_))
 refine J (N (M (H (Q 1 Z ?_))))
 refine al (aK Z (eA Tryz.underlying2 u87 a1)) Z (Q 1 Z ?_)
 refine J (N ?_)
 refine bf (r:=r) (fun (g:UInt64) L w=>L=[(0,K c 0),(1,vI a1),(5,v64 g)]∧St S i w [X c [vB b,a],O U a d]) (F.Es b d a1) ?_ ?_
 rotate_left
 ·intro k
  refine M (H (Q 2 Z ?_))
  refine J (N ?_)
  refine av Z (fun f=>?_) (fun f=>?_)
  ·have h:=aJ h f
   refine H (Q 1 Z ?_)
   refine al (ij Z (zb (UInt64.ofInt a1))) Z (Q 1 Z ?_)
   refine J (N ?_)
   exact ar _ (by exact ⟨Z,Z,Z,V⟩) (k (0 - (UInt64.ofInt a1)) _ _ ⟨Z,e⟩ h)
  have h:=aI h f
  refine aw (N ?_)
  exact ar _ (by exact ⟨Z,Z,Z,V⟩) (k (UInt64.ofInt a1) _ _ ⟨Z,e⟩ h)
 rintro p L w hJ h
 try dsimp only at hJ
 obtain ⟨rfl,e⟩:=hJ
 unfold F.Es at h
 refine M (H (Q 4 Z ?_))
 obtain ⟨q,m,h⟩:=aj h
 refine ao Z (dY p m ) Z ?_
 rintro s w l
 have e:=e.f l
 have t:=e.pick (os':=[X c [vB b,a],O U a d,O U s q]++[]) [1,2,0] (by decide) Z
 obtain ⟨u,n,h⟩:=aj h
 refine ao Z (bH b (decide (a1<0)) n t.g ) Z ?_
 rintro _ w ⟨o,rfl,l⟩
 have e:=t.h l
 refine Q 1 Z ?_
 refine J (N (ay ?_))
 cases h
 exact aM Z Z ⟨o,Z,e.e [0,1] Z Z⟩
theorem cG {d:World} (a0:Int) {r:Bool×List UInt32}
  (h:F.BT a0=some r) :Calls Tryz.prog 85 #[vI a0] d (Ret fun v w=>∃b:Value,∃un0:Nat,v=K un0 0∧St [] d w [X un0 [vB r.1,b],O U b r.2]):=by
 refine aN 6 Tryz.func85 Z Z Z ?_
 have a:=St.l d
 refine ar [(0,vI a0)] ⟨Z,V⟩ ?_
 unfold F.BT at h
 refine M (H (Q 1 Z ?_))
 refine J (N (M (H (aU (bg (cs:=[vB false,.slice none 0 0]) cW Z a) Z ?_))))
 rintro _ w ⟨c,rfl,a⟩
 refine Q 1 Z ?_
 replace a:=a.nil U
 have f:=a.pick (os':=[X c [vB false,.slice none 0 0],O U (.slice none 0 0) []]++[]) [1,0] (by decide) Z
 obtain ⟨j,e,h⟩:=aj h
 refine ao Z (eJ false a0 e f.g ) Z ?_
 rintro _ w ⟨g,rfl,i⟩
 have a:=f.h i
 refine Q 1 Z ?_
 refine J (N (ay ?_))
 cases h
 exact aM Z Z ⟨g,c,Z,a.e [0,1] Z Z⟩
theorem f6 {d:World} {j n o:List UInt32} {b l m:Value} {c p q:Nat} {S:List Nat} (e f g:Bool) {r:Bool×List UInt32}
  (h:F.DD e j f n g o=some r) (a:St S d d [X c [vB e,b],O U b j]) (u:RP S d U l n) (hBa1:RB S d p [vB f,l]) (x:RP S d U m o) (hBa2:RB S d q [vB g,m]):Calls Tryz.prog 174 #[K c 0,K p 0,K q 0] d (Ret fun v w=>∃s:Value,v=K c 0∧St S d w [X c [vB r.1,s],O U s r.2]):=by
 refine aN 27 Tryz.func174 Z Z Z ?_
 refine ar [(0,K c 0),(1,K p 0),(2,K q 0)] ⟨Z,Z,Z,V⟩ ?_
 unfold F.DD at h
 refine M (H (Q 1 Z ?_))
 refine J (N (M ?_))
 have hsh1:=(a.ro 1 Z).shp
 refine bb (fun w'=>St S d w' []) (fun i=>!([18,19].contains i)) bR (fun _ _ _ y=>y.2) (fun _ _ y=>y) (by kernel_rfl) ?_
 have a:=a.drew
 show lxE _ _ _ _ _ _ _ [0,1,2,3,4,5,6,7,8,9,10,11,12,13,14,15,16,17,18,19,20] _ _
 refine am (a.e [] Z Z) Z Z (fun w hF=>au Z) Z (am (a.e [] Z Z) Z Z (fun w hF=>au Z) Z (am (a.e [] Z Z) Z Z (fun w hF=>aO Z) Z (am (a.e [] Z Z) Z Z (fun w hF=>ax (k:=0) u101 Z Z nz4 Z) Z (am (a.e [] Z Z) Z Z (fun w hF=>aH Tryz.underlying4 Z Z (hBa1.cell hF.fr 0 Z)) Z (am (a.e [] Z Z) Z Z (fun w hF=>au Z) Z (am (a.e [] Z Z) Z Z (fun w hF=>aO Z) Z (am (a.e [] Z Z) Z Z (fun w hF=>ax (k:=0) u101 Z Z nz4 Z) Z (am (a.e [] Z Z) Z Z (fun w hF=>aH Tryz.underlying4 Z Z (hBa2.cell hF.fr 0 Z)) Z ?_))))))))
 refine am (a.e [] Z Z) Z Z (fun w hF=>aq Z Z (k5 _ f g Tryz.underlying4 Z)) Z (am (a.e [] Z Z) Z Z (fun w hF=>au Z) Z (am (a.e [] Z Z) Z Z (fun w hF=>aO Z) Z (am (a.e [] Z Z) Z Z (fun w hF=>ax (k:=1) u101 Z Z da Z) Z (am (a.e [] Z Z) Z Z (fun w hF=>aH u30 Z Z (hBa1.cell hF.fr 1 Z)) Z (am (a.e [] Z Z) Z Z (fun w hF=>au Z) Z (am (a.e [] Z Z) Z Z (fun w hF=>aO Z) Z (am (a.e [] Z Z) Z Z (fun w hF=>ax (k:=1) u101 Z Z da Z) Z (am (a.e [] Z Z) Z Z (fun w hF=>aH u30 Z Z (hBa2.cell hF.fr 1 Z)) Z ?_))))))))
 obtain ⟨B,z,h⟩:=aj h
 refine bk (a.e [] Z Z) Z Z (by kernel_rfl) Z (l7  z (u.d a.fr).rp (x.d a.fr).rp) Z ?_
 rintro C w t
 have a:=a.f t
 have D:=a.pick (os':=[X c [vB e,b],O U b j,O U C B]++[]) [1,2,0] (by decide) Z
 obtain ⟨G,A,h⟩:=aj h
 refine bk (a.e [] Z Z) Z Z (by kernel_rfl) Z (bH e (f != g) A D.g ) Z ?_
 rintro _ w ⟨E,rfl,t⟩
 have a:=D.h t
 refine am (a.e [] Z Z) Z Z (fun w hF=>aD Z) Z (bp (a.e [] Z Z) ?_)
 refine N (ay ?_)
 cases h
 exact aM Z Z ⟨E,Z,a.e [0,1] Z Z⟩
theorem iu {b:World} {a0:List UInt32} {a:Value} {r:List UInt32}
  (h:F.CC a0=some r) (e:RP [] b U a a0):Calls Tryz.prog 189 #[a] b (Ret fun v w=>St [] b w [O U v r]):=by
 refine aN 5 Tryz.func189 Z Z Z ?_
 have c:=St.l b
 refine ar [(0,a)] ⟨Z,V⟩ ?_
 unfold F.CC at h
 refine M (H (Q 1 Z ?_))
 refine J (N (M (H (Q 1 Z ?_))))
 obtain ⟨f,d,h⟩:=aj h
 refine aU (jF u30 aZ Z Z Z c (e.d c.fr) d) Z ?_
 rintro g w c
 refine Q 1 Z ?_
 refine J (N (ay ?_))
 cases h
 exact aM Z Z (c.e [0] Z Z)
theorem eY {e:World} {f l:List UInt32} {b j:Value} {c m:Nat} {S:List Nat} (d g:Bool) {r:Bool×List UInt32}
  (h:F.Cr d f g l=some r) (a:St S e e [X c [vB d,b],O U b f]) (p:RP S e U j l) (hBa1:RB S e m [vB g,j]):Calls Tryz.prog 175 #[K c 0,K m 0] e (Ret fun v w=>∃n:Value,v=K c 0∧St S e w [X c [vB r.1,n],O U n r.2]):=by
 refine aN 16 Tryz.func175 Z Z Z ?_
 refine ar [(0,K c 0),(1,K m 0)] ⟨Z,Z,V⟩ ?_
 unfold F.Cr at h
 refine M (H (Q 1 Z ?_))
 refine J (N (M ?_))
 have hsh1:=(a.ro 1 Z).shp
 refine bb (fun w'=>St S e w' []) (fun i=>!([9,10].contains i)) bR (fun _ _ _ q=>q.2) (fun _ _ q=>q) (by kernel_rfl) ?_
 have a:=a.drew
 show lxE _ _ _ _ _ _ _ [0,1,2,3,4,5,6,7,8,9,10,11] _ _
 refine am (a.e [] Z Z) Z Z (fun w hF=>au Z) Z (am (a.e [] Z Z) Z Z (fun w hF=>au Z) Z (am (a.e [] Z Z) Z Z (fun w hF=>aO Z) Z (am (a.e [] Z Z) Z Z (fun w hF=>ax (k:=0) u101 Z Z nz4 Z) Z (am (a.e [] Z Z) Z Z (fun w hF=>aH Tryz.underlying4 Z Z (hBa1.cell hF.fr 0 Z)) Z (am (a.e [] Z Z) Z Z (fun w hF=>au Z) Z (am (a.e [] Z Z) Z Z (fun w hF=>aO Z) Z (am (a.e [] Z Z) Z Z (fun w hF=>ax (k:=1) u101 Z Z da Z) Z (am (a.e [] Z Z) Z Z (fun w hF=>aH u30 Z Z (hBa1.cell hF.fr 1 Z)) Z ?_))))))))
 obtain ⟨u,s,h⟩:=aj h
 refine bk (a.e [] Z Z) Z Z (by kernel_rfl) Z (iu  s (p.d a.fr).rp) Z ?_
 rintro x w o
 have a:=a.f o
 have y:=a.pick (os':=[X c [vB d,b],O U b f,O U x u]++[]) [1,2,0] (by decide) Z
 obtain ⟨A,t,h⟩:=aj h
 refine bk (a.e [] Z Z) Z Z (by kernel_rfl) Z (bH d g t y.g ) Z ?_
 rintro _ w ⟨z,rfl,o⟩
 have a:=y.h o
 refine am (a.e [] Z Z) Z Z (fun w hF=>aD Z) Z (bp (a.e [] Z Z) ?_)
 refine N (ay ?_)
 cases h
 exact aM Z Z ⟨z,Z,a.e [0,1] Z Z⟩
theorem i4 {j:World} {a0 a1:List UInt32} {k l:Value} {r:Int}
  (h:F.Di a0 a1=some r) (b:RP [] j U k a0) (c:RP [] j U l a1):Calls Tryz.prog 179 #[k,l] j (Ret fun v w=>v=vI r∧St [] j w []):=by
 refine aN 41 Tryz.func179 Z Z Z ?_
 have a:=St.l j
 refine ar [(0,k),(1,l)] ⟨Z,Z,V⟩ ?_
 unfold F.Di at h
 refine M (H (Q 1 Z ?_))
 refine J (N (M (M (H (Q 1 Z ?_)))))
 refine al (aL u30 Z (b.d a.fr)) Z (Q 1 Z ?_)
 refine al (aL u30 Z (c.d a.fr)) Z (Q 1 Z ?_)
 refine J (N ?_)
 refine av Z (fun d=>?_) (fun d=>?_)
 ·have h:=aJ h d
  refine M (M (H (Q 1 Z ?_)))
  refine al (aL u30 Z (b.d a.fr)) Z (Q 1 Z ?_)
  refine al (aL u30 Z (c.d a.fr)) Z (Q 1 Z ?_)
  refine J (N ?_)
  refine av Z (fun m=>?_) (fun m=>?_)
  ·have h:=aJ h m
   refine M (H (Q 1 Z ?_))
   refine J (N (ay (aG (aG ?_))))
   cases h
   exact aM Z Z ⟨Z,a⟩
  have h:=aI h m
  refine aw (N (M (H (Q 1 Z ?_))))
  refine J (N (ay (aG ?_)))
  cases h
  exact aM Z Z ⟨Z,a⟩
 have h:=aI h d
 refine aw (N (M (M (H (Q 1 Z ?_)))))
 refine al (aL u30 Z (b.d a.fr)) Z (Q 1 Z ?_)
 obtain ⟨p,x,h⟩:=aQ h
 refine al (aD (v:=vI p) (by rw [←x]; rfl)) Z ?_
 refine J (N (az ?_))
 refine ar [(0,k),(1,l),(5,vI p)] ⟨Z,Z,Z,V⟩ ?_
 refine bd (F.CH a0 a1) (fun (s:Int) L w=>L=[(0,k),(1,l),(5,vI s)]∧St [] j w []) ?_ p ⟨Z,a⟩ h
 rintro E A L w G hI y h e
 try dsimp only at hI
 obtain ⟨rfl,a⟩:=hI
 unfold F.CH at h
 refine M (M (H (Q 2 Z ?_)))
 refine J (N ?_)
 refine av Z (fun f=>?_) (fun f=>?_)
 ·have h:=aJ h f
  refine aw (N (M (az ?_)))
  refine M ?_
  refine bb (fun w'=>St [] j w' []) (fun _=>true) bR (fun _ _ _ n=>n.2) (fun _ _ n=>n) (by kernel_rfl) ?_
  have a:=a.drew
  show lxE _ _ _ _ _ _ _ [0,1,2,3,4,5,6,7,8] _ _
  refine am a Z Z (fun w hF=>au Z) Z (am a Z Z (fun w hF=>au Z) Z ?_)
  obtain ⟨B,q,h⟩:=aj h
  refine am a Z Z (fun w hF=>aW u30 aZ Z Z (b.d hF.fr) q) Z (am a Z Z (fun w hF=>aR u38 Z Z (b.d hF.fr) q Z) Z (am a Z Z (fun w hF=>au Z) Z (am a Z Z (fun w hF=>au Z) Z ?_)))
  obtain ⟨C,t,h⟩:=aj h
  refine am a Z Z (fun w hF=>aW u30 aZ Z Z (c.d hF.fr) t) Z (am a Z Z (fun w hF=>aR u38 Z Z (c.d hF.fr) t Z) Z (am a Z Z (fun w hF=>aq Z Z (ma _ B C)) Z (bp a ?_)))
  refine N ?_
  refine av Z (fun g=>?_) (fun g=>?_)
  ·have h:=aJ h g
   refine M (M ?_)
   refine bb (fun w'=>St [] j w' []) (fun _=>true) bR (fun _ _ _ n=>n.2) (fun _ _ n=>n) (by kernel_rfl) ?_
   have a:=a.drew
   show lxE _ _ _ _ _ _ _ [0,1,2,3,4,5,6,7,8] _ _
   refine am a Z Z (fun w hF=>au Z) Z (am a Z Z (fun w hF=>au Z) Z ?_)
   obtain ⟨D,u,h⟩:=aj h
   refine am a Z Z (fun w hF=>aW u30 aZ Z Z (b.d hF.fr) u) Z (am a Z Z (fun w hF=>aR u38 Z Z (b.d hF.fr) u Z) Z (am a Z Z (fun w hF=>au Z) Z (am a Z Z (fun w hF=>au Z) Z ?_)))
   obtain ⟨z,o,h⟩:=aj h
   refine am a Z Z (fun w hF=>aW u30 aZ Z Z (c.d hF.fr) o) Z (am a Z Z (fun w hF=>aR u38 Z Z (c.d hF.fr) o Z) Z (am a Z Z (fun w hF=>aq Z Z (oT _ D z)) Z (bp a ?_)))
   refine N ?_
   refine av Z (fun i=>?_) (fun i=>?_)
   ·have h:=aJ h i
    refine M (H (Q 1 Z ?_))
    refine J (N (ay (aG (bz ?_))))
    refine aG (aG ?_)
    have h:=aT h e
    refine bz ?_
    refine aG ?_
    cases h
    exact aM Z Z ⟨Z,a⟩
   have h:=aI h i
   refine aw (N (M (H (Q 1 Z ?_))))
   refine J (N (ay (bz ?_)))
   refine aG (aG ?_)
   have h:=aT h e
   refine bz ?_
   refine aG ?_
   cases h
   exact aM Z Z ⟨Z,a⟩
  have h:=aI h g
  refine aw (aP ?_)
  refine N (H (Q 3 Z ?_))
  refine J ?_
  exact bh (bo _ (by exact ⟨Z,Z,Z,V⟩) (y (wI (A - 1)) _ _ ⟨Z,a⟩ (aY h e)))
 have h:=aI h f
 refine ba ?_
 refine aC (aC ?_)
 have h:=aT h e
 refine a9 ?_
 refine N (M (H (Q 1 Z ?_)))
 refine J (N (ay ?_))
 cases h
 exact aM Z Z ⟨Z,a⟩
theorem kb {f:World} {a0:List UInt32} {e:Value} {r:UInt64}
  (h:F.ES a0=some r) (b:RP [] f U e a0):Calls Tryz.prog 197 #[e] f (Ret fun v w=>v=v64 r∧St [] f w []):=by
 refine aN 22 Tryz.func197 Z Z Z ?_
 have a:=St.l f
 refine ar [(0,e)] ⟨Z,V⟩ ?_
 unfold F.ES at h
 refine M (H (Q 1 Z ?_))
 refine J (N (M (H (Q 1 Z ?_))))
 refine J (N ?_)
 refine bf (r:=r) (fun (g:UInt64) L w=>L=[(0,e),(3,v64 g)]∧St [] f w []) (F.FU a0) ?_ ?_
 rotate_left
 ·intro i
  refine M (H (Q 1 Z ?_))
  refine al (aL u30 Z (b.d a.fr)) Z (Q 1 Z ?_)
  refine J (N ?_)
  refine av Z (fun c=>?_) (fun c=>?_)
  ·have h:=aJ h c
   refine H (Q 1 Z ?_)
   obtain ⟨n,j,h⟩:=aj h
   refine al (aW u30 aZ Z Z (b.d a.fr) j) Z (al (aR u38 Z Z (b.d a.fr) j Z) Z (al (aK Z (bu u38 u87 n)) Z (Q 1 Z ?_)))
   refine J (N ?_)
   exact ar _ (by exact ⟨Z,Z,V⟩) (i n.toUInt64 _ _ ⟨Z,a⟩ h)
  have h:=aI h c
  refine aw (N ?_)
  exact ar _ (by exact ⟨Z,Z,V⟩) (i 0 _ _ ⟨Z,a⟩ h)
 rintro o L w hJ h
 try dsimp only at hJ
 obtain ⟨rfl,a⟩:=hJ
 unfold F.FU at h
 refine bf (r:=r) (fun (g:UInt64) L w=>L=[(3,v64 g)]∧St [] f w []) (F.F0) ?_ ?_
 rotate_left
 ·intro k
  refine M (H (Q 1 Z ?_))
  refine al (aL u30 Z (b.d a.fr)) Z (Q 1 Z ?_)
  refine J (N ?_)
  refine av Z (fun d=>?_) (fun d=>?_)
  ·have h:=aJ h d
   refine H (Q 2 Z ?_)
   obtain ⟨l,m,h⟩:=aj h
   refine al (aW u30 aZ Z Z (b.d a.fr) m) Z (al (aR u38 Z Z (b.d a.fr) m Z) Z (al (aK Z (bu u38 u87 l)) Z (al (aq Z Z (c9 _ l.toUInt64 32)) Z (al (aq Z Z (eL _ o (br l.toUInt64 32))) Z ?_))))
   obtain ⟨p,q,h⟩:=aQ h
   refine al (aD (v:=v64 p) (by rw [←q]; rfl)) Z ?_
   refine J (N ?_)
   exact ar _ (by exact ⟨Z,V⟩) (k p _ _ ⟨Z,a⟩ h)
  have h:=aI h d
  refine aw (N ?_)
  exact ar _ (by exact ⟨Z,V⟩) (k o _ _ ⟨Z,a⟩ h)
 rintro s L w hJ h
 try dsimp only at hJ
 obtain ⟨rfl,a⟩:=hJ
 unfold F.F0 at h
 refine M (H (Q 2 Z ?_))
 refine J (N (ay ?_))
 cases h
 exact aM Z Z ⟨Z,a⟩
theorem oV {l:World} {a0:List UInt32} {d:Value} (a1:UInt32) {r:List UInt32×UInt32}
  (h:F.Fi a0 a1=some r) (f:RP [] l U d a0):Calls Tryz.prog 198 #[d,v32 a1] l (Ret fun v w=>∃u0:Value,v=.tuple #[u0,v32 r.2]∧St [] l w [O U u0 r.1]):=by
 refine aN 43 Tryz.func198 Z Z Z ?_
 have a:=St.l l
 refine ar [(0,d),(1,v32 a1)] ⟨Z,Z,V⟩ ?_
 unfold F.Fi at h
 refine M (H (Q 2 Z ?_))
 refine J (N (M (H (Q 1 Z ?_))))
 refine al (aL u30 Z (f.d a.fr)) Z ?_
 obtain ⟨T,C,h⟩:=aj h
 refine aU (cZ (e:=U) u30 aZ Z Z Z a C) Z ?_
 rintro g w a
 refine Q 1 Z ?_
 refine J (N (M (H (Q 1 Z ?_))))
 refine J (N (M (M (H (Q 1 Z ?_)))))
 refine al (aL u30 Z (f.d a.fr)) Z (Q 1 Z ?_)
 obtain ⟨m,D,h⟩:=aQ h
 refine al (aD (v:=vI m) (by rw [←D]; rfl)) Z ?_
 refine J (N (az ?_))
 refine ar [(0,d),(1,v32 a1),(6,g),(7,v64 0),(8,vI m)] ⟨Z,Z,Z,Z,Z,V⟩ ?_
 refine bd (F.Dg a0 a1) (fun (s:UInt64×Int×List UInt32) L w=>L=[(0,d),(1,v32 a1),(6,g),(7,v64 s.1),(8,vI s.2.1)]∧St [] l w [O U g s.2.2]) ?_ (0,m,T) ⟨Z,a⟩ h
 rintro ak ⟨n,ab,ac⟩ L w am hI E h o
 try dsimp only at hI
 obtain ⟨rfl,a⟩:=hI
 unfold F.Dg at h
 refine M (M (H (Q 2 Z ?_)))
 refine J (N ?_)
 refine av Z (fun c=>?_) (fun c=>?_)
 ·have h:=aJ h c
  refine aw (N (M (az ?_)))
  refine M (H (Q 1 Z ?_))
  refine al (aq Z Z (c9 _ n 32)) Z (Q 2 Z ?_)
  obtain ⟨p,j,h⟩:=aj h
  refine al (aW u30 aZ Z Z (f.d a.fr) j) Z (al (aR u38 Z Z (f.d a.fr) j Z) Z (al (aK Z (bu u38 u87 p)) Z (al (aq Z Z (eL _ (br n 32) p.toUInt64)) Z ?_)))
  obtain ⟨b,u,h⟩:=aQ h
  refine al (aD (v:=v64 b) (by rw [←u]; rfl)) Z ?_
  refine J (N (M (H (Q 4 Z ?_))))
  refine al (aK Z (bu u38 u87 a1)) Z ?_
  obtain ⟨x,h⟩:=bZ h
  refine al (aq Z Z (gI _ b a1.toUInt64 x)) Z (al (aK Z (bQ u87 u38 (b / a1.toUInt64))) Z ?_)
  obtain ⟨an,k,h⟩:=aj h
  refine al (aW u30 aZ Z Z (a.ro 0 Z) k) Z (bn (bP (t:=((b / a1.toUInt64).toUInt32)) aZ Z Z a (i:=0) Z k Z) ?_)
  intro w a
  obtain ⟨G,y,h⟩:=aQ h
  rw [y]at a
  refine J (N (H (Q 2 Z ?_)))
  refine al (aK Z (bu u38 u87 a1)) Z ?_
  obtain ⟨z,h⟩:=bZ h
  refine al (aq Z Z (eM _ b a1.toUInt64 z)) Z (Q 1 Z ?_)
  refine J (aP ?_)
  refine N (H (Q 3 Z ?_))
  refine J ?_
  exact bh (bo _ (by exact ⟨Z,Z,Z,Z,Z,V⟩) (E (b%a1.toUInt64,wI (ab - 1),G) _ _ ⟨Z,a⟩ (aY h o)))
 have h:=aI h c
 refine ba ?_
 refine aC (aC ?_)
 have h:=aT h o
 refine a9 ?_
 refine N (M (H (Q 1 Z ?_)))
 have hG:=a.pick (os':=[O U g ac]++[]) [0] (by decide) Z
 obtain ⟨ap,A,h⟩:=aj h
 refine ao Z (c7  A hG.g ) Z ?_
 rintro S w ⟨ag,q,B⟩
 rw [←q]at B
 have a:=hG.h B
 refine Q 1 Z ?_
 refine al (aK Z (bQ u87 u38 n)) Z (Q 2 Z ?_)
 refine J (N (ay ?_))
 cases h
 exact bX Z Z Z ⟨S,Z,a.e [0] Z Z⟩
end Go.Proofs
