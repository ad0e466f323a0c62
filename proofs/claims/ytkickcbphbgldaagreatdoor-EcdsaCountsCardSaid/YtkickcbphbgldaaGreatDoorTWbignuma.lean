import Derived.Test.YtkickcbphbgldaaGreatDoorTW0
import Derived.Test.YtkickcbphbgldaaGreatDoorGkFman
set_option linter.unusedVariables false
set_option linter.unusedSimpArgs false
set_option linter.unusedSectionVars false
set_option maxRecDepth 4000
namespace Go.Proofs
open Go Go.RowKit Go.Gk
open Go.Gk renaming aa → P, ae → O, af → H, ah → J, ai → I, e32 → U, own → N, pB → M
open Go.Gk.OE renaming bx → W
theorem cW {j:World} {a0:List UInt32} {a:Value} {S:List Nat} {r:List UInt32}
  (h:F.BG a0=some r) (b:St S j j [N U a a0]):Calls Tryz.prog 180 #[a] j (Ret fun v w=>∃u0:Value,v=u0∧St S j w [N U u0 r]):=by
 refine aH 21 Tryz.func180 Z Z Z ?_
 refine au [(0,a)] ⟨Z,V⟩ ?_
 unfold F.BG at h
 refine J (H (P 1 Z ?_))
 refine I (O (J (H (P 1 Z ?_))))
 refine am (aN u30 Z (b.ro 0 Z)) Z (P 1 Z ?_)
 refine I (O (J (aD ?_)))
 refine au [(0,a),(3,vI (a0.length:Int))] ⟨Z,Z,V⟩ ?_
 refine bj (F.Ft a0) (fun (s:Int) L w=>L=[(0,a),(3,vI s)]∧St S j w [N U a a0]) ?_ (a0.length:Int) ⟨Z,b⟩ h
 rintro q e L w p hI o h k
 try dsimp only at hI
 obtain ⟨rfl,b⟩:=hI
 unfold F.Ft at h
 refine J ?_
 refine a9 (r:=p) (fun (g:Bool) L w=>L=[(0,a),(3,vI e),(15,vB g)]∧St S j w [N U a a0]) (F.E5 a0 e) ?_ ?_
 rotate_left
 ·intro l
  refine H (P 3 Z ?_)
  cases c:(decide ((0:Int)<e))
  case true=>
   have h:=aJ h c
   try simp only [c]
   refine P 3 Z ?_
   obtain ⟨n,m,h⟩:=aj h
   refine bo (t:=8) Z Z (bk u30 aU Z Z (b.ro 0 Z) m) Z (bo (t:=8) Z Z (bb u38 Z Z (b.ro 0 Z) m Z) Z (bo (t:=8) Z Z (aq Z Z (oG _ n 0)) Z (P 1 Z ?_)))
   refine I (O ?_)
   exact au _ (by exact ⟨Z,Z,Z,V⟩) (l (n == 0) _ _ ⟨Z,b⟩ h)
  case false=>
   have h:=aI h c
   try simp only [c]
   refine P 7 Z ?_
   refine I (O ?_)
   exact au _ (by exact ⟨Z,Z,Z,V⟩) (l false _ _ ⟨Z,b⟩ h)
 rintro u L w hJ h
 try dsimp only at hJ
 obtain ⟨rfl,b⟩:=hJ
 unfold F.E5 at h
 refine aw Z (fun d=>?_) (fun d=>?_)
 ·have h:=aJ h d
  refine az (O (aD ?_))
  refine H (P 3 Z ?_)
  refine I (aR ?_)
  exact bv (bz _ (by exact ⟨Z,Z,V⟩) (o (wI (e - 1)) _ _ ⟨Z,b⟩ (a8 h k)))
 have h:=aI h d
 refine bg ?_
 refine aF (aF ?_)
 have h:=aW h k
 refine bd ?_
 refine O (J (H (P 2 Z ?_)))
 obtain ⟨f,h⟩:=bX h
 refine am (pH u30 aU Z Z (b.ro 0 Z) (k5 f)) Z (P 1 Z ?_)
 refine I (O (ax ?_))
 cases h
 replace b:=b.trunc (i:=0) rfl f.2
 exact aG Z Z ⟨slV a U.sz 0 ((e:Int).toNat),Z,b.e [0] Z Z⟩
theorem dR {d:World} (a0:UInt64) {r:List UInt32}
  (h:F.BW a0=some r) :Calls Tryz.prog 144 #[v64 a0] d (Ret fun v w=>St [] d w [N U v r]):=by
 refine aH 10 Tryz.func144 Z Z Z ?_
 have a:=St.l d
 refine au [(0,v64 a0)] ⟨Z,V⟩ ?_
 unfold F.BW at h
 refine J (H (P 1 Z ?_))
 refine I (O (J (H (P 1 Z ?_))))
 refine am (aM Z (bO u87 u38 a0)) Z (P 1 Z ?_)
 refine am (aq Z Z (cl _ a0 32)) Z (am (aM Z (bO u87 u38 (aP a0 32))) Z ?_)
 refine aV (cL (e:=U) (l:=([a0.toUInt32,(aP a0 32).toUInt32]:List UInt32)) (vs:=[v32 a0.toUInt32,v32 ((aP a0 32).toUInt32)]) u30 aU Z Z Z Z (by decide) (by decide) a) Z ?_
 rintro g w a
 have i:=a.pick (os':=[N U g ([a0.toUInt32,(aP a0 32).toUInt32]:List UInt32)]++[]) [0] (by decide) Z
 obtain ⟨k,f,h⟩:=aj h
 refine ao Z (cW  f i.g ) Z ?_
 rintro m w ⟨j,b,c⟩
 rw [←b]at c
 have a:=i.h c
 refine P 1 Z ?_
 refine I (O (ax ?_))
 cases h
 exact aG Z Z (a.e [0] Z Z)
theorem kU {k:World} {a0 a1:List UInt32} {b c:Value} {r:List UInt32}
  (h:F.D3 a0 a1=some r) (u:RP [] k U b a0) (j:RP [] k U c a1):Calls Tryz.prog 192 #[b,c] k (Ret fun v w=>St [] k w [N U v r]):=by
 refine aH 75 Tryz.func192 Z Z Z ?_
 have a:=St.l k
 refine au [(0,b),(1,c)] ⟨Z,Z,V⟩ ?_
 unfold F.D3 at h
 refine J (H (P 1 Z ?_))
 refine I (O (J ?_))
 refine a9 (r:=r) (fun (g:Bool) L w=>L=[(0,b),(1,c),(16,vB g)]∧St [] k w []) (F.Ds a0 a1) ?_ ?_
 rotate_left
 ·intro S
  refine H (P 1 Z ?_)
  refine am (aN u30 Z (u.d a.fr)) Z (P 2 Z ?_)
  cases l:((a0.length:Int) == 0)
  case true=>
   have h:=aJ h l
   try simp only [l]
   refine P 4 Z ?_
   refine I (O ?_)
   exact au _ (by exact ⟨Z,Z,Z,V⟩) (S true _ _ ⟨Z,a⟩ h)
  case false=>
   have h:=aI h l
   try simp only [l]
   refine P 1 Z ?_
   refine bo (t:=12) Z Z (aN u30 Z (j.d a.fr)) Z (P 2 Z ?_)
   refine I (O ?_)
   exact au _ (by exact ⟨Z,Z,Z,V⟩) (S ((a1.length:Int) == 0) _ _ ⟨Z,a⟩ h)
 rintro be L w hJ h
 try dsimp only at hJ
 obtain ⟨rfl,a⟩:=hJ
 unfold F.Ds at h
 refine aw Z (fun m=>?_) (fun m=>?_)
 ·have h:=aJ h m
  refine J (H (P 1 Z ?_))
  refine I (O (ax (aE ?_)))
  cases h
  exact aG Z Z ((a.nil U).e [0] Z Z)
 have h:=aI h m
 refine az (O (J (H (P 1 Z ?_))))
 refine am (aN u30 Z (u.d a.fr)) Z (P 1 Z ?_)
 refine am (aN u30 Z (j.d a.fr)) Z (P 1 Z ?_)
 obtain ⟨aT,aC,h⟩:=aj h
 refine aV (c8 (e:=U) u30 aU Z Z Z a aC) Z ?_
 rintro d w a
 refine P 1 Z ?_
 refine I (O (J (J (H (P 1 Z ?_)))))
 refine I (O (aD ?_))
 refine au [(0,b),(1,c),(5,d),(6,vI 0)] ⟨Z,Z,Z,Z,V⟩ ?_
 refine bj (F.Dh a0 a1) (fun (s:Int×List UInt32) L w=>L=[(0,b),(1,c),(5,d),(6,vI s.1)]∧St [] k w [N U d s.2]) ?_ (0,aT) ⟨Z,a⟩ h
 rintro a2 ⟨x,ay⟩ L w a3 hI ad h T
 try dsimp only at hI
 obtain ⟨rfl,a⟩:=hI
 unfold F.Dh at h
 refine J (J (H (P 2 Z ?_)))
 refine am (aN u30 Z (u.d a.fr)) Z (P 1 Z ?_)
 refine I (O ?_)
 refine aw Z (fun n=>?_) (fun n=>?_)
 ·have h:=aJ h n
  refine az (O (J (aD ?_)))
  refine J (H (P 1 Z ?_))
  refine I (O (J (J (H (P 1 Z ?_)))))
  refine I (O (aD ?_))
  refine au [(0,b),(1,c),(5,d),(6,vI x),(7,v64 0),(8,vI 0)] ⟨Z,Z,Z,Z,Z,Z,V⟩ ?_
  refine bj (F.CO a0 a1 x) (fun (s:UInt64×Int×List UInt32) L w=>L=[(0,b),(1,c),(5,d),(6,vI x),(7,v64 s.1),(8,vI s.2.1)]∧St [] k w [N U d s.2.2]) ?_ (0,0,ay) ⟨Z,a⟩ h
  rintro a4 ⟨y,ab,aK⟩ L w a5 hI ag h A
  try dsimp only at hI
  obtain ⟨rfl,a⟩:=hI
  unfold F.CO at h
  refine J (J (H (P 2 Z ?_)))
  refine am (aN u30 Z (j.d a.fr)) Z (P 1 Z ?_)
  refine I (O ?_)
  refine aw Z (fun o=>?_) (fun o=>?_)
  ·have h:=aJ h o
   refine az (O (J (aD ?_)))
   refine J ?_
   refine aY (fun w'=>St [] k w' [N U d aK]) (fun _=>true) bQ (fun _ _ _ hf=>hf.2) (fun _ _ hf=>hf) (by kernel_rfl) ?_
   have a:=a.drew
   show lxE _ _ _ _ _ _ _ [0,1,2,3,4,5,6,7,8,9,10,11,12,13,14,15,16,17,18,19,20,21] _ _
   refine al a Z Z (fun w hF=>ar Z) Z (al a Z Z (fun w hF=>ar Z) Z (al a Z Z (fun w hF=>ar Z) Z ?_))
   obtain ⟨p,B,h⟩:=aj h
   refine al a Z Z (fun w hF=>bk u30 aU Z Z (u.d hF.fr) B) Z (al a Z Z (fun w hF=>bb u38 Z Z (u.d hF.fr) B Z) Z (al a Z Z (fun w hF=>aM Z (bp u38 u87 p)) Z (al a Z Z (fun w hF=>ar Z) Z (al a Z Z (fun w hF=>ar Z) Z ?_))))
   obtain ⟨q,C,h⟩:=aj h
   refine al a Z Z (fun w hF=>bk u30 aU Z Z (j.d hF.fr) C) Z (al a Z Z (fun w hF=>bb u38 Z Z (j.d hF.fr) C Z) Z (al a Z Z (fun w hF=>aM Z (bp u38 u87 q)) Z (al a Z Z (fun w hF=>aq Z Z (gy _ p.toUInt64 q.toUInt64)) Z (al a Z Z (fun w hF=>ar Z) Z (al a Z Z (fun w hF=>ar Z) Z (al a Z Z (fun w hF=>ar Z) Z (al a Z Z (fun w hF=>aq Z Z (lJ _ x ab)) Z ?_)))))))
   obtain ⟨z,D,h⟩:=aj h
   refine al a Z Z (fun w hF=>bk u30 aU Z Z (hF.ro 0 Z) D) Z (al a Z Z (fun w hF=>bb u38 Z Z (hF.ro 0 Z) D Z) Z (al a Z Z (fun w hF=>aM Z (bp u38 u87 z)) Z (al a Z Z (fun w hF=>aq Z Z (cq _ (p.toUInt64*q.toUInt64) z.toUInt64)) Z (al a Z Z (fun w hF=>aq Z Z (cq _ y ((p.toUInt64*q.toUInt64)+z.toUInt64))) Z ?_))))
   obtain ⟨f,ak,h⟩:=aO h
   refine al a Z Z (fun w hF=>aA (v:=v64 f) (by rw [←ak]; rfl)) Z ?_
   refine bl a ?_
   refine O (J (H (P 5 Z ?_)))
   refine am (aM Z (bO u87 u38 f)) Z ?_
   obtain ⟨a6,E,h⟩:=aj h
   refine am (bk u30 aU Z Z (a.ro 0 Z) E) Z (bn (cb (t:=f.toUInt32) aU Z Z a (i:=0) Z E Z) ?_)
   intro w a
   obtain ⟨aQ,an,h⟩:=aO h
   rw [an]at a
   refine I (O (H (P 1 Z ?_)))
   refine am (aq Z Z (cl _ f 32)) Z (P 1 Z ?_)
   refine I (aR ?_)
   refine O (H (P 3 Z ?_))
   refine I ?_
   exact bv (bz _ (by exact ⟨Z,Z,Z,Z,Z,Z,V⟩) (ag (aP f 32,wI (ab+1),aQ) _ _ ⟨Z,a⟩ (a8 h A)))
  have h:=aI h o
  refine bg ?_
  refine aF (aF ?_)
  have h:=aW h A
  refine bd ?_
  refine O (H (P 3 Z ?_))
  refine am (aN u30 Z (j.d a.fr)) Z (P 2 Z ?_)
  refine am (aM Z (bO u87 u38 y)) Z ?_
  obtain ⟨a7,G,h⟩:=aj h
  refine am (bk u30 aU Z Z (a.ro 0 Z) G) Z (bn (cb (t:=y.toUInt32) aU Z Z a (i:=0) Z G Z) ?_)
  intro w a
  obtain ⟨aS,ap,h⟩:=aO h
  rw [ap]at a
  refine I (aR ?_)
  refine O (H (P 3 Z ?_))
  refine I ?_
  exact bv (bz _ (by exact ⟨Z,Z,Z,Z,V⟩) (ad (wI (x+1),aS) _ _ ⟨Z,a⟩ (a8 h T)))
 have h:=aI h n
 refine bg ?_
 refine aF (aF ?_)
 have h:=aW h T
 refine bd ?_
 refine O (J (H (P 1 Z ?_)))
 have hG:=a.pick (os':=[N U d ay]++[]) [0] (by decide) Z
 obtain ⟨ba,av,h⟩:=aj h
 refine ao Z (cW  av hG.g ) Z ?_
 rintro bc w ⟨aZ,ac,aB⟩
 rw [←ac]at aB
 have a:=hG.h aB
 refine P 1 Z ?_
 refine I (O (ax ?_))
 cases h
 exact aG Z Z (a.e [0] Z Z)
theorem je {f:World} {a0 a1:List UInt32} {p q:Value} {r:List UInt32}
  (h:F.CN a0 a1=some r) (G:RP [] f U p a0) (S:RP [] f U q a1):Calls Tryz.prog 142 #[p,q] f (Ret fun v w=>St [] f w [N U v r]):=by
 refine aH 58 Tryz.func142 Z Z Z ?_
 have a:=St.l f
 refine au [(0,p),(1,q)] ⟨Z,Z,V⟩ ?_
 unfold F.CN at h
 refine J (H (P 1 Z ?_))
 refine I (O ?_)
 refine a9 (r:=r) (fun (g:List UInt32×List UInt32) L w=>∃(j:Value) (k:Value),L=[(0,j),(1,k)]∧RP [] f U j g.1∧RP [] f U k g.2∧St [] f w []) (F.DM) ?_ ?_
 rotate_left
 ·intro T
  refine J (H (P 1 Z ?_))
  refine am (aN u30 Z (G.d a.fr)) Z (P 1 Z ?_)
  refine am (aN u30 Z (S.d a.fr)) Z (P 1 Z ?_)
  refine I (O ?_)
  refine aw Z (fun u=>?_) (fun u=>?_)
  ·have h:=aJ h u
   refine H (P 4 Z ?_)
   refine I (O ?_)
   exact au _ (by exact ⟨Z,Z,V⟩) (T (a1,a0) _ _ ⟨q,p,Z,S,G,a⟩ h)
  have h:=aI h u
  refine az (O ?_)
  exact au _ (by exact ⟨Z,Z,V⟩) (T (a0,a1) _ _ ⟨p,q,Z,G,S,a⟩ h)
 rintro ⟨aK,aL⟩ L w hJ h
 try dsimp only at hJ
 obtain ⟨j,k,rfl,c,x,a⟩:=hJ
 unfold F.DM at h
 refine J (H (P 1 Z ?_))
 refine am (aN u30 Z (c.d a.fr)) Z (P 1 Z ?_)
 obtain ⟨aQ,ay,h⟩:=aj h
 refine aV (c8 (e:=U) u30 aU Z Z Z a ay) Z ?_
 rintro b w a
 refine P 1 Z ?_
 refine I (O (J (H (P 1 Z ?_))))
 refine I (O (J (J (H (P 1 Z ?_)))))
 refine I (O (aD ?_))
 refine au [(0,j),(1,k),(5,b),(6,v64 0),(7,vI 0)] ⟨Z,Z,Z,Z,Z,V⟩ ?_
 refine bj (F.CW aK aL) (fun (s:UInt64×Int×List UInt32) L w=>L=[(0,j),(1,k),(5,b),(6,v64 s.1),(7,vI s.2.1)]∧St [] f w [N U b s.2.2]) ?_ (0,0,aQ) ⟨Z,a⟩ h
 rintro aX ⟨d,y,ab⟩ L w aB hI ak h z
 try dsimp only at hI
 obtain ⟨rfl,a⟩:=hI
 unfold F.CW at h
 refine J (J (H (P 2 Z ?_)))
 refine am (aN u30 Z (c.d a.fr)) Z (P 1 Z ?_)
 refine I (O ?_)
 refine aw Z (fun l=>?_) (fun l=>?_)
 ·have h:=aJ h l
  refine az (O (J (aD ?_)))
  refine J (H (P 3 Z ?_))
  obtain ⟨m,A,h⟩:=aj h
  refine am (bk u30 aU Z Z (c.d a.fr) A) Z (am (bb u38 Z Z (c.d a.fr) A Z) Z (am (aM Z (bp u38 u87 m)) Z (am (aq Z Z (cq _ d m.toUInt64)) Z (P 1 Z ?_))))
  refine I (O ?_)
  refine a9 (r:=aB) (fun (g:UInt64) L w=>L=[(0,j),(1,k),(5,b),(6,v64 g),(7,vI y)]∧St [] f w [N U b ab]) (F.D9 y ab) ?_ ?_
  rotate_left
  ·intro B
   refine J (H (P 2 Z ?_))
   refine am (aN u30 Z (x.d a.fr)) Z (P 1 Z ?_)
   refine I (O ?_)
   refine aw Z (fun n=>?_) (fun n=>?_)
   ·have h:=aJ h n
    refine H (P 3 Z ?_)
    obtain ⟨ac,C,h⟩:=aj h
    refine am (bk u30 aU Z Z (x.d a.fr) C) Z (am (bb u38 Z Z (x.d a.fr) C Z) Z (am (aM Z (bp u38 u87 ac)) Z (am (aq Z Z (cq _ (d+m.toUInt64) ac.toUInt64)) Z ?_)))
    obtain ⟨ad,al,h⟩:=aO h
    refine am (aA (v:=v64 ad) (by rw [←al]; rfl)) Z ?_
    refine I (O ?_)
    exact au _ (by exact ⟨Z,Z,Z,Z,Z,V⟩) (B ad _ _ ⟨Z,a⟩ h)
   have h:=aI h n
   refine az (O ?_)
   exact au _ (by exact ⟨Z,Z,Z,Z,Z,V⟩) (B (d+m.toUInt64) _ _ ⟨Z,a⟩ h)
  rintro o L w hJ h
  try dsimp only at hJ
  obtain ⟨rfl,a⟩:=hJ
  unfold F.D9 at h
  refine J (H (P 3 Z ?_))
  refine am (aM Z (bO u87 u38 o)) Z ?_
  obtain ⟨aY,D,h⟩:=aj h
  refine am (bk u30 aU Z Z (a.ro 0 Z) D) Z (bn (cb (t:=o.toUInt32) aU Z Z a (i:=0) Z D Z) ?_)
  intro w a
  obtain ⟨aC,an,h⟩:=aO h
  rw [an]at a
  refine I (O (H (P 1 Z ?_)))
  refine am (aq Z Z (cl _ o 32)) Z (P 1 Z ?_)
  refine I (aR ?_)
  refine O (H (P 3 Z ?_))
  refine I ?_
  exact bv (bz _ (by exact ⟨Z,Z,Z,Z,Z,V⟩) (ak (aP o 32,wI (y+1),aC) _ _ ⟨Z,a⟩ (a8 h z)))
 have h:=aI h l
 refine bg ?_
 refine aF (aF ?_)
 have h:=aW h z
 refine bd ?_
 refine O (J (H (P 2 Z ?_)))
 refine am (aN u30 Z (c.d a.fr)) Z (P 1 Z ?_)
 refine am (aM Z (bO u87 u38 d)) Z ?_
 obtain ⟨aZ,E,h⟩:=aj h
 refine am (bk u30 aU Z Z (a.ro 0 Z) E) Z (bn (cb (t:=d.toUInt32) aU Z Z a (i:=0) Z E Z) ?_)
 intro w a
 obtain ⟨aE,ap,h⟩:=aO h
 rw [ap]at a
 refine I (O (J (H (P 1 Z ?_))))
 have hG:=a.pick (os':=[N U b aE]++[]) [0] (by decide) Z
 obtain ⟨a2,ar,h⟩:=aj h
 refine ao Z (cW  ar hG.g ) Z ?_
 rintro a3 w ⟨aT,ag,av⟩
 rw [←ag]at av
 have a:=hG.h av
 refine P 1 Z ?_
 refine I (O (ax ?_))
 cases h
 exact aG Z Z (a.e [0] Z Z)
theorem bG {f:World} {j a2:List UInt32} {e b:Value} {c:Nat} {S:List Nat} (l a1:Bool) {r:Bool×List UInt32}
  (h:F.BF l j a1 a2=some r) (a:St S f f [W c [vB l,e],N U e j,N U b a2]):Calls Tryz.prog 145 #[M c 0,vB a1,b] f (Ret fun v w=>∃m:Value,v=M c 0∧St S f w [W c [vB r.1,m],N U m r.2]):=by
 refine aH 21 Tryz.func145 Z Z Z ?_
 refine au [(0,M c 0),(1,vB a1),(2,b)] ⟨Z,Z,Z,V⟩ ?_
 unfold F.BF at h
 refine J (H (P 1 Z ?_))
 refine I (O (J (H (P 2 Z ?_))))
 refine am (aL Z) Z (am (av (k:=1) u101 Z Z cZ Z) Z (bn (br (i:=0) (us:=[b]) Z Bf Z Z (fo (a.ro 2 Z).one) ⟨(a.ro 2 Z).one,V⟩ Z a) ?_))
 intro w a
 refine I (O ?_)
 refine a9 (r:=r) (fun (g:Bool) L w=>L=[(0,M c 0)]∧St S f w [W c [vB g,b],N U b a2]) (F.Fk a2) ?_ ?_
 rotate_left
 ·intro n
  refine H (P 3 Z ?_)
  cases d:a1
  case true=>
   have h:=aJ h d
   try simp only [d]
   refine P 1 Z ?_
   refine bo (t:=13) Z Z (aN u30 Z (a.ro 2 Z)) Z (P 2 Z ?_)
   refine am (aL Z) Z (am (av (k:=0) u101 Z Z nz4 Z) Z (bn (br (i:=0) (us:=[vB (decide ((0:Int)<(a2.length:Int)))]) Z sz4 Z Z Z ⟨Z,V⟩ Z a) ?_))
   intro w a
   refine I (O ?_)
   exact au _ (by exact ⟨Z,V⟩) (n (decide ((0:Int)<(a2.length:Int))) _ _ ⟨Z,(a.e [0,2] Z Z)⟩ h)
  case false=>
   have h:=aI h d
   try simp only [d]
   refine P 4 Z ?_
   refine am (aL Z) Z (am (av (k:=0) u101 Z Z nz4 Z) Z (bn (br (i:=0) (us:=[vB false]) Z sz4 Z Z Z ⟨Z,V⟩ Z a) ?_))
   intro w a
   refine I (O ?_)
   exact au _ (by exact ⟨Z,V⟩) (n false _ _ ⟨Z,(a.e [0,2] Z Z)⟩ h)
 rintro o L w hJ h
 try dsimp only at hJ
 obtain ⟨rfl,a⟩:=hJ
 unfold F.Fk at h
 refine J (H (P 2 Z ?_))
 refine I (O (ax ?_))
 cases h
 exact aG Z Z ⟨b,Z,a.e [0,1] Z Z⟩
theorem jE {q:World} {d:List UInt32} {a:Value} {e:Nat} {S:List Nat} (c:Bool) (a1:List UInt8) (a2:Int) {r:Bool×Bool×List UInt32}
  (h:F.E9 c d a1 a2=some r) (b:St S q q [W e [vB c,a],N U a d]):Calls Tryz.prog 186 #[M e 0,vS a1,vI a2] q (Ret fun v w=>∃a5:Value,v=.tuple #[M e 0,vB r.1]∧St S q w [W e [vB r.2.1,a5],N U a5 r.2.2]):=by
 refine aH 124 Tryz.func186 Z Z Z ?_
 refine au [(0,M e 0),(1,vS a1),(2,vI a2)] ⟨Z,Z,Z,V⟩ ?_
 unfold F.E9 at h
 refine J (H (P 2 Z ?_))
 refine I (O (J (H (P 1 Z ?_))))
 refine I (O ?_)
 refine a9 (r:=r) (fun (g:List UInt8×Bool) L w=>L=[(0,M e 0),(1,vS g.1),(2,vI a2),(8,vB g.2)]∧St S q w [W e [vB c,a],N U a d]) (F.Fb a2 c d) ?_ ?_
 rotate_left
 ·intro aU
  refine a9 (r:=r) (fun (g:Bool) L w=>L=[(0,M e 0),(1,vS a1),(2,vI a2),(8,vB false),(25,vB g)]∧St S q w [W e [vB c,a],N U a d]) (F.DX a1 a2 c d) ?_ ?_
  rotate_left
  ·intro aT
   refine H (P 1 Z ?_)
   refine am (kj Tryz.underlying9 Z) Z (P 2 Z ?_)
   cases T:(decide ((0:Int)<(a1.length:Int)))
   case true=>
    have h:=aJ h T
    try simp only [T]
    refine P 1 Z ?_
    obtain ⟨bA,bD,h⟩:=aj h
    refine bo (t:=16) Z Z (kF Tryz.underlying9 Z Z bD) Z (bo (t:=16) Z Z (aq Z Z (fJ _ bA 45)) Z (P 1 Z ?_))
    cases ab:(bA == 45)
    case true=>
     have h:=aJ h ab
     try simp only [ab]
     refine P 5 Z ?_
     refine I (O ?_)
     exact au _ (by exact ⟨Z,Z,Z,Z,Z,V⟩) (aT true _ _ ⟨Z,b⟩ h)
    case false=>
     have h:=aI h ab
     try simp only [ab]
     refine P 1 Z ?_
     obtain ⟨bB,bE,h⟩:=aj h
     refine bo (t:=20) Z Z (kF Tryz.underlying9 Z Z bE) Z (bo (t:=20) Z Z (aq Z Z (fJ _ bB 43)) Z (P 2 Z ?_))
     refine I (O ?_)
     exact au _ (by exact ⟨Z,Z,Z,Z,Z,V⟩) (aT (bB == 43) _ _ ⟨Z,b⟩ h)
   case false=>
    have h:=aI h T
    try simp only [T]
    refine P 9 Z ?_
    refine I (O ?_)
    exact au _ (by exact ⟨Z,Z,Z,Z,Z,V⟩) (aT false _ _ ⟨Z,b⟩ h)
  rintro b5 L w hJ h
  try dsimp only at hJ
  obtain ⟨rfl,b⟩:=hJ
  unfold F.DX at h
  refine aw Z (fun ac=>?_) (fun ac=>?_)
  ·have h:=aJ h ac
   refine J (H (P 1 Z ?_))
   obtain ⟨bC,bF,h⟩:=aj h
   refine am (kF Tryz.underlying9 Z Z bF) Z (am (aq Z Z (fJ _ bC 45)) Z (P 1 Z ?_))
   refine I (O (H (P 1 Z ?_)))
   obtain ⟨bH,bf,h⟩:=aj h
   refine am (ve Tryz.underlying9 Z Z bf) Z (P 1 Z ?_)
   refine I (O ?_)
   exact au _ (by exact ⟨Z,Z,Z,Z,V⟩) (aU (bH,bC == 45) _ _ ⟨Z,b⟩ h)
  have h:=aI h ac
  refine az (O ?_)
  exact au _ (by exact ⟨Z,Z,Z,Z,V⟩) (aU (a1,false) _ _ ⟨Z,b⟩ h)
 rintro ⟨l,i⟩ L w hJ h
 try dsimp only at hJ
 obtain ⟨rfl,b⟩:=hJ
 unfold F.Fb at h
 refine a9 (r:=r) (fun (g:List UInt8×Int) L w=>L=[(0,M e 0),(1,vS g.1),(2,vI g.2),(8,vB i)]∧St S q w [W e [vB c,a],N U a d]) (F.Da c d i) ?_ ?_
 rotate_left
 ·intro x
  refine J (H (P 2 Z ?_))
  refine I (O ?_)
  refine aw Z (fun ad=>?_) (fun ad=>?_)
  ·have h:=aJ h ad
   refine J (H (P 1 Z ?_))
   refine I (O ?_)
   refine a9 (r:=r) (fun (g:Bool) L w=>L=[(0,M e 0),(1,vS l),(2,vI 10),(8,vB i),(40,vB g)]∧St S q w [W e [vB c,a],N U a d]) (F.FM l c d i) ?_ ?_
   rotate_left
   ·intro aV
    refine H (P 1 Z ?_)
    refine am (kj Tryz.underlying9 Z) Z (P 2 Z ?_)
    cases y:(decide ((2:Int)<(l.length:Int)))
    case true=>
     have h:=aJ h y
     try simp only [y]
     refine P 1 Z ?_
     obtain ⟨a6,bh,h⟩:=aj h
     refine bo (t:=36) Z Z (kF Tryz.underlying9 Z Z bh) Z (bo (t:=36) Z Z (aq Z Z (fJ _ a6 48)) Z (P 1 Z ?_))
     refine I (O ?_)
     exact au _ (by exact ⟨Z,Z,Z,Z,Z,V⟩) (aV (a6 == 48) _ _ ⟨Z,b⟩ h)
    case false=>
     have h:=aI h y
     try simp only [y]
     refine P 4 Z ?_
     refine I (O ?_)
     exact au _ (by exact ⟨Z,Z,Z,Z,Z,V⟩) (aV false _ _ ⟨Z,b⟩ h)
   rintro bN L w hJ h
   try dsimp only at hJ
   obtain ⟨rfl,b⟩:=hJ
   unfold F.FM at h
   refine aw Z (fun ag=>?_) (fun ag=>?_)
   ·have h:=aJ h ag
    refine a9 (r:=r) (fun (g:Int) L w=>L=[(0,M e 0),(1,vS l),(2,vI g),(8,vB i)]∧St S q w [W e [vB c,a],N U a d]) (F.D7 l c d i) ?_ ?_
    rotate_left
    ·intro z
     refine J (H (P 1 Z ?_))
     obtain ⟨k,bi,h⟩:=aj h
     refine am (kF Tryz.underlying9 Z Z bi) Z (I (O (aD ?_)))
     refine a9 (r:=r) (fun (g:Bool) L w=>L=[(0,M e 0),(1,vS l),(2,vI 10),(8,vB i),(42,v8 k),(43,vB g)]∧St S q w [W e [vB c,a],N U a d]) (F.FF k l c d i) ?_ ?_
     rotate_left
     ·intro aX
      refine J (H (am (aq Z Z (fJ _ k 120)) Z (P 1 Z ?_)))
      refine I (O ?_)
      refine aw Z (fun ak=>?_) (fun ak=>?_)
      ·have h:=aJ h ak
       refine az (O ?_)
       exact au _ (by exact ⟨Z,Z,Z,Z,Z,Z,V⟩) (aX (k == 120) _ _ ⟨Z,b⟩ h)
      have h:=aI h ak
      refine H (am (aq Z Z (fJ _ k 88)) Z (P 1 Z ?_))
      refine I (O ?_)
      exact au _ (by exact ⟨Z,Z,Z,Z,Z,Z,V⟩) (aX (k == 88) _ _ ⟨Z,b⟩ h)
     rintro bO L w hJ h
     try dsimp only at hJ
     obtain ⟨rfl,b⟩:=hJ
     unfold F.FF at h
     refine aw Z (fun al=>?_) (fun al=>?_)
     ·have h:=aJ h al
      refine H (P 1 Z ?_)
      refine I (aR ?_)
      refine O ?_
      exact au _ (by exact ⟨Z,Z,Z,Z,V⟩) (z 16 _ _ ⟨Z,b⟩ h)
     have h:=aI h al
     refine a9 (r:=r) (fun (g:Bool) L w=>L=[(0,M e 0),(1,vS l),(2,vI 10),(8,vB i),(42,v8 k),(46,vB g)]∧St S q w [W e [vB c,a],N U a d]) (F.FD k l c d i) ?_ ?_
     rotate_left
     ·intro aY
      refine J (H (am (aq Z Z (fJ _ k 98)) Z (P 1 Z ?_)))
      refine I (O ?_)
      refine aw Z (fun an=>?_) (fun an=>?_)
      ·have h:=aJ h an
       refine az (O ?_)
       exact au _ (by exact ⟨Z,Z,Z,Z,Z,Z,V⟩) (aY (k == 98) _ _ ⟨Z,b⟩ h)
      have h:=aI h an
      refine H (am (aq Z Z (fJ _ k 66)) Z (P 1 Z ?_))
      refine I (O ?_)
      exact au _ (by exact ⟨Z,Z,Z,Z,Z,Z,V⟩) (aY (k == 66) _ _ ⟨Z,b⟩ h)
     rintro bQ L w hJ h
     try dsimp only at hJ
     obtain ⟨rfl,b⟩:=hJ
     unfold F.FD at h
     refine aw Z (fun ap=>?_) (fun ap=>?_)
     ·have h:=aJ h ap
      refine H (P 1 Z ?_)
      refine I (aR ?_)
      refine O ?_
      exact au _ (by exact ⟨Z,Z,Z,Z,V⟩) (z 2 _ _ ⟨Z,b⟩ h)
     have h:=aI h ap
     refine a9 (r:=r) (fun (g:Bool) L w=>L=[(0,M e 0),(1,vS l),(2,vI 10),(8,vB i),(49,vB g)]∧St S q w [W e [vB c,a],N U a d]) (F.FA l c d i) ?_ ?_
     rotate_left
     ·intro aZ
      refine J (H (am (aq Z Z (fJ _ k 111)) Z (P 1 Z ?_)))
      refine I (O ?_)
      refine aw Z (fun ar=>?_) (fun ar=>?_)
      ·have h:=aJ h ar
       refine az (O ?_)
       exact au _ (by exact ⟨Z,Z,Z,Z,Z,V⟩) (aZ (k == 111) _ _ ⟨Z,b⟩ h)
      have h:=aI h ar
      refine H (am (aq Z Z (fJ _ k 79)) Z (P 1 Z ?_))
      refine I (O ?_)
      exact au _ (by exact ⟨Z,Z,Z,Z,Z,V⟩) (aZ (k == 79) _ _ ⟨Z,b⟩ h)
     rintro bR L w hJ h
     try dsimp only at hJ
     obtain ⟨rfl,b⟩:=hJ
     unfold F.FA at h
     refine aw Z (fun av=>?_) (fun av=>?_)
     ·have h:=aJ h av
      refine H (P 1 Z ?_)
      refine I (aR ?_)
      refine O ?_
      exact au _ (by exact ⟨Z,Z,Z,Z,V⟩) (z 8 _ _ ⟨Z,b⟩ h)
     have h:=aI h av
     refine az (aR ?_)
     refine O ?_
     exact au _ (by exact ⟨Z,Z,Z,Z,V⟩) (z 10 _ _ ⟨Z,b⟩ h)
    rintro a7 L w hJ h
    try dsimp only at hJ
    obtain ⟨rfl,b⟩:=hJ
    unfold F.D7 at h
    refine J (H (P 2 Z ?_))
    refine I (O ?_)
    refine aw Z (fun ay=>?_) (fun ay=>?_)
    ·have h:=aJ h ay
     refine H (P 1 Z ?_)
     obtain ⟨bI,bk,h⟩:=aj h
     refine am (ve Tryz.underlying9 Z Z bk) Z (P 1 Z ?_)
     refine I (O ?_)
     exact au _ (by exact ⟨Z,Z,Z,Z,V⟩) (x (bI,a7) _ _ ⟨Z,b⟩ h)
    have h:=aI h ay
    refine az (O ?_)
    exact au _ (by exact ⟨Z,Z,Z,Z,V⟩) (x (l,a7) _ _ ⟨Z,b⟩ h)
   have h:=aI h ag
   refine az (O ?_)
   exact au _ (by exact ⟨Z,Z,Z,Z,V⟩) (x (l,10) _ _ ⟨Z,b⟩ h)
  have h:=aI h ad
  refine az (O ?_)
  exact au _ (by exact ⟨Z,Z,Z,Z,V⟩) (x (l,a2) _ _ ⟨Z,b⟩ h)
 rintro ⟨n,j⟩ L w hJ h
 try dsimp only at hJ
 obtain ⟨rfl,b⟩:=hJ
 unfold F.Da at h
 refine J ?_
 refine a9 (r:=r) (fun (g:Bool) L w=>L=[(0,M e 0),(1,vS n),(2,vI j),(8,vB i),(66,vB g)]∧St S q w [W e [vB c,a],N U a d]) (F.DN c d i n j) ?_ ?_
 rotate_left
 ·intro aB
  refine H (P 1 Z ?_)
  refine am (kj Tryz.underlying9 Z) Z (P 2 Z ?_)
  cases A:((n.length:Int) == 0)
  case true=>
   have h:=aJ h A
   try simp only [A]
   refine P 7 Z ?_
   refine I (O ?_)
   exact au _ (by exact ⟨Z,Z,Z,Z,Z,V⟩) (aB true _ _ ⟨Z,b⟩ h)
  case false=>
   have h:=aI h A
   try simp only [A]
   refine P 4 Z ?_
   cases B:(decide (j<2))
   case true=>
    have h:=aJ h B
    try simp only [B]
    refine P 3 Z ?_
    refine I (O ?_)
    exact au _ (by exact ⟨Z,Z,Z,Z,Z,V⟩) (aB true _ _ ⟨Z,b⟩ h)
   case false=>
    have h:=aI h B
    try simp only [B]
    refine P 3 Z ?_
    refine I (O ?_)
    exact au _ (by exact ⟨Z,Z,Z,Z,Z,V⟩) (aB (decide ((36:Int)<j)) _ _ ⟨Z,b⟩ h)
 rintro bS L w hJ h
 try dsimp only at hJ
 obtain ⟨rfl,b⟩:=hJ
 unfold F.DN at h
 refine aw Z (fun aC=>?_) (fun aC=>?_)
 ·have h:=aJ h aC
  refine J (H (P 2 Z ?_))
  refine I (O (ax (aE ?_)))
  cases h
 have h:=aI h aC
 refine az (O (J (H (P 1 Z ?_))))
 refine I (O (J (J (H (P 1 Z ?_)))))
 refine I (O (aD ?_))
 refine au [(0,M e 0),(1,vS n),(2,vI j),(8,vB i),(9,.slice none 0 0),(10,vI 0)] ⟨Z,Z,Z,Z,Z,Z,V⟩ ?_
 refine bj (F.DB c d i n j) (fun (s:List UInt32×Int) L w=>∃(m:Value),L=[(0,M e 0),(1,vS n),(2,vI j),(8,vB i),(9,m),(10,vI s.2)]∧St S q w [N U m s.1,W e [vB c,a],N U a d]) ?_ ([],0) ⟨.slice none 0 0,Z,(b.nil U)⟩ h
 rintro bT ⟨o,p⟩ L w aG hI bl h aK
 try dsimp only at hI
 obtain ⟨m,rfl,b⟩:=hI
 unfold F.DB at h
 refine J (J (H (P 2 Z ?_)))
 refine am (kj Tryz.underlying9 Z) Z (P 1 Z ?_)
 refine I (O ?_)
 refine aw Z (fun aL=>?_) (fun aL=>?_)
 ·have h:=aJ h aL
  refine az (O (J (aD ?_)))
  refine J (H (P 1 Z ?_))
  refine I (O ?_)
  refine a9 (r:=aG) (fun (g:Int) L w=>L=[(0,M e 0),(1,vS n),(2,vI j),(8,vB i),(9,m),(10,vI p),(11,vI g)]∧St S q w [W e [vB c,a],N U a d,N U m o]) (F.CG j o p) ?_ ?_
  rotate_left
  ·intro C
   refine J (H (P 2 Z ?_))
   obtain ⟨f,bm,h⟩:=aj h
   refine am (kF Tryz.underlying9 Z Z bm) Z (P 1 Z ?_)
   refine I (O (aD ?_))
   refine a9 (r:=aG) (fun (g:Bool) L w=>L=[(0,M e 0),(1,vS n),(2,vI j),(8,vB i),(9,m),(10,vI p),(11,vI 99),(12,v8 f),(76,vB g)]∧St S q w [W e [vB c,a],N U a d,N U m o]) (F.Fm f j o p) ?_ ?_
   rotate_left
   ·intro a0
    refine H (P 1 Z ?_)
    refine am (aq Z Z (rv _ f 48)) Z (P 1 Z ?_)
    cases D:(decide ((48:UInt8)≤f))
    case true=>
     have h:=aJ h D
     try simp only [D]
     refine P 1 Z ?_
     refine bo (t:=79) Z Z (aq Z Z (qF _ f 57)) Z (P 2 Z ?_)
     refine I (O ?_)
     exact au _ (by exact ⟨Z,Z,Z,Z,Z,Z,Z,Z,Z,V⟩) (a0 (decide (f≤57)) _ _ ⟨Z,(b.e [1,2,0] Z Z)⟩ h)
    case false=>
     have h:=aI h D
     try simp only [D]
     refine P 4 Z ?_
     refine I (O ?_)
     exact au _ (by exact ⟨Z,Z,Z,Z,Z,Z,Z,Z,Z,V⟩) (a0 false _ _ ⟨Z,(b.e [1,2,0] Z Z)⟩ h)
   rintro bV L w hJ h
   try dsimp only at hJ
   obtain ⟨rfl,b⟩:=hJ
   unfold F.Fm at h
   refine aw Z (fun aN=>?_) (fun aN=>?_)
   ·have h:=aJ h aN
    refine H (P 1 Z ?_)
    refine am (aq Z Z (rL _ f 48)) Z (am (aM Z (nk Tryz.underlying5 Tryz.underlying3 (f - 48))) Z ?_)
    obtain ⟨ba,bn,h⟩:=aO h
    refine am (aA (v:=vI ba) (by rw [←bn]; rfl)) Z ?_
    refine I (aR ?_)
    refine O ?_
    exact au _ (by exact ⟨Z,Z,Z,Z,Z,Z,Z,V⟩) (C ba _ _ ⟨Z,b⟩ h)
   have h:=aI h aN
   refine a9 (r:=aG) (fun (g:Bool) L w=>L=[(0,M e 0),(1,vS n),(2,vI j),(8,vB i),(9,m),(10,vI p),(11,vI 99),(12,v8 f),(86,vB g)]∧St S q w [W e [vB c,a],N U a d,N U m o]) (F.EV f j o p) ?_ ?_
   rotate_left
   ·intro a3
    refine H (P 1 Z ?_)
    refine am (aq Z Z (rv _ f 97)) Z (P 1 Z ?_)
    cases E:(decide ((97:UInt8)≤f))
    case true=>
     have h:=aJ h E
     try simp only [E]
     refine P 1 Z ?_
     refine bo (t:=89) Z Z (aq Z Z (qF _ f 122)) Z (P 2 Z ?_)
     refine I (O ?_)
     exact au _ (by exact ⟨Z,Z,Z,Z,Z,Z,Z,Z,Z,V⟩) (a3 (decide (f≤122)) _ _ ⟨Z,b⟩ h)
    case false=>
     have h:=aI h E
     try simp only [E]
     refine P 4 Z ?_
     refine I (O ?_)
     exact au _ (by exact ⟨Z,Z,Z,Z,Z,Z,Z,Z,Z,V⟩) (a3 false _ _ ⟨Z,b⟩ h)
   rintro bW L w hJ h
   try dsimp only at hJ
   obtain ⟨rfl,b⟩:=hJ
   unfold F.EV at h
   refine aw Z (fun aP=>?_) (fun aP=>?_)
   ·have h:=aJ h aP
    refine H (P 1 Z ?_)
    refine am (aq Z Z (rL _ f 97)) Z (am (aM Z (nk Tryz.underlying5 Tryz.underlying3 (f - 97))) Z (P 1 Z ?_))
    obtain ⟨bb,bp,h⟩:=aO h
    refine am (aA (v:=vI bb) (by rw [←bp]; rfl)) Z ?_
    refine I (aR ?_)
    refine O ?_
    exact au _ (by exact ⟨Z,Z,Z,Z,Z,Z,Z,V⟩) (C bb _ _ ⟨Z,b⟩ h)
   have h:=aI h aP
   refine a9 (r:=aG) (fun (g:Bool) L w=>L=[(0,M e 0),(1,vS n),(2,vI j),(8,vB i),(9,m),(10,vI p),(11,vI 99),(12,v8 f),(97,vB g)]∧St S q w [W e [vB c,a],N U a d,N U m o]) (F.FK f j o p) ?_ ?_
   rotate_left
   ·intro a4
    refine H (P 1 Z ?_)
    refine am (aq Z Z (rv _ f 65)) Z (P 1 Z ?_)
    cases G:(decide ((65:UInt8)≤f))
    case true=>
     have h:=aJ h G
     try simp only [G]
     refine P 1 Z ?_
     refine bo (t:=100) Z Z (aq Z Z (qF _ f 90)) Z (P 2 Z ?_)
     refine I (O ?_)
     exact au _ (by exact ⟨Z,Z,Z,Z,Z,Z,Z,Z,Z,V⟩) (a4 (decide (f≤90)) _ _ ⟨Z,b⟩ h)
    case false=>
     have h:=aI h G
     try simp only [G]
     refine P 4 Z ?_
     refine I (O ?_)
     exact au _ (by exact ⟨Z,Z,Z,Z,Z,Z,Z,Z,Z,V⟩) (a4 false _ _ ⟨Z,b⟩ h)
   rintro bX L w hJ h
   try dsimp only at hJ
   obtain ⟨rfl,b⟩:=hJ
   unfold F.FK at h
   refine aw Z (fun aQ=>?_) (fun aQ=>?_)
   ·have h:=aJ h aQ
    refine H (P 1 Z ?_)
    refine am (aq Z Z (rL _ f 65)) Z (am (aM Z (nk Tryz.underlying5 Tryz.underlying3 (f - 65))) Z (P 1 Z ?_))
    obtain ⟨bc,bq,h⟩:=aO h
    refine am (aA (v:=vI bc) (by rw [←bq]; rfl)) Z ?_
    refine I (aR ?_)
    refine O ?_
    exact au _ (by exact ⟨Z,Z,Z,Z,Z,Z,Z,V⟩) (C bc _ _ ⟨Z,b⟩ h)
   have h:=aI h aQ
   refine az (aR ?_)
   refine O ?_
   exact au _ (by exact ⟨Z,Z,Z,Z,Z,Z,Z,V⟩) (C 99 _ _ ⟨Z,b⟩ h)
  rintro be L w hJ h
  try dsimp only at hJ
  obtain ⟨rfl,b⟩:=hJ
  unfold F.CG at h
  refine J (J (H (P 3 Z ?_)))
  refine I (O ?_)
  refine aw Z (fun aS=>?_) (fun aS=>?_)
  ·have h:=aJ h aS
   refine J (H (P 2 Z ?_))
   refine I (O (ax (aE (bP ?_))))
   refine aE (aE ?_)
   have h:=aW h aK
   refine bP ?_
   refine aE ?_
   cases h
  have h:=aI h aS
  refine az (O (H (P 2 Z ?_)))
  refine am (aM Z (eE Tryz.underlying3 u87 j)) Z ?_
  obtain ⟨bY,br,h⟩:=aj h
  refine ao Z (dR (UInt64.ofInt j) br ) Z ?_
  rintro bZ w u
  have b:=b.f u
  obtain ⟨b0,bs,h⟩:=aj h
  refine ao Z (kU  bs (b.ro 3 Z).rp (b.ro 0 Z).rp) Z ?_
  rintro b1 w u
  have b:=b.f u
  refine P 1 Z ?_
  refine am (aM Z (eE Tryz.underlying3 u87 be)) Z ?_
  obtain ⟨b2,bt,h⟩:=aj h
  refine ao Z (dR (UInt64.ofInt be) bt ) Z ?_
  rintro b3 w u
  have b:=b.f u
  obtain ⟨bJ,bu,h⟩:=aj h
  refine ao Z (je  bu (b.ro 1 Z).rp (b.ro 0 Z).rp) Z ?_
  rintro bK w u
  have b:=b.f u
  refine P 1 Z ?_
  refine I (aR ?_)
  refine O (H (P 3 Z ?_))
  refine I ?_
  exact bv (bz _ (by exact ⟨Z,Z,Z,Z,Z,Z,V⟩) (bl (bJ,wI (p+1)) _ _ ⟨bK,Z,(b.e [0,4,5] Z Z)⟩ (a8 h aK)))
 have h:=aI h aL
 refine bg ?_
 refine aF (aF ?_)
 have h:=aW h aK
 refine bd ?_
 refine O (J (H (P 3 Z ?_)))
 have hG:=b.pick (os':=[W e [vB c,a],N U a d,N U m o]++[]) [1,2,0] (by decide) Z
 obtain ⟨b4,bw,h⟩:=aj h
 refine ao Z (bG c i bw hG.g ) Z ?_
 rintro _ w ⟨bL,rfl,u⟩
 have b:=hG.h u
 refine P 2 Z ?_
 refine I (O (ax ?_))
 cases h
 exact bU Z Z Z ⟨bL,Z,b.e [0,1] Z Z⟩
theorem gf {f:World} {a0:List UInt32} {b:Value} {r:Int}
  (h:F.C4 a0=some r) (c:RP [] f U b a0):Calls Tryz.prog 151 #[b] f (Ret fun v w=>v=vI r∧St [] f w []):=by
 refine aH 26 Tryz.func151 Z Z Z ?_
 have a:=St.l f
 refine au [(0,b)] ⟨Z,V⟩ ?_
 unfold F.C4 at h
 refine J (H (P 1 Z ?_))
 refine I (O (J (J (H (P 1 Z ?_)))))
 refine am (aN u30 Z (c.d a.fr)) Z (P 1 Z ?_)
 refine I (O ?_)
 refine aw Z (fun d=>?_) (fun d=>?_)
 ·have h:=aJ h d
  refine J (H (P 1 Z ?_))
  refine I (O (ax (aE ?_)))
  cases h
  exact aG Z Z ⟨Z,a⟩
 have h:=aI h d
 refine az (O (J (H (P 1 Z ?_))))
 refine I (O (J (J (H (P 2 Z ?_)))))
 refine am (aN u30 Z (c.d a.fr)) Z (P 1 Z ?_)
 obtain ⟨k,g,h⟩:=aj h
 refine am (bk u30 aU Z Z (c.d a.fr) g) Z (am (bb u38 Z Z (c.d a.fr) g Z) Z (P 1 Z ?_))
 refine I (O (aD ?_))
 refine au [(0,b),(3,vI 0),(4,v32 k)] ⟨Z,Z,Z,V⟩ ?_
 refine bj (F.Dc a0) (fun (s:Int×UInt32) L w=>L=[(0,b),(3,vI s.1),(4,v32 s.2)]∧St [] f w []) ?_ (0,k) ⟨Z,a⟩ h
 rintro n ⟨m,i⟩ L w o hI l h j
 try dsimp only at hI
 obtain ⟨rfl,a⟩:=hI
 unfold F.Dc at h
 refine J (J (H (P 1 Z ?_)))
 refine am (aq Z Z (jW _ i 0)) Z (I (O ?_))
 refine aw Z (fun e=>?_) (fun e=>?_)
 ·have h:=aJ h e
  refine az (O (J (aD ?_)))
  refine H (P 3 Z ?_)
  refine I (aR ?_)
  refine O (H (P 1 Z ?_))
  refine am (aq Z Z (dc _ i 1)) Z (P 1 Z ?_)
  refine I ?_
  exact bv (bz _ (by exact ⟨Z,Z,Z,V⟩) (l (wI (m+1),bA i 1) _ _ ⟨Z,a⟩ (a8 h j)))
 have h:=aI h e
 refine bg ?_
 refine aF (aF ?_)
 have h:=aW h j
 refine bd ?_
 refine O (J (H (P 1 Z ?_)))
 refine am (aN u30 Z (c.d a.fr)) Z (P 1 Z ?_)
 refine am (aq Z Z (fq _ (wI ((a0.length:Int) - 1)) 32)) Z (P 3 Z ?_)
 refine I (O (ax ?_))
 cases h
 exact aG Z Z ⟨Z,a⟩
theorem gX {p:World} {g:List UInt32} {l:Value} {f:Nat} (q:Bool) {r:List UInt8}
  (h:F.El q g=some r) (c:RP [] p U l g) (hBa0:RB [] p f [vB q,l]):Calls Tryz.prog 120 #[M f 0] p (Ret fun v w=>St [] p w [N e8 v r]):=by
 refine aH 41 Tryz.func120 Z Z Z ?_
 have a:=St.l p
 refine au [(0,M f 0)] ⟨Z,V⟩ ?_
 unfold F.El at h
 refine J (H (P 1 Z ?_))
 refine I (O (J (H (P 1 Z ?_))))
 refine am (aL Z) Z (am (av (k:=1) u101 Z Z cZ Z) Z (am (aC u30 Z Z (hBa0.cell a.fr 1 Z)) Z ?_))
 obtain ⟨E,z,h⟩:=aj h
 refine ao Z (gf  z (c.d a.fr).rp) Z ?_
 rintro _ w ⟨rfl,G⟩
 have a:=a.f G
 refine P 1 Z ?_
 refine am (aq Z Z (dI _ (wI (E+7)) 8 (by decide))) Z ?_
 obtain ⟨m,A,h⟩:=aO h
 refine am (aA (v:=vI m) (by rw [←A]; rfl)) Z ?_
 refine I (O (J (H (P 1 Z ?_))))
 obtain ⟨S,B,h⟩:=aj h
 refine aV (c8 (e:=e8) u24 ti5 Z Z Z a B) Z ?_
 rintro u w a
 refine P 1 Z ?_
 refine I (O (J (J (H (P 1 Z ?_)))))
 refine I (O (aD ?_))
 refine au [(0,M f 0),(3,vI m),(4,u),(5,vI 0)] ⟨Z,Z,Z,Z,V⟩ ?_
 refine bj (F.Er g m) (fun (s:Int×List UInt8) L w=>L=[(0,M f 0),(3,vI m),(4,u),(5,vI s.1)]∧St [] p w [N e8 u s.2]) ?_ (0,S) ⟨Z,a⟩ h
 rintro T ⟨b,ad⟩ L w ab hI C h x
 try dsimp only at hI
 obtain ⟨rfl,a⟩:=hI
 unfold F.Er at h
 refine J (J (H (P 3 Z ?_)))
 refine I (O ?_)
 refine aw Z (fun d=>?_) (fun d=>?_)
 ·have h:=aJ h d
  refine az (O (J (aD ?_)))
  refine H (P 6 Z ?_)
  refine am (aL Z) Z (am (av (k:=1) u101 Z Z cZ Z) Z (am (aC u30 Z Z (hBa0.cell a.fr 1 Z)) Z (P 1 Z ?_)))
  refine am (aq Z Z (dI _ b 4 (by decide))) Z ?_
  obtain ⟨j,n,h⟩:=aj h
  refine am (bk u30 aU Z Z (c.d a.fr) n) Z (am (bb u38 Z Z (c.d a.fr) n Z) Z (P 1 Z ?_))
  refine am (aM Z (eE Tryz.underlying3 u112 b)) Z ?_
  refine am (aq Z Z (ez _ (UInt64.ofInt b) 4 (by decide))) Z ?_
  refine am (aq Z Z (gy _ 8 ((UInt64.ofInt b)%4))) Z (am (aq Z Z (dc _ j (8*((UInt64.ofInt b)%4)))) Z (am (aM Z (gz u38 Tryz.underlying5 (bA j ((8*((UInt64.ofInt b)%4)).toNat)))) Z ?_))
  obtain ⟨ac,o,h⟩:=aj h
  refine am (bk u24 ti5 Z Z (a.ro 0 Z) o) Z (bn (cb (t:=((bA j ((8*((UInt64.ofInt b)%4)).toNat)).toUInt8)) ti5 Z Z a (i:=0) Z o Z) ?_)
  intro w a
  obtain ⟨D,y,h⟩:=aO h
  rw [y]at a
  refine I (aR ?_)
  refine O (H (P 3 Z ?_))
  refine I ?_
  exact bv (bz _ (by exact ⟨Z,Z,Z,Z,V⟩) (C (wI (b+1),D) _ _ ⟨Z,a⟩ (a8 h x)))
 have h:=aI h d
 refine bg ?_
 refine aF (aF ?_)
 have h:=aW h x
 refine bd ?_
 refine O (J (H (P 2 Z ?_)))
 refine I (O (ax ?_))
 cases h
 exact aG Z Z (a.e [0] Z Z)
theorem ic {q:World} {a0:List UInt32} {f:Value} (a1:UInt64) {r:List UInt32}
  (h:F.Dt a0 a1=some r) (g:RP [] q U f a0):Calls Tryz.prog 143 #[f,v64 a1] q (Ret fun v w=>St [] q w [N U v r]):=by
 refine aH 61 Tryz.func143 Z Z Z ?_
 have a:=St.l q
 refine au [(0,f),(1,v64 a1)] ⟨Z,Z,V⟩ ?_
 unfold F.Dt at h
 refine J (H (P 1 Z ?_))
 refine I (O (J (J (H (P 1 Z ?_)))))
 refine am (aN u30 Z (g.d a.fr)) Z (P 1 Z ?_)
 refine I (O ?_)
 refine aw Z (fun c=>?_) (fun c=>?_)
 ·have h:=aJ h c
  refine J (H (P 1 Z ?_))
  refine I (O (ax (aE ?_)))
  cases h
  exact aG Z Z ((a.nil U).e [0] Z Z)
 have h:=aI h c
 refine az (O (J (H (P 1 Z ?_))))
 refine am (aq Z Z (gE _ a1 32 (by decide))) Z ?_
 refine am (aM Z (l9 u112 Tryz.underlying3 (a1 / 32))) Z (P 1 Z ?_)
 refine am (aq Z Z (ez _ a1 32 (by decide))) Z ?_
 obtain ⟨j,S,h⟩:=aO h
 refine am (aA (v:=vI j) (by rw [←S]; rfl)) Z ?_
 refine P 1 Z ?_
 refine I (O (J (H (P 1 Z ?_))))
 refine am (aN u30 Z (g.d a.fr)) Z (P 3 Z ?_)
 obtain ⟨ad,T,h⟩:=aj h
 refine aV (c8 (e:=U) u30 aU Z Z Z a T) Z ?_
 rintro k w a
 refine P 1 Z ?_
 refine I (O (J (J (H (P 1 Z ?_)))))
 refine I (O (aD ?_))
 refine au [(0,f),(5,vI j),(6,v64 (a1%32)),(7,k),(8,vI 0)] ⟨Z,Z,Z,Z,Z,V⟩ ?_
 refine bj (F.DV a0 a1 j) (fun (s:Int×List UInt32) L w=>L=[(0,f),(5,vI j),(6,v64 (a1%32)),(7,k),(8,vI s.1)]∧St [] q w [N U k s.2]) ?_ (0,ad) ⟨Z,a⟩ h
 rintro ap ⟨ag,ak⟩ L w aK hI ab h u
 try dsimp only at hI
 obtain ⟨rfl,a⟩:=hI
 unfold F.DV at h
 refine J (J (H (P 2 Z ?_)))
 refine am (aN u30 Z (g.d a.fr)) Z (P 1 Z ?_)
 refine I (O ?_)
 refine aw Z (fun d=>?_) (fun d=>?_)
 ·have h:=aJ h d
  refine az (O (J (aD ?_)))
  refine J (H (P 2 Z ?_))
  obtain ⟨x,l,h⟩:=aj h
  refine am (bk u30 aU Z Z (g.d a.fr) l) Z (am (bb u38 Z Z (g.d a.fr) l Z) Z (am (aM Z (bp u38 u87 x)) Z (P 1 Z ?_)))
  refine am (aq Z Z (c6 _ x.toUInt64 (a1%32))) Z ?_
  obtain ⟨b,B,h⟩:=aO h
  refine am (aA (v:=v64 b) (by rw [←B]; rfl)) Z ?_
  refine I (O (J (H (P 4 Z ?_))))
  obtain ⟨y,m,h⟩:=aj h
  refine am (bk u30 aU Z Z (a.ro 0 Z) m) Z (am (bb u38 Z Z (a.ro 0 Z) m Z) Z (P 1 Z ?_))
  refine am (aM Z (bO u87 u38 b)) Z (am (aq Z Z (ff _ y b.toUInt32)) Z ?_)
  obtain ⟨ar,n,h⟩:=aj h
  refine am (bk u30 aU Z Z (a.ro 0 Z) n) Z (bn (cb (t:=(y ||| b.toUInt32)) aU Z Z a (i:=0) Z n Z) ?_)
  intro w a
  obtain ⟨av,C,h⟩:=aO h
  rw [C]at a
  refine I (O (H (P 5 Z ?_)))
  obtain ⟨z,o,h⟩:=aj h
  refine am (bk u30 aU Z Z (a.ro 0 Z) o) Z (am (bb u38 Z Z (a.ro 0 Z) o Z) Z (P 1 Z ?_))
  refine am (aq Z Z (cl _ b 32)) Z (am (aM Z (bO u87 u38 (aP b 32))) Z (am (aq Z Z (ff _ z ((aP b 32).toUInt32))) Z ?_))
  obtain ⟨ay,p,h⟩:=aj h
  refine am (bk u30 aU Z Z (a.ro 0 Z) p) Z (bn (cb (t:=(z ||| ((aP b 32).toUInt32))) aU Z Z a (i:=0) Z p Z) ?_)
  intro w a
  obtain ⟨ac,D,h⟩:=aO h
  rw [D]at a
  refine I (aR ?_)
  refine O (H (P 3 Z ?_))
  refine I ?_
  exact bv (bz _ (by exact ⟨Z,Z,Z,Z,Z,V⟩) (ab (wI (ag+1),ac) _ _ ⟨Z,a⟩ (a8 h u)))
 have h:=aI h d
 refine bg ?_
 refine aF (aF ?_)
 have h:=aW h u
 refine bd ?_
 refine O (J (H (P 1 Z ?_)))
 have hG:=a.pick (os':=[N U k ak]++[]) [0] (by decide) Z
 obtain ⟨aB,E,h⟩:=aj h
 refine ao Z (cW  E hG.g ) Z ?_
 rintro aC w ⟨an,A,G⟩
 rw [←A]at G
 have a:=hG.h G
 refine P 1 Z ?_
 refine I (O (ax ?_))
 cases h
 exact aG Z Z (a.e [0] Z Z)
theorem eF {l:World} {e:List UInt32} {a1:List UInt8} {b j:Value} {c:Nat} {S:List Nat} (d:Bool) {r:Bool×List UInt32}
  (h:F.Dm d e a1=some r) (a:St S l l [W c [vB d,b],N U b e]) (n:RP S l e8 j a1):Calls Tryz.prog 77 #[M c 0,j] l (Ret fun v w=>∃o:Value,v=M c 0∧St S l w [W c [vB r.1,o],N U o r.2]):=by
 refine aH 25 Tryz.func77 Z Z Z ?_
 refine au [(0,M c 0),(1,j)] ⟨Z,Z,V⟩ ?_
 unfold F.Dm at h
 refine J (H (P 1 Z ?_))
 refine I (O (J (H (P 1 Z ?_))))
 refine I (O (J (J (H (P 1 Z ?_)))))
 refine I (O (aD ?_))
 refine au [(0,M c 0),(1,j),(5,.slice none 0 0),(6,vI 0)] ⟨Z,Z,Z,Z,V⟩ ?_
 refine bj (F.Eg d e a1) (fun (s:List UInt32×Int) L w=>∃(k:Value),L=[(0,M c 0),(1,j),(5,k),(6,vI s.2)]∧St S l w [N U k s.1,W c [vB d,b],N U b e]) ?_ ([],0) ⟨.slice none 0 0,Z,(a.nil U)⟩ h
 rintro ab ⟨z,G⟩ L w ap hI A h p
 try dsimp only at hI
 obtain ⟨k,rfl,a⟩:=hI
 unfold F.Eg at h
 refine J (J (H (P 2 Z ?_)))
 refine am (aN u24 Z (n.d a.fr)) Z (P 1 Z ?_)
 refine I (O ?_)
 refine aw Z (fun g=>?_) (fun g=>?_)
 ·have h:=aJ h g
  refine az (O (J (aD ?_)))
  refine aY (fun w'=>St S l w' [N U k z,W c [vB d,b],N U b e]) (fun i=>!([1,7,8].contains i)) bQ (fun _ _ _ B=>B.2) (fun _ _ B=>B) (by kernel_rfl) ?_
  have a:=a.drew
  show lxE _ _ _ _ _ _ _ [0,1,2,3,4,5,6,7,8,9] _ _
  refine al a Z Z (fun w hF=>ar Z) Z ?_
  obtain ⟨ac,t,h⟩:=aj h
  refine bf a Z Z (by kernel_rfl) Z (ic 8 t (a.ro 0 Z).rp) Z ?_
  rintro ad w f
  have a:=a.f f
  refine al (a.e [1,2,3] Z Z) Z Z (fun w hF=>ar Z) Z (al (a.e [1,2,3] Z Z) Z Z (fun w hF=>ar Z) Z ?_)
  obtain ⟨q,m,h⟩:=aj h
  refine al (a.e [1,2,3] Z Z) Z Z (fun w hF=>bk u24 ti5 Z Z (n.d hF.fr) m) Z (al (a.e [1,2,3] Z Z) Z Z (fun w hF=>bb Tryz.underlying5 Z Z (n.d hF.fr) m Z) Z (al (a.e [1,2,3] Z Z) Z Z (fun w hF=>aM Z (tB Tryz.underlying5 u87 q)) Z ?_))
  obtain ⟨ag,u,h⟩:=aj h
  refine bf (a.e [1,2,3] Z Z) Z Z (by kernel_rfl) Z (dR q.toUInt64 u ) Z ?_
  rintro ak w f
  have a:=a.f f
  obtain ⟨C,x,h⟩:=aj h
  refine bf (a.e [2,3,4] Z Z) Z Z (by kernel_rfl) Z (je  x (a.ro 1 Z).rp (a.ro 0 Z).rp) Z ?_
  rintro D w f
  have a:=a.f f
  refine al (a.e [3,4,5] Z Z) Z Z (fun w hF=>aA Z) Z (bl (a.e [3,4,5] Z Z) ?_)
  refine aR ?_
  refine O (H (P 3 Z ?_))
  refine I ?_
  exact bv (bz _ (by exact ⟨Z,Z,Z,Z,V⟩) (A (C,wI (G+1)) _ _ ⟨D,Z,(a.e [0,4,5] Z Z)⟩ (a8 h p)))
 have h:=aI h g
 refine bg ?_
 refine aF (aF ?_)
 have h:=aW h p
 refine bd ?_
 refine O (J (H (P 2 Z ?_)))
 have T:=a.pick (os':=[W c [vB d,b],N U b e,N U k z]++[]) [1,2,0] (by decide) Z
 obtain ⟨an,y,h⟩:=aj h
 refine ao Z (bG d false y T.g ) Z ?_
 rintro _ w ⟨E,rfl,f⟩
 have a:=T.h f
 refine P 1 Z ?_
 refine I (O (ax ?_))
 cases h
 exact aG Z Z ⟨E,Z,a.e [0,1] Z Z⟩
theorem cz {e:World} {f:List UInt32} {c:Value} {g:Nat} (i:Bool) {r:Int}
  (h:F.BI i f=some r) (j:RP [] e U c f) (hBa0:RB [] e g [vB i,c]):Calls Tryz.prog 93 #[M g 0] e (Ret fun v w=>v=vI r∧St [] e w []):=by
 refine aH 13 Tryz.func93 Z Z Z ?_
 have d:=St.l e
 refine au [(0,M g 0)] ⟨Z,V⟩ ?_
 unfold F.BI at h
 refine J (H (P 1 Z ?_))
 refine I (O (J (J (H (P 1 Z ?_)))))
 refine am (aL Z) Z (am (av (k:=1) u101 Z Z cZ Z) Z (am (aC u30 Z Z (hBa0.cell d.fr 1 Z)) Z (am (aN u30 Z (j.d d.fr)) Z (P 1 Z ?_))))
 refine I (O ?_)
 refine aw Z (fun a=>?_) (fun a=>?_)
 ·have h:=aJ h a
  refine J (H (P 1 Z ?_))
  refine I (O (ax (aE ?_)))
  cases h
  exact aG Z Z ⟨Z,d⟩
 have h:=aI h a
 refine az (O (J (J (H (P 1 Z ?_)))))
 refine am (aL Z) Z (am (av (k:=0) u101 Z Z nz4 Z) Z (am (aC Tryz.underlying4 Z Z (hBa0.cell d.fr 0 Z)) Z (I (O ?_))))
 refine aw Z (fun b=>?_) (fun b=>?_)
 ·have h:=aJ h b
  refine J (H (P 1 Z ?_))
  refine I (O (ax (aE ?_)))
  cases h
  exact aG Z Z ⟨Z,d⟩
 have h:=aI h b
 refine az (O (J (H (P 1 Z ?_))))
 refine I (O (ax ?_))
 cases h
 exact aG Z Z ⟨Z,d⟩
theorem eJ {i:World} {d:List UInt32} {a:Value} {c:Nat} {S:List Nat} (b:Bool) (a1:Int) {r:Bool×List UInt32}
  (h:F.DC b d a1=some r) (e:St S i i [W c [vB b,a],N U a d]):Calls Tryz.prog 150 #[M c 0,vI a1] i (Ret fun v w=>∃j:Value,v=M c 0∧St S i w [W c [vB r.1,j],N U j r.2]):=by
 refine aH 18 Tryz.func150 Z Z Z ?_
 refine au [(0,M c 0),(1,vI a1)] ⟨Z,Z,V⟩ ?_
 unfold F.DC at h
 refine J (H (P 1 Z ?_))
 refine I (O (J (H (P 1 Z ?_))))
 refine am (aM Z (eE Tryz.underlying2 u87 a1)) Z (P 1 Z ?_)
 refine I (O ?_)
 refine a9 (r:=r) (fun (g:UInt64) L w=>L=[(0,M c 0),(1,vI a1),(5,v64 g)]∧St S i w [W c [vB b,a],N U a d]) (F.DE b d a1) ?_ ?_
 rotate_left
 ·intro k
  refine J (H (P 2 Z ?_))
  refine I (O ?_)
  refine aw Z (fun f=>?_) (fun f=>?_)
  ·have h:=aJ h f
   refine H (P 1 Z ?_)
   refine am (gY Z (zd (UInt64.ofInt a1))) Z (P 1 Z ?_)
   refine I (O ?_)
   exact au _ (by exact ⟨Z,Z,Z,V⟩) (k (0 - (UInt64.ofInt a1)) _ _ ⟨Z,e⟩ h)
  have h:=aI h f
  refine az (O ?_)
  exact au _ (by exact ⟨Z,Z,Z,V⟩) (k (UInt64.ofInt a1) _ _ ⟨Z,e⟩ h)
 rintro p L w hJ h
 try dsimp only at hJ
 obtain ⟨rfl,e⟩:=hJ
 unfold F.DE at h
 refine J (H (P 4 Z ?_))
 obtain ⟨q,m,h⟩:=aj h
 refine ao Z (dR p m ) Z ?_
 rintro s w l
 have e:=e.f l
 have t:=e.pick (os':=[W c [vB b,a],N U a d,N U s q]++[]) [1,2,0] (by decide) Z
 obtain ⟨u,n,h⟩:=aj h
 refine ao Z (bG b (decide (a1<0)) n t.g ) Z ?_
 rintro _ w ⟨o,rfl,l⟩
 have e:=t.h l
 refine P 1 Z ?_
 refine I (O (ax ?_))
 cases h
 exact aG Z Z ⟨o,Z,e.e [0,1] Z Z⟩
theorem cC {d:World} (a0:Int) {r:Bool×List UInt32}
  (h:F.BK a0=some r) :Calls Tryz.prog 85 #[vI a0] d (Ret fun v w=>∃b:Value,∃un0:Nat,v=M un0 0∧St [] d w [W un0 [vB r.1,b],N U b r.2]):=by
 refine aH 6 Tryz.func85 Z Z Z ?_
 have a:=St.l d
 refine au [(0,vI a0)] ⟨Z,V⟩ ?_
 unfold F.BK at h
 refine J (H (P 1 Z ?_))
 refine I (O (J (H (aV (ba (cs:=[vB false,.slice none 0 0]) cT Z a) Z ?_))))
 rintro _ w ⟨c,rfl,a⟩
 refine P 1 Z ?_
 replace a:=a.nil U
 have f:=a.pick (os':=[W c [vB false,.slice none 0 0],N U (.slice none 0 0) []]++[]) [1,0] (by decide) Z
 obtain ⟨j,e,h⟩:=aj h
 refine ao Z (eJ false a0 e f.g ) Z ?_
 rintro _ w ⟨g,rfl,i⟩
 have a:=f.h i
 refine P 1 Z ?_
 refine I (O (ax ?_))
 cases h
 exact aG Z Z ⟨g,c,Z,a.e [0,1] Z Z⟩
theorem fU {d:World} {j n o:List UInt32} {b l m:Value} {c p q:Nat} {S:List Nat} (e f g:Bool) {r:Bool×List UInt32}
  (h:F.Di e j f n g o=some r) (a:St S d d [W c [vB e,b],N U b j]) (u:RP S d U l n) (hBa1:RB S d p [vB f,l]) (x:RP S d U m o) (hBa2:RB S d q [vB g,m]):Calls Tryz.prog 174 #[M c 0,M p 0,M q 0] d (Ret fun v w=>∃s:Value,v=M c 0∧St S d w [W c [vB r.1,s],N U s r.2]):=by
 refine aH 27 Tryz.func174 Z Z Z ?_
 refine au [(0,M c 0),(1,M p 0),(2,M q 0)] ⟨Z,Z,Z,V⟩ ?_
 unfold F.Di at h
 refine J (H (P 1 Z ?_))
 refine I (O (J ?_))
 have hsh1:=(a.ro 1 Z).shp
 refine aY (fun w'=>St S d w' []) (fun i=>!([18,19].contains i)) bQ (fun _ _ _ y=>y.2) (fun _ _ y=>y) (by kernel_rfl) ?_
 have a:=a.drew
 show lxE _ _ _ _ _ _ _ [0,1,2,3,4,5,6,7,8,9,10,11,12,13,14,15,16,17,18,19,20] _ _
 refine al (a.e [] Z Z) Z Z (fun w hF=>ar Z) Z (al (a.e [] Z Z) Z Z (fun w hF=>ar Z) Z (al (a.e [] Z Z) Z Z (fun w hF=>aL Z) Z (al (a.e [] Z Z) Z Z (fun w hF=>av (k:=0) u101 Z Z nz4 Z) Z (al (a.e [] Z Z) Z Z (fun w hF=>aC Tryz.underlying4 Z Z (hBa1.cell hF.fr 0 Z)) Z (al (a.e [] Z Z) Z Z (fun w hF=>ar Z) Z (al (a.e [] Z Z) Z Z (fun w hF=>aL Z) Z (al (a.e [] Z Z) Z Z (fun w hF=>av (k:=0) u101 Z Z nz4 Z) Z (al (a.e [] Z Z) Z Z (fun w hF=>aC Tryz.underlying4 Z Z (hBa2.cell hF.fr 0 Z)) Z ?_))))))))
 refine al (a.e [] Z Z) Z Z (fun w hF=>aq Z Z (lH _ f g Tryz.underlying4 Z)) Z (al (a.e [] Z Z) Z Z (fun w hF=>ar Z) Z (al (a.e [] Z Z) Z Z (fun w hF=>aL Z) Z (al (a.e [] Z Z) Z Z (fun w hF=>av (k:=1) u101 Z Z cZ Z) Z (al (a.e [] Z Z) Z Z (fun w hF=>aC u30 Z Z (hBa1.cell hF.fr 1 Z)) Z (al (a.e [] Z Z) Z Z (fun w hF=>ar Z) Z (al (a.e [] Z Z) Z Z (fun w hF=>aL Z) Z (al (a.e [] Z Z) Z Z (fun w hF=>av (k:=1) u101 Z Z cZ Z) Z (al (a.e [] Z Z) Z Z (fun w hF=>aC u30 Z Z (hBa2.cell hF.fr 1 Z)) Z ?_))))))))
 obtain ⟨B,z,h⟩:=aj h
 refine bf (a.e [] Z Z) Z Z (by kernel_rfl) Z (kU  z (u.d a.fr).rp (x.d a.fr).rp) Z ?_
 rintro C w t
 have a:=a.f t
 have D:=a.pick (os':=[W c [vB e,b],N U b j,N U C B]++[]) [1,2,0] (by decide) Z
 obtain ⟨G,A,h⟩:=aj h
 refine bf (a.e [] Z Z) Z Z (by kernel_rfl) Z (bG e (f != g) A D.g ) Z ?_
 rintro _ w ⟨E,rfl,t⟩
 have a:=D.h t
 refine al (a.e [] Z Z) Z Z (fun w hF=>aA Z) Z (bl (a.e [] Z Z) ?_)
 refine O (ax ?_)
 cases h
 exact aG Z Z ⟨E,Z,a.e [0,1] Z Z⟩
theorem ip {b:World} {a0:List UInt32} {a:Value} {r:List UInt32}
  (h:F.CD a0=some r) (e:RP [] b U a a0):Calls Tryz.prog 189 #[a] b (Ret fun v w=>St [] b w [N U v r]):=by
 refine aH 5 Tryz.func189 Z Z Z ?_
 have c:=St.l b
 refine au [(0,a)] ⟨Z,V⟩ ?_
 unfold F.CD at h
 refine J (H (P 1 Z ?_))
 refine I (O (J (H (P 1 Z ?_))))
 obtain ⟨f,d,h⟩:=aj h
 refine aV (kO u30 aU Z Z Z c (e.d c.fr) d) Z ?_
 rintro g w c
 refine P 1 Z ?_
 refine I (O (ax ?_))
 cases h
 exact aG Z Z (c.e [0] Z Z)
theorem eW {e:World} {f l:List UInt32} {b j:Value} {c m:Nat} {S:List Nat} (d g:Bool) {r:Bool×List UInt32}
  (h:F.Cw d f g l=some r) (a:St S e e [W c [vB d,b],N U b f]) (p:RP S e U j l) (hBa1:RB S e m [vB g,j]):Calls Tryz.prog 175 #[M c 0,M m 0] e (Ret fun v w=>∃n:Value,v=M c 0∧St S e w [W c [vB r.1,n],N U n r.2]):=by
 refine aH 16 Tryz.func175 Z Z Z ?_
 refine au [(0,M c 0),(1,M m 0)] ⟨Z,Z,V⟩ ?_
 unfold F.Cw at h
 refine J (H (P 1 Z ?_))
 refine I (O (J ?_))
 have hsh1:=(a.ro 1 Z).shp
 refine aY (fun w'=>St S e w' []) (fun i=>!([9,10].contains i)) bQ (fun _ _ _ q=>q.2) (fun _ _ q=>q) (by kernel_rfl) ?_
 have a:=a.drew
 show lxE _ _ _ _ _ _ _ [0,1,2,3,4,5,6,7,8,9,10,11] _ _
 refine al (a.e [] Z Z) Z Z (fun w hF=>ar Z) Z (al (a.e [] Z Z) Z Z (fun w hF=>ar Z) Z (al (a.e [] Z Z) Z Z (fun w hF=>aL Z) Z (al (a.e [] Z Z) Z Z (fun w hF=>av (k:=0) u101 Z Z nz4 Z) Z (al (a.e [] Z Z) Z Z (fun w hF=>aC Tryz.underlying4 Z Z (hBa1.cell hF.fr 0 Z)) Z (al (a.e [] Z Z) Z Z (fun w hF=>ar Z) Z (al (a.e [] Z Z) Z Z (fun w hF=>aL Z) Z (al (a.e [] Z Z) Z Z (fun w hF=>av (k:=1) u101 Z Z cZ Z) Z (al (a.e [] Z Z) Z Z (fun w hF=>aC u30 Z Z (hBa1.cell hF.fr 1 Z)) Z ?_))))))))
 obtain ⟨u,s,h⟩:=aj h
 refine bf (a.e [] Z Z) Z Z (by kernel_rfl) Z (ip  s (p.d a.fr).rp) Z ?_
 rintro x w o
 have a:=a.f o
 have y:=a.pick (os':=[W c [vB d,b],N U b f,N U x u]++[]) [1,2,0] (by decide) Z
 obtain ⟨A,t,h⟩:=aj h
 refine bf (a.e [] Z Z) Z Z (by kernel_rfl) Z (bG d g t y.g ) Z ?_
 rintro _ w ⟨z,rfl,o⟩
 have a:=y.h o
 refine al (a.e [] Z Z) Z Z (fun w hF=>aA Z) Z (bl (a.e [] Z Z) ?_)
 refine O (ax ?_)
 cases h
 exact aG Z Z ⟨z,Z,a.e [0,1] Z Z⟩
theorem i9 {j:World} {a0 a1:List UInt32} {k l:Value} {r:Int}
  (h:F.Dl a0 a1=some r) (b:RP [] j U k a0) (c:RP [] j U l a1):Calls Tryz.prog 179 #[k,l] j (Ret fun v w=>v=vI r∧St [] j w []):=by
 refine aH 41 Tryz.func179 Z Z Z ?_
 have a:=St.l j
 refine au [(0,k),(1,l)] ⟨Z,Z,V⟩ ?_
 unfold F.Dl at h
 refine J (H (P 1 Z ?_))
 refine I (O (J (J (H (P 1 Z ?_)))))
 refine am (aN u30 Z (b.d a.fr)) Z (P 1 Z ?_)
 refine am (aN u30 Z (c.d a.fr)) Z (P 1 Z ?_)
 refine I (O ?_)
 refine aw Z (fun d=>?_) (fun d=>?_)
 ·have h:=aJ h d
  refine J (J (H (P 1 Z ?_)))
  refine am (aN u30 Z (b.d a.fr)) Z (P 1 Z ?_)
  refine am (aN u30 Z (c.d a.fr)) Z (P 1 Z ?_)
  refine I (O ?_)
  refine aw Z (fun m=>?_) (fun m=>?_)
  ·have h:=aJ h m
   refine J (H (P 1 Z ?_))
   refine I (O (ax (aE (aE ?_))))
   cases h
   exact aG Z Z ⟨Z,a⟩
  have h:=aI h m
  refine az (O (J (H (P 1 Z ?_))))
  refine I (O (ax (aE ?_)))
  cases h
  exact aG Z Z ⟨Z,a⟩
 have h:=aI h d
 refine az (O (J (J (H (P 1 Z ?_)))))
 refine am (aN u30 Z (b.d a.fr)) Z (P 1 Z ?_)
 obtain ⟨p,x,h⟩:=aO h
 refine am (aA (v:=vI p) (by rw [←x]; rfl)) Z ?_
 refine I (O (aD ?_))
 refine au [(0,k),(1,l),(5,vI p)] ⟨Z,Z,Z,V⟩ ?_
 refine bj (F.Cc a0 a1) (fun (s:Int) L w=>L=[(0,k),(1,l),(5,vI s)]∧St [] j w []) ?_ p ⟨Z,a⟩ h
 rintro E A L w G hI y h e
 try dsimp only at hI
 obtain ⟨rfl,a⟩:=hI
 unfold F.Cc at h
 refine J (J (H (P 2 Z ?_)))
 refine I (O ?_)
 refine aw Z (fun f=>?_) (fun f=>?_)
 ·have h:=aJ h f
  refine az (O (J (aD ?_)))
  refine J ?_
  refine aY (fun w'=>St [] j w' []) (fun _=>true) bQ (fun _ _ _ n=>n.2) (fun _ _ n=>n) (by kernel_rfl) ?_
  have a:=a.drew
  show lxE _ _ _ _ _ _ _ [0,1,2,3,4,5,6,7,8] _ _
  refine al a Z Z (fun w hF=>ar Z) Z (al a Z Z (fun w hF=>ar Z) Z ?_)
  obtain ⟨B,q,h⟩:=aj h
  refine al a Z Z (fun w hF=>bk u30 aU Z Z (b.d hF.fr) q) Z (al a Z Z (fun w hF=>bb u38 Z Z (b.d hF.fr) q Z) Z (al a Z Z (fun w hF=>ar Z) Z (al a Z Z (fun w hF=>ar Z) Z ?_)))
  obtain ⟨C,t,h⟩:=aj h
  refine al a Z Z (fun w hF=>bk u30 aU Z Z (c.d hF.fr) t) Z (al a Z Z (fun w hF=>bb u38 Z Z (c.d hF.fr) t Z) Z (al a Z Z (fun w hF=>aq Z Z (jW _ B C)) Z (bl a ?_)))
  refine O ?_
  refine aw Z (fun g=>?_) (fun g=>?_)
  ·have h:=aJ h g
   refine J (J ?_)
   refine aY (fun w'=>St [] j w' []) (fun _=>true) bQ (fun _ _ _ n=>n.2) (fun _ _ n=>n) (by kernel_rfl) ?_
   have a:=a.drew
   show lxE _ _ _ _ _ _ _ [0,1,2,3,4,5,6,7,8] _ _
   refine al a Z Z (fun w hF=>ar Z) Z (al a Z Z (fun w hF=>ar Z) Z ?_)
   obtain ⟨D,u,h⟩:=aj h
   refine al a Z Z (fun w hF=>bk u30 aU Z Z (b.d hF.fr) u) Z (al a Z Z (fun w hF=>bb u38 Z Z (b.d hF.fr) u Z) Z (al a Z Z (fun w hF=>ar Z) Z (al a Z Z (fun w hF=>ar Z) Z ?_)))
   obtain ⟨z,o,h⟩:=aj h
   refine al a Z Z (fun w hF=>bk u30 aU Z Z (c.d hF.fr) o) Z (al a Z Z (fun w hF=>bb u38 Z Z (c.d hF.fr) o Z) Z (al a Z Z (fun w hF=>aq Z Z (oU _ D z)) Z (bl a ?_)))
   refine O ?_
   refine aw Z (fun i=>?_) (fun i=>?_)
   ·have h:=aJ h i
    refine J (H (P 1 Z ?_))
    refine I (O (ax (aE (bP ?_))))
    refine aE (aE ?_)
    have h:=aW h e
    refine bP ?_
    refine aE ?_
    cases h
    exact aG Z Z ⟨Z,a⟩
   have h:=aI h i
   refine az (O (J (H (P 1 Z ?_))))
   refine I (O (ax (bP ?_)))
   refine aE (aE ?_)
   have h:=aW h e
   refine bP ?_
   refine aE ?_
   cases h
   exact aG Z Z ⟨Z,a⟩
  have h:=aI h g
  refine az (aR ?_)
  refine O (H (P 3 Z ?_))
  refine I ?_
  exact bv (bz _ (by exact ⟨Z,Z,Z,V⟩) (y (wI (A - 1)) _ _ ⟨Z,a⟩ (a8 h e)))
 have h:=aI h f
 refine bg ?_
 refine aF (aF ?_)
 have h:=aW h e
 refine bd ?_
 refine O (J (H (P 1 Z ?_)))
 refine I (O (ax ?_))
 cases h
 exact aG Z Z ⟨Z,a⟩
theorem j8 {f:World} {a0:List UInt32} {e:Value} {r:UInt64}
  (h:F.EC a0=some r) (b:RP [] f U e a0):Calls Tryz.prog 197 #[e] f (Ret fun v w=>v=v64 r∧St [] f w []):=by
 refine aH 22 Tryz.func197 Z Z Z ?_
 have a:=St.l f
 refine au [(0,e)] ⟨Z,V⟩ ?_
 unfold F.EC at h
 refine J (H (P 1 Z ?_))
 refine I (O (J (H (P 1 Z ?_))))
 refine I (O ?_)
 refine a9 (r:=r) (fun (g:UInt64) L w=>L=[(0,e),(3,v64 g)]∧St [] f w []) (F.FO a0) ?_ ?_
 rotate_left
 ·intro i
  refine J (H (P 1 Z ?_))
  refine am (aN u30 Z (b.d a.fr)) Z (P 1 Z ?_)
  refine I (O ?_)
  refine aw Z (fun c=>?_) (fun c=>?_)
  ·have h:=aJ h c
   refine H (P 1 Z ?_)
   obtain ⟨n,j,h⟩:=aj h
   refine am (bk u30 aU Z Z (b.d a.fr) j) Z (am (bb u38 Z Z (b.d a.fr) j Z) Z (am (aM Z (bp u38 u87 n)) Z (P 1 Z ?_)))
   refine I (O ?_)
   exact au _ (by exact ⟨Z,Z,V⟩) (i n.toUInt64 _ _ ⟨Z,a⟩ h)
  have h:=aI h c
  refine az (O ?_)
  exact au _ (by exact ⟨Z,Z,V⟩) (i 0 _ _ ⟨Z,a⟩ h)
 rintro o L w hJ h
 try dsimp only at hJ
 obtain ⟨rfl,a⟩:=hJ
 unfold F.FO at h
 refine a9 (r:=r) (fun (g:UInt64) L w=>L=[(3,v64 g)]∧St [] f w []) (F.Fw) ?_ ?_
 rotate_left
 ·intro k
  refine J (H (P 1 Z ?_))
  refine am (aN u30 Z (b.d a.fr)) Z (P 1 Z ?_)
  refine I (O ?_)
  refine aw Z (fun d=>?_) (fun d=>?_)
  ·have h:=aJ h d
   refine H (P 2 Z ?_)
   obtain ⟨l,m,h⟩:=aj h
   refine am (bk u30 aU Z Z (b.d a.fr) m) Z (am (bb u38 Z Z (b.d a.fr) m Z) Z (am (aM Z (bp u38 u87 l)) Z (am (aq Z Z (c6 _ l.toUInt64 32)) Z (am (aq Z Z (eG _ o (bm l.toUInt64 32))) Z ?_))))
   obtain ⟨p,q,h⟩:=aO h
   refine am (aA (v:=v64 p) (by rw [←q]; rfl)) Z ?_
   refine I (O ?_)
   exact au _ (by exact ⟨Z,V⟩) (k p _ _ ⟨Z,a⟩ h)
  have h:=aI h d
  refine az (O ?_)
  exact au _ (by exact ⟨Z,V⟩) (k o _ _ ⟨Z,a⟩ h)
 rintro s L w hJ h
 try dsimp only at hJ
 obtain ⟨rfl,a⟩:=hJ
 unfold F.Fw at h
 refine J (H (P 2 Z ?_))
 refine I (O (ax ?_))
 cases h
 exact aG Z Z ⟨Z,a⟩
theorem om {l:World} {a0:List UInt32} {d:Value} (a1:UInt32) {r:List UInt32×UInt32}
  (h:F.Ff a0 a1=some r) (f:RP [] l U d a0):Calls Tryz.prog 198 #[d,v32 a1] l (Ret fun v w=>∃u0:Value,v=.tuple #[u0,v32 r.2]∧St [] l w [N U u0 r.1]):=by
 refine aH 43 Tryz.func198 Z Z Z ?_
 have a:=St.l l
 refine au [(0,d),(1,v32 a1)] ⟨Z,Z,V⟩ ?_
 unfold F.Ff at h
 refine J (H (P 2 Z ?_))
 refine I (O (J (H (P 1 Z ?_))))
 refine am (aN u30 Z (f.d a.fr)) Z ?_
 obtain ⟨T,C,h⟩:=aj h
 refine aV (c8 (e:=U) u30 aU Z Z Z a C) Z ?_
 rintro g w a
 refine P 1 Z ?_
 refine I (O (J (H (P 1 Z ?_))))
 refine I (O (J (J (H (P 1 Z ?_)))))
 refine am (aN u30 Z (f.d a.fr)) Z (P 1 Z ?_)
 obtain ⟨m,D,h⟩:=aO h
 refine am (aA (v:=vI m) (by rw [←D]; rfl)) Z ?_
 refine I (O (aD ?_))
 refine au [(0,d),(1,v32 a1),(6,g),(7,v64 0),(8,vI m)] ⟨Z,Z,Z,Z,Z,V⟩ ?_
 refine bj (F.Df a0 a1) (fun (s:UInt64×Int×List UInt32) L w=>L=[(0,d),(1,v32 a1),(6,g),(7,v64 s.1),(8,vI s.2.1)]∧St [] l w [N U g s.2.2]) ?_ (0,m,T) ⟨Z,a⟩ h
 rintro ak ⟨n,ab,ac⟩ L w al hI E h o
 try dsimp only at hI
 obtain ⟨rfl,a⟩:=hI
 unfold F.Df at h
 refine J (J (H (P 2 Z ?_)))
 refine I (O ?_)
 refine aw Z (fun c=>?_) (fun c=>?_)
 ·have h:=aJ h c
  refine az (O (J (aD ?_)))
  refine J (H (P 1 Z ?_))
  refine am (aq Z Z (c6 _ n 32)) Z (P 2 Z ?_)
  obtain ⟨p,j,h⟩:=aj h
  refine am (bk u30 aU Z Z (f.d a.fr) j) Z (am (bb u38 Z Z (f.d a.fr) j Z) Z (am (aM Z (bp u38 u87 p)) Z (am (aq Z Z (eG _ (bm n 32) p.toUInt64)) Z ?_)))
  obtain ⟨b,u,h⟩:=aO h
  refine am (aA (v:=v64 b) (by rw [←u]; rfl)) Z ?_
  refine I (O (J (H (P 4 Z ?_))))
  refine am (aM Z (bp u38 u87 a1)) Z ?_
  obtain ⟨x,h⟩:=bX h
  refine am (aq Z Z (gE _ b a1.toUInt64 x)) Z (am (aM Z (bO u87 u38 (b / a1.toUInt64))) Z ?_)
  obtain ⟨an,k,h⟩:=aj h
  refine am (bk u30 aU Z Z (a.ro 0 Z) k) Z (bn (cb (t:=((b / a1.toUInt64).toUInt32)) aU Z Z a (i:=0) Z k Z) ?_)
  intro w a
  obtain ⟨G,y,h⟩:=aO h
  rw [y]at a
  refine I (O (H (P 2 Z ?_)))
  refine am (aM Z (bp u38 u87 a1)) Z ?_
  obtain ⟨z,h⟩:=bX h
  refine am (aq Z Z (ez _ b a1.toUInt64 z)) Z (P 1 Z ?_)
  refine I (aR ?_)
  refine O (H (P 3 Z ?_))
  refine I ?_
  exact bv (bz _ (by exact ⟨Z,Z,Z,Z,Z,V⟩) (E (b%a1.toUInt64,wI (ab - 1),G) _ _ ⟨Z,a⟩ (a8 h o)))
 have h:=aI h c
 refine bg ?_
 refine aF (aF ?_)
 have h:=aW h o
 refine bd ?_
 refine O (J (H (P 1 Z ?_)))
 have hG:=a.pick (os':=[N U g ac]++[]) [0] (by decide) Z
 obtain ⟨ap,A,h⟩:=aj h
 refine ao Z (cW  A hG.g ) Z ?_
 rintro S w ⟨ag,q,B⟩
 rw [←q]at B
 have a:=hG.h B
 refine P 1 Z ?_
 refine am (aM Z (bO u87 u38 n)) Z (P 2 Z ?_)
 refine I (O (ax ?_))
 cases h
 exact bU Z Z Z ⟨S,Z,a.e [0] Z Z⟩
end Go.Proofs
