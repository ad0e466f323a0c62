import Derived.Test.YtkickcbphbgldaaGreatDoorTW0
import Derived.Test.YtkickcbphbgldaaGreatDoorGkFman
import Derived.Test.YtkickcbphbgldaaGreatDoorTWbignuma
set_option linter.unusedVariables false
set_option linter.unusedSimpArgs false
set_option linter.unusedSectionVars false
set_option maxRecDepth 4000
namespace Go.Proofs
open Go Go.RowKit Go.Gk
open Go.Gk renaming aa → P, ae → O, af → H, ah → J, ai → I, e32 → U, own → N, pB → M
open Nat renaming le_of_ble_eq_true → R
open Go.Gk.OE renaming bx → W
theorem ot {y:World} {a0:List UInt32} {c:Value} (a1:UInt64) {r:List UInt32}
  (h:F.Fa a0 a1=some r) (b:RP [] y U c a0):Calls Tryz.prog 199 #[c,v64 a1] y (Ret fun v w=>St [] y w [N U v r]):=by
 refine aH 64 Tryz.func199 Z Z Z ?_
 have a:=St.l y
 refine au [(0,c),(1,v64 a1)] ⟨Z,Z,V⟩ ?_
 unfold F.Fa at h
 refine J (H (P 1 Z ?_))
 refine I (O (J (H (P 1 Z ?_))))
 refine am (aq Z Z (gE _ a1 32 (by decide))) Z ?_
 refine am (aM Z (l9 u112 Tryz.underlying3 (a1 / 32))) Z (P 1 Z ?_)
 refine am (aq Z Z (ez _ a1 32 (by decide))) Z ?_
 obtain ⟨l,ab,h⟩:=aO h
 refine am (aA (v:=vI l) (by rw [←ab]; rfl)) Z ?_
 refine P 1 Z ?_
 refine I (O (J (J (H (P 2 Z ?_)))))
 refine am (aN u30 Z (b.d a.fr)) Z (P 1 Z ?_)
 refine I (O ?_)
 refine aw Z (fun f=>?_) (fun f=>?_)
 ·have h:=aJ h f
  refine J (H (P 1 Z ?_))
  refine I (O (ax (aE ?_)))
  cases h
  exact aG Z Z ((a.nil U).e [0] Z Z)
 have h:=aI h f
 refine az (O (J (H (P 1 Z ?_))))
 refine am (aN u30 Z (b.d a.fr)) Z (P 2 Z ?_)
 obtain ⟨ak,ac,h⟩:=aj h
 refine aV (c8 (e:=U) u30 aU Z Z Z a ac) Z ?_
 rintro d w a
 refine P 1 Z ?_
 refine I (O (J (J (H (P 1 Z ?_)))))
 refine I (O (aD ?_))
 refine au [(0,c),(5,vI l),(6,v64 (a1%32)),(7,d),(8,vI 0)] ⟨Z,Z,Z,Z,Z,V⟩ ?_
 refine bj (F.Ef a0 l a1) (fun (s:Int×List UInt32) L w=>L=[(0,c),(5,vI l),(6,v64 (a1%32)),(7,d),(8,vI s.1)]∧St [] y w [N U d s.2]) ?_ (0,ak) ⟨Z,a⟩ h
 rintro ar ⟨z,A⟩ L w al hI ad h B
 try dsimp only at hI
 obtain ⟨rfl,a⟩:=hI
 unfold F.Ef at h
 refine J (J (H (P 2 Z ?_)))
 refine am (aN u30 Z (a.ro 0 Z)) Z (P 1 Z ?_)
 refine I (O ?_)
 refine aw Z (fun j=>?_) (fun j=>?_)
 ·have h:=aJ h j
  refine az (O (J (aD ?_)))
  refine J (H (P 4 Z ?_))
  obtain ⟨m,p,h⟩:=aj h
  refine am (bk u30 aU Z Z (b.d a.fr) p) Z (am (bb u38 Z Z (b.d a.fr) p Z) Z (am (aM Z (bp u38 u87 m)) Z (P 1 Z ?_)))
  refine I (O ?_)
  refine a9 (r:=al) (fun (g:UInt64) L w=>L=[(0,c),(5,vI l),(6,v64 (a1%32)),(7,d),(8,vI z),(9,v64 g)]∧St [] y w [N U d A]) (F.EE a1 z A) ?_ ?_
  rotate_left
  ·intro q
   refine J (H (P 5 Z ?_))
   refine am (aN u30 Z (b.d a.fr)) Z (P 1 Z ?_)
   refine I (O ?_)
   refine aw Z (fun k=>?_) (fun k=>?_)
   ·have h:=aJ h k
    refine H (P 6 Z ?_)
    obtain ⟨n,u,h⟩:=aj h
    refine am (bk u30 aU Z Z (b.d a.fr) u) Z (am (bb u38 Z Z (b.d a.fr) u Z) Z (am (aM Z (bp u38 u87 n)) Z (am (aq Z Z (c6 _ n.toUInt64 32)) Z (am (aq Z Z (eG _ m.toUInt64 (bm n.toUInt64 32))) Z ?_))))
    obtain ⟨C,E,h⟩:=aO h
    refine am (aA (v:=v64 C) (by rw [←E]; rfl)) Z ?_
    refine I (O ?_)
    exact au _ (by exact ⟨Z,Z,Z,Z,Z,Z,V⟩) (q C _ _ ⟨Z,a⟩ h)
   have h:=aI h k
   refine az (O ?_)
   exact au _ (by exact ⟨Z,Z,Z,Z,Z,Z,V⟩) (q m.toUInt64 _ _ ⟨Z,a⟩ h)
  rintro o L w hJ h
  try dsimp only at hJ
  obtain ⟨rfl,a⟩:=hJ
  unfold F.EE at h
  refine H (P 4 Z ?_)
  refine am (aq Z Z (cl _ o (a1%32))) Z (am (aM Z (bO u87 u38 (aP o ((a1%32).toNat)))) Z ?_)
  obtain ⟨av,x,h⟩:=aj h
  refine am (bk u30 aU Z Z (a.ro 0 Z) x) Z (bn (cb (t:=((aP o ((a1%32).toNat)).toUInt32)) aU Z Z a (i:=0) Z x Z) ?_)
  intro w a
  obtain ⟨ag,G,h⟩:=aO h
  rw [G]at a
  refine I (aR ?_)
  refine O (H (P 3 Z ?_))
  refine I ?_
  exact bv (bz _ (by exact ⟨Z,Z,Z,Z,Z,V⟩) (ad (wI (z+1),ag) _ _ ⟨Z,a⟩ (a8 h B)))
 have h:=aI h j
 refine bg ?_
 refine aF (aF ?_)
 have h:=aW h B
 refine bd ?_
 refine O (J (H (P 1 Z ?_)))
 have hG:=a.pick (os':=[N U d A]++[]) [0] (by decide) Z
 obtain ⟨ay,S,h⟩:=aj h
 refine ao Z (cW  S hG.g ) Z ?_
 rintro aB w ⟨ap,D,T⟩
 rw [←D]at T
 have a:=hG.h T
 refine P 1 Z ?_
 refine I (O (ax ?_))
 cases h
 exact aG Z Z (a.e [0] Z Z)
theorem jc {A:World} {a0 a1:List UInt32} {bS bT:Value} {r:List UInt32×List UInt32}
  (h:F.DA a0 a1=some r) (G:RP [] A U bS a0) (D:RP [] A U bT a1):Calls Tryz.prog 193 #[bS,bT] A (Ret fun v w=>∃u0 u1:Value,v=.tuple #[u0,u1]∧St [] A w [N U u0 r.1,N U u1 r.2]):=by
 refine aH 273 Tryz.func193 Z Z Z ?_
 have a:=St.l A
 refine au [(0,bS),(1,bT)] ⟨Z,Z,V⟩ ?_
 unfold F.DA at h
 refine J (H (P 2 Z ?_))
 refine I (O (J (J (H (P 1 Z ?_)))))
 refine am (aN u30 Z (D.d a.fr)) Z (P 1 Z ?_)
 refine I (O ?_)
 refine aw Z (fun S=>?_) (fun S=>?_)
 ·have h:=aJ h S
  refine J (H (P 2 Z ?_))
  refine I (O (ax (aE ?_)))
  cases h
  exact bU Z Z Z ⟨.slice none 0 0,.slice none 0 0,Z,((a.nil U).nil U).e [1,0] Z Z⟩
 have h:=aI h S
 refine az (O (J (J (H (P 2 Z ?_)))))
 obtain ⟨du,cJ,h⟩:=aj h
 refine ao Z (i9  cJ (G.d a.fr).rp (D.d a.fr).rp) Z ?_
 rintro _ w ⟨rfl,k⟩
 have a:=a.f k
 refine P 1 Z ?_
 refine I (O ?_)
 refine aw Z (fun T=>?_) (fun T=>?_)
 ·have h:=aJ h T
  refine J (H (P 1 Z ?_))
  obtain ⟨dv,cK,h⟩:=aj h
  refine ao Z (ip  cK (G.d a.fr).rp) Z ?_
  rintro c3 w k
  have a:=a.f k
  refine P 2 Z ?_
  refine I (O (ax (aE ?_)))
  cases h
  exact bU Z Z Z ⟨.slice none 0 0,c3,Z,(a.nil U).e [0,1] Z Z⟩
 have h:=aI h T
 refine az (O (J (J (H (P 1 Z ?_)))))
 refine am (aN u30 Z (G.d a.fr)) Z (P 1 Z ?_)
 refine I (O ?_)
 refine aw Z (fun ab=>?_) (fun ab=>?_)
 ·have h:=aJ h ab
  refine J (H (P 1 Z ?_))
  obtain ⟨bc,cM,h⟩:=aj h
  refine ao Z (j8  cM (G.d a.fr).rp) Z ?_
  rintro _ w ⟨rfl,k⟩
  have a:=a.f k
  refine P 1 Z ?_
  obtain ⟨be,cN,h⟩:=aj h
  refine ao Z (j8  cN (D.d a.fr).rp) Z ?_
  rintro _ w ⟨rfl,k⟩
  have a:=a.f k
  refine P 2 Z ?_
  refine I (O (J ?_))
  refine aY (fun w'=>St [] A w' []) (fun i=>!([3,7].contains i)) bQ (fun _ _ _ y=>y.2) (fun _ _ y=>y) (by kernel_rfl) ?_
  have a:=a.drew
  show lxE _ _ _ _ _ _ _ [0,1,2,3,4,5,6,7,8,9] _ _
  refine al a Z Z (fun w hF=>ar Z) Z (al a Z Z (fun w hF=>ar Z) Z ?_)
  obtain ⟨cO,h⟩:=bX h
  refine al a Z Z (fun w hF=>aq Z Z (gE _ bc be cO)) Z ?_
  obtain ⟨dw,cP,h⟩:=aj h
  refine bf a Z Z (by kernel_rfl) Z (dR (bc / be) cP ) Z ?_
  rintro c4 w k
  have a:=a.f k
  refine al (a.e [] Z Z) Z Z (fun w hF=>ar Z) Z (al (a.e [] Z Z) Z Z (fun w hF=>ar Z) Z ?_)
  obtain ⟨cc,h⟩:=bX h
  refine al (a.e [] Z Z) Z Z (fun w hF=>aq Z Z (ez _ bc be cc)) Z ?_
  obtain ⟨dg,cd,h⟩:=aj h
  refine bf (a.e [] Z Z) Z Z (by kernel_rfl) Z (dR (bc%be) cd ) Z ?_
  rintro cQ w k
  have a:=a.f k
  refine al (a.e [] Z Z) Z Z (fun w hF=>aA Z) Z (al (a.e [] Z Z) Z Z (fun w hF=>aA Z) Z (bl (a.e [] Z Z) ?_))
  refine O (ax (aE ?_))
  cases h
  exact bU Z Z Z ⟨c4,cQ,Z,a.e [1,0] Z Z⟩
 have h:=aI h ab
 refine az (O (J (J (H (P 1 Z ?_)))))
 refine am (aN u30 Z (D.d a.fr)) Z (P 1 Z ?_)
 refine I (O ?_)
 refine aw Z (fun ac=>?_) (fun ac=>?_)
 ·have h:=aJ h ac
  refine J (H (P 2 Z ?_))
  obtain ⟨cR,bh,h⟩:=aj h
  refine am (bk u30 aU Z Z (D.d a.fr) bh) Z (am (bb u38 Z Z (D.d a.fr) bh Z) Z ?_)
  obtain ⟨ay,ce,h⟩:=aj h
  refine ao Z (om cR ce (G.d a.fr).rp) Z ?_
  rintro _ w ⟨bV,rfl,k⟩
  have a:=a.f k
  refine P 5 Z ?_
  refine I (O (J (H (P 2 Z ?_))))
  refine aV (cL (e:=U) (l:=([ay.2]:List UInt32)) (vs:=[v32 ay.2]) u30 aU Z Z Z Z (by decide) (by decide) a) Z ?_
  rintro cS w a
  have hG:=a.pick (os':=[N U cS ([ay.2]:List UInt32)]++[N U bV ay.1]) [0,1] (by decide) Z
  obtain ⟨dh,cf,h⟩:=aj h
  refine ao Z (cW  cf hG.g ) Z ?_
  rintro cT w ⟨c9,bW,k⟩
  rw [←bW]at k
  have a:=hG.h k
  refine P 2 Z ?_
  refine I (O (ax (aE ?_)))
  cases h
  exact bU Z Z Z ⟨bV,cT,Z,a.e [1,0] Z Z⟩
 have h:=aI h ac
 refine az (O (J (H (P 1 Z ?_))))
 obtain ⟨bY,cg,h⟩:=aj h
 refine ao Z (gf  cg (D.d a.fr).rp) Z ?_
 rintro _ w ⟨rfl,k⟩
 have a:=a.f k
 refine P 1 Z ?_
 refine am (aq Z Z (jO _ (wI (bY - 1)) 32 (by decide))) Z ?_
 refine P 2 Z ?_
 refine am (aM Z (eE Tryz.underlying3 u112 (wI ((wI (32 - (Int.tmod (wI (bY - 1)) 32))) - 1)))) Z ?_
 obtain ⟨o,ch,h⟩:=aO h
 refine am (aA (v:=v64 o) (by rw [←ch]; rfl)) Z ?_
 refine I (O (J (H (P 2 Z ?_))))
 obtain ⟨b,ci,h⟩:=aj h
 refine ao Z (ic o ci (D.d a.fr).rp) Z ?_
 rintro c w k
 have a:=a.f k
 refine P 1 Z ?_
 refine I (O (J (H (P 1 Z ?_))))
 refine am (aN u30 Z (G.d a.fr)) Z (P 1 Z ?_)
 obtain ⟨di,cj,h⟩:=aj h
 refine aV (c8 (e:=U) u30 aU Z Z Z a cj) Z ?_
 rintro d w a
 refine P 1 Z ?_
 refine I (O (J (H (P 3 Z ?_))))
 obtain ⟨cU,ck,h⟩:=aj h
 refine ao Z (ic o ck (G.d a.fr).rp) Z ?_
 rintro cV w k
 have a:=a.f k
 refine aV (vu (e:=U) u30 aU Z Z Z a (i:=1) Z (a.ro 0 Z)) Z ?_
 rintro v_q w ⟨hv_q,a⟩
 subst v_q
 obtain ⟨bZ,cm,h⟩:=aO h
 rw [cm]at a
 refine I (O (J (H (P 1 Z ?_))))
 refine am (aN u30 Z (a.ro 2 Z)) Z (P 1 Z ?_)
 refine I (O (J (H (P 1 Z ?_))))
 refine am (aN u30 Z (a.ro 1 Z)) Z (P 3 Z ?_)
 obtain ⟨aZ,cn,h⟩:=aO h
 refine am (aA (v:=vI aZ) (by rw [←cn]; rfl)) Z ?_
 refine I (O (J (H (P 2 Z ?_))))
 obtain ⟨b0,co,h⟩:=aj h
 refine aV (c8 (e:=U) u30 aU Z Z Z a co) Z ?_
 rintro j w a
 refine P 1 Z ?_
 refine I (O (J ?_))
 refine aY (fun w'=>St [] A w' [N U j b0,N U cV cU,N U d bZ,N U c b]) (fun _=>true) bQ (fun _ _ _ y=>y.2) (fun _ _ y=>y) (by kernel_rfl) ?_
 have a:=a.drew
 show lxE _ _ _ _ _ _ _ [0,1,2,3,4,5,6,7,8,9,10,11,12,13] _ _
 refine al a Z Z (fun w hF=>ar Z) Z (al a Z Z (fun w hF=>ar Z) Z (al a Z Z (fun w hF=>aq Z Z (dC _ (b.length:Int) 1)) Z ?_))
 obtain ⟨f,bi,h⟩:=aj h
 refine al a Z Z (fun w hF=>bk u30 aU Z Z (hF.ro 3 Z) bi) Z (al a Z Z (fun w hF=>bb u38 Z Z (hF.ro 3 Z) bi Z) Z (al a Z Z (fun w hF=>aM Z (bp u38 u87 f)) Z (al a Z Z (fun w hF=>ar Z) Z (al a Z Z (fun w hF=>ar Z) Z (al a Z Z (fun w hF=>aq Z Z (dC _ (b.length:Int) 2)) Z ?_)))))
 obtain ⟨n,bq,h⟩:=aj h
 refine al a Z Z (fun w hF=>bk u30 aU Z Z (hF.ro 3 Z) bq) Z (al a Z Z (fun w hF=>bb u38 Z Z (hF.ro 3 Z) bq Z) Z (al a Z Z (fun w hF=>aM Z (bp u38 u87 n)) Z (al a Z Z (fun w hF=>aA Z) Z (al a Z Z (fun w hF=>aA Z) Z (bl a ?_)))))
 refine O (J (J (H (P 2 Z ?_))))
 refine I (O (aD ?_))
 refine au [(10,v64 o),(11,c),(12,d),(13,vI (b.length:Int)),(15,j),(16,v64 f.toUInt64),(17,v64 n.toUInt64),(18,vI aZ)] ⟨Z,Z,Z,Z,Z,Z,Z,Z,V⟩ ?_
 refine bj (F.C8 o b f n) (fun (s:Int×List UInt32×List UInt32) L w=>L=[(10,v64 o),(11,c),(12,d),(13,vI (b.length:Int)),(15,j),(16,v64 f.toUInt64),(17,v64 n.toUInt64),(18,vI s.1)]∧St [] A w [N U c b,N U d s.2.1,N U j s.2.2]) ?_ (aZ,bZ,b0) ⟨Z,(a.e [3,2,0] Z Z)⟩ h
 rintro da ⟨m,q,p⟩ L w b1 hI cp h br
 try dsimp only at hI
 obtain ⟨rfl,a⟩:=hI
 unfold F.C8 at h
 refine J (J (H (P 2 Z ?_)))
 refine I (O ?_)
 refine aw Z (fun ad=>?_) (fun ad=>?_)
 ·have h:=aJ h ad
  refine az (O (J (aD ?_)))
  refine J ?_
  refine aY (fun w'=>St [] A w' [N U c b,N U d q,N U j p]) (fun _=>true) bQ (fun _ _ _ y=>y.2) (fun _ _ y=>y) (by kernel_rfl) ?_
  have a:=a.drew
  show lxE _ _ _ _ _ _ _ [0,1,2,3,4,5,6,7,8,9,10,11,12,13,14,15,16,17] _ _
  refine al a Z Z (fun w hF=>ar Z) Z (al a Z Z (fun w hF=>ar Z) Z (al a Z Z (fun w hF=>ar Z) Z (al a Z Z (fun w hF=>aq Z Z (lJ _ m (b.length:Int))) Z ?_)))
  obtain ⟨a2,bs,h⟩:=aj h
  refine al a Z Z (fun w hF=>bk u30 aU Z Z (hF.ro 1 Z) bs) Z (al a Z Z (fun w hF=>bb u38 Z Z (hF.ro 1 Z) bs Z) Z (al a Z Z (fun w hF=>aM Z (bp u38 u87 a2)) Z (al a Z Z (fun w hF=>aq Z Z (c6 _ a2.toUInt64 32)) Z (al a Z Z (fun w hF=>ar Z) Z (al a Z Z (fun w hF=>ar Z) Z (al a Z Z (fun w hF=>ar Z) Z (al a Z Z (fun w hF=>aq Z Z (lJ _ m (b.length:Int))) Z (al a Z Z (fun w hF=>aq Z Z (dC _ (wI (m+(b.length:Int))) 1)) Z ?_))))))))
  obtain ⟨b2,bt,h⟩:=aj h
  refine al a Z Z (fun w hF=>bk u30 aU Z Z (hF.ro 1 Z) bt) Z (al a Z Z (fun w hF=>bb u38 Z Z (hF.ro 1 Z) bt Z) Z (al a Z Z (fun w hF=>aM Z (bp u38 u87 b2)) Z (al a Z Z (fun w hF=>aq Z Z (eG _ (bm a2.toUInt64 32) b2.toUInt64)) Z ?_)))
  obtain ⟨B,cr,h⟩:=aO h
  refine al a Z Z (fun w hF=>aA (v:=v64 B) (by rw [←cr]; rfl)) Z ?_
  refine bl a ?_
  refine O (J ?_)
  refine aY (fun w'=>St [] A w' [N U c b,N U d q,N U j p]) (fun _=>true) bQ (fun _ _ _ y=>y.2) (fun _ _ y=>y) (by kernel_rfl) ?_
  have a:=a.drew
  show lxE _ _ _ _ _ _ _ [0,1,2,3,4,5,6,7] _ _
  refine al a Z Z (fun w hF=>ar Z) Z (al a Z Z (fun w hF=>ar Z) Z ?_)
  obtain ⟨cs,h⟩:=bX h
  refine al a Z Z (fun w hF=>aq Z Z (gE _ B f.toUInt64 cs)) Z (al a Z Z (fun w hF=>ar Z) Z (al a Z Z (fun w hF=>ar Z) Z ?_))
  obtain ⟨ct,h⟩:=bX h
  refine al a Z Z (fun w hF=>aq Z Z (ez _ B f.toUInt64 ct)) Z (al a Z Z (fun w hF=>aA Z) Z (al a Z Z (fun w hF=>aA Z) Z (bl a ?_)))
  refine O ?_
  refine a9 (r:=b1) (fun (g:UInt64) L w=>L=[(10,v64 o),(11,c),(12,d),(13,vI (b.length:Int)),(15,j),(16,v64 f.toUInt64),(17,v64 n.toUInt64),(18,vI m),(20,v64 g)]∧St [] A w [N U c b,N U d q,N U j p]) (F.CR q b m p) ?_ ?_
  rotate_left
  ·intro bu
   refine aD ?_
   refine au [(10,v64 o),(11,c),(12,d),(13,vI (b.length:Int)),(15,j),(16,v64 f.toUInt64),(17,v64 n.toUInt64),(18,vI m),(20,v64 (B / f.toUInt64)),(21,v64 (B%f.toUInt64))] ⟨Z,Z,Z,Z,Z,Z,Z,Z,Z,Z,V⟩ ?_
   refine bj (F.CY b n m q f p) (fun (s:UInt64×UInt64) L w=>L=[(10,v64 o),(11,c),(12,d),(13,vI (b.length:Int)),(15,j),(16,v64 f.toUInt64),(17,v64 n.toUInt64),(18,vI m),(20,v64 s.1),(21,v64 s.2)]∧St [] A w [N U c b,N U d q,N U j p]) ?_ (B / f.toUInt64,B%f.toUInt64) ⟨Z,a⟩ h
   rintro dj ⟨u,z⟩ L w cX hI cu h aB
   try dsimp only at hI
   obtain ⟨rfl,a⟩:=hI
   unfold F.CY at h
   refine J ?_
   refine a9 (r:=cX) (fun (g:Bool) L w=>L=[(10,v64 o),(11,c),(12,d),(13,vI (b.length:Int)),(15,j),(16,v64 f.toUInt64),(17,v64 n.toUInt64),(18,vI m),(20,v64 u),(21,v64 z),(154,vB g)]∧St [] A w [N U c b,N U d q,N U j p]) (F.B6 f u z q b m p) ?_ ?_
   rotate_left
   ·intro bw
    refine H (P 1 Z ?_)
    refine am (aq Z Z (lV _ u 4294967295)) Z (P 1 Z ?_)
    cases E:(decide ((4294967295:UInt64)<u))
    case true=>
     have h:=aJ h E
     try simp only [E]
     refine P 16 Z ?_
     refine I (O ?_)
     exact au _ (by exact ⟨Z,Z,Z,Z,Z,Z,Z,Z,Z,Z,Z,V⟩) (bw true _ _ ⟨Z,a⟩ h)
    case false=>
     have h:=aI h E
     try simp only [E]
     refine P 2 Z ?_
     refine bo (t:=138) Z Z (aq Z Z (gy _ u n.toUInt64)) Z (P 1 Z ?_)
     refine bo (t:=138) Z Z (aq Z Z (c6 _ z 32)) Z (P 5 Z ?_)
     obtain ⟨aC,bx,h⟩:=aj h
     refine bo (t:=138) Z Z (bk u30 aU Z Z (a.ro 1 Z) bx) Z (bo (t:=138) Z Z (bb u38 Z Z (a.ro 1 Z) bx Z) Z (bo (t:=138) Z Z (aM Z (bp u38 u87 aC)) Z (bo (t:=138) Z Z (aq Z Z (eG _ (bm z 32) aC.toUInt64)) Z (bo (t:=138) Z Z (aq Z Z (lV _ (u*n.toUInt64) ((bm z 32) ||| aC.toUInt64))) Z (P 1 Z ?_)))))
     refine I (O ?_)
     exact au _ (by exact ⟨Z,Z,Z,Z,Z,Z,Z,Z,Z,Z,Z,V⟩) (bw (decide (((bm z 32) ||| aC.toUInt64)<(u*n.toUInt64))) _ _ ⟨Z,a⟩ h)
   rintro dk L w hJ h
   try dsimp only at hJ
   obtain ⟨rfl,a⟩:=hJ
   unfold F.B6 at h
   refine aw Z (fun aG=>?_) (fun aG=>?_)
   ·have h:=aJ h aG
    refine az (O (aD ?_))
    refine J (H (P 1 Z ?_))
    refine am (aq Z Z (ek _ u 1)) Z (P 1 Z ?_)
    refine I (O (J (H (P 2 Z ?_))))
    refine am (aq Z Z (cq _ z f.toUInt64)) Z (P 1 Z ?_)
    refine I (O (J (H (P 1 Z ?_))))
    refine am (aq Z Z (lV _ (z+f.toUInt64) 4294967295)) Z (I (O ?_))
    refine aw Z (fun aK=>?_) (fun aK=>?_)
    ·have h:=aJ h aK
     refine bg ?_
     refine m0 Z ?_
     refine aF ?_
     have h:=aW h aB
     refine bd ?_
     refine O ?_
     exact au _ (by exact ⟨Z,Z,Z,Z,Z,Z,Z,Z,Z,V⟩) (bu (u - 1) _ _ ⟨Z,a⟩ h)
    have h:=aI h aK
    refine az (aR ?_)
    exact bv (bz _ (by exact ⟨Z,Z,Z,Z,Z,Z,Z,Z,Z,Z,V⟩) (cu (u - 1,z+f.toUInt64) _ _ ⟨Z,a⟩ (a8 h aB)))
   have h:=aI h aG
   refine bg ?_
   refine aF (aF ?_)
   have h:=aW h aB
   refine bd ?_
   refine O ?_
   exact au _ (by exact ⟨Z,Z,Z,Z,Z,Z,Z,Z,Z,V⟩) (bu u _ _ ⟨Z,a⟩ h)
  rintro x L w hJ h
  try dsimp only at hJ
  obtain ⟨rfl,a⟩:=hJ
  unfold F.CR at h
  refine J (H (P 2 Z ?_))
  refine I (O (J (J (H (P 1 Z ?_)))))
  refine I (O (aD ?_))
  refine au [(10,v64 o),(11,c),(12,d),(13,vI (b.length:Int)),(15,j),(16,v64 f.toUInt64),(17,v64 n.toUInt64),(18,vI m),(20,v64 x),(22,v64 0),(23,v64 0),(24,vI 0)] ⟨Z,Z,Z,Z,Z,Z,Z,Z,Z,Z,Z,Z,V⟩ ?_
  refine bj (F.Dy b m x p) (fun (s:UInt64×UInt64×Int×List UInt32) L w=>L=[(10,v64 o),(11,c),(12,d),(13,vI (b.length:Int)),(15,j),(16,v64 f.toUInt64),(17,v64 n.toUInt64),(18,vI m),(20,v64 x),(22,v64 s.1),(23,v64 s.2.1),(24,vI s.2.2.1)]∧St [] A w [N U c b,N U d s.2.2.2,N U j p]) ?_ (0,0,0,q) ⟨Z,a⟩ h
  rintro db ⟨a3,b3,cY,dl⟩ L w dm hI cv h bA
  try dsimp only at hI
  obtain ⟨rfl,a⟩:=hI
  unfold F.Dy at h
  refine J (J (H (P 3 Z ?_)))
  refine I (O ?_)
  refine aw Z (fun ag=>?_) (fun ag=>?_)
  ·have h:=aJ h ag
   refine az (O (J (aD ?_)))
   refine J (H (P 4 Z ?_))
   obtain ⟨a4,bB,h⟩:=aj h
   refine am (bk u30 aU Z Z (a.ro 0 Z) bB) Z (am (bb u38 Z Z (a.ro 0 Z) bB Z) Z (am (aM Z (bp u38 u87 a4)) Z (am (aq Z Z (gy _ x a4.toUInt64)) Z (am (aq Z Z (cq _ a3 (x*a4.toUInt64))) Z ?_))))
   obtain ⟨C,cw,h⟩:=aO h
   refine am (aA (v:=v64 C) (by rw [←cw]; rfl)) Z ?_
   refine I (O (J (H (P 4 Z ?_))))
   obtain ⟨a5,bC,h⟩:=aj h
   refine am (bk u30 aU Z Z (a.ro 1 Z) bC) Z (am (bb u38 Z Z (a.ro 1 Z) bC Z) Z (am (aM Z (bp u38 u87 a5)) Z (P 1 Z ?_)))
   refine am (aM Z (bO u87 u38 C)) Z (am (aM Z (bp u38 u87 C.toUInt32)) Z (am (aq Z Z (ek _ a5.toUInt64 C.toUInt32.toUInt64)) Z (P 1 Z ?_)))
   refine am (aq Z Z (ek _ (a5.toUInt64 - C.toUInt32.toUInt64) b3)) Z ?_
   obtain ⟨ak,cx,h⟩:=aO h
   refine am (aA (v:=v64 ak) (by rw [←cx]; rfl)) Z ?_
   refine I (O (J (H (P 5 Z ?_))))
   refine am (aM Z (bO u87 u38 ak)) Z ?_
   obtain ⟨dn,bD,h⟩:=aj h
   refine am (bk u30 aU Z Z (a.ro 1 Z) bD) Z (bn (cb (t:=ak.toUInt32) aU Z Z a (i:=1) Z bD Z) ?_)
   intro w a
   obtain ⟨cZ,cy,h⟩:=aO h
   rw [cy]at a
   refine I (O (J (H (P 1 Z ?_))))
   refine am (aq Z Z (cl _ ak 63)) Z (P 1 Z ?_)
   refine I (O (H (P 1 Z ?_)))
   refine am (aq Z Z (cl _ C 32)) Z (P 1 Z ?_)
   refine I (aR ?_)
   refine O (H (P 3 Z ?_))
   refine I ?_
   exact bv (bz _ (by exact ⟨Z,Z,Z,Z,Z,Z,Z,Z,Z,Z,Z,Z,V⟩) (cv (aP C 32,aP ak 63,wI (cY+1),cZ) _ _ ⟨Z,a⟩ (a8 h bA)))
  have h:=aI h ag
  refine bg ?_
  refine aF (aF ?_)
  have h:=aW h bA
  refine bd ?_
  refine O (J (H (P 4 Z ?_)))
  obtain ⟨a6,bE,h⟩:=aj h
  refine am (bk u30 aU Z Z (a.ro 1 Z) bE) Z (am (bb u38 Z Z (a.ro 1 Z) bE Z) Z (am (aM Z (bp u38 u87 a6)) Z (P 1 Z ?_)))
  refine am (aq Z Z (ek _ a6.toUInt64 a3)) Z (P 1 Z ?_)
  refine am (aq Z Z (ek _ (a6.toUInt64 - a3) b3)) Z ?_
  obtain ⟨an,cz,h⟩:=aO h
  refine am (aA (v:=v64 an) (by rw [←cz]; rfl)) Z ?_
  refine I (O (J (H (P 5 Z ?_))))
  refine am (aM Z (bO u87 u38 an)) Z ?_
  obtain ⟨dp,bF,h⟩:=aj h
  refine am (bk u30 aU Z Z (a.ro 1 Z) bF) Z (bn (cb (t:=an.toUInt32) aU Z Z a (i:=1) Z bF Z) ?_)
  intro w a
  obtain ⟨b4,cA,h⟩:=aO h
  rw [cA]at a
  refine I (O ?_)
  refine a9 (r:=b1) (fun (g:UInt64×List UInt32) L w=>L=[(10,v64 o),(11,c),(12,d),(13,vI (b.length:Int)),(15,j),(16,v64 f.toUInt64),(17,v64 n.toUInt64),(18,vI m),(20,v64 g.1)]∧St [] A w [N U c b,N U d g.2,N U j p]) (F.CF m p) ?_ ?_
  rotate_left
  ·intro aT
   refine J (H (P 1 Z ?_))
   refine am (aq Z Z (cl _ an 63)) Z (am (aq Z Z (yM _ (aP an 63) 0)) Z (I (O ?_)))
   refine aw Z (fun ap=>?_) (fun ap=>?_)
   ·have h:=aJ h ap
    refine J (H (P 1 Z ?_))
    refine am (aq Z Z (ek _ x 1)) Z (P 1 Z ?_)
    refine I (O (J (H (P 1 Z ?_))))
    refine I (O (J (J (H (P 1 Z ?_)))))
    refine I (O (aD ?_))
    refine au [(10,v64 o),(11,c),(12,d),(13,vI (b.length:Int)),(15,j),(16,v64 f.toUInt64),(17,v64 n.toUInt64),(18,vI m),(20,v64 (x - 1)),(22,v64 0),(27,vI 0)] ⟨Z,Z,Z,Z,Z,Z,Z,Z,Z,Z,Z,V⟩ ?_
    refine bj (F.Cj b m x p) (fun (s:UInt64×Int×List UInt32) L w=>L=[(10,v64 o),(11,c),(12,d),(13,vI (b.length:Int)),(15,j),(16,v64 f.toUInt64),(17,v64 n.toUInt64),(18,vI m),(20,v64 (x - 1)),(22,v64 s.1),(27,vI s.2.1)]∧St [] A w [N U c b,N U d s.2.2,N U j p]) ?_ (0,0,b4) ⟨Z,a⟩ h
    rintro dq ⟨aL,b5,c0⟩ L w dr hI cB h bG
    try dsimp only at hI
    obtain ⟨rfl,a⟩:=hI
    unfold F.Cj at h
    refine J (J (H (P 3 Z ?_)))
    refine I (O ?_)
    refine aw Z (fun aQ=>?_) (fun aQ=>?_)
    ·have h:=aJ h aQ
     refine az (O (J (aD ?_)))
     refine J ?_
     refine aY (fun w'=>St [] A w' [N U c b,N U d c0,N U j p]) (fun _=>true) bQ (fun _ _ _ y=>y.2) (fun _ _ y=>y) (by kernel_rfl) ?_
     have a:=a.drew
     show lxE _ _ _ _ _ _ _ [0,1,2,3,4,5,6,7,8,9,10,11,12,13,14,15] _ _
     refine al a Z Z (fun w hF=>ar Z) Z (al a Z Z (fun w hF=>ar Z) Z (al a Z Z (fun w hF=>ar Z) Z (al a Z Z (fun w hF=>ar Z) Z (al a Z Z (fun w hF=>aq Z Z (lJ _ b5 m)) Z ?_))))
     obtain ⟨a7,bH,h⟩:=aj h
     refine al a Z Z (fun w hF=>bk u30 aU Z Z (hF.ro 1 Z) bH) Z (al a Z Z (fun w hF=>bb u38 Z Z (hF.ro 1 Z) bH Z) Z (al a Z Z (fun w hF=>aM Z (bp u38 u87 a7)) Z (al a Z Z (fun w hF=>ar Z) Z (al a Z Z (fun w hF=>ar Z) Z ?_))))
     obtain ⟨ba,bI,h⟩:=aj h
     refine al a Z Z (fun w hF=>bk u30 aU Z Z (hF.ro 0 Z) bI) Z (al a Z Z (fun w hF=>bb u38 Z Z (hF.ro 0 Z) bI Z) Z (al a Z Z (fun w hF=>aM Z (bp u38 u87 ba)) Z (al a Z Z (fun w hF=>aq Z Z (cq _ a7.toUInt64 ba.toUInt64)) Z (al a Z Z (fun w hF=>aq Z Z (cq _ aL (a7.toUInt64+ba.toUInt64))) Z ?_))))
     obtain ⟨av,cC,h⟩:=aO h
     refine al a Z Z (fun w hF=>aA (v:=v64 av) (by rw [←cC]; rfl)) Z ?_
     refine bl a ?_
     refine O (J (H (P 5 Z ?_)))
     refine am (aM Z (bO u87 u38 av)) Z ?_
     obtain ⟨ds,bJ,h⟩:=aj h
     refine am (bk u30 aU Z Z (a.ro 1 Z) bJ) Z (bn (cb (t:=av.toUInt32) aU Z Z a (i:=1) Z bJ Z) ?_)
     intro w a
     obtain ⟨c1,cD,h⟩:=aO h
     rw [cD]at a
     refine I (O (H (P 1 Z ?_)))
     refine am (aq Z Z (cl _ av 32)) Z (P 1 Z ?_)
     refine I (aR ?_)
     refine O (H (P 3 Z ?_))
     refine I ?_
     exact bv (bz _ (by exact ⟨Z,Z,Z,Z,Z,Z,Z,Z,Z,Z,Z,V⟩) (cB (aP av 32,wI (b5+1),c1) _ _ ⟨Z,a⟩ (a8 h bG)))
    have h:=aI h aQ
    refine bg ?_
    refine aF (aF ?_)
    have h:=aW h bG
    refine bd ?_
    refine O (H (P 4 Z ?_))
    obtain ⟨b6,bK,h⟩:=aj h
    refine am (bk u30 aU Z Z (a.ro 1 Z) bK) Z (am (bb u38 Z Z (a.ro 1 Z) bK Z) Z (P 1 Z ?_))
    refine am (aM Z (bO u87 u38 aL)) Z (am (aq Z Z (ej _ b6 aL.toUInt32)) Z ?_)
    obtain ⟨dt,bL,h⟩:=aj h
    refine am (bk u30 aU Z Z (a.ro 1 Z) bL) Z (bn (cb (t:=(b6+aL.toUInt32)) aU Z Z a (i:=1) Z bL Z) ?_)
    intro w a
    obtain ⟨c2,cE,h⟩:=aO h
    rw [cE]at a
    refine I (O ?_)
    exact au _ (by exact ⟨Z,Z,Z,Z,Z,Z,Z,Z,Z,V⟩) (aT (x - 1,c2) _ _ ⟨Z,a⟩ h)
   have h:=aI h ap
   refine az (O ?_)
   exact au _ (by exact ⟨Z,Z,Z,Z,Z,Z,Z,Z,Z,V⟩) (aT (x,b4) _ _ ⟨Z,a⟩ h)
  rintro ⟨bM,cF⟩ L w hJ h
  try dsimp only at hJ
  obtain ⟨rfl,a⟩:=hJ
  unfold F.CF at h
  refine H (P 3 Z ?_)
  refine am (aM Z (bO u87 u38 bM)) Z ?_
  obtain ⟨dc,aX,h⟩:=aj h
  refine am (bk u30 aU Z Z (a.ro 2 Z) aX) Z (bn (cb (t:=bM.toUInt32) aU Z Z a (i:=2) Z aX Z) ?_)
  intro w a
  obtain ⟨cG,b7,h⟩:=aO h
  rw [b7]at a
  refine I (aR ?_)
  refine O (H (P 3 Z ?_))
  refine I ?_
  exact bv (bz _ (by exact ⟨Z,Z,Z,Z,Z,Z,Z,Z,V⟩) (cp (wI (m - 1),cF,cG) _ _ ⟨Z,a⟩ (a8 h br)))
 have h:=aI h ad
 refine bg ?_
 refine aF (aF ?_)
 have h:=aW h br
 refine bd ?_
 refine O (J (H (P 1 Z ?_)))
 have hG:=a.pick (os':=[N U j p]++[N U c b,N U d q]) [2,0,1] (by decide) Z
 obtain ⟨cH,b8,h⟩:=aj h
 refine ao Z (cW  b8 hG.g ) Z ?_
 rintro bN w ⟨c5,bP,k⟩
 rw [←bP]at k
 have a:=hG.h k
 refine P 1 Z ?_
 have hG:=a.pick (os':=[N U d q]++[N U bN cH,N U c b]) [2,0,1] (by decide) Z
 obtain ⟨dd,b9,h⟩:=aj h
 refine ao Z (cW  b9 hG.g ) Z ?_
 rintro de w ⟨c7,bR,k⟩
 rw [←bR]at k
 have a:=hG.h k
 refine P 1 Z ?_
 obtain ⟨df,ca,h⟩:=aj h
 refine ao Z (ot o ca (a.ro 0 Z).rp) Z ?_
 rintro cI w k
 have a:=a.f k
 refine P 2 Z ?_
 refine I (O (ax ?_))
 cases h
 exact bU Z Z Z ⟨bN,cI,Z,a.e [2,0] Z Z⟩
theorem gv {n:World} {l x y g:List UInt32} {c t u b:Value} {e z A f:Nat} {S:List Nat} (j m o d:Bool) {r:Bool×List UInt32×Bool×List UInt32}
  (h:F.C5 j l m x o y d g=some r) (a:St S n n [W e [vB j,c],N U c l,W f [vB d,b],N U b g]) (L:RP S n U t x) (hBa1:RB S n z [vB m,t]) (T:RP S n U u y) (hBa2:RB S n A [vB o,u]):Calls Tryz.prog 176 #[M e 0,M z 0,M A 0,M f 0] n (Ret fun v w=>∃B C:Value,v=.tuple #[M e 0,M f 0]∧St S n w [W e [vB r.1,B],N U B r.2.1,W f [vB r.2.2.1,C],N U C r.2.2.2]):=by
 refine aH 46 Tryz.func176 Z Z Z ?_
 refine au [(0,M e 0),(1,M z 0),(2,M A 0),(3,M f 0)] ⟨Z,Z,Z,Z,V⟩ ?_
 unfold F.C5 at h
 refine J (H (P 2 Z ?_))
 refine I (O (J ?_))
 refine aY (fun w'=>St S n w' [W e [vB j,c],N U c l,W f [vB d,b],N U b g]) (fun _=>true) bQ (fun _ _ _ q=>q.2) (fun _ _ q=>q) (by kernel_rfl) ?_
 have a:=a.drew
 show lxE _ _ _ _ _ _ _ [0,1,2,3,4,5,6,7,8,9] _ _
 refine al a Z Z (fun w hF=>ar Z) Z (al a Z Z (fun w hF=>aL Z) Z (al a Z Z (fun w hF=>av (k:=0) u101 Z Z nz4 Z) Z (al a Z Z (fun w hF=>aC Tryz.underlying4 Z Z (hBa1.cell hF.fr 0 Z)) Z (al a Z Z (fun w hF=>ar Z) Z (al a Z Z (fun w hF=>aL Z) Z (al a Z Z (fun w hF=>av (k:=0) u101 Z Z nz4 Z) Z (al a Z Z (fun w hF=>aC Tryz.underlying4 Z Z (hBa2.cell hF.fr 0 Z)) Z (al a Z Z (fun w hF=>aA Z) Z ?_))))))))
 refine al a Z Z (fun w hF=>aA Z) Z (bl a ?_)
 refine O (J ?_)
 refine aY (fun w'=>St S n w' [W e [vB j,c],N U c l,W f [vB d,b],N U b g]) (fun i=>!([8].contains i)) bQ (fun _ _ _ q=>q.2) (fun _ _ q=>q) (by kernel_rfl) ?_
 have a:=a.drew
 show lxE _ _ _ _ _ _ _ [0,1,2,3,4,5,6,7,8,9,10,11,12,13] _ _
 refine al a Z Z (fun w hF=>ar Z) Z (al a Z Z (fun w hF=>aL Z) Z (al a Z Z (fun w hF=>av (k:=1) u101 Z Z cZ Z) Z (al a Z Z (fun w hF=>aC u30 Z Z (hBa1.cell hF.fr 1 Z)) Z (al a Z Z (fun w hF=>ar Z) Z (al a Z Z (fun w hF=>aL Z) Z (al a Z Z (fun w hF=>av (k:=1) u101 Z Z cZ Z) Z (al a Z Z (fun w hF=>aC u30 Z Z (hBa2.cell hF.fr 1 Z)) Z ?_)))))))
 obtain ⟨D,ag,h⟩:=aj h
 refine bf a Z Z (by kernel_rfl) Z (jc  ag (L.d a.fr).rp (T.d a.fr).rp) Z ?_
 rintro _ w ⟨an,ad,rfl,p⟩
 have a:=a.f p
 refine al (a.e [2,3,4,5] Z Z) Z Z (fun w hF=>ar Z) Z (al (a.e [2,3,4,5] Z Z) Z Z (fun w hF=>cn Z Z) Z (al (a.e [2,3,4,5] Z Z) Z Z (fun w hF=>cn Z Z) Z (al (a.e [2,3,4,5] Z Z) Z Z (fun w hF=>aA Z) Z (al (a.e [2,3,4,5] Z Z) Z Z (fun w hF=>aA Z) Z (bl (a.e [2,3,4,5] Z Z) ?_)))))
 refine O (J (H (P 3 Z ?_)))
 refine am (aq Z Z (lH _ m o Tryz.underlying4 Z)) Z (P 1 Z ?_)
 have E:=a.pick (os':=[W e [vB j,c],N U c l,N U an D.1]++[N U ad D.2,W f [vB d,b],N U b g]) [2,3,0,1,4,5] (by decide) Z
 obtain ⟨G,ab,h⟩:=aj h
 refine ao Z (bG j (m != o) ab E.g ) Z ?_
 rintro _ w ⟨s,rfl,p⟩
 have a:=E.h p
 refine I (O (J (H (P 3 Z ?_))))
 have E:=a.pick (os':=[W f [vB d,b],N U b g,N U ad D.2]++[W e [vB G.1,s],N U s G.2]) [3,4,2,0,1] (by decide) Z
 obtain ⟨ap,ac,h⟩:=aj h
 refine ao Z (bG d m ac E.g ) Z ?_
 rintro _ w ⟨ak,rfl,p⟩
 have a:=E.h p
 refine I (O (J (H (P 4 Z ?_))))
 refine I (O (ax ?_))
 cases h
 exact bU Z Z Z ⟨s,ak,Z,a.e [2,3,0,1] Z Z⟩
theorem jj {n:World} {l t g:List UInt32} {c s b:Value} {f u e:Nat} {S:List Nat} (j m d:Bool) {r:Bool×List UInt32×Bool×List UInt32}
  (h:F.FQ j l m t d g=some r) (a:St S n n [W f [vB j,c],N U c l,W e [vB d,b],N U b g]) (C:RP S n U s t) (hBa2:RB S n u [vB m,s]):Calls Tryz.prog 176 #[M f 0,M e 0,M u 0,M e 0] n (Ret fun v w=>∃x y:Value,v=.tuple #[M f 0,M e 0]∧St S n w [W f [vB r.1,x],N U x r.2.1,W e [vB r.2.2.1,y],N U y r.2.2.2]):=by
 refine aH 46 Tryz.func176 Z Z Z ?_
 refine au [(0,M f 0),(1,M e 0),(2,M u 0),(3,M e 0)] ⟨Z,Z,Z,Z,V⟩ ?_
 unfold F.FQ at h
 refine J (H (P 2 Z ?_))
 refine I (O (J ?_))
 refine aY (fun w'=>St S n w' [W f [vB j,c],N U c l,W e [vB d,b],N U b g]) (fun _=>true) bQ (fun _ _ _ p=>p.2) (fun _ _ p=>p) (by kernel_rfl) ?_
 have a:=a.drew
 show lxE _ _ _ _ _ _ _ [0,1,2,3,4,5,6,7,8,9] _ _
 refine al a Z Z (fun w hF=>ar Z) Z (al a Z Z (fun w hF=>aL Z) Z (al a Z Z (fun w hF=>av (k:=0) u101 Z Z nz4 Z) Z (al a Z Z (fun w hF=>aC Tryz.underlying4 Z Z (hF.r 2 Z 0)) Z (al a Z Z (fun w hF=>ar Z) Z (al a Z Z (fun w hF=>aL Z) Z (al a Z Z (fun w hF=>av (k:=0) u101 Z Z nz4 Z) Z (al a Z Z (fun w hF=>aC Tryz.underlying4 Z Z (hBa2.cell hF.fr 0 Z)) Z (al a Z Z (fun w hF=>aA Z) Z ?_))))))))
 refine al a Z Z (fun w hF=>aA Z) Z (bl a ?_)
 refine O (J ?_)
 refine aY (fun w'=>St S n w' [W f [vB j,c],N U c l,W e [vB d,b],N U b g]) (fun i=>!([8].contains i)) bQ (fun _ _ _ p=>p.2) (fun _ _ p=>p) (by kernel_rfl) ?_
 have a:=a.drew
 show lxE _ _ _ _ _ _ _ [0,1,2,3,4,5,6,7,8,9,10,11,12,13] _ _
 refine al a Z Z (fun w hF=>ar Z) Z (al a Z Z (fun w hF=>aL Z) Z (al a Z Z (fun w hF=>av (k:=1) u101 Z Z cZ Z) Z (al a Z Z (fun w hF=>aC u30 Z Z (hF.r 2 Z 1)) Z (al a Z Z (fun w hF=>ar Z) Z (al a Z Z (fun w hF=>aL Z) Z (al a Z Z (fun w hF=>av (k:=1) u101 Z Z cZ Z) Z (al a Z Z (fun w hF=>aC u30 Z Z (hBa2.cell hF.fr 1 Z)) Z ?_)))))))
 obtain ⟨z,L,h⟩:=aj h
 refine bf a Z Z (by kernel_rfl) Z (jc  L (a.ro 3 Z).rp (C.d a.fr).rp) Z ?_
 rintro _ w ⟨ab,G,rfl,o⟩
 have a:=a.f o
 refine al (a.e [2,3,4,5] Z Z) Z Z (fun w hF=>ar Z) Z (al (a.e [2,3,4,5] Z Z) Z Z (fun w hF=>cn Z Z) Z (al (a.e [2,3,4,5] Z Z) Z Z (fun w hF=>cn Z Z) Z (al (a.e [2,3,4,5] Z Z) Z Z (fun w hF=>aA Z) Z (al (a.e [2,3,4,5] Z Z) Z Z (fun w hF=>aA Z) Z (bl (a.e [2,3,4,5] Z Z) ?_)))))
 refine O (J (H (P 3 Z ?_)))
 refine am (aq Z Z (lH _ d m Tryz.underlying4 Z)) Z (P 1 Z ?_)
 have A:=a.pick (os':=[W f [vB j,c],N U c l,N U ab z.1]++[N U G z.2,W e [vB d,b],N U b g]) [2,3,0,1,4,5] (by decide) Z
 obtain ⟨B,D,h⟩:=aj h
 refine ao Z (bG j (d != m) D A.g ) Z ?_
 rintro _ w ⟨q,rfl,o⟩
 have a:=A.h o
 refine I (O (J (H (P 3 Z ?_))))
 have A:=a.pick (os':=[W e [vB d,b],N U b g,N U G z.2]++[W f [vB B.1,q],N U q B.2]) [3,4,2,0,1] (by decide) Z
 obtain ⟨ac,E,h⟩:=aj h
 refine ao Z (bG d d E A.g ) Z ?_
 rintro _ w ⟨T,rfl,o⟩
 have a:=A.h o
 refine I (O (J (H (P 4 Z ?_))))
 refine I (O (ax ?_))
 cases h
 exact bU Z Z Z ⟨q,T,Z,a.e [2,3,0,1] Z Z⟩
theorem jl {n:World} {l t j:List UInt32} {c s b:Value} {e u g:Nat} {S:List Nat} (d m f:Bool) {r:Bool×List UInt32×Bool×List UInt32}
  (h:F.FP d l m t f j=some r) (a:St S n n [W e [vB d,c],N U c l,W g [vB f,b],N U b j]) (C:RP S n U s t) (hBa2:RB S n u [vB m,s]):Calls Tryz.prog 176 #[M e 0,M e 0,M u 0,M g 0] n (Ret fun v w=>∃x y:Value,v=.tuple #[M e 0,M g 0]∧St S n w [W e [vB r.1,x],N U x r.2.1,W g [vB r.2.2.1,y],N U y r.2.2.2]):=by
 refine aH 46 Tryz.func176 Z Z Z ?_
 refine au [(0,M e 0),(1,M e 0),(2,M u 0),(3,M g 0)] ⟨Z,Z,Z,Z,V⟩ ?_
 unfold F.FP at h
 refine J (H (P 2 Z ?_))
 refine I (O (J ?_))
 refine aY (fun w'=>St S n w' [W e [vB d,c],N U c l,W g [vB f,b],N U b j]) (fun _=>true) bQ (fun _ _ _ p=>p.2) (fun _ _ p=>p) (by kernel_rfl) ?_
 have a:=a.drew
 show lxE _ _ _ _ _ _ _ [0,1,2,3,4,5,6,7,8,9] _ _
 refine al a Z Z (fun w hF=>ar Z) Z (al a Z Z (fun w hF=>aL Z) Z (al a Z Z (fun w hF=>av (k:=0) u101 Z Z nz4 Z) Z (al a Z Z (fun w hF=>aC Tryz.underlying4 Z Z (hF.r 0 Z 0)) Z (al a Z Z (fun w hF=>ar Z) Z (al a Z Z (fun w hF=>aL Z) Z (al a Z Z (fun w hF=>av (k:=0) u101 Z Z nz4 Z) Z (al a Z Z (fun w hF=>aC Tryz.underlying4 Z Z (hBa2.cell hF.fr 0 Z)) Z (al a Z Z (fun w hF=>aA Z) Z ?_))))))))
 refine al a Z Z (fun w hF=>aA Z) Z (bl a ?_)
 refine O (J ?_)
 refine aY (fun w'=>St S n w' [W e [vB d,c],N U c l,W g [vB f,b],N U b j]) (fun i=>!([8].contains i)) bQ (fun _ _ _ p=>p.2) (fun _ _ p=>p) (by kernel_rfl) ?_
 have a:=a.drew
 show lxE _ _ _ _ _ _ _ [0,1,2,3,4,5,6,7,8,9,10,11,12,13] _ _
 refine al a Z Z (fun w hF=>ar Z) Z (al a Z Z (fun w hF=>aL Z) Z (al a Z Z (fun w hF=>av (k:=1) u101 Z Z cZ Z) Z (al a Z Z (fun w hF=>aC u30 Z Z (hF.r 0 Z 1)) Z (al a Z Z (fun w hF=>ar Z) Z (al a Z Z (fun w hF=>aL Z) Z (al a Z Z (fun w hF=>av (k:=1) u101 Z Z cZ Z) Z (al a Z Z (fun w hF=>aC u30 Z Z (hBa2.cell hF.fr 1 Z)) Z ?_)))))))
 obtain ⟨z,L,h⟩:=aj h
 refine bf a Z Z (by kernel_rfl) Z (jc  L (a.ro 1 Z).rp (C.d a.fr).rp) Z ?_
 rintro _ w ⟨ab,G,rfl,o⟩
 have a:=a.f o
 refine al (a.e [2,3,4,5] Z Z) Z Z (fun w hF=>ar Z) Z (al (a.e [2,3,4,5] Z Z) Z Z (fun w hF=>cn Z Z) Z (al (a.e [2,3,4,5] Z Z) Z Z (fun w hF=>cn Z Z) Z (al (a.e [2,3,4,5] Z Z) Z Z (fun w hF=>aA Z) Z (al (a.e [2,3,4,5] Z Z) Z Z (fun w hF=>aA Z) Z (bl (a.e [2,3,4,5] Z Z) ?_)))))
 refine O (J (H (P 3 Z ?_)))
 refine am (aq Z Z (lH _ d m Tryz.underlying4 Z)) Z (P 1 Z ?_)
 have A:=a.pick (os':=[W e [vB d,c],N U c l,N U ab z.1]++[N U G z.2,W g [vB f,b],N U b j]) [2,3,0,1,4,5] (by decide) Z
 obtain ⟨B,D,h⟩:=aj h
 refine ao Z (bG d (d != m) D A.g ) Z ?_
 rintro _ w ⟨q,rfl,o⟩
 have a:=A.h o
 refine I (O (J (H (P 3 Z ?_))))
 have A:=a.pick (os':=[W g [vB f,b],N U b j,N U G z.2]++[W e [vB B.1,q],N U q B.2]) [3,4,2,0,1] (by decide) Z
 obtain ⟨ac,E,h⟩:=aj h
 refine ao Z (bG f d E A.g ) Z ?_
 rintro _ w ⟨T,rfl,o⟩
 have a:=A.h o
 refine I (O (J (H (P 4 Z ?_))))
 refine I (O (ax ?_))
 cases h
 exact bU Z Z Z ⟨q,T,Z,a.e [2,3,0,1] Z Z⟩
theorem i4 {m:World} {a0 a1:List UInt32} {b c:Value} {r:List UInt32}
  (h:F.CX a0 a1=some r) (n:RP [] m U b a0) (x:RP [] m U c a1):Calls Tryz.prog 153 #[b,c] m (Ret fun v w=>St [] m w [N U v r]):=by
 refine aH 45 Tryz.func153 Z Z Z ?_
 have a:=St.l m
 refine au [(0,b),(1,c)] ⟨Z,Z,V⟩ ?_
 unfold F.CX at h
 refine J (H (P 1 Z ?_))
 refine I (O (J (H (P 1 Z ?_))))
 refine am (aN u30 Z (n.d a.fr)) Z ?_
 obtain ⟨ak,ac,h⟩:=aj h
 refine aV (c8 (e:=U) u30 aU Z Z Z a ac) Z ?_
 rintro d w a
 refine P 1 Z ?_
 refine I (O (J (H (P 1 Z ?_))))
 refine I (O (J (J (H (P 1 Z ?_)))))
 refine I (O (aD ?_))
 refine au [(0,b),(1,c),(5,d),(6,v64 0),(7,vI 0)] ⟨Z,Z,Z,Z,Z,V⟩ ?_
 refine bj (F.DS a0 a1) (fun (s:UInt64×Int×List UInt32) L w=>L=[(0,b),(1,c),(5,d),(6,v64 s.1),(7,vI s.2.1)]∧St [] m w [N U d s.2.2]) ?_ (0,0,ak) ⟨Z,a⟩ h
 rintro ar ⟨y,z,A⟩ L w al hI ad h B
 try dsimp only at hI
 obtain ⟨rfl,a⟩:=hI
 unfold F.DS at h
 refine J (J (H (P 2 Z ?_)))
 refine am (aN u30 Z (n.d a.fr)) Z (P 1 Z ?_)
 refine I (O ?_)
 refine aw Z (fun f=>?_) (fun f=>?_)
 ·have h:=aJ h f
  refine az (O (J (aD ?_)))
  refine J (H (P 2 Z ?_))
  obtain ⟨j,o,h⟩:=aj h
  refine am (bk u30 aU Z Z (n.d a.fr) o) Z (am (bb u38 Z Z (n.d a.fr) o Z) Z (am (aM Z (bp u38 u87 j)) Z (P 1 Z ?_)))
  refine am (aq Z Z (ek _ j.toUInt64 y)) Z (P 1 Z ?_)
  refine I (O ?_)
  refine a9 (r:=al) (fun (g:UInt64) L w=>L=[(0,b),(1,c),(5,d),(7,vI z),(8,v64 g)]∧St [] m w [N U d A]) (F.Ee z A) ?_ ?_
  rotate_left
  ·intro p
   refine J (H (P 2 Z ?_))
   refine am (aN u30 Z (x.d a.fr)) Z (P 1 Z ?_)
   refine I (O ?_)
   refine aw Z (fun k=>?_) (fun k=>?_)
   ·have h:=aJ h k
    refine H (P 3 Z ?_)
    obtain ⟨C,q,h⟩:=aj h
    refine am (bk u30 aU Z Z (x.d a.fr) q) Z (am (bb u38 Z Z (x.d a.fr) q Z) Z (am (aM Z (bp u38 u87 C)) Z (am (aq Z Z (ek _ (j.toUInt64 - y) C.toUInt64)) Z ?_)))
    obtain ⟨D,G,h⟩:=aO h
    refine am (aA (v:=v64 D) (by rw [←G]; rfl)) Z ?_
    refine I (O ?_)
    exact au _ (by exact ⟨Z,Z,Z,Z,Z,V⟩) (p D _ _ ⟨Z,a⟩ h)
   have h:=aI h k
   refine az (O ?_)
   exact au _ (by exact ⟨Z,Z,Z,Z,Z,V⟩) (p (j.toUInt64 - y) _ _ ⟨Z,a⟩ h)
  rintro l L w hJ h
  try dsimp only at hJ
  obtain ⟨rfl,a⟩:=hJ
  unfold F.Ee at h
  refine J (H (P 3 Z ?_))
  refine am (aM Z (bO u87 u38 l)) Z ?_
  obtain ⟨av,u,h⟩:=aj h
  refine am (bk u30 aU Z Z (a.ro 0 Z) u) Z (bn (cb (t:=l.toUInt32) aU Z Z a (i:=0) Z u Z) ?_)
  intro w a
  obtain ⟨ag,S,h⟩:=aO h
  rw [S]at a
  refine I (O (H (P 1 Z ?_)))
  refine am (aq Z Z (cl _ l 63)) Z (P 1 Z ?_)
  refine I (aR ?_)
  refine O (H (P 3 Z ?_))
  refine I ?_
  exact bv (bz _ (by exact ⟨Z,Z,Z,Z,Z,V⟩) (ad (aP l 63,wI (z+1),ag) _ _ ⟨Z,a⟩ (a8 h B)))
 have h:=aI h f
 refine bg ?_
 refine aF (aF ?_)
 have h:=aW h B
 refine bd ?_
 refine O (J (H (P 1 Z ?_)))
 have hG:=a.pick (os':=[N U d A]++[]) [0] (by decide) Z
 obtain ⟨ay,T,h⟩:=aj h
 refine ao Z (cW  T hG.g ) Z ?_
 rintro aB w ⟨ap,E,ab⟩
 rw [←E]at ab
 have a:=hG.h ab
 refine P 1 Z ?_
 refine I (O (ax ?_))
 cases h
 exact aG Z Z (a.e [0] Z Z)
theorem fh {g:World} {a1 a3:List UInt32} {i j:Value} (a0 a2:Bool) {r:Bool×List UInt32}
  (h:F.BU a0 a1 a2 a3=some r) (e:RP [] g U i a1) (f:RP [] g U j a3):Calls Tryz.prog 178 #[vB a0,i,vB a2,j] g (Ret fun v w=>∃u1:Value,v=.tuple #[vB r.1,u1]∧St [] g w [N U u1 r.2]):=by
 refine aH 29 Tryz.func178 Z Z Z ?_
 have a:=St.l g
 refine au [(0,vB a0),(1,i),(2,vB a2),(3,j)] ⟨Z,Z,Z,Z,V⟩ ?_
 unfold F.BU at h
 refine J (H (P 2 Z ?_))
 refine I (O (J (J (H (P 2 Z ?_)))))
 refine am (aq Z Z (zY _ a0 a2 Tryz.underlying4 Z)) Z (I (O ?_))
 refine aw Z (fun c=>?_) (fun c=>?_)
 ·have h:=aJ h c
  refine J (H (P 3 Z ?_))
  obtain ⟨s,k,h⟩:=aj h
  refine ao Z (je  k (e.d a.fr).rp (f.d a.fr).rp) Z ?_
  rintro o w b
  have a:=a.f b
  refine P 2 Z ?_
  refine I (O (ax (aE ?_)))
  cases h
  exact bU Z Z Z ⟨o,Z,a.e [0] Z Z⟩
 have h:=aI h c
 refine az (O (J (J (H (P 2 Z ?_)))))
 obtain ⟨t,l,h⟩:=aj h
 refine ao Z (i9  l (e.d a.fr).rp (f.d a.fr).rp) Z ?_
 rintro _ w ⟨rfl,b⟩
 have a:=a.f b
 refine P 1 Z ?_
 refine I (O ?_)
 refine aw Z (fun d=>?_) (fun d=>?_)
 ·have h:=aJ h d
  refine J (H (P 3 Z ?_))
  obtain ⟨u,m,h⟩:=aj h
  refine ao Z (i4  m (e.d a.fr).rp (f.d a.fr).rp) Z ?_
  rintro p w b
  have a:=a.f b
  refine P 2 Z ?_
  refine I (O (ax (aE ?_)))
  cases h
  exact bU Z Z Z ⟨p,Z,a.e [0] Z Z⟩
 have h:=aI h d
 refine az (O (J (H (P 3 Z ?_))))
 obtain ⟨x,n,h⟩:=aj h
 refine ao Z (i4  n (f.d a.fr).rp (e.d a.fr).rp) Z ?_
 rintro q w b
 have a:=a.f b
 refine P 2 Z ?_
 refine I (O (ax ?_))
 cases h
 exact bU Z Z Z ⟨q,Z,a.e [0] Z Z⟩
theorem ng {d:World} {f n o:List UInt32} {b l m:Value} {c p q:Nat} {S:List Nat} (e g j:Bool) {r:Bool×List UInt32}
  (h:F.DD e f g n j o=some r) (a:St S d d [W c [vB e,b],N U b f]) (u:RP S d U l n) (hBa1:RB S d p [vB g,l]) (x:RP S d U m o) (hBa2:RB S d q [vB j,m]):Calls Tryz.prog 140 #[M c 0,M p 0,M q 0] d (Ret fun v w=>∃s:Value,v=M c 0∧St S d w [W c [vB r.1,s],N U s r.2]):=by
 refine aH 28 Tryz.func140 Z Z Z ?_
 refine au [(0,M c 0),(1,M p 0),(2,M q 0)] ⟨Z,Z,Z,V⟩ ?_
 unfold F.DD at h
 refine J (H (P 1 Z ?_))
 refine I (O (J ?_))
 have hsh1:=(a.ro 1 Z).shp
 refine aY (fun w'=>St S d w' []) (fun i=>!([17,20].contains i)) bQ (fun _ _ _ z=>z.2) (fun _ _ z=>z) (by kernel_rfl) ?_
 have a:=a.drew
 show lxE _ _ _ _ _ _ _ [0,1,2,3,4,5,6,7,8,9,10,11,12,13,14,15,16,17,18,19,20,21] _ _
 refine al (a.e [] Z Z) Z Z (fun w hF=>ar Z) Z (al (a.e [] Z Z) Z Z (fun w hF=>ar Z) Z (al (a.e [] Z Z) Z Z (fun w hF=>aL Z) Z (al (a.e [] Z Z) Z Z (fun w hF=>av (k:=0) u101 Z Z nz4 Z) Z (al (a.e [] Z Z) Z Z (fun w hF=>aC Tryz.underlying4 Z Z (hBa1.cell hF.fr 0 Z)) Z (al (a.e [] Z Z) Z Z (fun w hF=>ar Z) Z (al (a.e [] Z Z) Z Z (fun w hF=>aL Z) Z (al (a.e [] Z Z) Z Z (fun w hF=>av (k:=1) u101 Z Z cZ Z) Z (al (a.e [] Z Z) Z Z (fun w hF=>aC u30 Z Z (hBa1.cell hF.fr 1 Z)) Z ?_))))))))
 refine al (a.e [] Z Z) Z Z (fun w hF=>ar Z) Z (al (a.e [] Z Z) Z Z (fun w hF=>aL Z) Z (al (a.e [] Z Z) Z Z (fun w hF=>av (k:=0) u101 Z Z nz4 Z) Z (al (a.e [] Z Z) Z Z (fun w hF=>aC Tryz.underlying4 Z Z (hBa2.cell hF.fr 0 Z)) Z (al (a.e [] Z Z) Z Z (fun w hF=>ar Z) Z (al (a.e [] Z Z) Z Z (fun w hF=>aL Z) Z (al (a.e [] Z Z) Z Z (fun w hF=>av (k:=1) u101 Z Z cZ Z) Z (al (a.e [] Z Z) Z Z (fun w hF=>aC u30 Z Z (hBa2.cell hF.fr 1 Z)) Z ?_)))))))
 obtain ⟨y,A,h⟩:=aj h
 refine bf (a.e [] Z Z) Z Z (by kernel_rfl) Z (fh g j A (u.d a.fr).rp (x.d a.fr).rp) Z ?_
 rintro _ w ⟨C,rfl,t⟩
 have a:=a.f t
 refine al (a.e [] Z Z) Z Z (fun w hF=>cn Z Z) Z (al (a.e [] Z Z) Z Z (fun w hF=>cn Z Z) Z ?_)
 have D:=a.pick (os':=[W c [vB e,b],N U b f,N U C y.2]++[]) [1,2,0] (by decide) Z
 obtain ⟨G,B,h⟩:=aj h
 refine bf (a.e [] Z Z) Z Z (by kernel_rfl) Z (bG e y.1 B D.g ) Z ?_
 rintro _ w ⟨E,rfl,t⟩
 have a:=D.h t
 refine al (a.e [] Z Z) Z Z (fun w hF=>aA Z) Z (bl (a.e [] Z Z) ?_)
 refine O (ax ?_)
 cases h
 exact aG Z Z ⟨E,Z,a.e [0,1] Z Z⟩
theorem dp {e:World} {f l:List UInt32} {c j:Value} {b m:Nat} {S:List Nat} (d g:Bool) {r:Bool×List UInt32}
  (h:F.B9 d f g l=some r) (a:St S e e [W b [vB d,c],N U c f]) (p:RP S e U j l) (hBa2:RB S e m [vB g,j]):Calls Tryz.prog 140 #[M b 0,M b 0,M m 0] e (Ret fun v w=>∃n:Value,v=M b 0∧St S e w [W b [vB r.1,n],N U n r.2]):=by
 refine aH 28 Tryz.func140 Z Z Z ?_
 refine au [(0,M b 0),(1,M b 0),(2,M m 0)] ⟨Z,Z,Z,V⟩ ?_
 unfold F.B9 at h
 refine J (H (P 1 Z ?_))
 refine I (O (J ?_))
 have hsh1:=(a.ro 1 Z).shp
 refine aY (fun w'=>St S e w' []) (fun i=>!([1004,1008,17,20].contains i)) bQ (fun _ _ _ s=>s.2) (fun _ _ s=>s) (by kernel_rfl) ?_
 have a:=a.drew
 show lxE _ _ _ _ _ _ _ [0,1,2,3,4,5,6,7,8,9,10,11,12,13,14,15,16,17,18,19,20,21] _ _
 refine al (a.e [] Z Z) Z Z (fun w hF=>ar Z) Z (al (a.e [] Z Z) Z Z (fun w hF=>ar Z) Z (al (a.e [] Z Z) Z Z (fun w hF=>aL Z) Z (al (a.e [] Z Z) Z Z (fun w hF=>av (k:=0) u101 Z Z nz4 Z) Z (mb (a.e [] Z Z) Z Z Z (aC Tryz.underlying4 Z Z (a.r 0 Z 0)) Z ?_))))
 refine al (a.e [] Z Z) Z Z (fun w hF=>ar Z) Z (al (a.e [] Z Z) Z Z (fun w hF=>aL Z) Z (al (a.e [] Z Z) Z Z (fun w hF=>av (k:=1) u101 Z Z cZ Z) Z (mb (a.e [] Z Z) Z Z Z (aC u30 Z Z (a.r 0 Z 1)) Z ?_)))
 refine al (a.e [] Z Z) Z Z (fun w hF=>ar Z) Z (al (a.e [] Z Z) Z Z (fun w hF=>aL Z) Z (al (a.e [] Z Z) Z Z (fun w hF=>av (k:=0) u101 Z Z nz4 Z) Z (al (a.e [] Z Z) Z Z (fun w hF=>aC Tryz.underlying4 Z Z (hBa2.cell hF.fr 0 Z)) Z (al (a.e [] Z Z) Z Z (fun w hF=>ar Z) Z (al (a.e [] Z Z) Z Z (fun w hF=>aL Z) Z (al (a.e [] Z Z) Z Z (fun w hF=>av (k:=1) u101 Z Z cZ Z) Z (al (a.e [] Z Z) Z Z (fun w hF=>aC u30 Z Z (hBa2.cell hF.fr 1 Z)) Z ?_)))))))
 obtain ⟨q,t,h⟩:=aj h
 refine bf (a.e [] Z Z) Z Z (by kernel_rfl) Z (fh d g t (a.ro 1 Z).rp (p.d a.fr).rp) Z ?_
 rintro _ w ⟨x,rfl,o⟩
 have a:=a.f o
 refine al (a.e [] Z Z) Z Z (fun w hF=>cn Z Z) Z (al (a.e [] Z Z) Z Z (fun w hF=>cn Z Z) Z ?_)
 have y:=a.pick (os':=[W b [vB d,c],N U c f,N U x q.2]++[]) [1,2,0] (by decide) Z
 obtain ⟨A,u,h⟩:=aj h
 refine bf (a.e [] Z Z) Z Z (by kernel_rfl) Z (bG d q.1 u y.g ) Z ?_
 rintro _ w ⟨z,rfl,o⟩
 have a:=y.h o
 refine al (a.e [] Z Z) Z Z (fun w hF=>aA Z) Z (bl (a.e [] Z Z) ?_)
 refine O (ax ?_)
 cases h
 exact aG Z Z ⟨z,Z,a.e [0,1] Z Z⟩
theorem ji {d:World} {g n o:List UInt32} {b l m:Value} {c p q:Nat} {S:List Nat} (e j f:Bool) {r:Bool×List UInt32}
  (h:F.Eu e g j n f o=some r) (a:St S d d [W c [vB e,b],N U b g]) (u:RP S d U l n) (hBa1:RB S d p [vB j,l]) (x:RP S d U m o) (hBa2:RB S d q [vB f,m]):Calls Tryz.prog 177 #[M c 0,M p 0,M q 0] d (Ret fun v w=>∃s:Value,v=M c 0∧St S d w [W c [vB r.1,s],N U s r.2]):=by
 refine aH 29 Tryz.func177 Z Z Z ?_
 refine au [(0,M c 0),(1,M p 0),(2,M q 0)] ⟨Z,Z,Z,V⟩ ?_
 unfold F.Eu at h
 refine J (H (P 1 Z ?_))
 refine I (O (J ?_))
 have hsh1:=(a.ro 1 Z).shp
 refine aY (fun w'=>St S d w' []) (fun i=>!([18,21].contains i)) bQ (fun _ _ _ z=>z.2) (fun _ _ z=>z) (by kernel_rfl) ?_
 have a:=a.drew
 show lxE _ _ _ _ _ _ _ [0,1,2,3,4,5,6,7,8,9,10,11,12,13,14,15,16,17,18,19,20,21,22] _ _
 refine al (a.e [] Z Z) Z Z (fun w hF=>ar Z) Z (al (a.e [] Z Z) Z Z (fun w hF=>ar Z) Z (al (a.e [] Z Z) Z Z (fun w hF=>aL Z) Z (al (a.e [] Z Z) Z Z (fun w hF=>av (k:=0) u101 Z Z nz4 Z) Z (al (a.e [] Z Z) Z Z (fun w hF=>aC Tryz.underlying4 Z Z (hBa1.cell hF.fr 0 Z)) Z (al (a.e [] Z Z) Z Z (fun w hF=>ar Z) Z (al (a.e [] Z Z) Z Z (fun w hF=>aL Z) Z (al (a.e [] Z Z) Z Z (fun w hF=>av (k:=1) u101 Z Z cZ Z) Z (al (a.e [] Z Z) Z Z (fun w hF=>aC u30 Z Z (hBa1.cell hF.fr 1 Z)) Z ?_))))))))
 refine al (a.e [] Z Z) Z Z (fun w hF=>ar Z) Z (al (a.e [] Z Z) Z Z (fun w hF=>aL Z) Z (al (a.e [] Z Z) Z Z (fun w hF=>av (k:=0) u101 Z Z nz4 Z) Z (al (a.e [] Z Z) Z Z (fun w hF=>aC Tryz.underlying4 Z Z (hBa2.cell hF.fr 0 Z)) Z (al (a.e [] Z Z) Z Z (fun w hF=>gY Z (pW f)) Z (al (a.e [] Z Z) Z Z (fun w hF=>ar Z) Z (al (a.e [] Z Z) Z Z (fun w hF=>aL Z) Z (al (a.e [] Z Z) Z Z (fun w hF=>av (k:=1) u101 Z Z cZ Z) Z (al (a.e [] Z Z) Z Z (fun w hF=>aC u30 Z Z (hBa2.cell hF.fr 1 Z)) Z ?_))))))))
 obtain ⟨y,A,h⟩:=aj h
 refine bf (a.e [] Z Z) Z Z (by kernel_rfl) Z (fh j (!f) A (u.d a.fr).rp (x.d a.fr).rp) Z ?_
 rintro _ w ⟨C,rfl,t⟩
 have a:=a.f t
 refine al (a.e [] Z Z) Z Z (fun w hF=>cn Z Z) Z (al (a.e [] Z Z) Z Z (fun w hF=>cn Z Z) Z ?_)
 have D:=a.pick (os':=[W c [vB e,b],N U b g,N U C y.2]++[]) [1,2,0] (by decide) Z
 obtain ⟨G,B,h⟩:=aj h
 refine bf (a.e [] Z Z) Z Z (by kernel_rfl) Z (bG e y.1 B D.g ) Z ?_
 rintro _ w ⟨E,rfl,t⟩
 have a:=D.h t
 refine al (a.e [] Z Z) Z Z (fun w hF=>aA Z) Z (bl (a.e [] Z Z) ?_)
 refine O (ax ?_)
 cases h
 exact aG Z Z ⟨E,Z,a.e [0,1] Z Z⟩
theorem dJ {f:World} {g l:List UInt32} {c j:Value} {b m:Nat} {S:List Nat} (d e:Bool) {r:Bool×List UInt32}
  (h:F.Ct d g e l=some r) (a:St S f f [W b [vB d,c],N U c g]) (p:RP S f U j l) (hBa2:RB S f m [vB e,j]):Calls Tryz.prog 177 #[M b 0,M b 0,M m 0] f (Ret fun v w=>∃n:Value,v=M b 0∧St S f w [W b [vB r.1,n],N U n r.2]):=by
 refine aH 29 Tryz.func177 Z Z Z ?_
 refine au [(0,M b 0),(1,M b 0),(2,M m 0)] ⟨Z,Z,Z,V⟩ ?_
 unfold F.Ct at h
 refine J (H (P 1 Z ?_))
 refine I (O (J ?_))
 have hsh1:=(a.ro 1 Z).shp
 refine aY (fun w'=>St S f w' []) (fun i=>!([1004,1008,18,21].contains i)) bQ (fun _ _ _ s=>s.2) (fun _ _ s=>s) (by kernel_rfl) ?_
 have a:=a.drew
 show lxE _ _ _ _ _ _ _ [0,1,2,3,4,5,6,7,8,9,10,11,12,13,14,15,16,17,18,19,20,21,22] _ _
 refine al (a.e [] Z Z) Z Z (fun w hF=>ar Z) Z (al (a.e [] Z Z) Z Z (fun w hF=>ar Z) Z (al (a.e [] Z Z) Z Z (fun w hF=>aL Z) Z (al (a.e [] Z Z) Z Z (fun w hF=>av (k:=0) u101 Z Z nz4 Z) Z (mb (a.e [] Z Z) Z Z Z (aC Tryz.underlying4 Z Z (a.r 0 Z 0)) Z ?_))))
 refine al (a.e [] Z Z) Z Z (fun w hF=>ar Z) Z (al (a.e [] Z Z) Z Z (fun w hF=>aL Z) Z (al (a.e [] Z Z) Z Z (fun w hF=>av (k:=1) u101 Z Z cZ Z) Z (mb (a.e [] Z Z) Z Z Z (aC u30 Z Z (a.r 0 Z 1)) Z ?_)))
 refine al (a.e [] Z Z) Z Z (fun w hF=>ar Z) Z (al (a.e [] Z Z) Z Z (fun w hF=>aL Z) Z (al (a.e [] Z Z) Z Z (fun w hF=>av (k:=0) u101 Z Z nz4 Z) Z (al (a.e [] Z Z) Z Z (fun w hF=>aC Tryz.underlying4 Z Z (hBa2.cell hF.fr 0 Z)) Z (al (a.e [] Z Z) Z Z (fun w hF=>gY Z (pW e)) Z (al (a.e [] Z Z) Z Z (fun w hF=>ar Z) Z (al (a.e [] Z Z) Z Z (fun w hF=>aL Z) Z (al (a.e [] Z Z) Z Z (fun w hF=>av (k:=1) u101 Z Z cZ Z) Z (al (a.e [] Z Z) Z Z (fun w hF=>aC u30 Z Z (hBa2.cell hF.fr 1 Z)) Z ?_))))))))
 obtain ⟨q,t,h⟩:=aj h
 refine bf (a.e [] Z Z) Z Z (by kernel_rfl) Z (fh d (!e) t (a.ro 1 Z).rp (p.d a.fr).rp) Z ?_
 rintro _ w ⟨x,rfl,o⟩
 have a:=a.f o
 refine al (a.e [] Z Z) Z Z (fun w hF=>cn Z Z) Z (al (a.e [] Z Z) Z Z (fun w hF=>cn Z Z) Z ?_)
 have y:=a.pick (os':=[W b [vB d,c],N U c g,N U x q.2]++[]) [1,2,0] (by decide) Z
 obtain ⟨A,u,h⟩:=aj h
 refine bf (a.e [] Z Z) Z Z (by kernel_rfl) Z (bG d q.1 u y.g ) Z ?_
 rintro _ w ⟨z,rfl,o⟩
 have a:=y.h o
 refine al (a.e [] Z Z) Z Z (fun w hF=>aA Z) Z (bl (a.e [] Z Z) ?_)
 refine O (ax ?_)
 cases h
 exact aG Z Z ⟨z,Z,a.e [0,1] Z Z⟩
theorem kx {e:World} {f l:List UInt32} {d j:Value} {c m:Nat} {S:List Nat} (b g:Bool) {r:Bool×List UInt32}
  (h:F.EP b f g l=some r) (a:St S e e [W c [vB b,d],N U d f]) (p:RP S e U j l) (hBa1:RB S e m [vB g,j]):Calls Tryz.prog 177 #[M c 0,M m 0,M c 0] e (Ret fun v w=>∃n:Value,v=M c 0∧St S e w [W c [vB r.1,n],N U n r.2]):=by
 refine aH 29 Tryz.func177 Z Z Z ?_
 refine au [(0,M c 0),(1,M m 0),(2,M c 0)] ⟨Z,Z,Z,V⟩ ?_
 unfold F.EP at h
 refine J (H (P 1 Z ?_))
 refine I (O (J ?_))
 have hsh1:=(a.ro 1 Z).shp
 refine aY (fun w'=>St S e w' []) (fun i=>!([1012,1017,18,21].contains i)) bQ (fun _ _ _ s=>s.2) (fun _ _ s=>s) (by kernel_rfl) ?_
 have a:=a.drew
 show lxE _ _ _ _ _ _ _ [0,1,2,3,4,5,6,7,8,9,10,11,12,13,14,15,16,17,18,19,20,21,22] _ _
 refine al (a.e [] Z Z) Z Z (fun w hF=>ar Z) Z (al (a.e [] Z Z) Z Z (fun w hF=>ar Z) Z (al (a.e [] Z Z) Z Z (fun w hF=>aL Z) Z (al (a.e [] Z Z) Z Z (fun w hF=>av (k:=0) u101 Z Z nz4 Z) Z (al (a.e [] Z Z) Z Z (fun w hF=>aC Tryz.underlying4 Z Z (hBa1.cell hF.fr 0 Z)) Z (al (a.e [] Z Z) Z Z (fun w hF=>ar Z) Z (al (a.e [] Z Z) Z Z (fun w hF=>aL Z) Z (al (a.e [] Z Z) Z Z (fun w hF=>av (k:=1) u101 Z Z cZ Z) Z (al (a.e [] Z Z) Z Z (fun w hF=>aC u30 Z Z (hBa1.cell hF.fr 1 Z)) Z ?_))))))))
 refine al (a.e [] Z Z) Z Z (fun w hF=>ar Z) Z (al (a.e [] Z Z) Z Z (fun w hF=>aL Z) Z (al (a.e [] Z Z) Z Z (fun w hF=>av (k:=0) u101 Z Z nz4 Z) Z (mb (a.e [] Z Z) Z Z Z (aC Tryz.underlying4 Z Z (a.r 0 Z 0)) Z ?_)))
 refine al (a.e [] Z Z) Z Z (fun w hF=>gY Z (pW b)) Z (al (a.e [] Z Z) Z Z (fun w hF=>ar Z) Z (al (a.e [] Z Z) Z Z (fun w hF=>aL Z) Z (al (a.e [] Z Z) Z Z (fun w hF=>av (k:=1) u101 Z Z cZ Z) Z (mb (a.e [] Z Z) Z Z Z (aC u30 Z Z (a.r 0 Z 1)) Z ?_))))
 obtain ⟨q,t,h⟩:=aj h
 refine bf (a.e [] Z Z) Z Z (by kernel_rfl) Z (fh g (!b) t (p.d a.fr).rp (a.ro 1 Z).rp) Z ?_
 rintro _ w ⟨x,rfl,o⟩
 have a:=a.f o
 refine al (a.e [] Z Z) Z Z (fun w hF=>cn Z Z) Z (al (a.e [] Z Z) Z Z (fun w hF=>cn Z Z) Z ?_)
 have y:=a.pick (os':=[W c [vB b,d],N U d f,N U x q.2]++[]) [1,2,0] (by decide) Z
 obtain ⟨A,u,h⟩:=aj h
 refine bf (a.e [] Z Z) Z Z (by kernel_rfl) Z (bG b q.1 u y.g ) Z ?_
 rintro _ w ⟨z,rfl,o⟩
 have a:=y.h o
 refine al (a.e [] Z Z) Z Z (fun w hF=>aA Z) Z (bl (a.e [] Z Z) ?_)
 refine O (ax ?_)
 cases h
 exact aG Z Z ⟨z,Z,a.e [0,1] Z Z⟩
theorem kM {x:World} {y ar ay z:List UInt32} {l an ap m:Value} {e aA aB f:Nat} {S:List Nat} (o ag A p:Bool) {r:Bool×List UInt32×Bool×List UInt32}
  (h:F.Ey o y ag ar A ay p z=some r) (c:St S x x [W e [vB o,l],N U l y,W f [vB p,m],N U m z]) (aN:RP S x U an ar) (hBa1:RB S x aA [vB ag,an]) (aq:RP S x U ap ay) (hBa2:RB S x aB [vB A,ap]):Calls Tryz.prog 136 #[M e 0,M aA 0,M aB 0,M f 0] x (Ret fun v w=>∃aD aE:Value,v=.tuple #[M e 0,M f 0]∧St S x w [W e [vB r.1,aD],N U aD r.2.1,W f [vB r.2.2.1,aE],N U aE r.2.2.2]):=by
 refine aH 45 Tryz.func136 Z Z Z ?_
 refine au [(0,M e 0),(1,M aA 0),(2,M aB 0),(3,M f 0)] ⟨Z,Z,Z,Z,V⟩ ?_
 unfold F.Ey at h
 refine J (H (P 2 Z ?_))
 refine I (O (J (H (aV (ba (cs:=[vB false,.slice none 0 0]) cT Z c) Z ?_))))
 rintro _ w ⟨u,rfl,c⟩
 refine P 1 Z ?_
 replace c:=c.nil U
 have b:=c.pick (os':=[W u [vB false,.slice none 0 0],N U (.slice none 0 0) []]++[W e [vB o,l],N U l y,W f [vB p,m],N U m z]) [1,0,2,3,4,5] (by decide) Z
 obtain ⟨j,aW,h⟩:=aj h
 refine ao Z (eW false A aW b.g (aq.g (R Z) b) (hBa2.g b)) Z ?_
 rintro _ w ⟨n,rfl,d⟩
 have c:=b.h d
 refine P 1 Z ?_
 refine I (O (J (H (P 4 Z ?_))))
 have b:=c.pick (os':=[W e [vB o,l],N U l y,W f [vB p,m],N U m z]++[W u [vB j.1,n],N U n j.2]) [2,3,4,5,0,1] (by decide) Z
 obtain ⟨a,aO,h⟩:=aj h
 refine ao Z (gv o ag A p aO b.g (aN.g (R Z) b) (hBa1.g b) (aq.g (R Z) b) (hBa2.g b)) Z ?_
 rintro _ w ⟨q,i,rfl,d⟩
 have c:=b.h d
 refine I (O ?_)
 refine a9 (r:=r) (fun (g:Bool×List UInt32×Bool×List UInt32) L w=>∃(B:Value) (C:Value),L=[(0,M e 0),(3,M f 0)]∧St S x w [N U B g.2.1,W e [vB g.1,B],N U C g.2.2.2,W f [vB g.2.2.1,C]]) (F.E6) ?_ ?_
 rotate_left
 ·intro D
  refine J (H (P 1 Z ?_))
  refine am (aL Z) Z (am (av (k:=0) u101 Z Z nz4 Z) Z (am (aC Tryz.underlying4 Z Z (c.r 2 Z 0)) Z (I (O ?_))))
  refine aw Z (fun E=>?_) (fun E=>?_)
  ·have h:=aJ h E
   refine J (H (P 1 Z ?_))
   refine am (aL Z) Z (am (av (k:=0) u101 Z Z nz4 Z) Z (am (aC Tryz.underlying4 Z Z (c.r 4 Z 0)) Z (I (O ?_))))
   refine aw Z (fun G=>?_) (fun G=>?_)
   ·have h:=aJ h G
    refine J (H (P 2 Z ?_))
    obtain ⟨s,aP,h⟩:=aj h
    refine ao Z (cC 1 aP ) Z ?_
    rintro _ w ⟨T,aF,rfl,d⟩
    have c:=c.f d
    have b:=c.pick (os':=[W e [vB a.1,q],N U q a.2.1]++[W aF [vB s.1,T],N U T s.2,W f [vB a.2.2.1,i],N U i a.2.2.2,W u [vB j.1,n],N U n j.2]) [2,3,0,1,4,5,6,7] (by decide) Z
    obtain ⟨ab,aQ,h⟩:=aj h
    refine ao Z (dp a.1 s.1 aQ b.g (b.giveO 1 Z) (b.giveB 0 Z)) Z ?_
    rintro _ w ⟨ak,rfl,d⟩
    have c:=b.h d
    refine I (O (H (P 3 Z ?_)))
    have b:=c.pick (os':=[W f [vB a.2.2.1,i],N U i a.2.2.2]++[W e [vB ab.1,ak],N U ak ab.2,W aF [vB s.1,T],N U T s.2,W u [vB j.1,n],N U n j.2]) [4,5,0,1,2,3,6,7] (by decide) Z
    obtain ⟨aG,aR,h⟩:=aj h
    refine ao Z (dJ a.2.2.1 j.1 aR b.g (b.giveO 5 Z) (b.giveB 4 Z)) Z ?_
    rintro _ w ⟨aX,rfl,d⟩
    have c:=b.h d
    refine I (O ?_)
    exact au _ (by exact ⟨Z,Z,V⟩) (D (ab.1,ab.2,aG.1,aG.2) _ _ ⟨ak,aX,Z,(c.e [3,2,1,0] Z Z)⟩ h)
   have h:=aI h G
   refine J (H (P 2 Z ?_))
   obtain ⟨t,aS,h⟩:=aj h
   refine ao Z (cC 1 aS ) Z ?_
   rintro _ w ⟨ac,aK,rfl,d⟩
   have c:=c.f d
   have b:=c.pick (os':=[W e [vB a.1,q],N U q a.2.1]++[W aK [vB t.1,ac],N U ac t.2,W f [vB a.2.2.1,i],N U i a.2.2.2,W u [vB j.1,n],N U n j.2]) [2,3,0,1,4,5,6,7] (by decide) Z
   obtain ⟨ad,aT,h⟩:=aj h
   refine ao Z (dJ a.1 t.1 aT b.g (b.giveO 1 Z) (b.giveB 0 Z)) Z ?_
   rintro _ w ⟨al,rfl,d⟩
   have c:=b.h d
   refine I (O (H (P 3 Z ?_)))
   have b:=c.pick (os':=[W f [vB a.2.2.1,i],N U i a.2.2.2]++[W e [vB ad.1,al],N U al ad.2,W aK [vB t.1,ac],N U ac t.2,W u [vB j.1,n],N U n j.2]) [4,5,0,1,2,3,6,7] (by decide) Z
   obtain ⟨aM,aU,h⟩:=aj h
   refine ao Z (dp a.2.2.1 j.1 aU b.g (b.giveO 5 Z) (b.giveB 4 Z)) Z ?_
   rintro _ w ⟨aY,rfl,d⟩
   have c:=b.h d
   refine I (O ?_)
   exact au _ (by exact ⟨Z,Z,V⟩) (D (ad.1,ad.2,aM.1,aM.2) _ _ ⟨al,aY,Z,(c.e [3,2,1,0] Z Z)⟩ h)
  have h:=aI h E
  refine az (O ?_)
  exact au _ (by exact ⟨Z,Z,V⟩) (D (a.1,a.2.1,a.2.2.1,a.2.2.2) _ _ ⟨q,i,Z,(c.e [1,0,3,2] Z Z)⟩ h)
 rintro ⟨aZ,a0,a1,a2⟩ L w hJ h
 try dsimp only at hJ
 obtain ⟨B,C,rfl,c⟩:=hJ
 unfold F.E6 at h
 refine J (H (P 4 Z ?_))
 refine I (O (ax ?_))
 cases h
 exact bU Z Z Z ⟨B,C,Z,c.e [1,0,3,2] Z Z⟩
theorem jk {w0:World} {x ap y:List UInt32} {l al m:Value} {f aq d:Nat} {S:List Nat} (o z p:Bool) {r:Bool×List UInt32×Bool×List UInt32}
  (h:F.FG o x z ap p y=some r) (c:St S w0 w0 [W f [vB o,l],N U l x,W d [vB p,m],N U m y]) (an:RP S w0 U al ap) (hBa2:RB S w0 aq [vB z,al]):Calls Tryz.prog 136 #[M f 0,M d 0,M aq 0,M d 0] w0 (Ret fun v w=>∃ar ay:Value,v=.tuple #[M f 0,M d 0]∧St S w0 w [W f [vB r.1,ar],N U ar r.2.1,W d [vB r.2.2.1,ay],N U ay r.2.2.2]):=by
 refine aH 45 Tryz.func136 Z Z Z ?_
 refine au [(0,M f 0),(1,M d 0),(2,M aq 0),(3,M d 0)] ⟨Z,Z,Z,Z,V⟩ ?_
 unfold F.FG at h
 refine J (H (P 2 Z ?_))
 refine I (O (J (H (aV (ba (cs:=[vB false,.slice none 0 0]) cT Z c) Z ?_))))
 rintro _ w ⟨u,rfl,c⟩
 refine P 1 Z ?_
 replace c:=c.nil U
 have b:=c.pick (os':=[W u [vB false,.slice none 0 0],N U (.slice none 0 0) []]++[W f [vB o,l],N U l x,W d [vB p,m],N U m y]) [1,0,2,3,4,5] (by decide) Z
 obtain ⟨j,aQ,h⟩:=aj h
 refine ao Z (eW false z aQ b.g (an.g (R Z) b) (hBa2.g b)) Z ?_
 rintro _ w ⟨n,rfl,e⟩
 have c:=b.h e
 refine P 1 Z ?_
 refine I (O (J (H (P 4 Z ?_))))
 have b:=c.pick (os':=[W f [vB o,l],N U l x,W d [vB p,m],N U m y]++[W u [vB j.1,n],N U n j.2]) [2,3,4,5,0,1] (by decide) Z
 obtain ⟨a,aF,h⟩:=aj h
 refine ao Z (jj o z p aF b.g (an.g (R Z) b) (hBa2.g b)) Z ?_
 rintro _ w ⟨q,i,rfl,e⟩
 have c:=b.h e
 refine I (O ?_)
 refine a9 (r:=r) (fun (g:Bool×List UInt32×Bool×List UInt32) L w=>∃(A:Value) (B:Value),L=[(0,M f 0),(3,M d 0)]∧St S w0 w [N U A g.2.1,W f [vB g.1,A],N U B g.2.2.2,W d [vB g.2.2.1,B]]) (F.ER) ?_ ?_
 rotate_left
 ·intro C
  refine J (H (P 1 Z ?_))
  refine am (aL Z) Z (am (av (k:=0) u101 Z Z nz4 Z) Z (am (aC Tryz.underlying4 Z Z (c.r 2 Z 0)) Z (I (O ?_))))
  refine aw Z (fun D=>?_) (fun D=>?_)
  ·have h:=aJ h D
   refine J (H (P 1 Z ?_))
   refine am (aL Z) Z (am (av (k:=0) u101 Z Z nz4 Z) Z (am (aC Tryz.underlying4 Z Z (c.r 4 Z 0)) Z (I (O ?_))))
   refine aw Z (fun E=>?_) (fun E=>?_)
   ·have h:=aJ h E
    refine J (H (P 2 Z ?_))
    obtain ⟨s,aG,h⟩:=aj h
    refine ao Z (cC 1 aG ) Z ?_
    rintro _ w ⟨G,aA,rfl,e⟩
    have c:=c.f e
    have b:=c.pick (os':=[W f [vB a.1,q],N U q a.2.1]++[W aA [vB s.1,G],N U G s.2,W d [vB a.2.2.1,i],N U i a.2.2.2,W u [vB j.1,n],N U n j.2]) [2,3,0,1,4,5,6,7] (by decide) Z
    obtain ⟨T,aK,h⟩:=aj h
    refine ao Z (dp a.1 s.1 aK b.g (b.giveO 1 Z) (b.giveB 0 Z)) Z ?_
    rintro _ w ⟨ag,rfl,e⟩
    have c:=b.h e
    refine I (O (H (P 3 Z ?_)))
    have b:=c.pick (os':=[W d [vB a.2.2.1,i],N U i a.2.2.2]++[W f [vB T.1,ag],N U ag T.2,W aA [vB s.1,G],N U G s.2,W u [vB j.1,n],N U n j.2]) [4,5,0,1,2,3,6,7] (by decide) Z
    obtain ⟨aB,aM,h⟩:=aj h
    refine ao Z (dJ a.2.2.1 j.1 aM b.g (b.giveO 5 Z) (b.giveB 4 Z)) Z ?_
    rintro _ w ⟨aR,rfl,e⟩
    have c:=b.h e
    refine I (O ?_)
    exact au _ (by exact ⟨Z,Z,V⟩) (C (T.1,T.2,aB.1,aB.2) _ _ ⟨ag,aR,Z,(c.e [3,2,1,0] Z Z)⟩ h)
   have h:=aI h E
   refine J (H (P 2 Z ?_))
   obtain ⟨t,aN,h⟩:=aj h
   refine ao Z (cC 1 aN ) Z ?_
   rintro _ w ⟨ab,aD,rfl,e⟩
   have c:=c.f e
   have b:=c.pick (os':=[W f [vB a.1,q],N U q a.2.1]++[W aD [vB t.1,ab],N U ab t.2,W d [vB a.2.2.1,i],N U i a.2.2.2,W u [vB j.1,n],N U n j.2]) [2,3,0,1,4,5,6,7] (by decide) Z
   obtain ⟨ac,aO,h⟩:=aj h
   refine ao Z (dJ a.1 t.1 aO b.g (b.giveO 1 Z) (b.giveB 0 Z)) Z ?_
   rintro _ w ⟨ak,rfl,e⟩
   have c:=b.h e
   refine I (O (H (P 3 Z ?_)))
   have b:=c.pick (os':=[W d [vB a.2.2.1,i],N U i a.2.2.2]++[W f [vB ac.1,ak],N U ak ac.2,W aD [vB t.1,ab],N U ab t.2,W u [vB j.1,n],N U n j.2]) [4,5,0,1,2,3,6,7] (by decide) Z
   obtain ⟨aE,aP,h⟩:=aj h
   refine ao Z (dp a.2.2.1 j.1 aP b.g (b.giveO 5 Z) (b.giveB 4 Z)) Z ?_
   rintro _ w ⟨aS,rfl,e⟩
   have c:=b.h e
   refine I (O ?_)
   exact au _ (by exact ⟨Z,Z,V⟩) (C (ac.1,ac.2,aE.1,aE.2) _ _ ⟨ak,aS,Z,(c.e [3,2,1,0] Z Z)⟩ h)
  have h:=aI h D
  refine az (O ?_)
  exact au _ (by exact ⟨Z,Z,V⟩) (C (a.1,a.2.1,a.2.2.1,a.2.2.2) _ _ ⟨q,i,Z,(c.e [1,0,3,2] Z Z)⟩ h)
 rintro ⟨aT,aU,aW,aX⟩ L w hJ h
 try dsimp only at hJ
 obtain ⟨A,B,rfl,c⟩:=hJ
 unfold F.ER at h
 refine J (H (P 4 Z ?_))
 refine I (O (ax ?_))
 cases h
 exact bU Z Z Z ⟨A,B,Z,c.e [1,0,3,2] Z Z⟩
end Go.Proofs
