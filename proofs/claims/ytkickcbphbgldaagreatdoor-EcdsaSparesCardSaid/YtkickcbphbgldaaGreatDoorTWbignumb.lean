import Derived.Test.YtkickcbphbgldaaGreatDoorTW0
import Derived.Test.YtkickcbphbgldaaGreatDoorGkFman
import Derived.Test.YtkickcbphbgldaaGreatDoorTWbignuma
set_option linter.unusedVariables false
set_option linter.unusedSimpArgs false
set_option linter.unusedSectionVars false
set_option maxRecDepth 4000
namespace Go.Proofs
open Go Go.RowKit Go.Gk
open Go.Gk renaming aa → Q, ae → N, af → H, ah → M, ai → J, e32 → U, own → O, pB → K
open Nat renaming le_of_ble_eq_true → R
open Go.Gk.OE renaming bx → X
theorem oI {y:World} {a0:List UInt32} {c:Value} (a1:UInt64) {r:List UInt32}
  (h:F.EV a0 a1=some r) (b:RP [] y U c a0):Calls Tryz.prog 199 #[c,v64 a1] y (Ret fun v w=>St [] y w [O U v r]):=by
 refine aN 64 Tryz.func199 Z Z Z ?_
 have a:=St.l y
 refine ar [(0,c),(1,v64 a1)] ⟨Z,Z,V⟩ ?_
 unfold F.EV at h
 refine M (H (Q 1 Z ?_))
 refine J (N (M (H (Q 1 Z ?_))))
 refine al (aq Z Z (gI _ a1 32 (by decide))) Z ?_
 refine al (aK Z (l8 u112 Tryz.underlying3 (a1 / 32))) Z (Q 1 Z ?_)
 refine al (aq Z Z (eM _ a1 32 (by decide))) Z ?_
 obtain ⟨l,ab,h⟩:=aQ h
 refine al (aD (v:=vI l) (by rw [←ab]; rfl)) Z ?_
 refine Q 1 Z ?_
 refine J (N (M (M (H (Q 2 Z ?_)))))
 refine al (aL u30 Z (b.d a.fr)) Z (Q 1 Z ?_)
 refine J (N ?_)
 refine av Z (fun f=>?_) (fun f=>?_)
 ·have h:=aJ h f
  refine M (H (Q 1 Z ?_))
  refine J (N (ay (aG ?_)))
  cases h
  exact aM Z Z ((a.nil U).e [0] Z Z)
 have h:=aI h f
 refine aw (N (M (H (Q 1 Z ?_))))
 refine al (aL u30 Z (b.d a.fr)) Z (Q 2 Z ?_)
 obtain ⟨ak,ac,h⟩:=aj h
 refine aU (cZ (e:=U) u30 aZ Z Z Z a ac) Z ?_
 rintro d w a
 refine Q 1 Z ?_
 refine J (N (M (M (H (Q 1 Z ?_)))))
 refine J (N (az ?_))
 refine ar [(0,c),(5,vI l),(6,v64 (a1%32)),(7,d),(8,vI 0)] ⟨Z,Z,Z,Z,Z,V⟩ ?_
 refine bd (F.EB a0 l a1) (fun (s:Int×List UInt32) L w=>L=[(0,c),(5,vI l),(6,v64 (a1%32)),(7,d),(8,vI s.1)]∧St [] y w [O U d s.2]) ?_ (0,ak) ⟨Z,a⟩ h
 rintro au ⟨z,A⟩ L w am hI ad h B
 try dsimp only at hI
 obtain ⟨rfl,a⟩:=hI
 unfold F.EB at h
 refine M (M (H (Q 2 Z ?_)))
 refine al (aL u30 Z (a.ro 0 Z)) Z (Q 1 Z ?_)
 refine J (N ?_)
 refine av Z (fun j=>?_) (fun j=>?_)
 ·have h:=aJ h j
  refine aw (N (M (az ?_)))
  refine M (H (Q 4 Z ?_))
  obtain ⟨m,p,h⟩:=aj h
  refine al (aW u30 aZ Z Z (b.d a.fr) p) Z (al (aR u38 Z Z (b.d a.fr) p Z) Z (al (aK Z (bu u38 u87 m)) Z (Q 1 Z ?_)))
  refine J (N ?_)
  refine bf (r:=am) (fun (g:UInt64) L w=>L=[(0,c),(5,vI l),(6,v64 (a1%32)),(7,d),(8,vI z),(9,v64 g)]∧St [] y w [O U d A]) (F.Et a1 z A) ?_ ?_
  rotate_left
  ·intro q
   refine M (H (Q 5 Z ?_))
   refine al (aL u30 Z (b.d a.fr)) Z (Q 1 Z ?_)
   refine J (N ?_)
   refine av Z (fun k=>?_) (fun k=>?_)
   ·have h:=aJ h k
    refine H (Q 6 Z ?_)
    obtain ⟨n,u,h⟩:=aj h
    refine al (aW u30 aZ Z Z (b.d a.fr) u) Z (al (aR u38 Z Z (b.d a.fr) u Z) Z (al (aK Z (bu u38 u87 n)) Z (al (aq Z Z (c9 _ n.toUInt64 32)) Z (al (aq Z Z (eL _ m.toUInt64 (br n.toUInt64 32))) Z ?_))))
    obtain ⟨C,E,h⟩:=aQ h
    refine al (aD (v:=v64 C) (by rw [←E]; rfl)) Z ?_
    refine J (N ?_)
    exact ar _ (by exact ⟨Z,Z,Z,Z,Z,Z,V⟩) (q C _ _ ⟨Z,a⟩ h)
   have h:=aI h k
   refine aw (N ?_)
   exact ar _ (by exact ⟨Z,Z,Z,Z,Z,Z,V⟩) (q m.toUInt64 _ _ ⟨Z,a⟩ h)
  rintro o L w hJ h
  try dsimp only at hJ
  obtain ⟨rfl,a⟩:=hJ
  unfold F.Et at h
  refine H (Q 4 Z ?_)
  refine al (aq Z Z (cq _ o (a1%32))) Z (al (aK Z (bQ u87 u38 (aX o ((a1%32).toNat)))) Z ?_)
  obtain ⟨ax,x,h⟩:=aj h
  refine al (aW u30 aZ Z Z (a.ro 0 Z) x) Z (bn (bP (t:=((aX o ((a1%32).toNat)).toUInt32)) aZ Z Z a (i:=0) Z x Z) ?_)
  intro w a
  obtain ⟨ag,G,h⟩:=aQ h
  rw [G]at a
  refine J (aP ?_)
  refine N (H (Q 3 Z ?_))
  refine J ?_
  exact bh (bo _ (by exact ⟨Z,Z,Z,Z,Z,V⟩) (ad (wI (z+1),ag) _ _ ⟨Z,a⟩ (aY h B)))
 have h:=aI h j
 refine ba ?_
 refine aC (aC ?_)
 have h:=aT h B
 refine a9 ?_
 refine N (M (H (Q 1 Z ?_)))
 have hG:=a.pick (os':=[O U d A]++[]) [0] (by decide) Z
 obtain ⟨aA,S,h⟩:=aj h
 refine ao Z (c7  S hG.g ) Z ?_
 rintro aB w ⟨ap,D,T⟩
 rw [←D]at T
 have a:=hG.h T
 refine Q 1 Z ?_
 refine J (N (ay ?_))
 cases h
 exact aM Z Z (a.e [0] Z Z)
theorem jd {A:World} {a0 a1:List UInt32} {bU bV:Value} {r:List UInt32×List UInt32}
  (h:F.CY a0 a1=some r) (G:RP [] A U bU a0) (D:RP [] A U bV a1):Calls Tryz.prog 193 #[bU,bV] A (Ret fun v w=>∃u0 u1:Value,v=.tuple #[u0,u1]∧St [] A w [O U u0 r.1,O U u1 r.2]):=by
 refine aN 273 Tryz.func193 Z Z Z ?_
 have a:=St.l A
 refine ar [(0,bU),(1,bV)] ⟨Z,Z,V⟩ ?_
 unfold F.CY at h
 refine M (H (Q 2 Z ?_))
 refine J (N (M (M (H (Q 1 Z ?_)))))
 refine al (aL u30 Z (D.d a.fr)) Z (Q 1 Z ?_)
 refine J (N ?_)
 refine av Z (fun S=>?_) (fun S=>?_)
 ·have h:=aJ h S
  refine M (H (Q 2 Z ?_))
  refine J (N (ay (aG ?_)))
  cases h
  exact bX Z Z Z ⟨.slice none 0 0,.slice none 0 0,Z,((a.nil U).nil U).e [1,0] Z Z⟩
 have h:=aI h S
 refine aw (N (M (M (H (Q 2 Z ?_)))))
 obtain ⟨dv,cL,h⟩:=aj h
 refine ao Z (i4  cL (G.d a.fr).rp (D.d a.fr).rp) Z ?_
 rintro _ w ⟨rfl,k⟩
 have a:=a.f k
 refine Q 1 Z ?_
 refine J (N ?_)
 refine av Z (fun T=>?_) (fun T=>?_)
 ·have h:=aJ h T
  refine M (H (Q 1 Z ?_))
  obtain ⟨dw,cM,h⟩:=aj h
  refine ao Z (iu  cM (G.d a.fr).rp) Z ?_
  rintro c4 w k
  have a:=a.f k
  refine Q 2 Z ?_
  refine J (N (ay (aG ?_)))
  cases h
  exact bX Z Z Z ⟨.slice none 0 0,c4,Z,(a.nil U).e [0,1] Z Z⟩
 have h:=aI h T
 refine aw (N (M (M (H (Q 1 Z ?_)))))
 refine al (aL u30 Z (G.d a.fr)) Z (Q 1 Z ?_)
 refine J (N ?_)
 refine av Z (fun ab=>?_) (fun ab=>?_)
 ·have h:=aJ h ab
  refine M (H (Q 1 Z ?_))
  obtain ⟨bi,cN,h⟩:=aj h
  refine ao Z (kb  cN (G.d a.fr).rp) Z ?_
  rintro _ w ⟨rfl,k⟩
  have a:=a.f k
  refine Q 1 Z ?_
  obtain ⟨bj,cO,h⟩:=aj h
  refine ao Z (kb  cO (D.d a.fr).rp) Z ?_
  rintro _ w ⟨rfl,k⟩
  have a:=a.f k
  refine Q 2 Z ?_
  refine J (N (M ?_))
  refine bb (fun w'=>St [] A w' []) (fun i=>!([3,7].contains i)) bR (fun _ _ _ y=>y.2) (fun _ _ y=>y) (by kernel_rfl) ?_
  have a:=a.drew
  show lxE _ _ _ _ _ _ _ [0,1,2,3,4,5,6,7,8,9] _ _
  refine am a Z Z (fun w hF=>au Z) Z (am a Z Z (fun w hF=>au Z) Z ?_)
  obtain ⟨cP,h⟩:=bZ h
  refine am a Z Z (fun w hF=>aq Z Z (gI _ bi bj cP)) Z ?_
  obtain ⟨dx,cQ,h⟩:=aj h
  refine bk a Z Z (by kernel_rfl) Z (dY (bi / bj) cQ ) Z ?_
  rintro c5 w k
  have a:=a.f k
  refine am (a.e [] Z Z) Z Z (fun w hF=>au Z) Z (am (a.e [] Z Z) Z Z (fun w hF=>au Z) Z ?_)
  obtain ⟨cd,h⟩:=bZ h
  refine am (a.e [] Z Z) Z Z (fun w hF=>aq Z Z (eM _ bi bj cd)) Z ?_
  obtain ⟨dh,ce,h⟩:=aj h
  refine bk (a.e [] Z Z) Z Z (by kernel_rfl) Z (dY (bi%bj) ce ) Z ?_
  rintro cR w k
  have a:=a.f k
  refine am (a.e [] Z Z) Z Z (fun w hF=>aD Z) Z (am (a.e [] Z Z) Z Z (fun w hF=>aD Z) Z (bp (a.e [] Z Z) ?_))
  refine N (ay (aG ?_))
  cases h
  exact bX Z Z Z ⟨c5,cR,Z,a.e [1,0] Z Z⟩
 have h:=aI h ab
 refine aw (N (M (M (H (Q 1 Z ?_)))))
 refine al (aL u30 Z (D.d a.fr)) Z (Q 1 Z ?_)
 refine J (N ?_)
 refine av Z (fun ac=>?_) (fun ac=>?_)
 ·have h:=aJ h ac
  refine M (H (Q 2 Z ?_))
  obtain ⟨cS,bl,h⟩:=aj h
  refine al (aW u30 aZ Z Z (D.d a.fr) bl) Z (al (aR u38 Z Z (D.d a.fr) bl Z) Z ?_)
  obtain ⟨aA,cf,h⟩:=aj h
  refine ao Z (oV cS cf (G.d a.fr).rp) Z ?_
  rintro _ w ⟨bW,rfl,k⟩
  have a:=a.f k
  refine Q 5 Z ?_
  refine J (N (M (H (Q 2 Z ?_))))
  refine aU (ci (e:=U) (l:=([aA.2]:List UInt32)) (vs:=[v32 aA.2]) u30 aZ Z Z Z Z (by decide) (by decide) a) Z ?_
  rintro cT w a
  have hG:=a.pick (os':=[O U cT ([aA.2]:List UInt32)]++[O U bW aA.1]) [0,1] (by decide) Z
  obtain ⟨di,cg,h⟩:=aj h
  refine ao Z (c7  cg hG.g ) Z ?_
  rintro cU w ⟨da,bY,k⟩
  rw [←bY]at k
  have a:=hG.h k
  refine Q 2 Z ?_
  refine J (N (ay (aG ?_)))
  cases h
  exact bX Z Z Z ⟨bW,cU,Z,a.e [1,0] Z Z⟩
 have h:=aI h ac
 refine aw (N (M (H (Q 1 Z ?_))))
 obtain ⟨b0,ch,h⟩:=aj h
 refine ao Z (gl  ch (D.d a.fr).rp) Z ?_
 rintro _ w ⟨rfl,k⟩
 have a:=a.f k
 refine Q 1 Z ?_
 refine al (aq Z Z (jX _ (wI (b0 - 1)) 32 (by decide))) Z ?_
 refine Q 2 Z ?_
 refine al (aK Z (eA Tryz.underlying3 u112 (wI ((wI (32 - (Int.tmod (wI (b0 - 1)) 32))) - 1)))) Z ?_
 obtain ⟨o,cj,h⟩:=aQ h
 refine al (aD (v:=v64 o) (by rw [←cj]; rfl)) Z ?_
 refine J (N (M (H (Q 2 Z ?_))))
 obtain ⟨b,ck,h⟩:=aj h
 refine ao Z (iC o ck (D.d a.fr).rp) Z ?_
 rintro c w k
 have a:=a.f k
 refine Q 1 Z ?_
 refine J (N (M (H (Q 1 Z ?_))))
 refine al (aL u30 Z (G.d a.fr)) Z (Q 1 Z ?_)
 obtain ⟨dj,cl,h⟩:=aj h
 refine aU (cZ (e:=U) u30 aZ Z Z Z a cl) Z ?_
 rintro d w a
 refine Q 1 Z ?_
 refine J (N (M (H (Q 3 Z ?_))))
 obtain ⟨cV,cm,h⟩:=aj h
 refine ao Z (iC o cm (G.d a.fr).rp) Z ?_
 rintro cW w k
 have a:=a.f k
 refine aU (rv (e:=U) u30 aZ Z Z Z a (i:=1) Z (a.ro 0 Z)) Z ?_
 rintro v_q w ⟨hv_q,a⟩
 subst v_q
 obtain ⟨b1,cn,h⟩:=aQ h
 rw [cn]at a
 refine J (N (M (H (Q 1 Z ?_))))
 refine al (aL u30 Z (a.ro 2 Z)) Z (Q 1 Z ?_)
 refine J (N (M (H (Q 1 Z ?_))))
 refine al (aL u30 Z (a.ro 1 Z)) Z (Q 3 Z ?_)
 obtain ⟨a4,co,h⟩:=aQ h
 refine al (aD (v:=vI a4) (by rw [←co]; rfl)) Z ?_
 refine J (N (M (H (Q 2 Z ?_))))
 obtain ⟨b2,cp,h⟩:=aj h
 refine aU (cZ (e:=U) u30 aZ Z Z Z a cp) Z ?_
 rintro j w a
 refine Q 1 Z ?_
 refine J (N (M ?_))
 refine bb (fun w'=>St [] A w' [O U j b2,O U cW cV,O U d b1,O U c b]) (fun _=>true) bR (fun _ _ _ y=>y.2) (fun _ _ y=>y) (by kernel_rfl) ?_
 have a:=a.drew
 show lxE _ _ _ _ _ _ _ [0,1,2,3,4,5,6,7,8,9,10,11,12,13] _ _
 refine am a Z Z (fun w hF=>au Z) Z (am a Z Z (fun w hF=>au Z) Z (am a Z Z (fun w hF=>aq Z Z (dI _ (b.length:Int) 1)) Z ?_))
 obtain ⟨f,bm,h⟩:=aj h
 refine am a Z Z (fun w hF=>aW u30 aZ Z Z (hF.ro 3 Z) bm) Z (am a Z Z (fun w hF=>aR u38 Z Z (hF.ro 3 Z) bm Z) Z (am a Z Z (fun w hF=>aK Z (bu u38 u87 f)) Z (am a Z Z (fun w hF=>au Z) Z (am a Z Z (fun w hF=>au Z) Z (am a Z Z (fun w hF=>aq Z Z (dI _ (b.length:Int) 2)) Z ?_)))))
 obtain ⟨n,bq,h⟩:=aj h
 refine am a Z Z (fun w hF=>aW u30 aZ Z Z (hF.ro 3 Z) bq) Z (am a Z Z (fun w hF=>aR u38 Z Z (hF.ro 3 Z) bq Z) Z (am a Z Z (fun w hF=>aK Z (bu u38 u87 n)) Z (am a Z Z (fun w hF=>aD Z) Z (am a Z Z (fun w hF=>aD Z) Z (bp a ?_)))))
 refine N (M (M (H (Q 2 Z ?_))))
 refine J (N (az ?_))
 refine ar [(10,v64 o),(11,c),(12,d),(13,vI (b.length:Int)),(15,j),(16,v64 f.toUInt64),(17,v64 n.toUInt64),(18,vI a4)] ⟨Z,Z,Z,Z,Z,Z,Z,Z,V⟩ ?_
 refine bd (F.Dx o b f n) (fun (s:Int×List UInt32×List UInt32) L w=>L=[(10,v64 o),(11,c),(12,d),(13,vI (b.length:Int)),(15,j),(16,v64 f.toUInt64),(17,v64 n.toUInt64),(18,vI s.1)]∧St [] A w [O U c b,O U d s.2.1,O U j s.2.2]) ?_ (a4,b1,b2) ⟨Z,(a.e [3,2,0] Z Z)⟩ h
 rintro db ⟨m,q,p⟩ L w b3 hI cr h bs
 try dsimp only at hI
 obtain ⟨rfl,a⟩:=hI
 unfold F.Dx at h
 refine M (M (H (Q 2 Z ?_)))
 refine J (N ?_)
 refine av Z (fun ad=>?_) (fun ad=>?_)
 ·have h:=aJ h ad
  refine aw (N (M (az ?_)))
  refine M ?_
  refine bb (fun w'=>St [] A w' [O U c b,O U d q,O U j p]) (fun _=>true) bR (fun _ _ _ y=>y.2) (fun _ _ y=>y) (by kernel_rfl) ?_
  have a:=a.drew
  show lxE _ _ _ _ _ _ _ [0,1,2,3,4,5,6,7,8,9,10,11,12,13,14,15,16,17] _ _
  refine am a Z Z (fun w hF=>au Z) Z (am a Z Z (fun w hF=>au Z) Z (am a Z Z (fun w hF=>au Z) Z (am a Z Z (fun w hF=>aq Z Z (bS _ m (b.length:Int))) Z ?_)))
  obtain ⟨a5,bt,h⟩:=aj h
  refine am a Z Z (fun w hF=>aW u30 aZ Z Z (hF.ro 1 Z) bt) Z (am a Z Z (fun w hF=>aR u38 Z Z (hF.ro 1 Z) bt Z) Z (am a Z Z (fun w hF=>aK Z (bu u38 u87 a5)) Z (am a Z Z (fun w hF=>aq Z Z (c9 _ a5.toUInt64 32)) Z (am a Z Z (fun w hF=>au Z) Z (am a Z Z (fun w hF=>au Z) Z (am a Z Z (fun w hF=>au Z) Z (am a Z Z (fun w hF=>aq Z Z (bS _ m (b.length:Int))) Z (am a Z Z (fun w hF=>aq Z Z (dI _ (wI (m+(b.length:Int))) 1)) Z ?_))))))))
  obtain ⟨b4,bv,h⟩:=aj h
  refine am a Z Z (fun w hF=>aW u30 aZ Z Z (hF.ro 1 Z) bv) Z (am a Z Z (fun w hF=>aR u38 Z Z (hF.ro 1 Z) bv Z) Z (am a Z Z (fun w hF=>aK Z (bu u38 u87 b4)) Z (am a Z Z (fun w hF=>aq Z Z (eL _ (br a5.toUInt64 32) b4.toUInt64)) Z ?_)))
  obtain ⟨B,cs,h⟩:=aQ h
  refine am a Z Z (fun w hF=>aD (v:=v64 B) (by rw [←cs]; rfl)) Z ?_
  refine bp a ?_
  refine N (M ?_)
  refine bb (fun w'=>St [] A w' [O U c b,O U d q,O U j p]) (fun _=>true) bR (fun _ _ _ y=>y.2) (fun _ _ y=>y) (by kernel_rfl) ?_
  have a:=a.drew
  show lxE _ _ _ _ _ _ _ [0,1,2,3,4,5,6,7] _ _
  refine am a Z Z (fun w hF=>au Z) Z (am a Z Z (fun w hF=>au Z) Z ?_)
  obtain ⟨ct,h⟩:=bZ h
  refine am a Z Z (fun w hF=>aq Z Z (gI _ B f.toUInt64 ct)) Z (am a Z Z (fun w hF=>au Z) Z (am a Z Z (fun w hF=>au Z) Z ?_))
  obtain ⟨cu,h⟩:=bZ h
  refine am a Z Z (fun w hF=>aq Z Z (eM _ B f.toUInt64 cu)) Z (am a Z Z (fun w hF=>aD Z) Z (am a Z Z (fun w hF=>aD Z) Z (bp a ?_)))
  refine N ?_
  refine bf (r:=b3) (fun (g:UInt64) L w=>L=[(10,v64 o),(11,c),(12,d),(13,vI (b.length:Int)),(15,j),(16,v64 f.toUInt64),(17,v64 n.toUInt64),(18,vI m),(20,v64 g)]∧St [] A w [O U c b,O U d q,O U j p]) (F.Ds q b m p) ?_ ?_
  rotate_left
  ·intro bw
   refine az ?_
   refine ar [(10,v64 o),(11,c),(12,d),(13,vI (b.length:Int)),(15,j),(16,v64 f.toUInt64),(17,v64 n.toUInt64),(18,vI m),(20,v64 (B / f.toUInt64)),(21,v64 (B%f.toUInt64))] ⟨Z,Z,Z,Z,Z,Z,Z,Z,Z,Z,V⟩ ?_
   refine bd (F.Dz b n m q f p) (fun (s:UInt64×UInt64) L w=>L=[(10,v64 o),(11,c),(12,d),(13,vI (b.length:Int)),(15,j),(16,v64 f.toUInt64),(17,v64 n.toUInt64),(18,vI m),(20,v64 s.1),(21,v64 s.2)]∧St [] A w [O U c b,O U d q,O U j p]) ?_ (B / f.toUInt64,B%f.toUInt64) ⟨Z,a⟩ h
   rintro dk ⟨u,z⟩ L w cX hI cw h aB
   try dsimp only at hI
   obtain ⟨rfl,a⟩:=hI
   unfold F.Dz at h
   refine M ?_
   refine bf (r:=cX) (fun (g:Bool) L w=>L=[(10,v64 o),(11,c),(12,d),(13,vI (b.length:Int)),(15,j),(16,v64 f.toUInt64),(17,v64 n.toUInt64),(18,vI m),(20,v64 u),(21,v64 z),(154,vB g)]∧St [] A w [O U c b,O U d q,O U j p]) (F.Cc f u z q b m p) ?_ ?_
   rotate_left
   ·intro bx
    refine H (Q 1 Z ?_)
    refine al (aq Z Z (my _ u 4294967295)) Z (Q 1 Z ?_)
    cases E:(decide ((4294967295:UInt64)<u))
    case true=>
     have h:=aJ h E
     try simp only [E]
     refine Q 16 Z ?_
     refine J (N ?_)
     exact ar _ (by exact ⟨Z,Z,Z,Z,Z,Z,Z,Z,Z,Z,Z,V⟩) (bx true _ _ ⟨Z,a⟩ h)
    case false=>
     have h:=aI h E
     try simp only [E]
     refine Q 2 Z ?_
     refine aF (t:=138) Z Z (aq Z Z (gX _ u n.toUInt64)) Z (Q 1 Z ?_)
     refine aF (t:=138) Z Z (aq Z Z (c9 _ z 32)) Z (Q 5 Z ?_)
     obtain ⟨aE,bz,h⟩:=aj h
     refine aF (t:=138) Z Z (aW u30 aZ Z Z (a.ro 1 Z) bz) Z (aF (t:=138) Z Z (aR u38 Z Z (a.ro 1 Z) bz Z) Z (aF (t:=138) Z Z (aK Z (bu u38 u87 aE)) Z (aF (t:=138) Z Z (aq Z Z (eL _ (br z 32) aE.toUInt64)) Z (aF (t:=138) Z Z (aq Z Z (my _ (u*n.toUInt64) ((br z 32) ||| aE.toUInt64))) Z (Q 1 Z ?_)))))
     refine J (N ?_)
     exact ar _ (by exact ⟨Z,Z,Z,Z,Z,Z,Z,Z,Z,Z,Z,V⟩) (bx (decide (((br z 32) ||| aE.toUInt64)<(u*n.toUInt64))) _ _ ⟨Z,a⟩ h)
   rintro dl L w hJ h
   try dsimp only at hJ
   obtain ⟨rfl,a⟩:=hJ
   unfold F.Cc at h
   refine av Z (fun aH=>?_) (fun aH=>?_)
   ·have h:=aJ h aH
    refine aw (N (az ?_))
    refine M (H (Q 1 Z ?_))
    refine al (aq Z Z (el _ u 1)) Z (Q 1 Z ?_)
    refine J (N (M (H (Q 2 Z ?_))))
    refine al (aq Z Z (cv _ z f.toUInt64)) Z (Q 1 Z ?_)
    refine J (N (M (H (Q 1 Z ?_))))
    refine al (aq Z Z (my _ (z+f.toUInt64) 4294967295)) Z (J (N ?_))
    refine av Z (fun aM=>?_) (fun aM=>?_)
    ·have h:=aJ h aM
     refine ba ?_
     refine nq Z ?_
     refine aC ?_
     have h:=aT h aB
     refine a9 ?_
     refine N ?_
     exact ar _ (by exact ⟨Z,Z,Z,Z,Z,Z,Z,Z,Z,V⟩) (bw (u - 1) _ _ ⟨Z,a⟩ h)
    have h:=aI h aM
    refine aw (aP ?_)
    exact bh (bo _ (by exact ⟨Z,Z,Z,Z,Z,Z,Z,Z,Z,Z,V⟩) (cw (u - 1,z+f.toUInt64) _ _ ⟨Z,a⟩ (aY h aB)))
   have h:=aI h aH
   refine ba ?_
   refine aC (aC ?_)
   have h:=aT h aB
   refine a9 ?_
   refine N ?_
   exact ar _ (by exact ⟨Z,Z,Z,Z,Z,Z,Z,Z,Z,V⟩) (bw u _ _ ⟨Z,a⟩ h)
  rintro x L w hJ h
  try dsimp only at hJ
  obtain ⟨rfl,a⟩:=hJ
  unfold F.Ds at h
  refine M (H (Q 2 Z ?_))
  refine J (N (M (M (H (Q 1 Z ?_)))))
  refine J (N (az ?_))
  refine ar [(10,v64 o),(11,c),(12,d),(13,vI (b.length:Int)),(15,j),(16,v64 f.toUInt64),(17,v64 n.toUInt64),(18,vI m),(20,v64 x),(22,v64 0),(23,v64 0),(24,vI 0)] ⟨Z,Z,Z,Z,Z,Z,Z,Z,Z,Z,Z,Z,V⟩ ?_
  refine bd (F.Dr b m x p) (fun (s:UInt64×UInt64×Int×List UInt32) L w=>L=[(10,v64 o),(11,c),(12,d),(13,vI (b.length:Int)),(15,j),(16,v64 f.toUInt64),(17,v64 n.toUInt64),(18,vI m),(20,v64 x),(22,v64 s.1),(23,v64 s.2.1),(24,vI s.2.2.1)]∧St [] A w [O U c b,O U d s.2.2.2,O U j p]) ?_ (0,0,0,q) ⟨Z,a⟩ h
  rintro dc ⟨a6,b5,cY,dm⟩ L w dn hI cx h bA
  try dsimp only at hI
  obtain ⟨rfl,a⟩:=hI
  unfold F.Dr at h
  refine M (M (H (Q 3 Z ?_)))
  refine J (N ?_)
  refine av Z (fun ag=>?_) (fun ag=>?_)
  ·have h:=aJ h ag
   refine aw (N (M (az ?_)))
   refine M (H (Q 4 Z ?_))
   obtain ⟨a7,bB,h⟩:=aj h
   refine al (aW u30 aZ Z Z (a.ro 0 Z) bB) Z (al (aR u38 Z Z (a.ro 0 Z) bB Z) Z (al (aK Z (bu u38 u87 a7)) Z (al (aq Z Z (gX _ x a7.toUInt64)) Z (al (aq Z Z (cv _ a6 (x*a7.toUInt64))) Z ?_))))
   obtain ⟨C,cy,h⟩:=aQ h
   refine al (aD (v:=v64 C) (by rw [←cy]; rfl)) Z ?_
   refine J (N (M (H (Q 4 Z ?_))))
   obtain ⟨a8,bC,h⟩:=aj h
   refine al (aW u30 aZ Z Z (a.ro 1 Z) bC) Z (al (aR u38 Z Z (a.ro 1 Z) bC Z) Z (al (aK Z (bu u38 u87 a8)) Z (Q 1 Z ?_)))
   refine al (aK Z (bQ u87 u38 C)) Z (al (aK Z (bu u38 u87 C.toUInt32)) Z (al (aq Z Z (el _ a8.toUInt64 C.toUInt32.toUInt64)) Z (Q 1 Z ?_)))
   refine al (aq Z Z (el _ (a8.toUInt64 - C.toUInt32.toUInt64) b5)) Z ?_
   obtain ⟨ak,cz,h⟩:=aQ h
   refine al (aD (v:=v64 ak) (by rw [←cz]; rfl)) Z ?_
   refine J (N (M (H (Q 5 Z ?_))))
   refine al (aK Z (bQ u87 u38 ak)) Z ?_
   obtain ⟨dp,bD,h⟩:=aj h
   refine al (aW u30 aZ Z Z (a.ro 1 Z) bD) Z (bn (bP (t:=ak.toUInt32) aZ Z Z a (i:=1) Z bD Z) ?_)
   intro w a
   obtain ⟨c0,cA,h⟩:=aQ h
   rw [cA]at a
   refine J (N (M (H (Q 1 Z ?_))))
   refine al (aq Z Z (cq _ ak 63)) Z (Q 1 Z ?_)
   refine J (N (H (Q 1 Z ?_)))
   refine al (aq Z Z (cq _ C 32)) Z (Q 1 Z ?_)
   refine J (aP ?_)
   refine N (H (Q 3 Z ?_))
   refine J ?_
   exact bh (bo _ (by exact ⟨Z,Z,Z,Z,Z,Z,Z,Z,Z,Z,Z,Z,V⟩) (cx (aX C 32,aX ak 63,wI (cY+1),c0) _ _ ⟨Z,a⟩ (aY h bA)))
  have h:=aI h ag
  refine ba ?_
  refine aC (aC ?_)
  have h:=aT h bA
  refine a9 ?_
  refine N (M (H (Q 4 Z ?_)))
  obtain ⟨bc,bE,h⟩:=aj h
  refine al (aW u30 aZ Z Z (a.ro 1 Z) bE) Z (al (aR u38 Z Z (a.ro 1 Z) bE Z) Z (al (aK Z (bu u38 u87 bc)) Z (Q 1 Z ?_)))
  refine al (aq Z Z (el _ bc.toUInt64 a6)) Z (Q 1 Z ?_)
  refine al (aq Z Z (el _ (bc.toUInt64 - a6) b5)) Z ?_
  obtain ⟨an,cB,h⟩:=aQ h
  refine al (aD (v:=v64 an) (by rw [←cB]; rfl)) Z ?_
  refine J (N (M (H (Q 5 Z ?_))))
  refine al (aK Z (bQ u87 u38 an)) Z ?_
  obtain ⟨dq,bF,h⟩:=aj h
  refine al (aW u30 aZ Z Z (a.ro 1 Z) bF) Z (bn (bP (t:=an.toUInt32) aZ Z Z a (i:=1) Z bF Z) ?_)
  intro w a
  obtain ⟨b6,cC,h⟩:=aQ h
  rw [cC]at a
  refine J (N ?_)
  refine bf (r:=b3) (fun (g:UInt64×List UInt32) L w=>L=[(10,v64 o),(11,c),(12,d),(13,vI (b.length:Int)),(15,j),(16,v64 f.toUInt64),(17,v64 n.toUInt64),(18,vI m),(20,v64 g.1)]∧St [] A w [O U c b,O U d g.2,O U j p]) (F.Ct m p) ?_ ?_
  rotate_left
  ·intro a2
   refine M (H (Q 1 Z ?_))
   refine al (aq Z Z (cq _ an 63)) Z (al (aq Z Z (za _ (aX an 63) 0)) Z (J (N ?_)))
   refine av Z (fun ap=>?_) (fun ap=>?_)
   ·have h:=aJ h ap
    refine M (H (Q 1 Z ?_))
    refine al (aq Z Z (el _ x 1)) Z (Q 1 Z ?_)
    refine J (N (M (H (Q 1 Z ?_))))
    refine J (N (M (M (H (Q 1 Z ?_)))))
    refine J (N (az ?_))
    refine ar [(10,v64 o),(11,c),(12,d),(13,vI (b.length:Int)),(15,j),(16,v64 f.toUInt64),(17,v64 n.toUInt64),(18,vI m),(20,v64 (x - 1)),(22,v64 0),(27,vI 0)] ⟨Z,Z,Z,Z,Z,Z,Z,Z,Z,Z,Z,V⟩ ?_
    refine bd (F.CI b m x p) (fun (s:UInt64×Int×List UInt32) L w=>L=[(10,v64 o),(11,c),(12,d),(13,vI (b.length:Int)),(15,j),(16,v64 f.toUInt64),(17,v64 n.toUInt64),(18,vI m),(20,v64 (x - 1)),(22,v64 s.1),(27,vI s.2.1)]∧St [] A w [O U c b,O U d s.2.2,O U j p]) ?_ (0,0,b6) ⟨Z,a⟩ h
    rintro dr ⟨aO,b7,c1⟩ L w ds hI cD h bG
    try dsimp only at hI
    obtain ⟨rfl,a⟩:=hI
    unfold F.CI at h
    refine M (M (H (Q 3 Z ?_)))
    refine J (N ?_)
    refine av Z (fun aS=>?_) (fun aS=>?_)
    ·have h:=aJ h aS
     refine aw (N (M (az ?_)))
     refine M ?_
     refine bb (fun w'=>St [] A w' [O U c b,O U d c1,O U j p]) (fun _=>true) bR (fun _ _ _ y=>y.2) (fun _ _ y=>y) (by kernel_rfl) ?_
     have a:=a.drew
     show lxE _ _ _ _ _ _ _ [0,1,2,3,4,5,6,7,8,9,10,11,12,13,14,15] _ _
     refine am a Z Z (fun w hF=>au Z) Z (am a Z Z (fun w hF=>au Z) Z (am a Z Z (fun w hF=>au Z) Z (am a Z Z (fun w hF=>au Z) Z (am a Z Z (fun w hF=>aq Z Z (bS _ b7 m)) Z ?_))))
     obtain ⟨be,bH,h⟩:=aj h
     refine am a Z Z (fun w hF=>aW u30 aZ Z Z (hF.ro 1 Z) bH) Z (am a Z Z (fun w hF=>aR u38 Z Z (hF.ro 1 Z) bH Z) Z (am a Z Z (fun w hF=>aK Z (bu u38 u87 be)) Z (am a Z Z (fun w hF=>au Z) Z (am a Z Z (fun w hF=>au Z) Z ?_))))
     obtain ⟨bg,bI,h⟩:=aj h
     refine am a Z Z (fun w hF=>aW u30 aZ Z Z (hF.ro 0 Z) bI) Z (am a Z Z (fun w hF=>aR u38 Z Z (hF.ro 0 Z) bI Z) Z (am a Z Z (fun w hF=>aK Z (bu u38 u87 bg)) Z (am a Z Z (fun w hF=>aq Z Z (cv _ be.toUInt64 bg.toUInt64)) Z (am a Z Z (fun w hF=>aq Z Z (cv _ aO (be.toUInt64+bg.toUInt64))) Z ?_))))
     obtain ⟨ax,cE,h⟩:=aQ h
     refine am a Z Z (fun w hF=>aD (v:=v64 ax) (by rw [←cE]; rfl)) Z ?_
     refine bp a ?_
     refine N (M (H (Q 5 Z ?_)))
     refine al (aK Z (bQ u87 u38 ax)) Z ?_
     obtain ⟨dt,bJ,h⟩:=aj h
     refine al (aW u30 aZ Z Z (a.ro 1 Z) bJ) Z (bn (bP (t:=ax.toUInt32) aZ Z Z a (i:=1) Z bJ Z) ?_)
     intro w a
     obtain ⟨c2,cF,h⟩:=aQ h
     rw [cF]at a
     refine J (N (H (Q 1 Z ?_)))
     refine al (aq Z Z (cq _ ax 32)) Z (Q 1 Z ?_)
     refine J (aP ?_)
     refine N (H (Q 3 Z ?_))
     refine J ?_
     exact bh (bo _ (by exact ⟨Z,Z,Z,Z,Z,Z,Z,Z,Z,Z,Z,V⟩) (cD (aX ax 32,wI (b7+1),c2) _ _ ⟨Z,a⟩ (aY h bG)))
    have h:=aI h aS
    refine ba ?_
    refine aC (aC ?_)
    have h:=aT h bG
    refine a9 ?_
    refine N (H (Q 4 Z ?_))
    obtain ⟨b8,bK,h⟩:=aj h
    refine al (aW u30 aZ Z Z (a.ro 1 Z) bK) Z (al (aR u38 Z Z (a.ro 1 Z) bK Z) Z (Q 1 Z ?_))
    refine al (aK Z (bQ u87 u38 aO)) Z (al (aq Z Z (em _ b8 aO.toUInt32)) Z ?_)
    obtain ⟨du,bL,h⟩:=aj h
    refine al (aW u30 aZ Z Z (a.ro 1 Z) bL) Z (bn (bP (t:=(b8+aO.toUInt32)) aZ Z Z a (i:=1) Z bL Z) ?_)
    intro w a
    obtain ⟨c3,cG,h⟩:=aQ h
    rw [cG]at a
    refine J (N ?_)
    exact ar _ (by exact ⟨Z,Z,Z,Z,Z,Z,Z,Z,Z,V⟩) (a2 (x - 1,c3) _ _ ⟨Z,a⟩ h)
   have h:=aI h ap
   refine aw (N ?_)
   exact ar _ (by exact ⟨Z,Z,Z,Z,Z,Z,Z,Z,Z,V⟩) (a2 (x,b6) _ _ ⟨Z,a⟩ h)
  rintro ⟨bM,cH⟩ L w hJ h
  try dsimp only at hJ
  obtain ⟨rfl,a⟩:=hJ
  unfold F.Ct at h
  refine H (Q 3 Z ?_)
  refine al (aK Z (bQ u87 u38 bM)) Z ?_
  obtain ⟨dd,a3,h⟩:=aj h
  refine al (aW u30 aZ Z Z (a.ro 2 Z) a3) Z (bn (bP (t:=bM.toUInt32) aZ Z Z a (i:=2) Z a3 Z) ?_)
  intro w a
  obtain ⟨cI,b9,h⟩:=aQ h
  rw [b9]at a
  refine J (aP ?_)
  refine N (H (Q 3 Z ?_))
  refine J ?_
  exact bh (bo _ (by exact ⟨Z,Z,Z,Z,Z,Z,Z,Z,V⟩) (cr (wI (m - 1),cH,cI) _ _ ⟨Z,a⟩ (aY h bs)))
 have h:=aI h ad
 refine ba ?_
 refine aC (aC ?_)
 have h:=aT h bs
 refine a9 ?_
 refine N (M (H (Q 1 Z ?_)))
 have hG:=a.pick (os':=[O U j p]++[O U c b,O U d q]) [2,0,1] (by decide) Z
 obtain ⟨cJ,ca,h⟩:=aj h
 refine ao Z (c7  ca hG.g ) Z ?_
 rintro bN w ⟨c6,bO,k⟩
 rw [←bO]at k
 have a:=hG.h k
 refine Q 1 Z ?_
 have hG:=a.pick (os':=[O U d q]++[O U bN cJ,O U c b]) [2,0,1] (by decide) Z
 obtain ⟨de,cb,h⟩:=aj h
 refine ao Z (c7  cb hG.g ) Z ?_
 rintro df w ⟨c8,bT,k⟩
 rw [←bT]at k
 have a:=hG.h k
 refine Q 1 Z ?_
 obtain ⟨dg,cc,h⟩:=aj h
 refine ao Z (oI o cc (a.ro 0 Z).rp) Z ?_
 rintro cK w k
 have a:=a.f k
 refine Q 2 Z ?_
 refine J (N (ay ?_))
 cases h
 exact bX Z Z Z ⟨bN,cK,Z,a.e [2,0] Z Z⟩
theorem gF {n:World} {l x y g:List UInt32} {c t u b:Value} {e z A f:Nat} {S:List Nat} (j m o d:Bool) {r:Bool×List UInt32×Bool×List UInt32}
  (h:F.Dh j l m x o y d g=some r) (a:St S n n [X e [vB j,c],O U c l,X f [vB d,b],O U b g]) (L:RP S n U t x) (hBa1:RB S n z [vB m,t]) (T:RP S n U u y) (hBa2:RB S n A [vB o,u]):Calls Tryz.prog 176 #[K e 0,K z 0,K A 0,K f 0] n (Ret fun v w=>∃B C:Value,v=.tuple #[K e 0,K f 0]∧St S n w [X e [vB r.1,B],O U B r.2.1,X f [vB r.2.2.1,C],O U C r.2.2.2]):=by
 refine aN 46 Tryz.func176 Z Z Z ?_
 refine ar [(0,K e 0),(1,K z 0),(2,K A 0),(3,K f 0)] ⟨Z,Z,Z,Z,V⟩ ?_
 unfold F.Dh at h
 refine M (H (Q 2 Z ?_))
 refine J (N (M ?_))
 refine bb (fun w'=>St S n w' [X e [vB j,c],O U c l,X f [vB d,b],O U b g]) (fun _=>true) bR (fun _ _ _ q=>q.2) (fun _ _ q=>q) (by kernel_rfl) ?_
 have a:=a.drew
 show lxE _ _ _ _ _ _ _ [0,1,2,3,4,5,6,7,8,9] _ _
 refine am a Z Z (fun w hF=>au Z) Z (am a Z Z (fun w hF=>aO Z) Z (am a Z Z (fun w hF=>ax (k:=0) u101 Z Z nz4 Z) Z (am a Z Z (fun w hF=>aH Tryz.underlying4 Z Z (hBa1.cell hF.fr 0 Z)) Z (am a Z Z (fun w hF=>au Z) Z (am a Z Z (fun w hF=>aO Z) Z (am a Z Z (fun w hF=>ax (k:=0) u101 Z Z nz4 Z) Z (am a Z Z (fun w hF=>aH Tryz.underlying4 Z Z (hBa2.cell hF.fr 0 Z)) Z (am a Z Z (fun w hF=>aD Z) Z ?_))))))))
 refine am a Z Z (fun w hF=>aD Z) Z (bp a ?_)
 refine N (M ?_)
 refine bb (fun w'=>St S n w' [X e [vB j,c],O U c l,X f [vB d,b],O U b g]) (fun i=>!([8].contains i)) bR (fun _ _ _ q=>q.2) (fun _ _ q=>q) (by kernel_rfl) ?_
 have a:=a.drew
 show lxE _ _ _ _ _ _ _ [0,1,2,3,4,5,6,7,8,9,10,11,12,13] _ _
 refine am a Z Z (fun w hF=>au Z) Z (am a Z Z (fun w hF=>aO Z) Z (am a Z Z (fun w hF=>ax (k:=1) u101 Z Z da Z) Z (am a Z Z (fun w hF=>aH u30 Z Z (hBa1.cell hF.fr 1 Z)) Z (am a Z Z (fun w hF=>au Z) Z (am a Z Z (fun w hF=>aO Z) Z (am a Z Z (fun w hF=>ax (k:=1) u101 Z Z da Z) Z (am a Z Z (fun w hF=>aH u30 Z Z (hBa2.cell hF.fr 1 Z)) Z ?_)))))))
 obtain ⟨D,ag,h⟩:=aj h
 refine bk a Z Z (by kernel_rfl) Z (jd  ag (L.d a.fr).rp (T.d a.fr).rp) Z ?_
 rintro _ w ⟨an,ad,rfl,p⟩
 have a:=a.f p
 refine am (a.e [2,3,4,5] Z Z) Z Z (fun w hF=>au Z) Z (am (a.e [2,3,4,5] Z Z) Z Z (fun w hF=>ct Z Z) Z (am (a.e [2,3,4,5] Z Z) Z Z (fun w hF=>ct Z Z) Z (am (a.e [2,3,4,5] Z Z) Z Z (fun w hF=>aD Z) Z (am (a.e [2,3,4,5] Z Z) Z Z (fun w hF=>aD Z) Z (bp (a.e [2,3,4,5] Z Z) ?_)))))
 refine N (M (H (Q 3 Z ?_)))
 refine al (aq Z Z (k5 _ m o Tryz.underlying4 Z)) Z (Q 1 Z ?_)
 have E:=a.pick (os':=[X e [vB j,c],O U c l,O U an D.1]++[O U ad D.2,X f [vB d,b],O U b g]) [2,3,0,1,4,5] (by decide) Z
 obtain ⟨G,ab,h⟩:=aj h
 refine ao Z (bH j (m != o) ab E.g ) Z ?_
 rintro _ w ⟨s,rfl,p⟩
 have a:=E.h p
 refine J (N (M (H (Q 3 Z ?_))))
 have E:=a.pick (os':=[X f [vB d,b],O U b g,O U ad D.2]++[X e [vB G.1,s],O U s G.2]) [3,4,2,0,1] (by decide) Z
 obtain ⟨ap,ac,h⟩:=aj h
 refine ao Z (bH d m ac E.g ) Z ?_
 rintro _ w ⟨ak,rfl,p⟩
 have a:=E.h p
 refine J (N (M (H (Q 4 Z ?_))))
 refine J (N (ay ?_))
 cases h
 exact bX Z Z Z ⟨s,ak,Z,a.e [2,3,0,1] Z Z⟩
theorem jt {n:World} {l t g:List UInt32} {c s b:Value} {f u e:Nat} {S:List Nat} (j m d:Bool) {r:Bool×List UInt32×Bool×List UInt32}
  (h:F.Ga j l m t d g=some r) (a:St S n n [X f [vB j,c],O U c l,X e [vB d,b],O U b g]) (C:RP S n U s t) (hBa2:RB S n u [vB m,s]):Calls Tryz.prog 176 #[K f 0,K e 0,K u 0,K e 0] n (Ret fun v w=>∃x y:Value,v=.tuple #[K f 0,K e 0]∧St S n w [X f [vB r.1,x],O U x r.2.1,X e [vB r.2.2.1,y],O U y r.2.2.2]):=by
 refine aN 46 Tryz.func176 Z Z Z ?_
 refine ar [(0,K f 0),(1,K e 0),(2,K u 0),(3,K e 0)] ⟨Z,Z,Z,Z,V⟩ ?_
 unfold F.Ga at h
 refine M (H (Q 2 Z ?_))
 refine J (N (M ?_))
 refine bb (fun w'=>St S n w' [X f [vB j,c],O U c l,X e [vB d,b],O U b g]) (fun _=>true) bR (fun _ _ _ p=>p.2) (fun _ _ p=>p) (by kernel_rfl) ?_
 have a:=a.drew
 show lxE _ _ _ _ _ _ _ [0,1,2,3,4,5,6,7,8,9] _ _
 refine am a Z Z (fun w hF=>au Z) Z (am a Z Z (fun w hF=>aO Z) Z (am a Z Z (fun w hF=>ax (k:=0) u101 Z Z nz4 Z) Z (am a Z Z (fun w hF=>aH Tryz.underlying4 Z Z (hF.r 2 Z 0)) Z (am a Z Z (fun w hF=>au Z) Z (am a Z Z (fun w hF=>aO Z) Z (am a Z Z (fun w hF=>ax (k:=0) u101 Z Z nz4 Z) Z (am a Z Z (fun w hF=>aH Tryz.underlying4 Z Z (hBa2.cell hF.fr 0 Z)) Z (am a Z Z (fun w hF=>aD Z) Z ?_))))))))
 refine am a Z Z (fun w hF=>aD Z) Z (bp a ?_)
 refine N (M ?_)
 refine bb (fun w'=>St S n w' [X f [vB j,c],O U c l,X e [vB d,b],O U b g]) (fun i=>!([8].contains i)) bR (fun _ _ _ p=>p.2) (fun _ _ p=>p) (by kernel_rfl) ?_
 have a:=a.drew
 show lxE _ _ _ _ _ _ _ [0,1,2,3,4,5,6,7,8,9,10,11,12,13] _ _
 refine am a Z Z (fun w hF=>au Z) Z (am a Z Z (fun w hF=>aO Z) Z (am a Z Z (fun w hF=>ax (k:=1) u101 Z Z da Z) Z (am a Z Z (fun w hF=>aH u30 Z Z (hF.r 2 Z 1)) Z (am a Z Z (fun w hF=>au Z) Z (am a Z Z (fun w hF=>aO Z) Z (am a Z Z (fun w hF=>ax (k:=1) u101 Z Z da Z) Z (am a Z Z (fun w hF=>aH u30 Z Z (hBa2.cell hF.fr 1 Z)) Z ?_)))))))
 obtain ⟨z,L,h⟩:=aj h
 refine bk a Z Z (by kernel_rfl) Z (jd  L (a.ro 3 Z).rp (C.d a.fr).rp) Z ?_
 rintro _ w ⟨ab,G,rfl,o⟩
 have a:=a.f o
 refine am (a.e [2,3,4,5] Z Z) Z Z (fun w hF=>au Z) Z (am (a.e [2,3,4,5] Z Z) Z Z (fun w hF=>ct Z Z) Z (am (a.e [2,3,4,5] Z Z) Z Z (fun w hF=>ct Z Z) Z (am (a.e [2,3,4,5] Z Z) Z Z (fun w hF=>aD Z) Z (am (a.e [2,3,4,5] Z Z) Z Z (fun w hF=>aD Z) Z (bp (a.e [2,3,4,5] Z Z) ?_)))))
 refine N (M (H (Q 3 Z ?_)))
 refine al (aq Z Z (k5 _ d m Tryz.underlying4 Z)) Z (Q 1 Z ?_)
 have A:=a.pick (os':=[X f [vB j,c],O U c l,O U ab z.1]++[O U G z.2,X e [vB d,b],O U b g]) [2,3,0,1,4,5] (by decide) Z
 obtain ⟨B,D,h⟩:=aj h
 refine ao Z (bH j (d != m) D A.g ) Z ?_
 rintro _ w ⟨q,rfl,o⟩
 have a:=A.h o
 refine J (N (M (H (Q 3 Z ?_))))
 have A:=a.pick (os':=[X e [vB d,b],O U b g,O U G z.2]++[X f [vB B.1,q],O U q B.2]) [3,4,2,0,1] (by decide) Z
 obtain ⟨ac,E,h⟩:=aj h
 refine ao Z (bH d d E A.g ) Z ?_
 rintro _ w ⟨T,rfl,o⟩
 have a:=A.h o
 refine J (N (M (H (Q 4 Z ?_))))
 refine J (N (ay ?_))
 cases h
 exact bX Z Z Z ⟨q,T,Z,a.e [2,3,0,1] Z Z⟩
theorem jq {n:World} {l t j:List UInt32} {c s b:Value} {e u g:Nat} {S:List Nat} (d m f:Bool) {r:Bool×List UInt32×Bool×List UInt32}
  (h:F.Gg d l m t f j=some r) (a:St S n n [X e [vB d,c],O U c l,X g [vB f,b],O U b j]) (C:RP S n U s t) (hBa2:RB S n u [vB m,s]):Calls Tryz.prog 176 #[K e 0,K e 0,K u 0,K g 0] n (Ret fun v w=>∃x y:Value,v=.tuple #[K e 0,K g 0]∧St S n w [X e [vB r.1,x],O U x r.2.1,X g [vB r.2.2.1,y],O U y r.2.2.2]):=by
 refine aN 46 Tryz.func176 Z Z Z ?_
 refine ar [(0,K e 0),(1,K e 0),(2,K u 0),(3,K g 0)] ⟨Z,Z,Z,Z,V⟩ ?_
 unfold F.Gg at h
 refine M (H (Q 2 Z ?_))
 refine J (N (M ?_))
 refine bb (fun w'=>St S n w' [X e [vB d,c],O U c l,X g [vB f,b],O U b j]) (fun _=>true) bR (fun _ _ _ p=>p.2) (fun _ _ p=>p) (by kernel_rfl) ?_
 have a:=a.drew
 show lxE _ _ _ _ _ _ _ [0,1,2,3,4,5,6,7,8,9] _ _
 refine am a Z Z (fun w hF=>au Z) Z (am a Z Z (fun w hF=>aO Z) Z (am a Z Z (fun w hF=>ax (k:=0) u101 Z Z nz4 Z) Z (am a Z Z (fun w hF=>aH Tryz.underlying4 Z Z (hF.r 0 Z 0)) Z (am a Z Z (fun w hF=>au Z) Z (am a Z Z (fun w hF=>aO Z) Z (am a Z Z (fun w hF=>ax (k:=0) u101 Z Z nz4 Z) Z (am a Z Z (fun w hF=>aH Tryz.underlying4 Z Z (hBa2.cell hF.fr 0 Z)) Z (am a Z Z (fun w hF=>aD Z) Z ?_))))))))
 refine am a Z Z (fun w hF=>aD Z) Z (bp a ?_)
 refine N (M ?_)
 refine bb (fun w'=>St S n w' [X e [vB d,c],O U c l,X g [vB f,b],O U b j]) (fun i=>!([8].contains i)) bR (fun _ _ _ p=>p.2) (fun _ _ p=>p) (by kernel_rfl) ?_
 have a:=a.drew
 show lxE _ _ _ _ _ _ _ [0,1,2,3,4,5,6,7,8,9,10,11,12,13] _ _
 refine am a Z Z (fun w hF=>au Z) Z (am a Z Z (fun w hF=>aO Z) Z (am a Z Z (fun w hF=>ax (k:=1) u101 Z Z da Z) Z (am a Z Z (fun w hF=>aH u30 Z Z (hF.r 0 Z 1)) Z (am a Z Z (fun w hF=>au Z) Z (am a Z Z (fun w hF=>aO Z) Z (am a Z Z (fun w hF=>ax (k:=1) u101 Z Z da Z) Z (am a Z Z (fun w hF=>aH u30 Z Z (hBa2.cell hF.fr 1 Z)) Z ?_)))))))
 obtain ⟨z,L,h⟩:=aj h
 refine bk a Z Z (by kernel_rfl) Z (jd  L (a.ro 1 Z).rp (C.d a.fr).rp) Z ?_
 rintro _ w ⟨ab,G,rfl,o⟩
 have a:=a.f o
 refine am (a.e [2,3,4,5] Z Z) Z Z (fun w hF=>au Z) Z (am (a.e [2,3,4,5] Z Z) Z Z (fun w hF=>ct Z Z) Z (am (a.e [2,3,4,5] Z Z) Z Z (fun w hF=>ct Z Z) Z (am (a.e [2,3,4,5] Z Z) Z Z (fun w hF=>aD Z) Z (am (a.e [2,3,4,5] Z Z) Z Z (fun w hF=>aD Z) Z (bp (a.e [2,3,4,5] Z Z) ?_)))))
 refine N (M (H (Q 3 Z ?_)))
 refine al (aq Z Z (k5 _ d m Tryz.underlying4 Z)) Z (Q 1 Z ?_)
 have A:=a.pick (os':=[X e [vB d,c],O U c l,O U ab z.1]++[O U G z.2,X g [vB f,b],O U b j]) [2,3,0,1,4,5] (by decide) Z
 obtain ⟨B,D,h⟩:=aj h
 refine ao Z (bH d (d != m) D A.g ) Z ?_
 rintro _ w ⟨q,rfl,o⟩
 have a:=A.h o
 refine J (N (M (H (Q 3 Z ?_))))
 have A:=a.pick (os':=[X g [vB f,b],O U b j,O U G z.2]++[X e [vB B.1,q],O U q B.2]) [3,4,2,0,1] (by decide) Z
 obtain ⟨ac,E,h⟩:=aj h
 refine ao Z (bH f d E A.g ) Z ?_
 rintro _ w ⟨T,rfl,o⟩
 have a:=A.h o
 refine J (N (M (H (Q 4 Z ?_))))
 refine J (N (ay ?_))
 cases h
 exact bX Z Z Z ⟨q,T,Z,a.e [2,3,0,1] Z Z⟩
theorem jk {m:World} {a0 a1:List UInt32} {b c:Value} {r:List UInt32}
  (h:F.Dv a0 a1=some r) (n:RP [] m U b a0) (x:RP [] m U c a1):Calls Tryz.prog 153 #[b,c] m (Ret fun v w=>St [] m w [O U v r]):=by
 refine aN 45 Tryz.func153 Z Z Z ?_
 have a:=St.l m
 refine ar [(0,b),(1,c)] ⟨Z,Z,V⟩ ?_
 unfold F.Dv at h
 refine M (H (Q 1 Z ?_))
 refine J (N (M (H (Q 1 Z ?_))))
 refine al (aL u30 Z (n.d a.fr)) Z ?_
 obtain ⟨ak,ac,h⟩:=aj h
 refine aU (cZ (e:=U) u30 aZ Z Z Z a ac) Z ?_
 rintro d w a
 refine Q 1 Z ?_
 refine J (N (M (H (Q 1 Z ?_))))
 refine J (N (M (M (H (Q 1 Z ?_)))))
 refine J (N (az ?_))
 refine ar [(0,b),(1,c),(5,d),(6,v64 0),(7,vI 0)] ⟨Z,Z,Z,Z,Z,V⟩ ?_
 refine bd (F.DW a0 a1) (fun (s:UInt64×Int×List UInt32) L w=>L=[(0,b),(1,c),(5,d),(6,v64 s.1),(7,vI s.2.1)]∧St [] m w [O U d s.2.2]) ?_ (0,0,ak) ⟨Z,a⟩ h
 rintro au ⟨y,z,A⟩ L w am hI ad h B
 try dsimp only at hI
 obtain ⟨rfl,a⟩:=hI
 unfold F.DW at h
 refine M (M (H (Q 2 Z ?_)))
 refine al (aL u30 Z (n.d a.fr)) Z (Q 1 Z ?_)
 refine J (N ?_)
 refine av Z (fun f=>?_) (fun f=>?_)
 ·have h:=aJ h f
  refine aw (N (M (az ?_)))
  refine M (H (Q 2 Z ?_))
  obtain ⟨j,o,h⟩:=aj h
  refine al (aW u30 aZ Z Z (n.d a.fr) o) Z (al (aR u38 Z Z (n.d a.fr) o Z) Z (al (aK Z (bu u38 u87 j)) Z (Q 1 Z ?_)))
  refine al (aq Z Z (el _ j.toUInt64 y)) Z (Q 1 Z ?_)
  refine J (N ?_)
  refine bf (r:=am) (fun (g:UInt64) L w=>L=[(0,b),(1,c),(5,d),(7,vI z),(8,v64 g)]∧St [] m w [O U d A]) (F.DZ z A) ?_ ?_
  rotate_left
  ·intro p
   refine M (H (Q 2 Z ?_))
   refine al (aL u30 Z (x.d a.fr)) Z (Q 1 Z ?_)
   refine J (N ?_)
   refine av Z (fun k=>?_) (fun k=>?_)
   ·have h:=aJ h k
    refine H (Q 3 Z ?_)
    obtain ⟨C,q,h⟩:=aj h
    refine al (aW u30 aZ Z Z (x.d a.fr) q) Z (al (aR u38 Z Z (x.d a.fr) q Z) Z (al (aK Z (bu u38 u87 C)) Z (al (aq Z Z (el _ (j.toUInt64 - y) C.toUInt64)) Z ?_)))
    obtain ⟨D,G,h⟩:=aQ h
    refine al (aD (v:=v64 D) (by rw [←G]; rfl)) Z ?_
    refine J (N ?_)
    exact ar _ (by exact ⟨Z,Z,Z,Z,Z,V⟩) (p D _ _ ⟨Z,a⟩ h)
   have h:=aI h k
   refine aw (N ?_)
   exact ar _ (by exact ⟨Z,Z,Z,Z,Z,V⟩) (p (j.toUInt64 - y) _ _ ⟨Z,a⟩ h)
  rintro l L w hJ h
  try dsimp only at hJ
  obtain ⟨rfl,a⟩:=hJ
  unfold F.DZ at h
  refine M (H (Q 3 Z ?_))
  refine al (aK Z (bQ u87 u38 l)) Z ?_
  obtain ⟨ax,u,h⟩:=aj h
  refine al (aW u30 aZ Z Z (a.ro 0 Z) u) Z (bn (bP (t:=l.toUInt32) aZ Z Z a (i:=0) Z u Z) ?_)
  intro w a
  obtain ⟨ag,S,h⟩:=aQ h
  rw [S]at a
  refine J (N (H (Q 1 Z ?_)))
  refine al (aq Z Z (cq _ l 63)) Z (Q 1 Z ?_)
  refine J (aP ?_)
  refine N (H (Q 3 Z ?_))
  refine J ?_
  exact bh (bo _ (by exact ⟨Z,Z,Z,Z,Z,V⟩) (ad (aX l 63,wI (z+1),ag) _ _ ⟨Z,a⟩ (aY h B)))
 have h:=aI h f
 refine ba ?_
 refine aC (aC ?_)
 have h:=aT h B
 refine a9 ?_
 refine N (M (H (Q 1 Z ?_)))
 have hG:=a.pick (os':=[O U d A]++[]) [0] (by decide) Z
 obtain ⟨aA,T,h⟩:=aj h
 refine ao Z (c7  T hG.g ) Z ?_
 rintro aB w ⟨ap,E,ab⟩
 rw [←E]at ab
 have a:=hG.h ab
 refine Q 1 Z ?_
 refine J (N (ay ?_))
 cases h
 exact aM Z Z (a.e [0] Z Z)
theorem fp {g:World} {a1 a3:List UInt32} {i j:Value} (a0 a2:Bool) {r:Bool×List UInt32}
  (h:F.B1 a0 a1 a2 a3=some r) (e:RP [] g U i a1) (f:RP [] g U j a3):Calls Tryz.prog 178 #[vB a0,i,vB a2,j] g (Ret fun v w=>∃u1:Value,v=.tuple #[vB r.1,u1]∧St [] g w [O U u1 r.2]):=by
 refine aN 29 Tryz.func178 Z Z Z ?_
 have a:=St.l g
 refine ar [(0,vB a0),(1,i),(2,vB a2),(3,j)] ⟨Z,Z,Z,Z,V⟩ ?_
 unfold F.B1 at h
 refine M (H (Q 2 Z ?_))
 refine J (N (M (M (H (Q 2 Z ?_)))))
 refine al (aq Z Z (Av _ a0 a2 Tryz.underlying4 Z)) Z (J (N ?_))
 refine av Z (fun c=>?_) (fun c=>?_)
 ·have h:=aJ h c
  refine M (H (Q 3 Z ?_))
  obtain ⟨s,k,h⟩:=aj h
  refine ao Z (i5  k (e.d a.fr).rp (f.d a.fr).rp) Z ?_
  rintro o w b
  have a:=a.f b
  refine Q 2 Z ?_
  refine J (N (ay (aG ?_)))
  cases h
  exact bX Z Z Z ⟨o,Z,a.e [0] Z Z⟩
 have h:=aI h c
 refine aw (N (M (M (H (Q 2 Z ?_)))))
 obtain ⟨t,l,h⟩:=aj h
 refine ao Z (i4  l (e.d a.fr).rp (f.d a.fr).rp) Z ?_
 rintro _ w ⟨rfl,b⟩
 have a:=a.f b
 refine Q 1 Z ?_
 refine J (N ?_)
 refine av Z (fun d=>?_) (fun d=>?_)
 ·have h:=aJ h d
  refine M (H (Q 3 Z ?_))
  obtain ⟨u,m,h⟩:=aj h
  refine ao Z (jk  m (e.d a.fr).rp (f.d a.fr).rp) Z ?_
  rintro p w b
  have a:=a.f b
  refine Q 2 Z ?_
  refine J (N (ay (aG ?_)))
  cases h
  exact bX Z Z Z ⟨p,Z,a.e [0] Z Z⟩
 have h:=aI h d
 refine aw (N (M (H (Q 3 Z ?_))))
 obtain ⟨x,n,h⟩:=aj h
 refine ao Z (jk  n (f.d a.fr).rp (e.d a.fr).rp) Z ?_
 rintro q w b
 have a:=a.f b
 refine Q 2 Z ?_
 refine J (N (ay ?_))
 cases h
 exact bX Z Z Z ⟨q,Z,a.e [0] Z Z⟩
theorem nu {d:World} {f n o:List UInt32} {b l m:Value} {c p q:Nat} {S:List Nat} (e g j:Bool) {r:Bool×List UInt32}
  (h:F.EO e f g n j o=some r) (a:St S d d [X c [vB e,b],O U b f]) (u:RP S d U l n) (hBa1:RB S d p [vB g,l]) (x:RP S d U m o) (hBa2:RB S d q [vB j,m]):Calls Tryz.prog 140 #[K c 0,K p 0,K q 0] d (Ret fun v w=>∃s:Value,v=K c 0∧St S d w [X c [vB r.1,s],O U s r.2]):=by
 refine aN 28 Tryz.func140 Z Z Z ?_
 refine ar [(0,K c 0),(1,K p 0),(2,K q 0)] ⟨Z,Z,Z,V⟩ ?_
 unfold F.EO at h
 refine M (H (Q 1 Z ?_))
 refine J (N (M ?_))
 have hsh1:=(a.ro 1 Z).shp
 refine bb (fun w'=>St S d w' []) (fun i=>!([17,20].contains i)) bR (fun _ _ _ z=>z.2) (fun _ _ z=>z) (by kernel_rfl) ?_
 have a:=a.drew
 show lxE _ _ _ _ _ _ _ [0,1,2,3,4,5,6,7,8,9,10,11,12,13,14,15,16,17,18,19,20,21] _ _
 refine am (a.e [] Z Z) Z Z (fun w hF=>au Z) Z (am (a.e [] Z Z) Z Z (fun w hF=>au Z) Z (am (a.e [] Z Z) Z Z (fun w hF=>aO Z) Z (am (a.e [] Z Z) Z Z (fun w hF=>ax (k:=0) u101 Z Z nz4 Z) Z (am (a.e [] Z Z) Z Z (fun w hF=>aH Tryz.underlying4 Z Z (hBa1.cell hF.fr 0 Z)) Z (am (a.e [] Z Z) Z Z (fun w hF=>au Z) Z (am (a.e [] Z Z) Z Z (fun w hF=>aO Z) Z (am (a.e [] Z Z) Z Z (fun w hF=>ax (k:=1) u101 Z Z da Z) Z (am (a.e [] Z Z) Z Z (fun w hF=>aH u30 Z Z (hBa1.cell hF.fr 1 Z)) Z ?_))))))))
 refine am (a.e [] Z Z) Z Z (fun w hF=>au Z) Z (am (a.e [] Z Z) Z Z (fun w hF=>aO Z) Z (am (a.e [] Z Z) Z Z (fun w hF=>ax (k:=0) u101 Z Z nz4 Z) Z (am (a.e [] Z Z) Z Z (fun w hF=>aH Tryz.underlying4 Z Z (hBa2.cell hF.fr 0 Z)) Z (am (a.e [] Z Z) Z Z (fun w hF=>au Z) Z (am (a.e [] Z Z) Z Z (fun w hF=>aO Z) Z (am (a.e [] Z Z) Z Z (fun w hF=>ax (k:=1) u101 Z Z da Z) Z (am (a.e [] Z Z) Z Z (fun w hF=>aH u30 Z Z (hBa2.cell hF.fr 1 Z)) Z ?_)))))))
 obtain ⟨y,A,h⟩:=aj h
 refine bk (a.e [] Z Z) Z Z (by kernel_rfl) Z (fp g j A (u.d a.fr).rp (x.d a.fr).rp) Z ?_
 rintro _ w ⟨C,rfl,t⟩
 have a:=a.f t
 refine am (a.e [] Z Z) Z Z (fun w hF=>ct Z Z) Z (am (a.e [] Z Z) Z Z (fun w hF=>ct Z Z) Z ?_)
 have D:=a.pick (os':=[X c [vB e,b],O U b f,O U C y.2]++[]) [1,2,0] (by decide) Z
 obtain ⟨G,B,h⟩:=aj h
 refine bk (a.e [] Z Z) Z Z (by kernel_rfl) Z (bH e y.1 B D.g ) Z ?_
 rintro _ w ⟨E,rfl,t⟩
 have a:=D.h t
 refine am (a.e [] Z Z) Z Z (fun w hF=>aD Z) Z (bp (a.e [] Z Z) ?_)
 refine N (ay ?_)
 cases h
 exact aM Z Z ⟨E,Z,a.e [0,1] Z Z⟩
theorem dv {e:World} {f l:List UInt32} {c j:Value} {b m:Nat} {S:List Nat} (d g:Bool) {r:Bool×List UInt32}
  (h:F.Cd d f g l=some r) (a:St S e e [X b [vB d,c],O U c f]) (p:RP S e U j l) (hBa2:RB S e m [vB g,j]):Calls Tryz.prog 140 #[K b 0,K b 0,K m 0] e (Ret fun v w=>∃n:Value,v=K b 0∧St S e w [X b [vB r.1,n],O U n r.2]):=by
 refine aN 28 Tryz.func140 Z Z Z ?_
 refine ar [(0,K b 0),(1,K b 0),(2,K m 0)] ⟨Z,Z,Z,V⟩ ?_
 unfold F.Cd at h
 refine M (H (Q 1 Z ?_))
 refine J (N (M ?_))
 have hsh1:=(a.ro 1 Z).shp
 refine bb (fun w'=>St S e w' []) (fun i=>!([1004,1008,17,20].contains i)) bR (fun _ _ _ s=>s.2) (fun _ _ s=>s) (by kernel_rfl) ?_
 have a:=a.drew
 show lxE _ _ _ _ _ _ _ [0,1,2,3,4,5,6,7,8,9,10,11,12,13,14,15,16,17,18,19,20,21] _ _
 refine am (a.e [] Z Z) Z Z (fun w hF=>au Z) Z (am (a.e [] Z Z) Z Z (fun w hF=>au Z) Z (am (a.e [] Z Z) Z Z (fun w hF=>aO Z) Z (am (a.e [] Z Z) Z Z (fun w hF=>ax (k:=0) u101 Z Z nz4 Z) Z (mg (a.e [] Z Z) Z Z Z (aH Tryz.underlying4 Z Z (a.r 0 Z 0)) Z ?_))))
 refine am (a.e [] Z Z) Z Z (fun w hF=>au Z) Z (am (a.e [] Z Z) Z Z (fun w hF=>aO Z) Z (am (a.e [] Z Z) Z Z (fun w hF=>ax (k:=1) u101 Z Z da Z) Z (mg (a.e [] Z Z) Z Z Z (aH u30 Z Z (a.r 0 Z 1)) Z ?_)))
 refine am (a.e [] Z Z) Z Z (fun w hF=>au Z) Z (am (a.e [] Z Z) Z Z (fun w hF=>aO Z) Z (am (a.e [] Z Z) Z Z (fun w hF=>ax (k:=0) u101 Z Z nz4 Z) Z (am (a.e [] Z Z) Z Z (fun w hF=>aH Tryz.underlying4 Z Z (hBa2.cell hF.fr 0 Z)) Z (am (a.e [] Z Z) Z Z (fun w hF=>au Z) Z (am (a.e [] Z Z) Z Z (fun w hF=>aO Z) Z (am (a.e [] Z Z) Z Z (fun w hF=>ax (k:=1) u101 Z Z da Z) Z (am (a.e [] Z Z) Z Z (fun w hF=>aH u30 Z Z (hBa2.cell hF.fr 1 Z)) Z ?_)))))))
 obtain ⟨q,t,h⟩:=aj h
 refine bk (a.e [] Z Z) Z Z (by kernel_rfl) Z (fp d g t (a.ro 1 Z).rp (p.d a.fr).rp) Z ?_
 rintro _ w ⟨x,rfl,o⟩
 have a:=a.f o
 refine am (a.e [] Z Z) Z Z (fun w hF=>ct Z Z) Z (am (a.e [] Z Z) Z Z (fun w hF=>ct Z Z) Z ?_)
 have y:=a.pick (os':=[X b [vB d,c],O U c f,O U x q.2]++[]) [1,2,0] (by decide) Z
 obtain ⟨A,u,h⟩:=aj h
 refine bk (a.e [] Z Z) Z Z (by kernel_rfl) Z (bH d q.1 u y.g ) Z ?_
 rintro _ w ⟨z,rfl,o⟩
 have a:=y.h o
 refine am (a.e [] Z Z) Z Z (fun w hF=>aD Z) Z (bp (a.e [] Z Z) ?_)
 refine N (ay ?_)
 cases h
 exact aM Z Z ⟨z,Z,a.e [0,1] Z Z⟩
theorem ji {d:World} {g n o:List UInt32} {b l m:Value} {c p q:Nat} {S:List Nat} (e j f:Bool) {r:Bool×List UInt32}
  (h:F.D9 e g j n f o=some r) (a:St S d d [X c [vB e,b],O U b g]) (u:RP S d U l n) (hBa1:RB S d p [vB j,l]) (x:RP S d U m o) (hBa2:RB S d q [vB f,m]):Calls Tryz.prog 177 #[K c 0,K p 0,K q 0] d (Ret fun v w=>∃s:Value,v=K c 0∧St S d w [X c [vB r.1,s],O U s r.2]):=by
 refine aN 29 Tryz.func177 Z Z Z ?_
 refine ar [(0,K c 0),(1,K p 0),(2,K q 0)] ⟨Z,Z,Z,V⟩ ?_
 unfold F.D9 at h
 refine M (H (Q 1 Z ?_))
 refine J (N (M ?_))
 have hsh1:=(a.ro 1 Z).shp
 refine bb (fun w'=>St S d w' []) (fun i=>!([18,21].contains i)) bR (fun _ _ _ z=>z.2) (fun _ _ z=>z) (by kernel_rfl) ?_
 have a:=a.drew
 show lxE _ _ _ _ _ _ _ [0,1,2,3,4,5,6,7,8,9,10,11,12,13,14,15,16,17,18,19,20,21,22] _ _
 refine am (a.e [] Z Z) Z Z (fun w hF=>au Z) Z (am (a.e [] Z Z) Z Z (fun w hF=>au Z) Z (am (a.e [] Z Z) Z Z (fun w hF=>aO Z) Z (am (a.e [] Z Z) Z Z (fun w hF=>ax (k:=0) u101 Z Z nz4 Z) Z (am (a.e [] Z Z) Z Z (fun w hF=>aH Tryz.underlying4 Z Z (hBa1.cell hF.fr 0 Z)) Z (am (a.e [] Z Z) Z Z (fun w hF=>au Z) Z (am (a.e [] Z Z) Z Z (fun w hF=>aO Z) Z (am (a.e [] Z Z) Z Z (fun w hF=>ax (k:=1) u101 Z Z da Z) Z (am (a.e [] Z Z) Z Z (fun w hF=>aH u30 Z Z (hBa1.cell hF.fr 1 Z)) Z ?_))))))))
 refine am (a.e [] Z Z) Z Z (fun w hF=>au Z) Z (am (a.e [] Z Z) Z Z (fun w hF=>aO Z) Z (am (a.e [] Z Z) Z Z (fun w hF=>ax (k:=0) u101 Z Z nz4 Z) Z (am (a.e [] Z Z) Z Z (fun w hF=>aH Tryz.underlying4 Z Z (hBa2.cell hF.fr 0 Z)) Z (am (a.e [] Z Z) Z Z (fun w hF=>ij Z (pY f)) Z (am (a.e [] Z Z) Z Z (fun w hF=>au Z) Z (am (a.e [] Z Z) Z Z (fun w hF=>aO Z) Z (am (a.e [] Z Z) Z Z (fun w hF=>ax (k:=1) u101 Z Z da Z) Z (am (a.e [] Z Z) Z Z (fun w hF=>aH u30 Z Z (hBa2.cell hF.fr 1 Z)) Z ?_))))))))
 obtain ⟨y,A,h⟩:=aj h
 refine bk (a.e [] Z Z) Z Z (by kernel_rfl) Z (fp j (!f) A (u.d a.fr).rp (x.d a.fr).rp) Z ?_
 rintro _ w ⟨C,rfl,t⟩
 have a:=a.f t
 refine am (a.e [] Z Z) Z Z (fun w hF=>ct Z Z) Z (am (a.e [] Z Z) Z Z (fun w hF=>ct Z Z) Z ?_)
 have D:=a.pick (os':=[X c [vB e,b],O U b g,O U C y.2]++[]) [1,2,0] (by decide) Z
 obtain ⟨G,B,h⟩:=aj h
 refine bk (a.e [] Z Z) Z Z (by kernel_rfl) Z (bH e y.1 B D.g ) Z ?_
 rintro _ w ⟨E,rfl,t⟩
 have a:=D.h t
 refine am (a.e [] Z Z) Z Z (fun w hF=>aD Z) Z (bp (a.e [] Z Z) ?_)
 refine N (ay ?_)
 cases h
 exact aM Z Z ⟨E,Z,a.e [0,1] Z Z⟩
theorem dS {f:World} {g l:List UInt32} {c j:Value} {b m:Nat} {S:List Nat} (d e:Bool) {r:Bool×List UInt32}
  (h:F.Cq d g e l=some r) (a:St S f f [X b [vB d,c],O U c g]) (p:RP S f U j l) (hBa2:RB S f m [vB e,j]):Calls Tryz.prog 177 #[K b 0,K b 0,K m 0] f (Ret fun v w=>∃n:Value,v=K b 0∧St S f w [X b [vB r.1,n],O U n r.2]):=by
 refine aN 29 Tryz.func177 Z Z Z ?_
 refine ar [(0,K b 0),(1,K b 0),(2,K m 0)] ⟨Z,Z,Z,V⟩ ?_
 unfold F.Cq at h
 refine M (H (Q 1 Z ?_))
 refine J (N (M ?_))
 have hsh1:=(a.ro 1 Z).shp
 refine bb (fun w'=>St S f w' []) (fun i=>!([1004,1008,18,21].contains i)) bR (fun _ _ _ s=>s.2) (fun _ _ s=>s) (by kernel_rfl) ?_
 have a:=a.drew
 show lxE _ _ _ _ _ _ _ [0,1,2,3,4,5,6,7,8,9,10,11,12,13,14,15,16,17,18,19,20,21,22] _ _
 refine am (a.e [] Z Z) Z Z (fun w hF=>au Z) Z (am (a.e [] Z Z) Z Z (fun w hF=>au Z) Z (am (a.e [] Z Z) Z Z (fun w hF=>aO Z) Z (am (a.e [] Z Z) Z Z (fun w hF=>ax (k:=0) u101 Z Z nz4 Z) Z (mg (a.e [] Z Z) Z Z Z (aH Tryz.underlying4 Z Z (a.r 0 Z 0)) Z ?_))))
 refine am (a.e [] Z Z) Z Z (fun w hF=>au Z) Z (am (a.e [] Z Z) Z Z (fun w hF=>aO Z) Z (am (a.e [] Z Z) Z Z (fun w hF=>ax (k:=1) u101 Z Z da Z) Z (mg (a.e [] Z Z) Z Z Z (aH u30 Z Z (a.r 0 Z 1)) Z ?_)))
 refine am (a.e [] Z Z) Z Z (fun w hF=>au Z) Z (am (a.e [] Z Z) Z Z (fun w hF=>aO Z) Z (am (a.e [] Z Z) Z Z (fun w hF=>ax (k:=0) u101 Z Z nz4 Z) Z (am (a.e [] Z Z) Z Z (fun w hF=>aH Tryz.underlying4 Z Z (hBa2.cell hF.fr 0 Z)) Z (am (a.e [] Z Z) Z Z (fun w hF=>ij Z (pY e)) Z (am (a.e [] Z Z) Z Z (fun w hF=>au Z) Z (am (a.e [] Z Z) Z Z (fun w hF=>aO Z) Z (am (a.e [] Z Z) Z Z (fun w hF=>ax (k:=1) u101 Z Z da Z) Z (am (a.e [] Z Z) Z Z (fun w hF=>aH u30 Z Z (hBa2.cell hF.fr 1 Z)) Z ?_))))))))
 obtain ⟨q,t,h⟩:=aj h
 refine bk (a.e [] Z Z) Z Z (by kernel_rfl) Z (fp d (!e) t (a.ro 1 Z).rp (p.d a.fr).rp) Z ?_
 rintro _ w ⟨x,rfl,o⟩
 have a:=a.f o
 refine am (a.e [] Z Z) Z Z (fun w hF=>ct Z Z) Z (am (a.e [] Z Z) Z Z (fun w hF=>ct Z Z) Z ?_)
 have y:=a.pick (os':=[X b [vB d,c],O U c g,O U x q.2]++[]) [1,2,0] (by decide) Z
 obtain ⟨A,u,h⟩:=aj h
 refine bk (a.e [] Z Z) Z Z (by kernel_rfl) Z (bH d q.1 u y.g ) Z ?_
 rintro _ w ⟨z,rfl,o⟩
 have a:=y.h o
 refine am (a.e [] Z Z) Z Z (fun w hF=>aD Z) Z (bp (a.e [] Z Z) ?_)
 refine N (ay ?_)
 cases h
 exact aM Z Z ⟨z,Z,a.e [0,1] Z Z⟩
theorem kI {e:World} {f l:List UInt32} {d j:Value} {c m:Nat} {S:List Nat} (b g:Bool) {r:Bool×List UInt32}
  (h:F.FE b f g l=some r) (a:St S e e [X c [vB b,d],O U d f]) (p:RP S e U j l) (hBa1:RB S e m [vB g,j]):Calls Tryz.prog 177 #[K c 0,K m 0,K c 0] e (Ret fun v w=>∃n:Value,v=K c 0∧St S e w [X c [vB r.1,n],O U n r.2]):=by
 refine aN 29 Tryz.func177 Z Z Z ?_
 refine ar [(0,K c 0),(1,K m 0),(2,K c 0)] ⟨Z,Z,Z,V⟩ ?_
 unfold F.FE at h
 refine M (H (Q 1 Z ?_))
 refine J (N (M ?_))
 have hsh1:=(a.ro 1 Z).shp
 refine bb (fun w'=>St S e w' []) (fun i=>!([1012,1017,18,21].contains i)) bR (fun _ _ _ s=>s.2) (fun _ _ s=>s) (by kernel_rfl) ?_
 have a:=a.drew
 show lxE _ _ _ _ _ _ _ [0,1,2,3,4,5,6,7,8,9,10,11,12,13,14,15,16,17,18,19,20,21,22] _ _
 refine am (a.e [] Z Z) Z Z (fun w hF=>au Z) Z (am (a.e [] Z Z) Z Z (fun w hF=>au Z) Z (am (a.e [] Z Z) Z Z (fun w hF=>aO Z) Z (am (a.e [] Z Z) Z Z (fun w hF=>ax (k:=0) u101 Z Z nz4 Z) Z (am (a.e [] Z Z) Z Z (fun w hF=>aH Tryz.underlying4 Z Z (hBa1.cell hF.fr 0 Z)) Z (am (a.e [] Z Z) Z Z (fun w hF=>au Z) Z (am (a.e [] Z Z) Z Z (fun w hF=>aO Z) Z (am (a.e [] Z Z) Z Z (fun w hF=>ax (k:=1) u101 Z Z da Z) Z (am (a.e [] Z Z) Z Z (fun w hF=>aH u30 Z Z (hBa1.cell hF.fr 1 Z)) Z ?_))))))))
 refine am (a.e [] Z Z) Z Z (fun w hF=>au Z) Z (am (a.e [] Z Z) Z Z (fun w hF=>aO Z) Z (am (a.e [] Z Z) Z Z (fun w hF=>ax (k:=0) u101 Z Z nz4 Z) Z (mg (a.e [] Z Z) Z Z Z (aH Tryz.underlying4 Z Z (a.r 0 Z 0)) Z ?_)))
 refine am (a.e [] Z Z) Z Z (fun w hF=>ij Z (pY b)) Z (am (a.e [] Z Z) Z Z (fun w hF=>au Z) Z (am (a.e [] Z Z) Z Z (fun w hF=>aO Z) Z (am (a.e [] Z Z) Z Z (fun w hF=>ax (k:=1) u101 Z Z da Z) Z (mg (a.e [] Z Z) Z Z Z (aH u30 Z Z (a.r 0 Z 1)) Z ?_))))
 obtain ⟨q,t,h⟩:=aj h
 refine bk (a.e [] Z Z) Z Z (by kernel_rfl) Z (fp g (!b) t (p.d a.fr).rp (a.ro 1 Z).rp) Z ?_
 rintro _ w ⟨x,rfl,o⟩
 have a:=a.f o
 refine am (a.e [] Z Z) Z Z (fun w hF=>ct Z Z) Z (am (a.e [] Z Z) Z Z (fun w hF=>ct Z Z) Z ?_)
 have y:=a.pick (os':=[X c [vB b,d],O U d f,O U x q.2]++[]) [1,2,0] (by decide) Z
 obtain ⟨A,u,h⟩:=aj h
 refine bk (a.e [] Z Z) Z Z (by kernel_rfl) Z (bH b q.1 u y.g ) Z ?_
 rintro _ w ⟨z,rfl,o⟩
 have a:=y.h o
 refine am (a.e [] Z Z) Z Z (fun w hF=>aD Z) Z (bp (a.e [] Z Z) ?_)
 refine N (ay ?_)
 cases h
 exact aM Z Z ⟨z,Z,a.e [0,1] Z Z⟩
theorem kV {x:World} {y au az z:List UInt32} {l an ap m:Value} {e aA aB f:Nat} {S:List Nat} (o ag A p:Bool) {r:Bool×List UInt32×Bool×List UInt32}
  (h:F.EN o y ag au A az p z=some r) (c:St S x x [X e [vB o,l],O U l y,X f [vB p,m],O U m z]) (aL:RP S x U an au) (hBa1:RB S x aA [vB ag,an]) (aq:RP S x U ap az) (hBa2:RB S x aB [vB A,ap]):Calls Tryz.prog 136 #[K e 0,K aA 0,K aB 0,K f 0] x (Ret fun v w=>∃aC aD:Value,v=.tuple #[K e 0,K f 0]∧St S x w [X e [vB r.1,aC],O U aC r.2.1,X f [vB r.2.2.1,aD],O U aD r.2.2.2]):=by
 refine aN 45 Tryz.func136 Z Z Z ?_
 refine ar [(0,K e 0),(1,K aA 0),(2,K aB 0),(3,K f 0)] ⟨Z,Z,Z,Z,V⟩ ?_
 unfold F.EN at h
 refine M (H (Q 2 Z ?_))
 refine J (N (M (H (aU (bg (cs:=[vB false,.slice none 0 0]) cW Z c) Z ?_))))
 rintro _ w ⟨u,rfl,c⟩
 refine Q 1 Z ?_
 replace c:=c.nil U
 have b:=c.pick (os':=[X u [vB false,.slice none 0 0],O U (.slice none 0 0) []]++[X e [vB o,l],O U l y,X f [vB p,m],O U m z]) [1,0,2,3,4,5] (by decide) Z
 obtain ⟨j,aW,h⟩:=aj h
 refine ao Z (eY false A aW b.g (aq.g (R Z) b) (hBa2.g b)) Z ?_
 rintro _ w ⟨n,rfl,d⟩
 have c:=b.h d
 refine Q 1 Z ?_
 refine J (N (M (H (Q 4 Z ?_))))
 have b:=c.pick (os':=[X e [vB o,l],O U l y,X f [vB p,m],O U m z]++[X u [vB j.1,n],O U n j.2]) [2,3,4,5,0,1] (by decide) Z
 obtain ⟨a,aM,h⟩:=aj h
 refine ao Z (gF o ag A p aM b.g (aL.g (R Z) b) (hBa1.g b) (aq.g (R Z) b) (hBa2.g b)) Z ?_
 rintro _ w ⟨q,i,rfl,d⟩
 have c:=b.h d
 refine J (N ?_)
 refine bf (r:=r) (fun (g:Bool×List UInt32×Bool×List UInt32) L w=>∃(B:Value) (C:Value),L=[(0,K e 0),(3,K f 0)]∧St S x w [O U B g.2.1,X e [vB g.1,B],O U C g.2.2.2,X f [vB g.2.2.1,C]]) (F.EX) ?_ ?_
 rotate_left
 ·intro D
  refine M (H (Q 1 Z ?_))
  refine al (aO Z) Z (al (ax (k:=0) u101 Z Z nz4 Z) Z (al (aH Tryz.underlying4 Z Z (c.r 2 Z 0)) Z (J (N ?_))))
  refine av Z (fun E=>?_) (fun E=>?_)
  ·have h:=aJ h E
   refine M (H (Q 1 Z ?_))
   refine al (aO Z) Z (al (ax (k:=0) u101 Z Z nz4 Z) Z (al (aH Tryz.underlying4 Z Z (c.r 4 Z 0)) Z (J (N ?_))))
   refine av Z (fun G=>?_) (fun G=>?_)
   ·have h:=aJ h G
    refine M (H (Q 2 Z ?_))
    obtain ⟨s,aP,h⟩:=aj h
    refine ao Z (cG 1 aP ) Z ?_
    rintro _ w ⟨T,aE,rfl,d⟩
    have c:=c.f d
    have b:=c.pick (os':=[X e [vB a.1,q],O U q a.2.1]++[X aE [vB s.1,T],O U T s.2,X f [vB a.2.2.1,i],O U i a.2.2.2,X u [vB j.1,n],O U n j.2]) [2,3,0,1,4,5,6,7] (by decide) Z
    obtain ⟨ab,aQ,h⟩:=aj h
    refine ao Z (dv a.1 s.1 aQ b.g (b.giveO 1 Z) (b.giveB 0 Z)) Z ?_
    rintro _ w ⟨ak,rfl,d⟩
    have c:=b.h d
    refine J (N (H (Q 3 Z ?_)))
    have b:=c.pick (os':=[X f [vB a.2.2.1,i],O U i a.2.2.2]++[X e [vB ab.1,ak],O U ak ab.2,X aE [vB s.1,T],O U T s.2,X u [vB j.1,n],O U n j.2]) [4,5,0,1,2,3,6,7] (by decide) Z
    obtain ⟨aF,aR,h⟩:=aj h
    refine ao Z (dS a.2.2.1 j.1 aR b.g (b.giveO 5 Z) (b.giveB 4 Z)) Z ?_
    rintro _ w ⟨aX,rfl,d⟩
    have c:=b.h d
    refine J (N ?_)
    exact ar _ (by exact ⟨Z,Z,V⟩) (D (ab.1,ab.2,aF.1,aF.2) _ _ ⟨ak,aX,Z,(c.e [3,2,1,0] Z Z)⟩ h)
   have h:=aI h G
   refine M (H (Q 2 Z ?_))
   obtain ⟨t,aS,h⟩:=aj h
   refine ao Z (cG 1 aS ) Z ?_
   rintro _ w ⟨ac,aG,rfl,d⟩
   have c:=c.f d
   have b:=c.pick (os':=[X e [vB a.1,q],O U q a.2.1]++[X aG [vB t.1,ac],O U ac t.2,X f [vB a.2.2.1,i],O U i a.2.2.2,X u [vB j.1,n],O U n j.2]) [2,3,0,1,4,5,6,7] (by decide) Z
   obtain ⟨ad,aT,h⟩:=aj h
   refine ao Z (dS a.1 t.1 aT b.g (b.giveO 1 Z) (b.giveB 0 Z)) Z ?_
   rintro _ w ⟨am,rfl,d⟩
   have c:=b.h d
   refine J (N (H (Q 3 Z ?_)))
   have b:=c.pick (os':=[X f [vB a.2.2.1,i],O U i a.2.2.2]++[X e [vB ad.1,am],O U am ad.2,X aG [vB t.1,ac],O U ac t.2,X u [vB j.1,n],O U n j.2]) [4,5,0,1,2,3,6,7] (by decide) Z
   obtain ⟨aK,aV,h⟩:=aj h
   refine ao Z (dv a.2.2.1 j.1 aV b.g (b.giveO 5 Z) (b.giveB 4 Z)) Z ?_
   rintro _ w ⟨aY,rfl,d⟩
   have c:=b.h d
   refine J (N ?_)
   exact ar _ (by exact ⟨Z,Z,V⟩) (D (ad.1,ad.2,aK.1,aK.2) _ _ ⟨am,aY,Z,(c.e [3,2,1,0] Z Z)⟩ h)
  have h:=aI h E
  refine aw (N ?_)
  exact ar _ (by exact ⟨Z,Z,V⟩) (D (a.1,a.2.1,a.2.2.1,a.2.2.2) _ _ ⟨q,i,Z,(c.e [1,0,3,2] Z Z)⟩ h)
 rintro ⟨aZ,a0,a1,a2⟩ L w hJ h
 try dsimp only at hJ
 obtain ⟨B,C,rfl,c⟩:=hJ
 unfold F.EX at h
 refine M (H (Q 4 Z ?_))
 refine J (N (ay ?_))
 cases h
 exact bX Z Z Z ⟨B,C,Z,c.e [1,0,3,2] Z Z⟩
theorem jr {w0:World} {x ap y:List UInt32} {l am m:Value} {f aq d:Nat} {S:List Nat} (o z p:Bool) {r:Bool×List UInt32×Bool×List UInt32}
  (h:F.F1 o x z ap p y=some r) (c:St S w0 w0 [X f [vB o,l],O U l x,X d [vB p,m],O U m y]) (an:RP S w0 U am ap) (hBa2:RB S w0 aq [vB z,am]):Calls Tryz.prog 136 #[K f 0,K d 0,K aq 0,K d 0] w0 (Ret fun v w=>∃au az:Value,v=.tuple #[K f 0,K d 0]∧St S w0 w [X f [vB r.1,au],O U au r.2.1,X d [vB r.2.2.1,az],O U az r.2.2.2]):=by
 refine aN 45 Tryz.func136 Z Z Z ?_
 refine ar [(0,K f 0),(1,K d 0),(2,K aq 0),(3,K d 0)] ⟨Z,Z,Z,Z,V⟩ ?_
 unfold F.F1 at h
 refine M (H (Q 2 Z ?_))
 refine J (N (M (H (aU (bg (cs:=[vB false,.slice none 0 0]) cW Z c) Z ?_))))
 rintro _ w ⟨u,rfl,c⟩
 refine Q 1 Z ?_
 replace c:=c.nil U
 have b:=c.pick (os':=[X u [vB false,.slice none 0 0],O U (.slice none 0 0) []]++[X f [vB o,l],O U l x,X d [vB p,m],O U m y]) [1,0,2,3,4,5] (by decide) Z
 obtain ⟨j,aQ,h⟩:=aj h
 refine ao Z (eY false z aQ b.g (an.g (R Z) b) (hBa2.g b)) Z ?_
 rintro _ w ⟨n,rfl,e⟩
 have c:=b.h e
 refine Q 1 Z ?_
 refine J (N (M (H (Q 4 Z ?_))))
 have b:=c.pick (os':=[X f [vB o,l],O U l x,X d [vB p,m],O U m y]++[X u [vB j.1,n],O U n j.2]) [2,3,4,5,0,1] (by decide) Z
 obtain ⟨a,aE,h⟩:=aj h
 refine ao Z (jt o z p aE b.g (an.g (R Z) b) (hBa2.g b)) Z ?_
 rintro _ w ⟨q,i,rfl,e⟩
 have c:=b.h e
 refine J (N ?_)
 refine bf (r:=r) (fun (g:Bool×List UInt32×Bool×List UInt32) L w=>∃(A:Value) (B:Value),L=[(0,K f 0),(3,K d 0)]∧St S w0 w [O U A g.2.1,X f [vB g.1,A],O U B g.2.2.2,X d [vB g.2.2.1,B]]) (F.Fx) ?_ ?_
 rotate_left
 ·intro C
  refine M (H (Q 1 Z ?_))
  refine al (aO Z) Z (al (ax (k:=0) u101 Z Z nz4 Z) Z (al (aH Tryz.underlying4 Z Z (c.r 2 Z 0)) Z (J (N ?_))))
  refine av Z (fun D=>?_) (fun D=>?_)
  ·have h:=aJ h D
   refine M (H (Q 1 Z ?_))
   refine al (aO Z) Z (al (ax (k:=0) u101 Z Z nz4 Z) Z (al (aH Tryz.underlying4 Z Z (c.r 4 Z 0)) Z (J (N ?_))))
   refine av Z (fun E=>?_) (fun E=>?_)
   ·have h:=aJ h E
    refine M (H (Q 2 Z ?_))
    obtain ⟨s,aF,h⟩:=aj h
    refine ao Z (cG 1 aF ) Z ?_
    rintro _ w ⟨G,aA,rfl,e⟩
    have c:=c.f e
    have b:=c.pick (os':=[X f [vB a.1,q],O U q a.2.1]++[X aA [vB s.1,G],O U G s.2,X d [vB a.2.2.1,i],O U i a.2.2.2,X u [vB j.1,n],O U n j.2]) [2,3,0,1,4,5,6,7] (by decide) Z
    obtain ⟨T,aG,h⟩:=aj h
    refine ao Z (dv a.1 s.1 aG b.g (b.giveO 1 Z) (b.giveB 0 Z)) Z ?_
    rintro _ w ⟨ag,rfl,e⟩
    have c:=b.h e
    refine J (N (H (Q 3 Z ?_)))
    have b:=c.pick (os':=[X d [vB a.2.2.1,i],O U i a.2.2.2]++[X f [vB T.1,ag],O U ag T.2,X aA [vB s.1,G],O U G s.2,X u [vB j.1,n],O U n j.2]) [4,5,0,1,2,3,6,7] (by decide) Z
    obtain ⟨aB,aK,h⟩:=aj h
    refine ao Z (dS a.2.2.1 j.1 aK b.g (b.giveO 5 Z) (b.giveB 4 Z)) Z ?_
    rintro _ w ⟨aR,rfl,e⟩
    have c:=b.h e
    refine J (N ?_)
    exact ar _ (by exact ⟨Z,Z,V⟩) (C (T.1,T.2,aB.1,aB.2) _ _ ⟨ag,aR,Z,(c.e [3,2,1,0] Z Z)⟩ h)
   have h:=aI h E
   refine M (H (Q 2 Z ?_))
   obtain ⟨t,aL,h⟩:=aj h
   refine ao Z (cG 1 aL ) Z ?_
   rintro _ w ⟨ab,aC,rfl,e⟩
   have c:=c.f e
   have b:=c.pick (os':=[X f [vB a.1,q],O U q a.2.1]++[X aC [vB t.1,ab],O U ab t.2,X d [vB a.2.2.1,i],O U i a.2.2.2,X u [vB j.1,n],O U n j.2]) [2,3,0,1,4,5,6,7] (by decide) Z
   obtain ⟨ac,aM,h⟩:=aj h
   refine ao Z (dS a.1 t.1 aM b.g (b.giveO 1 Z) (b.giveB 0 Z)) Z ?_
   rintro _ w ⟨ak,rfl,e⟩
   have c:=b.h e
   refine J (N (H (Q 3 Z ?_)))
   have b:=c.pick (os':=[X d [vB a.2.2.1,i],O U i a.2.2.2]++[X f [vB ac.1,ak],O U ak ac.2,X aC [vB t.1,ab],O U ab t.2,X u [vB j.1,n],O U n j.2]) [4,5,0,1,2,3,6,7] (by decide) Z
   obtain ⟨aD,aP,h⟩:=aj h
   refine ao Z (dv a.2.2.1 j.1 aP b.g (b.giveO 5 Z) (b.giveB 4 Z)) Z ?_
   rintro _ w ⟨aS,rfl,e⟩
   have c:=b.h e
   refine J (N ?_)
   exact ar _ (by exact ⟨Z,Z,V⟩) (C (ac.1,ac.2,aD.1,aD.2) _ _ ⟨ak,aS,Z,(c.e [3,2,1,0] Z Z)⟩ h)
  have h:=aI h D
  refine aw (N ?_)
  exact ar _ (by exact ⟨Z,Z,V⟩) (C (a.1,a.2.1,a.2.2.1,a.2.2.2) _ _ ⟨q,i,Z,(c.e [1,0,3,2] Z Z)⟩ h)
 rintro ⟨aT,aV,aW,aX⟩ L w hJ h
 try dsimp only at hJ
 obtain ⟨A,B,rfl,c⟩:=hJ
 unfold F.Fx at h
 refine M (H (Q 4 Z ?_))
 refine J (N (ay ?_))
 cases h
 exact bX Z Z Z ⟨A,B,Z,c.e [1,0,3,2] Z Z⟩
end Go.Proofs
