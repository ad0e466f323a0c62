import Derived.Test.YtkickcbphbgldaaGreatDoorTW0
import Derived.Test.YtkickcbphbgldaaGreatDoorGkFman
import Derived.Test.YtkickcbphbgldaaGreatDoorTWbignuma
set_option linter.unusedVariables false
set_option linter.unusedSimpArgs false
set_option linter.unusedSectionVars false
set_option maxRecDepth 4000
namespace Go.Proofs
open Go Go.RowKit Go.Gk
open Go.Gk renaming aa → P, ae → M, ah → I, ai → H, e32 → U, own → K, pB → N, vB → J
open Nat renaming le_of_ble_eq_true → R
open Go.Gk.OE renaming bx → W
theorem o6 {y:World} {a0:List UInt32} {c:Value} (a1:UInt64) {r:List UInt32}
  (h:F.Fd a0 a1=some r) (b:RP [] y U c a0):Calls Tryz.prog 199 #[c,v64 a1] y (Ret fun v w=>St [] y w [K U v r]):=by
 refine aJ 64 Tryz.func199 Z Z Z ?_
 have a:=St.l y
 refine au [(0,c),(1,v64 a1)] ⟨Z,Z,V⟩ ?_
 unfold F.Fd at h
 refine I (af (P 1 Z ?_))
 refine H (M (I (af (P 1 Z ?_))))
 refine am (aq Z Z (gV _ a1 32 (by decide))) Z ?_
 refine am (aM Z (mF u112 Tryz.underlying3 (a1 / 32))) Z (P 1 Z ?_)
 refine am (aq Z Z (eW _ a1 32 (by decide))) Z ?_
 obtain ⟨l,ab,h⟩:=aO h
 refine am (aB (v:=vI l) (by rw [←ab]; rfl)) Z ?_
 refine P 1 Z ?_
 refine H (M (I (I (af (P 2 Z ?_)))))
 refine am (aN u30 Z (b.d a.fr)) Z (P 1 Z ?_)
 refine H (M ?_)
 refine ax Z (fun f=>?_) (fun f=>?_)
 ·have h:=aG h f
  refine I (af (P 1 Z ?_))
  refine H (M (aw (aD ?_)))
  cases h
  exact aF Z Z ((a.nil U).e [0] Z Z)
 have h:=aH h f
 refine az (M (I (af (P 1 Z ?_))))
 refine am (aN u30 Z (b.d a.fr)) Z (P 2 Z ?_)
 obtain ⟨ak,ac,h⟩:=aj h
 refine aP (de (e:=U) u30 aW Z Z Z a ac) Z ?_
 rintro d w a
 refine P 1 Z ?_
 refine H (M (I (I (af (P 1 Z ?_)))))
 refine H (M (aE ?_))
 refine au [(0,c),(5,vI l),(6,v64 (a1%32)),(7,d),(8,vI 0)] ⟨Z,Z,Z,Z,Z,V⟩ ?_
 refine bk (F.Et a0 l a1) (fun (s:Int×List UInt32) L w=>L=[(0,c),(5,vI l),(6,v64 (a1%32)),(7,d),(8,vI s.1)]∧St [] y w [K U d s.2]) ?_ (0,ak) ⟨Z,a⟩ h
 rintro ar ⟨z,A⟩ L w al hI ad h B
 try dsimp only at hI
 obtain ⟨rfl,a⟩:=hI
 unfold F.Et at h
 refine I (I (af (P 2 Z ?_)))
 refine am (aN u30 Z (a.ro 0 Z)) Z (P 1 Z ?_)
 refine H (M ?_)
 refine ax Z (fun j=>?_) (fun j=>?_)
 ·have h:=aG h j
  refine az (M (I (aE ?_)))
  refine I (af (P 4 Z ?_))
  obtain ⟨m,p,h⟩:=aj h
  refine am (bm u30 aW Z Z (b.d a.fr) p) Z (am (bc u38 Z Z (b.d a.fr) p Z) Z (am (aM Z (bq u38 u87 m)) Z (P 1 Z ?_)))
  refine H (M ?_)
  refine a9 (r:=al) (fun (g:UInt64) L w=>L=[(0,c),(5,vI l),(6,v64 (a1%32)),(7,d),(8,vI z),(9,v64 g)]∧St [] y w [K U d A]) (F.Eg a1 z A) ?_ ?_
  rotate_left
  ·intro q
   refine I (af (P 5 Z ?_))
   refine am (aN u30 Z (b.d a.fr)) Z (P 1 Z ?_)
   refine H (M ?_)
   refine ax Z (fun k=>?_) (fun k=>?_)
   ·have h:=aG h k
    refine af (P 6 Z ?_)
    obtain ⟨n,u,h⟩:=aj h
    refine am (bm u30 aW Z Z (b.d a.fr) u) Z (am (bc u38 Z Z (b.d a.fr) u Z) Z (am (aM Z (bq u38 u87 n)) Z (am (aq Z Z (dc _ n.toUInt64 32)) Z (am (aq Z Z (fa _ m.toUInt64 (bp n.toUInt64 32))) Z ?_))))
    obtain ⟨C,E,h⟩:=aO h
    refine am (aB (v:=v64 C) (by rw [←E]; rfl)) Z ?_
    refine H (M ?_)
    exact au _ (by exact ⟨Z,Z,Z,Z,Z,Z,V⟩) (q C _ _ ⟨Z,a⟩ h)
   have h:=aH h k
   refine az (M ?_)
   exact au _ (by exact ⟨Z,Z,Z,Z,Z,Z,V⟩) (q m.toUInt64 _ _ ⟨Z,a⟩ h)
  rintro o L w hJ h
  try dsimp only at hJ
  obtain ⟨rfl,a⟩:=hJ
  unfold F.Eg at h
  refine af (P 4 Z ?_)
  refine am (aq Z Z (cl _ o (a1%32))) Z (am (aM Z (bW u87 u38 (aQ o ((a1%32).toNat)))) Z ?_)
  obtain ⟨av,x,h⟩:=aj h
  refine am (bm u30 aW Z Z (a.ro 0 Z) x) Z (bb (cc (t:=((aQ o ((a1%32).toNat)).toUInt32)) aW Z Z a (i:=0) Z x Z) ?_)
  intro w a
  obtain ⟨ag,G,h⟩:=aO h
  rw [G]at a
  refine H (aU ?_)
  refine M (af (P 3 Z ?_))
  refine H ?_
  exact bv (bz _ (by exact ⟨Z,Z,Z,Z,Z,V⟩) (ad (wI (z+1),ag) _ _ ⟨Z,a⟩ (ba h B)))
 have h:=aH h j
 refine bh ?_
 refine aI (aI ?_)
 have h:=aX h B
 refine bg ?_
 refine M (I (af (P 1 Z ?_)))
 have hG:=a.pick (os':=[K U d A]++[]) [0] (by decide) Z
 obtain ⟨ay,S,h⟩:=aj h
 refine ao Z (c8  S hG.g ) Z ?_
 rintro aA w ⟨ap,D,T⟩
 rw [←D]at T
 have a:=hG.h T
 refine P 1 Z ?_
 refine H (M (aw ?_))
 cases h
 exact aF Z Z (a.e [0] Z Z)
theorem jr {A:World} {a0 a1:List UInt32} {bQ bR:Value} {r:List UInt32×List UInt32}
  (h:F.Dn a0 a1=some r) (G:RP [] A U bQ a0) (D:RP [] A U bR a1):Calls Tryz.prog 193 #[bQ,bR] A (Ret fun v w=>∃u0 u1:Value,v=.tuple #[u0,u1]∧St [] A w [K U u0 r.1,K U u1 r.2]):=by
 refine aJ 273 Tryz.func193 Z Z Z ?_
 have a:=St.l A
 refine au [(0,bQ),(1,bR)] ⟨Z,Z,V⟩ ?_
 unfold F.Dn at h
 refine I (af (P 2 Z ?_))
 refine H (M (I (I (af (P 1 Z ?_)))))
 refine am (aN u30 Z (D.d a.fr)) Z (P 1 Z ?_)
 refine H (M ?_)
 refine ax Z (fun S=>?_) (fun S=>?_)
 ·have h:=aG h S
  refine I (af (P 2 Z ?_))
  refine H (M (aw (aD ?_)))
  cases h
  exact bX Z Z Z ⟨.slice none 0 0,.slice none 0 0,Z,((a.nil U).nil U).e [1,0] Z Z⟩
 have h:=aH h S
 refine az (M (I (I (af (P 2 Z ?_)))))
 obtain ⟨du,cJ,h⟩:=aj h
 refine ao Z (jn  cJ (G.d a.fr).rp (D.d a.fr).rp) Z ?_
 rintro _ w ⟨rfl,k⟩
 have a:=a.f k
 refine P 1 Z ?_
 refine H (M ?_)
 refine ax Z (fun T=>?_) (fun T=>?_)
 ·have h:=aG h T
  refine I (af (P 1 Z ?_))
  obtain ⟨dv,cK,h⟩:=aj h
  refine ao Z (iH  cK (G.d a.fr).rp) Z ?_
  rintro c2 w k
  have a:=a.f k
  refine P 2 Z ?_
  refine H (M (aw (aD ?_)))
  cases h
  exact bX Z Z Z ⟨.slice none 0 0,c2,Z,(a.nil U).e [0,1] Z Z⟩
 have h:=aH h T
 refine az (M (I (I (af (P 1 Z ?_)))))
 refine am (aN u30 Z (G.d a.fr)) Z (P 1 Z ?_)
 refine H (M ?_)
 refine ax Z (fun ab=>?_) (fun ab=>?_)
 ·have h:=aG h ab
  refine I (af (P 1 Z ?_))
  obtain ⟨bd,cL,h⟩:=aj h
  refine ao Z (j5  cL (G.d a.fr).rp) Z ?_
  rintro _ w ⟨rfl,k⟩
  have a:=a.f k
  refine P 1 Z ?_
  obtain ⟨be,cM,h⟩:=aj h
  refine ao Z (j5  cM (D.d a.fr).rp) Z ?_
  rintro _ w ⟨rfl,k⟩
  have a:=a.f k
  refine P 2 Z ?_
  refine H (M (I ?_))
  refine aZ (fun w'=>St [] A w' []) (fun i=>!([3,7].contains i)) bS (fun _ _ _ y=>y.2) (fun _ _ y=>y) (by kernel_rfl) ?_
  have a:=a.drew
  show lxE _ _ _ _ _ _ _ [0,1,2,3,4,5,6,7,8,9] _ _
  refine al a Z Z (fun w hF=>ar Z) Z (al a Z Z (fun w hF=>ar Z) Z ?_)
  obtain ⟨cN,h⟩:=bZ h
  refine al a Z Z (fun w hF=>aq Z Z (gV _ bd be cN)) Z ?_
  obtain ⟨dw,cO,h⟩:=aj h
  refine bj a Z Z (by kernel_rfl) Z (eg (bd / be) cO ) Z ?_
  rintro c3 w k
  have a:=a.f k
  refine al (a.e [] Z Z) Z Z (fun w hF=>ar Z) Z (al (a.e [] Z Z) Z Z (fun w hF=>ar Z) Z ?_)
  obtain ⟨cb,h⟩:=bZ h
  refine al (a.e [] Z Z) Z Z (fun w hF=>aq Z Z (eW _ bd be cb)) Z ?_
  obtain ⟨dg,cd,h⟩:=aj h
  refine bj (a.e [] Z Z) Z Z (by kernel_rfl) Z (eg (bd%be) cd ) Z ?_
  rintro cP w k
  have a:=a.f k
  refine al (a.e [] Z Z) Z Z (fun w hF=>aB Z) Z (al (a.e [] Z Z) Z Z (fun w hF=>aB Z) Z (bn (a.e [] Z Z) ?_))
  refine M (aw (aD ?_))
  cases h
  exact bX Z Z Z ⟨c3,cP,Z,a.e [1,0] Z Z⟩
 have h:=aH h ab
 refine az (M (I (I (af (P 1 Z ?_)))))
 refine am (aN u30 Z (D.d a.fr)) Z (P 1 Z ?_)
 refine H (M ?_)
 refine ax Z (fun ac=>?_) (fun ac=>?_)
 ·have h:=aG h ac
  refine I (af (P 2 Z ?_))
  obtain ⟨cR,bi,h⟩:=aj h
  refine am (bm u30 aW Z Z (D.d a.fr) bi) Z (am (bc u38 Z Z (D.d a.fr) bi Z) Z ?_)
  obtain ⟨ay,ce,h⟩:=aj h
  refine ao Z (pt cR ce (G.d a.fr).rp) Z ?_
  rintro _ w ⟨bT,rfl,k⟩
  have a:=a.f k
  refine P 5 Z ?_
  refine H (M (I (af (P 2 Z ?_))))
  refine aP (cQ (e:=U) (l:=([ay.2]:List UInt32)) (vs:=[v32 ay.2]) u30 aW Z Z Z Z (by decide) (by decide) a) Z ?_
  rintro cS w a
  have hG:=a.pick (os':=[K U cS ([ay.2]:List UInt32)]++[K U bT ay.1]) [0,1] (by decide) Z
  obtain ⟨dh,cf,h⟩:=aj h
  refine ao Z (c8  cf hG.g ) Z ?_
  rintro cT w ⟨c6,bU,k⟩
  rw [←bU]at k
  have a:=hG.h k
  refine P 2 Z ?_
  refine H (M (aw (aD ?_)))
  cases h
  exact bX Z Z Z ⟨bT,cT,Z,a.e [1,0] Z Z⟩
 have h:=aH h ac
 refine az (M (I (af (P 1 Z ?_))))
 obtain ⟨bV,cg,h⟩:=aj h
 refine ao Z (gC  cg (D.d a.fr).rp) Z ?_
 rintro _ w ⟨rfl,k⟩
 have a:=a.f k
 refine P 1 Z ?_
 refine am (aq Z Z (kh _ (wI (bV - 1)) 32 (by decide))) Z ?_
 refine P 2 Z ?_
 refine am (aM Z (fb Tryz.underlying3 u112 (wI ((wI (32 - (Int.tmod (wI (bV - 1)) 32))) - 1)))) Z ?_
 obtain ⟨o,ch,h⟩:=aO h
 refine am (aB (v:=v64 o) (by rw [←ch]; rfl)) Z ?_
 refine H (M (I (af (P 2 Z ?_))))
 obtain ⟨b,ci,h⟩:=aj h
 refine ao Z (iD o ci (D.d a.fr).rp) Z ?_
 rintro c w k
 have a:=a.f k
 refine P 1 Z ?_
 refine H (M (I (af (P 1 Z ?_))))
 refine am (aN u30 Z (G.d a.fr)) Z (P 1 Z ?_)
 obtain ⟨di,cj,h⟩:=aj h
 refine aP (de (e:=U) u30 aW Z Z Z a cj) Z ?_
 rintro d w a
 refine P 1 Z ?_
 refine H (M (I (af (P 3 Z ?_))))
 obtain ⟨cU,ck,h⟩:=aj h
 refine ao Z (iD o ck (G.d a.fr).rp) Z ?_
 rintro cV w k
 have a:=a.f k
 refine aP (we (e:=U) u30 aW Z Z Z a (i:=1) Z (a.ro 0 Z)) Z ?_
 rintro v_q w ⟨hv_q,a⟩
 subst v_q
 obtain ⟨bY,cm,h⟩:=aO h
 rw [cm]at a
 refine H (M (I (af (P 1 Z ?_))))
 refine am (aN u30 Z (a.ro 2 Z)) Z (P 1 Z ?_)
 refine H (M (I (af (P 1 Z ?_))))
 refine am (aN u30 Z (a.ro 1 Z)) Z (P 3 Z ?_)
 obtain ⟨aY,cn,h⟩:=aO h
 refine am (aB (v:=vI aY) (by rw [←cn]; rfl)) Z ?_
 refine H (M (I (af (P 2 Z ?_))))
 obtain ⟨b0,co,h⟩:=aj h
 refine aP (de (e:=U) u30 aW Z Z Z a co) Z ?_
 rintro j w a
 refine P 1 Z ?_
 refine H (M (I ?_))
 refine aZ (fun w'=>St [] A w' [K U j b0,K U cV cU,K U d bY,K U c b]) (fun _=>true) bS (fun _ _ _ y=>y.2) (fun _ _ y=>y) (by kernel_rfl) ?_
 have a:=a.drew
 show lxE _ _ _ _ _ _ _ [0,1,2,3,4,5,6,7,8,9,10,11,12,13] _ _
 refine al a Z Z (fun w hF=>ar Z) Z (al a Z Z (fun w hF=>ar Z) Z (al a Z Z (fun w hF=>aq Z Z (dN _ (b.length:Int) 1)) Z ?_))
 obtain ⟨f,bl,h⟩:=aj h
 refine al a Z Z (fun w hF=>bm u30 aW Z Z (hF.ro 3 Z) bl) Z (al a Z Z (fun w hF=>bc u38 Z Z (hF.ro 3 Z) bl Z) Z (al a Z Z (fun w hF=>aM Z (bq u38 u87 f)) Z (al a Z Z (fun w hF=>ar Z) Z (al a Z Z (fun w hF=>ar Z) Z (al a Z Z (fun w hF=>aq Z Z (dN _ (b.length:Int) 2)) Z ?_)))))
 obtain ⟨n,bo,h⟩:=aj h
 refine al a Z Z (fun w hF=>bm u30 aW Z Z (hF.ro 3 Z) bo) Z (al a Z Z (fun w hF=>bc u38 Z Z (hF.ro 3 Z) bo Z) Z (al a Z Z (fun w hF=>aM Z (bq u38 u87 n)) Z (al a Z Z (fun w hF=>aB Z) Z (al a Z Z (fun w hF=>aB Z) Z (bn a ?_)))))
 refine M (I (I (af (P 2 Z ?_))))
 refine H (M (aE ?_))
 refine au [(10,v64 o),(11,c),(12,d),(13,vI (b.length:Int)),(15,j),(16,v64 f.toUInt64),(17,v64 n.toUInt64),(18,vI aY)] ⟨Z,Z,Z,Z,Z,Z,Z,Z,V⟩ ?_
 refine bk (F.De o b f n) (fun (s:Int×List UInt32×List UInt32) L w=>L=[(10,v64 o),(11,c),(12,d),(13,vI (b.length:Int)),(15,j),(16,v64 f.toUInt64),(17,v64 n.toUInt64),(18,vI s.1)]∧St [] A w [K U c b,K U d s.2.1,K U j s.2.2]) ?_ (aY,bY,b0) ⟨Z,(a.e [3,2,0] Z Z)⟩ h
 rintro c7 ⟨m,q,p⟩ L w b1 hI cp h br
 try dsimp only at hI
 obtain ⟨rfl,a⟩:=hI
 unfold F.De at h
 refine I (I (af (P 2 Z ?_)))
 refine H (M ?_)
 refine ax Z (fun ad=>?_) (fun ad=>?_)
 ·have h:=aG h ad
  refine az (M (I (aE ?_)))
  refine I ?_
  refine aZ (fun w'=>St [] A w' [K U c b,K U d q,K U j p]) (fun _=>true) bS (fun _ _ _ y=>y.2) (fun _ _ y=>y) (by kernel_rfl) ?_
  have a:=a.drew
  show lxE _ _ _ _ _ _ _ [0,1,2,3,4,5,6,7,8,9,10,11,12,13,14,15,16,17] _ _
  refine al a Z Z (fun w hF=>ar Z) Z (al a Z Z (fun w hF=>ar Z) Z (al a Z Z (fun w hF=>ar Z) Z (al a Z Z (fun w hF=>aq Z Z (l7 _ m (b.length:Int))) Z ?_)))
  obtain ⟨a2,bs,h⟩:=aj h
  refine al a Z Z (fun w hF=>bm u30 aW Z Z (hF.ro 1 Z) bs) Z (al a Z Z (fun w hF=>bc u38 Z Z (hF.ro 1 Z) bs Z) Z (al a Z Z (fun w hF=>aM Z (bq u38 u87 a2)) Z (al a Z Z (fun w hF=>aq Z Z (dc _ a2.toUInt64 32)) Z (al a Z Z (fun w hF=>ar Z) Z (al a Z Z (fun w hF=>ar Z) Z (al a Z Z (fun w hF=>ar Z) Z (al a Z Z (fun w hF=>aq Z Z (l7 _ m (b.length:Int))) Z (al a Z Z (fun w hF=>aq Z Z (dN _ (wI (m+(b.length:Int))) 1)) Z ?_))))))))
  obtain ⟨b2,bt,h⟩:=aj h
  refine al a Z Z (fun w hF=>bm u30 aW Z Z (hF.ro 1 Z) bt) Z (al a Z Z (fun w hF=>bc u38 Z Z (hF.ro 1 Z) bt Z) Z (al a Z Z (fun w hF=>aM Z (bq u38 u87 b2)) Z (al a Z Z (fun w hF=>aq Z Z (fa _ (bp a2.toUInt64 32) b2.toUInt64)) Z ?_)))
  obtain ⟨B,cq,h⟩:=aO h
  refine al a Z Z (fun w hF=>aB (v:=v64 B) (by rw [←cq]; rfl)) Z ?_
  refine bn a ?_
  refine M (I ?_)
  refine aZ (fun w'=>St [] A w' [K U c b,K U d q,K U j p]) (fun _=>true) bS (fun _ _ _ y=>y.2) (fun _ _ y=>y) (by kernel_rfl) ?_
  have a:=a.drew
  show lxE _ _ _ _ _ _ _ [0,1,2,3,4,5,6,7] _ _
  refine al a Z Z (fun w hF=>ar Z) Z (al a Z Z (fun w hF=>ar Z) Z ?_)
  obtain ⟨cs,h⟩:=bZ h
  refine al a Z Z (fun w hF=>aq Z Z (gV _ B f.toUInt64 cs)) Z (al a Z Z (fun w hF=>ar Z) Z (al a Z Z (fun w hF=>ar Z) Z ?_))
  obtain ⟨ct,h⟩:=bZ h
  refine al a Z Z (fun w hF=>aq Z Z (eW _ B f.toUInt64 ct)) Z (al a Z Z (fun w hF=>aB Z) Z (al a Z Z (fun w hF=>aB Z) Z (bn a ?_)))
  refine M ?_
  refine a9 (r:=b1) (fun (g:UInt64) L w=>L=[(10,v64 o),(11,c),(12,d),(13,vI (b.length:Int)),(15,j),(16,v64 f.toUInt64),(17,v64 n.toUInt64),(18,vI m),(20,v64 g)]∧St [] A w [K U c b,K U d q,K U j p]) (F.Dg q b m p) ?_ ?_
  rotate_left
  ·intro bu
   refine aE ?_
   refine au [(10,v64 o),(11,c),(12,d),(13,vI (b.length:Int)),(15,j),(16,v64 f.toUInt64),(17,v64 n.toUInt64),(18,vI m),(20,v64 (B / f.toUInt64)),(21,v64 (B%f.toUInt64))] ⟨Z,Z,Z,Z,Z,Z,Z,Z,Z,Z,V⟩ ?_
   refine bk (F.DQ b n m q f p) (fun (s:UInt64×UInt64) L w=>L=[(10,v64 o),(11,c),(12,d),(13,vI (b.length:Int)),(15,j),(16,v64 f.toUInt64),(17,v64 n.toUInt64),(18,vI m),(20,v64 s.1),(21,v64 s.2)]∧St [] A w [K U c b,K U d q,K U j p]) ?_ (B / f.toUInt64,B%f.toUInt64) ⟨Z,a⟩ h
   rintro dj ⟨u,z⟩ L w cW hI cu h aA
   try dsimp only at hI
   obtain ⟨rfl,a⟩:=hI
   unfold F.DQ at h
   refine I ?_
   refine a9 (r:=cW) (fun (g:Bool) L w=>L=[(10,v64 o),(11,c),(12,d),(13,vI (b.length:Int)),(15,j),(16,v64 f.toUInt64),(17,v64 n.toUInt64),(18,vI m),(20,v64 u),(21,v64 z),(154,J g)]∧St [] A w [K U c b,K U d q,K U j p]) (F.Cg f u z q b m p) ?_ ?_
   rotate_left
   ·intro bw
    refine af (P 1 Z ?_)
    refine am (aq Z Z (my _ u 4294967295)) Z (P 1 Z ?_)
    cases E:(decide ((4294967295:UInt64)<u))
    case true=>
     have h:=aG h E
     try simp only [E]
     refine P 16 Z ?_
     refine H (M ?_)
     exact au _ (by exact ⟨Z,Z,Z,Z,Z,Z,Z,Z,Z,Z,Z,V⟩) (bw true _ _ ⟨Z,a⟩ h)
    case false=>
     have h:=aH h E
     try simp only [E]
     refine P 2 Z ?_
     refine bf (t:=138) Z Z (aq Z Z (gY _ u n.toUInt64)) Z (P 1 Z ?_)
     refine bf (t:=138) Z Z (aq Z Z (dc _ z 32)) Z (P 5 Z ?_)
     obtain ⟨aC,bx,h⟩:=aj h
     refine bf (t:=138) Z Z (bm u30 aW Z Z (a.ro 1 Z) bx) Z (bf (t:=138) Z Z (bc u38 Z Z (a.ro 1 Z) bx Z) Z (bf (t:=138) Z Z (aM Z (bq u38 u87 aC)) Z (bf (t:=138) Z Z (aq Z Z (fa _ (bp z 32) aC.toUInt64)) Z (bf (t:=138) Z Z (aq Z Z (my _ (u*n.toUInt64) ((bp z 32) ||| aC.toUInt64))) Z (P 1 Z ?_)))))
     refine H (M ?_)
     exact au _ (by exact ⟨Z,Z,Z,Z,Z,Z,Z,Z,Z,Z,Z,V⟩) (bw (decide (((bp z 32) ||| aC.toUInt64)<(u*n.toUInt64))) _ _ ⟨Z,a⟩ h)
   rintro dk L w hJ h
   try dsimp only at hJ
   obtain ⟨rfl,a⟩:=hJ
   unfold F.Cg at h
   refine ax Z (fun aF=>?_) (fun aF=>?_)
   ·have h:=aG h aF
    refine az (M (aE ?_))
    refine I (af (P 1 Z ?_))
    refine am (aq Z Z (eH _ u 1)) Z (P 1 Z ?_)
    refine H (M (I (af (P 2 Z ?_))))
    refine am (aq Z Z (cr _ z f.toUInt64)) Z (P 1 Z ?_)
    refine H (M (I (af (P 1 Z ?_))))
    refine am (aq Z Z (my _ (z+f.toUInt64) 4294967295)) Z (H (M ?_))
    refine ax Z (fun aK=>?_) (fun aK=>?_)
    ·have h:=aG h aK
     refine bh ?_
     refine nh Z ?_
     refine aI ?_
     have h:=aX h aA
     refine bg ?_
     refine M ?_
     exact au _ (by exact ⟨Z,Z,Z,Z,Z,Z,Z,Z,Z,V⟩) (bu (u - 1) _ _ ⟨Z,a⟩ h)
    have h:=aH h aK
    refine az (aU ?_)
    exact bv (bz _ (by exact ⟨Z,Z,Z,Z,Z,Z,Z,Z,Z,Z,V⟩) (cu (u - 1,z+f.toUInt64) _ _ ⟨Z,a⟩ (ba h aA)))
   have h:=aH h aF
   refine bh ?_
   refine aI (aI ?_)
   have h:=aX h aA
   refine bg ?_
   refine M ?_
   exact au _ (by exact ⟨Z,Z,Z,Z,Z,Z,Z,Z,Z,V⟩) (bu u _ _ ⟨Z,a⟩ h)
  rintro x L w hJ h
  try dsimp only at hJ
  obtain ⟨rfl,a⟩:=hJ
  unfold F.Dg at h
  refine I (af (P 2 Z ?_))
  refine H (M (I (I (af (P 1 Z ?_)))))
  refine H (M (aE ?_))
  refine au [(10,v64 o),(11,c),(12,d),(13,vI (b.length:Int)),(15,j),(16,v64 f.toUInt64),(17,v64 n.toUInt64),(18,vI m),(20,v64 x),(22,v64 0),(23,v64 0),(24,vI 0)] ⟨Z,Z,Z,Z,Z,Z,Z,Z,Z,Z,Z,Z,V⟩ ?_
  refine bk (F.C4 b m x p) (fun (s:UInt64×UInt64×Int×List UInt32) L w=>L=[(10,v64 o),(11,c),(12,d),(13,vI (b.length:Int)),(15,j),(16,v64 f.toUInt64),(17,v64 n.toUInt64),(18,vI m),(20,v64 x),(22,v64 s.1),(23,v64 s.2.1),(24,vI s.2.2.1)]∧St [] A w [K U c b,K U d s.2.2.2,K U j p]) ?_ (0,0,0,q) ⟨Z,a⟩ h
  rintro c9 ⟨a3,b3,cX,dl⟩ L w dm hI cv h bA
  try dsimp only at hI
  obtain ⟨rfl,a⟩:=hI
  unfold F.C4 at h
  refine I (I (af (P 3 Z ?_)))
  refine H (M ?_)
  refine ax Z (fun ag=>?_) (fun ag=>?_)
  ·have h:=aG h ag
   refine az (M (I (aE ?_)))
   refine I (af (P 4 Z ?_))
   obtain ⟨a4,bB,h⟩:=aj h
   refine am (bm u30 aW Z Z (a.ro 0 Z) bB) Z (am (bc u38 Z Z (a.ro 0 Z) bB Z) Z (am (aM Z (bq u38 u87 a4)) Z (am (aq Z Z (gY _ x a4.toUInt64)) Z (am (aq Z Z (cr _ a3 (x*a4.toUInt64))) Z ?_))))
   obtain ⟨C,cw,h⟩:=aO h
   refine am (aB (v:=v64 C) (by rw [←cw]; rfl)) Z ?_
   refine H (M (I (af (P 4 Z ?_))))
   obtain ⟨a5,bC,h⟩:=aj h
   refine am (bm u30 aW Z Z (a.ro 1 Z) bC) Z (am (bc u38 Z Z (a.ro 1 Z) bC Z) Z (am (aM Z (bq u38 u87 a5)) Z (P 1 Z ?_)))
   refine am (aM Z (bW u87 u38 C)) Z (am (aM Z (bq u38 u87 C.toUInt32)) Z (am (aq Z Z (eH _ a5.toUInt64 C.toUInt32.toUInt64)) Z (P 1 Z ?_)))
   refine am (aq Z Z (eH _ (a5.toUInt64 - C.toUInt32.toUInt64) b3)) Z ?_
   obtain ⟨ak,cx,h⟩:=aO h
   refine am (aB (v:=v64 ak) (by rw [←cx]; rfl)) Z ?_
   refine H (M (I (af (P 5 Z ?_))))
   refine am (aM Z (bW u87 u38 ak)) Z ?_
   obtain ⟨dn,bD,h⟩:=aj h
   refine am (bm u30 aW Z Z (a.ro 1 Z) bD) Z (bb (cc (t:=ak.toUInt32) aW Z Z a (i:=1) Z bD Z) ?_)
   intro w a
   obtain ⟨cY,cy,h⟩:=aO h
   rw [cy]at a
   refine H (M (I (af (P 1 Z ?_))))
   refine am (aq Z Z (cl _ ak 63)) Z (P 1 Z ?_)
   refine H (M (af (P 1 Z ?_)))
   refine am (aq Z Z (cl _ C 32)) Z (P 1 Z ?_)
   refine H (aU ?_)
   refine M (af (P 3 Z ?_))
   refine H ?_
   exact bv (bz _ (by exact ⟨Z,Z,Z,Z,Z,Z,Z,Z,Z,Z,Z,Z,V⟩) (cv (aQ C 32,aQ ak 63,wI (cX+1),cY) _ _ ⟨Z,a⟩ (ba h bA)))
  have h:=aH h ag
  refine bh ?_
  refine aI (aI ?_)
  have h:=aX h bA
  refine bg ?_
  refine M (I (af (P 4 Z ?_)))
  obtain ⟨a6,bE,h⟩:=aj h
  refine am (bm u30 aW Z Z (a.ro 1 Z) bE) Z (am (bc u38 Z Z (a.ro 1 Z) bE Z) Z (am (aM Z (bq u38 u87 a6)) Z (P 1 Z ?_)))
  refine am (aq Z Z (eH _ a6.toUInt64 a3)) Z (P 1 Z ?_)
  refine am (aq Z Z (eH _ (a6.toUInt64 - a3) b3)) Z ?_
  obtain ⟨an,cz,h⟩:=aO h
  refine am (aB (v:=v64 an) (by rw [←cz]; rfl)) Z ?_
  refine H (M (I (af (P 5 Z ?_))))
  refine am (aM Z (bW u87 u38 an)) Z ?_
  obtain ⟨dp,bF,h⟩:=aj h
  refine am (bm u30 aW Z Z (a.ro 1 Z) bF) Z (bb (cc (t:=an.toUInt32) aW Z Z a (i:=1) Z bF Z) ?_)
  intro w a
  obtain ⟨b4,cA,h⟩:=aO h
  rw [cA]at a
  refine H (M ?_)
  refine a9 (r:=b1) (fun (g:UInt64×List UInt32) L w=>L=[(10,v64 o),(11,c),(12,d),(13,vI (b.length:Int)),(15,j),(16,v64 f.toUInt64),(17,v64 n.toUInt64),(18,vI m),(20,v64 g.1)]∧St [] A w [K U c b,K U d g.2,K U j p]) (F.CK m p) ?_ ?_
  rotate_left
  ·intro aT
   refine I (af (P 1 Z ?_))
   refine am (aq Z Z (cl _ an 63)) Z (am (aq Z Z (zE _ (aQ an 63) 0)) Z (H (M ?_)))
   refine ax Z (fun ap=>?_) (fun ap=>?_)
   ·have h:=aG h ap
    refine I (af (P 1 Z ?_))
    refine am (aq Z Z (eH _ x 1)) Z (P 1 Z ?_)
    refine H (M (I (af (P 1 Z ?_))))
    refine H (M (I (I (af (P 1 Z ?_)))))
    refine H (M (aE ?_))
    refine au [(10,v64 o),(11,c),(12,d),(13,vI (b.length:Int)),(15,j),(16,v64 f.toUInt64),(17,v64 n.toUInt64),(18,vI m),(20,v64 (x - 1)),(22,v64 0),(27,vI 0)] ⟨Z,Z,Z,Z,Z,Z,Z,Z,Z,Z,Z,V⟩ ?_
    refine bk (F.CR b m x p) (fun (s:UInt64×Int×List UInt32) L w=>L=[(10,v64 o),(11,c),(12,d),(13,vI (b.length:Int)),(15,j),(16,v64 f.toUInt64),(17,v64 n.toUInt64),(18,vI m),(20,v64 (x - 1)),(22,v64 s.1),(27,vI s.2.1)]∧St [] A w [K U c b,K U d s.2.2,K U j p]) ?_ (0,0,b4) ⟨Z,a⟩ h
    rintro dq ⟨aL,b5,cZ⟩ L w dr hI cB h bG
    try dsimp only at hI
    obtain ⟨rfl,a⟩:=hI
    unfold F.CR at h
    refine I (I (af (P 3 Z ?_)))
    refine H (M ?_)
    refine ax Z (fun aR=>?_) (fun aR=>?_)
    ·have h:=aG h aR
     refine az (M (I (aE ?_)))
     refine I ?_
     refine aZ (fun w'=>St [] A w' [K U c b,K U d cZ,K U j p]) (fun _=>true) bS (fun _ _ _ y=>y.2) (fun _ _ y=>y) (by kernel_rfl) ?_
     have a:=a.drew
     show lxE _ _ _ _ _ _ _ [0,1,2,3,4,5,6,7,8,9,10,11,12,13,14,15] _ _
     refine al a Z Z (fun w hF=>ar Z) Z (al a Z Z (fun w hF=>ar Z) Z (al a Z Z (fun w hF=>ar Z) Z (al a Z Z (fun w hF=>ar Z) Z (al a Z Z (fun w hF=>aq Z Z (l7 _ b5 m)) Z ?_))))
     obtain ⟨a7,bH,h⟩:=aj h
     refine al a Z Z (fun w hF=>bm u30 aW Z Z (hF.ro 1 Z) bH) Z (al a Z Z (fun w hF=>bc u38 Z Z (hF.ro 1 Z) bH Z) Z (al a Z Z (fun w hF=>aM Z (bq u38 u87 a7)) Z (al a Z Z (fun w hF=>ar Z) Z (al a Z Z (fun w hF=>ar Z) Z ?_))))
     obtain ⟨a8,bI,h⟩:=aj h
     refine al a Z Z (fun w hF=>bm u30 aW Z Z (hF.ro 0 Z) bI) Z (al a Z Z (fun w hF=>bc u38 Z Z (hF.ro 0 Z) bI Z) Z (al a Z Z (fun w hF=>aM Z (bq u38 u87 a8)) Z (al a Z Z (fun w hF=>aq Z Z (cr _ a7.toUInt64 a8.toUInt64)) Z (al a Z Z (fun w hF=>aq Z Z (cr _ aL (a7.toUInt64+a8.toUInt64))) Z ?_))))
     obtain ⟨av,cC,h⟩:=aO h
     refine al a Z Z (fun w hF=>aB (v:=v64 av) (by rw [←cC]; rfl)) Z ?_
     refine bn a ?_
     refine M (I (af (P 5 Z ?_)))
     refine am (aM Z (bW u87 u38 av)) Z ?_
     obtain ⟨ds,bJ,h⟩:=aj h
     refine am (bm u30 aW Z Z (a.ro 1 Z) bJ) Z (bb (cc (t:=av.toUInt32) aW Z Z a (i:=1) Z bJ Z) ?_)
     intro w a
     obtain ⟨c0,cD,h⟩:=aO h
     rw [cD]at a
     refine H (M (af (P 1 Z ?_)))
     refine am (aq Z Z (cl _ av 32)) Z (P 1 Z ?_)
     refine H (aU ?_)
     refine M (af (P 3 Z ?_))
     refine H ?_
     exact bv (bz _ (by exact ⟨Z,Z,Z,Z,Z,Z,Z,Z,Z,Z,Z,V⟩) (cB (aQ av 32,wI (b5+1),c0) _ _ ⟨Z,a⟩ (ba h bG)))
    have h:=aH h aR
    refine bh ?_
    refine aI (aI ?_)
    have h:=aX h bG
    refine bg ?_
    refine M (af (P 4 Z ?_))
    obtain ⟨b6,bK,h⟩:=aj h
    refine am (bm u30 aW Z Z (a.ro 1 Z) bK) Z (am (bc u38 Z Z (a.ro 1 Z) bK Z) Z (P 1 Z ?_))
    refine am (aM Z (bW u87 u38 aL)) Z (am (aq Z Z (eG _ b6 aL.toUInt32)) Z ?_)
    obtain ⟨dt,bL,h⟩:=aj h
    refine am (bm u30 aW Z Z (a.ro 1 Z) bL) Z (bb (cc (t:=(b6+aL.toUInt32)) aW Z Z a (i:=1) Z bL Z) ?_)
    intro w a
    obtain ⟨c1,cE,h⟩:=aO h
    rw [cE]at a
    refine H (M ?_)
    exact au _ (by exact ⟨Z,Z,Z,Z,Z,Z,Z,Z,Z,V⟩) (aT (x - 1,c1) _ _ ⟨Z,a⟩ h)
   have h:=aH h ap
   refine az (M ?_)
   exact au _ (by exact ⟨Z,Z,Z,Z,Z,Z,Z,Z,Z,V⟩) (aT (x,b4) _ _ ⟨Z,a⟩ h)
  rintro ⟨bM,cF⟩ L w hJ h
  try dsimp only at hJ
  obtain ⟨rfl,a⟩:=hJ
  unfold F.CK at h
  refine af (P 3 Z ?_)
  refine am (aM Z (bW u87 u38 bM)) Z ?_
  obtain ⟨da,aV,h⟩:=aj h
  refine am (bm u30 aW Z Z (a.ro 2 Z) aV) Z (bb (cc (t:=bM.toUInt32) aW Z Z a (i:=2) Z aV Z) ?_)
  intro w a
  obtain ⟨cG,b7,h⟩:=aO h
  rw [b7]at a
  refine H (aU ?_)
  refine M (af (P 3 Z ?_))
  refine H ?_
  exact bv (bz _ (by exact ⟨Z,Z,Z,Z,Z,Z,Z,Z,V⟩) (cp (wI (m - 1),cF,cG) _ _ ⟨Z,a⟩ (ba h br)))
 have h:=aH h ad
 refine bh ?_
 refine aI (aI ?_)
 have h:=aX h br
 refine bg ?_
 refine M (I (af (P 1 Z ?_)))
 have hG:=a.pick (os':=[K U j p]++[K U c b,K U d q]) [2,0,1] (by decide) Z
 obtain ⟨cH,b8,h⟩:=aj h
 refine ao Z (c8  b8 hG.g ) Z ?_
 rintro bN w ⟨c4,bO,k⟩
 rw [←bO]at k
 have a:=hG.h k
 refine P 1 Z ?_
 have hG:=a.pick (os':=[K U d q]++[K U bN cH,K U c b]) [2,0,1] (by decide) Z
 obtain ⟨db,b9,h⟩:=aj h
 refine ao Z (c8  b9 hG.g ) Z ?_
 rintro dd w ⟨c5,bP,k⟩
 rw [←bP]at k
 have a:=hG.h k
 refine P 1 Z ?_
 obtain ⟨df,ca,h⟩:=aj h
 refine ao Z (o6 o ca (a.ro 0 Z).rp) Z ?_
 rintro cI w k
 have a:=a.f k
 refine P 2 Z ?_
 refine H (M (aw ?_))
 cases h
 exact bX Z Z Z ⟨bN,cI,Z,a.e [2,0] Z Z⟩
theorem gG {n:World} {l x y g:List UInt32} {c t u b:Value} {e z A f:Nat} {S:List Nat} (j m o d:Bool) {r:Bool×List UInt32×Bool×List UInt32}
  (h:F.Db j l m x o y d g=some r) (a:St S n n [W e [J j,c],K U c l,W f [J d,b],K U b g]) (L:RP S n U t x) (hBa1:RB S n z [J m,t]) (T:RP S n U u y) (hBa2:RB S n A [J o,u]):Calls Tryz.prog 176 #[N e 0,N z 0,N A 0,N f 0] n (Ret fun v w=>∃B C:Value,v=.tuple #[N e 0,N f 0]∧St S n w [W e [J r.1,B],K U B r.2.1,W f [J r.2.2.1,C],K U C r.2.2.2]):=by
 refine aJ 46 Tryz.func176 Z Z Z ?_
 refine au [(0,N e 0),(1,N z 0),(2,N A 0),(3,N f 0)] ⟨Z,Z,Z,Z,V⟩ ?_
 unfold F.Db at h
 refine I (af (P 2 Z ?_))
 refine H (M (I ?_))
 refine aZ (fun w'=>St S n w' [W e [J j,c],K U c l,W f [J d,b],K U b g]) (fun _=>true) bS (fun _ _ _ q=>q.2) (fun _ _ q=>q) (by kernel_rfl) ?_
 have a:=a.drew
 show lxE _ _ _ _ _ _ _ [0,1,2,3,4,5,6,7,8,9] _ _
 refine al a Z Z (fun w hF=>ar Z) Z (al a Z Z (fun w hF=>aK Z) Z (al a Z Z (fun w hF=>av (k:=0) u101 Z Z nz4 Z) Z (al a Z Z (fun w hF=>aC Tryz.underlying4 Z Z (hBa1.cell hF.fr 0 Z)) Z (al a Z Z (fun w hF=>ar Z) Z (al a Z Z (fun w hF=>aK Z) Z (al a Z Z (fun w hF=>av (k:=0) u101 Z Z nz4 Z) Z (al a Z Z (fun w hF=>aC Tryz.underlying4 Z Z (hBa2.cell hF.fr 0 Z)) Z (al a Z Z (fun w hF=>aB Z) Z ?_))))))))
 refine al a Z Z (fun w hF=>aB Z) Z (bn a ?_)
 refine M (I ?_)
 refine aZ (fun w'=>St S n w' [W e [J j,c],K U c l,W f [J d,b],K U b g]) (fun i=>!([8].contains i)) bS (fun _ _ _ q=>q.2) (fun _ _ q=>q) (by kernel_rfl) ?_
 have a:=a.drew
 show lxE _ _ _ _ _ _ _ [0,1,2,3,4,5,6,7,8,9,10,11,12,13] _ _
 refine al a Z Z (fun w hF=>ar Z) Z (al a Z Z (fun w hF=>aK Z) Z (al a Z Z (fun w hF=>av (k:=1) u101 Z Z db Z) Z (al a Z Z (fun w hF=>aC u30 Z Z (hBa1.cell hF.fr 1 Z)) Z (al a Z Z (fun w hF=>ar Z) Z (al a Z Z (fun w hF=>aK Z) Z (al a Z Z (fun w hF=>av (k:=1) u101 Z Z db Z) Z (al a Z Z (fun w hF=>aC u30 Z Z (hBa2.cell hF.fr 1 Z)) Z ?_)))))))
 obtain ⟨D,ag,h⟩:=aj h
 refine bj a Z Z (by kernel_rfl) Z (jr  ag (L.d a.fr).rp (T.d a.fr).rp) Z ?_
 rintro _ w ⟨an,ad,rfl,p⟩
 have a:=a.f p
 refine al (a.e [2,3,4,5] Z Z) Z Z (fun w hF=>ar Z) Z (al (a.e [2,3,4,5] Z Z) Z Z (fun w hF=>cp Z Z) Z (al (a.e [2,3,4,5] Z Z) Z Z (fun w hF=>cp Z Z) Z (al (a.e [2,3,4,5] Z Z) Z Z (fun w hF=>aB Z) Z (al (a.e [2,3,4,5] Z Z) Z Z (fun w hF=>aB Z) Z (bn (a.e [2,3,4,5] Z Z) ?_)))))
 refine M (I (af (P 3 Z ?_)))
 refine am (aq Z Z (mb _ m o Tryz.underlying4 Z)) Z (P 1 Z ?_)
 have E:=a.pick (os':=[W e [J j,c],K U c l,K U an D.1]++[K U ad D.2,W f [J d,b],K U b g]) [2,3,0,1,4,5] (by decide) Z
 obtain ⟨G,ab,h⟩:=aj h
 refine ao Z (bK j (m != o) ab E.g ) Z ?_
 rintro _ w ⟨s,rfl,p⟩
 have a:=E.h p
 refine H (M (I (af (P 3 Z ?_))))
 have E:=a.pick (os':=[W f [J d,b],K U b g,K U ad D.2]++[W e [J G.1,s],K U s G.2]) [3,4,2,0,1] (by decide) Z
 obtain ⟨ap,ac,h⟩:=aj h
 refine ao Z (bK d m ac E.g ) Z ?_
 rintro _ w ⟨ak,rfl,p⟩
 have a:=E.h p
 refine H (M (I (af (P 4 Z ?_))))
 refine H (M (aw ?_))
 cases h
 exact bX Z Z Z ⟨s,ak,Z,a.e [2,3,0,1] Z Z⟩
theorem jv {n:World} {l t g:List UInt32} {c s b:Value} {f u e:Nat} {S:List Nat} (j m d:Bool) {r:Bool×List UInt32×Bool×List UInt32}
  (h:F.F7 j l m t d g=some r) (a:St S n n [W f [J j,c],K U c l,W e [J d,b],K U b g]) (C:RP S n U s t) (hBa2:RB S n u [J m,s]):Calls Tryz.prog 176 #[N f 0,N e 0,N u 0,N e 0] n (Ret fun v w=>∃x y:Value,v=.tuple #[N f 0,N e 0]∧St S n w [W f [J r.1,x],K U x r.2.1,W e [J r.2.2.1,y],K U y r.2.2.2]):=by
 refine aJ 46 Tryz.func176 Z Z Z ?_
 refine au [(0,N f 0),(1,N e 0),(2,N u 0),(3,N e 0)] ⟨Z,Z,Z,Z,V⟩ ?_
 unfold F.F7 at h
 refine I (af (P 2 Z ?_))
 refine H (M (I ?_))
 refine aZ (fun w'=>St S n w' [W f [J j,c],K U c l,W e [J d,b],K U b g]) (fun _=>true) bS (fun _ _ _ p=>p.2) (fun _ _ p=>p) (by kernel_rfl) ?_
 have a:=a.drew
 show lxE _ _ _ _ _ _ _ [0,1,2,3,4,5,6,7,8,9] _ _
 refine al a Z Z (fun w hF=>ar Z) Z (al a Z Z (fun w hF=>aK Z) Z (al a Z Z (fun w hF=>av (k:=0) u101 Z Z nz4 Z) Z (al a Z Z (fun w hF=>aC Tryz.underlying4 Z Z (hF.r 2 Z 0)) Z (al a Z Z (fun w hF=>ar Z) Z (al a Z Z (fun w hF=>aK Z) Z (al a Z Z (fun w hF=>av (k:=0) u101 Z Z nz4 Z) Z (al a Z Z (fun w hF=>aC Tryz.underlying4 Z Z (hBa2.cell hF.fr 0 Z)) Z (al a Z Z (fun w hF=>aB Z) Z ?_))))))))
 refine al a Z Z (fun w hF=>aB Z) Z (bn a ?_)
 refine M (I ?_)
 refine aZ (fun w'=>St S n w' [W f [J j,c],K U c l,W e [J d,b],K U b g]) (fun i=>!([8].contains i)) bS (fun _ _ _ p=>p.2) (fun _ _ p=>p) (by kernel_rfl) ?_
 have a:=a.drew
 show lxE _ _ _ _ _ _ _ [0,1,2,3,4,5,6,7,8,9,10,11,12,13] _ _
 refine al a Z Z (fun w hF=>ar Z) Z (al a Z Z (fun w hF=>aK Z) Z (al a Z Z (fun w hF=>av (k:=1) u101 Z Z db Z) Z (al a Z Z (fun w hF=>aC u30 Z Z (hF.r 2 Z 1)) Z (al a Z Z (fun w hF=>ar Z) Z (al a Z Z (fun w hF=>aK Z) Z (al a Z Z (fun w hF=>av (k:=1) u101 Z Z db Z) Z (al a Z Z (fun w hF=>aC u30 Z Z (hBa2.cell hF.fr 1 Z)) Z ?_)))))))
 obtain ⟨z,L,h⟩:=aj h
 refine bj a Z Z (by kernel_rfl) Z (jr  L (a.ro 3 Z).rp (C.d a.fr).rp) Z ?_
 rintro _ w ⟨ab,G,rfl,o⟩
 have a:=a.f o
 refine al (a.e [2,3,4,5] Z Z) Z Z (fun w hF=>ar Z) Z (al (a.e [2,3,4,5] Z Z) Z Z (fun w hF=>cp Z Z) Z (al (a.e [2,3,4,5] Z Z) Z Z (fun w hF=>cp Z Z) Z (al (a.e [2,3,4,5] Z Z) Z Z (fun w hF=>aB Z) Z (al (a.e [2,3,4,5] Z Z) Z Z (fun w hF=>aB Z) Z (bn (a.e [2,3,4,5] Z Z) ?_)))))
 refine M (I (af (P 3 Z ?_)))
 refine am (aq Z Z (mb _ d m Tryz.underlying4 Z)) Z (P 1 Z ?_)
 have A:=a.pick (os':=[W f [J j,c],K U c l,K U ab z.1]++[K U G z.2,W e [J d,b],K U b g]) [2,3,0,1,4,5] (by decide) Z
 obtain ⟨B,D,h⟩:=aj h
 refine ao Z (bK j (d != m) D A.g ) Z ?_
 rintro _ w ⟨q,rfl,o⟩
 have a:=A.h o
 refine H (M (I (af (P 3 Z ?_))))
 have A:=a.pick (os':=[W e [J d,b],K U b g,K U G z.2]++[W f [J B.1,q],K U q B.2]) [3,4,2,0,1] (by decide) Z
 obtain ⟨ac,E,h⟩:=aj h
 refine ao Z (bK d d E A.g ) Z ?_
 rintro _ w ⟨T,rfl,o⟩
 have a:=A.h o
 refine H (M (I (af (P 4 Z ?_))))
 refine H (M (aw ?_))
 cases h
 exact bX Z Z Z ⟨q,T,Z,a.e [2,3,0,1] Z Z⟩
theorem jw {n:World} {l t j:List UInt32} {c s b:Value} {e u g:Nat} {S:List Nat} (d m f:Bool) {r:Bool×List UInt32×Bool×List UInt32}
  (h:F.F8 d l m t f j=some r) (a:St S n n [W e [J d,c],K U c l,W g [J f,b],K U b j]) (C:RP S n U s t) (hBa2:RB S n u [J m,s]):Calls Tryz.prog 176 #[N e 0,N e 0,N u 0,N g 0] n (Ret fun v w=>∃x y:Value,v=.tuple #[N e 0,N g 0]∧St S n w [W e [J r.1,x],K U x r.2.1,W g [J r.2.2.1,y],K U y r.2.2.2]):=by
 refine aJ 46 Tryz.func176 Z Z Z ?_
 refine au [(0,N e 0),(1,N e 0),(2,N u 0),(3,N g 0)] ⟨Z,Z,Z,Z,V⟩ ?_
 unfold F.F8 at h
 refine I (af (P 2 Z ?_))
 refine H (M (I ?_))
 refine aZ (fun w'=>St S n w' [W e [J d,c],K U c l,W g [J f,b],K U b j]) (fun _=>true) bS (fun _ _ _ p=>p.2) (fun _ _ p=>p) (by kernel_rfl) ?_
 have a:=a.drew
 show lxE _ _ _ _ _ _ _ [0,1,2,3,4,5,6,7,8,9] _ _
 refine al a Z Z (fun w hF=>ar Z) Z (al a Z Z (fun w hF=>aK Z) Z (al a Z Z (fun w hF=>av (k:=0) u101 Z Z nz4 Z) Z (al a Z Z (fun w hF=>aC Tryz.underlying4 Z Z (hF.r 0 Z 0)) Z (al a Z Z (fun w hF=>ar Z) Z (al a Z Z (fun w hF=>aK Z) Z (al a Z Z (fun w hF=>av (k:=0) u101 Z Z nz4 Z) Z (al a Z Z (fun w hF=>aC Tryz.underlying4 Z Z (hBa2.cell hF.fr 0 Z)) Z (al a Z Z (fun w hF=>aB Z) Z ?_))))))))
 refine al a Z Z (fun w hF=>aB Z) Z (bn a ?_)
 refine M (I ?_)
 refine aZ (fun w'=>St S n w' [W e [J d,c],K U c l,W g [J f,b],K U b j]) (fun i=>!([8].contains i)) bS (fun _ _ _ p=>p.2) (fun _ _ p=>p) (by kernel_rfl) ?_
 have a:=a.drew
 show lxE _ _ _ _ _ _ _ [0,1,2,3,4,5,6,7,8,9,10,11,12,13] _ _
 refine al a Z Z (fun w hF=>ar Z) Z (al a Z Z (fun w hF=>aK Z) Z (al a Z Z (fun w hF=>av (k:=1) u101 Z Z db Z) Z (al a Z Z (fun w hF=>aC u30 Z Z (hF.r 0 Z 1)) Z (al a Z Z (fun w hF=>ar Z) Z (al a Z Z (fun w hF=>aK Z) Z (al a Z Z (fun w hF=>av (k:=1) u101 Z Z db Z) Z (al a Z Z (fun w hF=>aC u30 Z Z (hBa2.cell hF.fr 1 Z)) Z ?_)))))))
 obtain ⟨z,L,h⟩:=aj h
 refine bj a Z Z (by kernel_rfl) Z (jr  L (a.ro 1 Z).rp (C.d a.fr).rp) Z ?_
 rintro _ w ⟨ab,G,rfl,o⟩
 have a:=a.f o
 refine al (a.e [2,3,4,5] Z Z) Z Z (fun w hF=>ar Z) Z (al (a.e [2,3,4,5] Z Z) Z Z (fun w hF=>cp Z Z) Z (al (a.e [2,3,4,5] Z Z) Z Z (fun w hF=>cp Z Z) Z (al (a.e [2,3,4,5] Z Z) Z Z (fun w hF=>aB Z) Z (al (a.e [2,3,4,5] Z Z) Z Z (fun w hF=>aB Z) Z (bn (a.e [2,3,4,5] Z Z) ?_)))))
 refine M (I (af (P 3 Z ?_)))
 refine am (aq Z Z (mb _ d m Tryz.underlying4 Z)) Z (P 1 Z ?_)
 have A:=a.pick (os':=[W e [J d,c],K U c l,K U ab z.1]++[K U G z.2,W g [J f,b],K U b j]) [2,3,0,1,4,5] (by decide) Z
 obtain ⟨B,D,h⟩:=aj h
 refine ao Z (bK d (d != m) D A.g ) Z ?_
 rintro _ w ⟨q,rfl,o⟩
 have a:=A.h o
 refine H (M (I (af (P 3 Z ?_))))
 have A:=a.pick (os':=[W g [J f,b],K U b j,K U G z.2]++[W e [J B.1,q],K U q B.2]) [3,4,2,0,1] (by decide) Z
 obtain ⟨ac,E,h⟩:=aj h
 refine ao Z (bK f d E A.g ) Z ?_
 rintro _ w ⟨T,rfl,o⟩
 have a:=A.h o
 refine H (M (I (af (P 4 Z ?_))))
 refine H (M (aw ?_))
 cases h
 exact bX Z Z Z ⟨q,T,Z,a.e [2,3,0,1] Z Z⟩
theorem jo {m:World} {a0 a1:List UInt32} {b c:Value} {r:List UInt32}
  (h:F.DB a0 a1=some r) (n:RP [] m U b a0) (x:RP [] m U c a1):Calls Tryz.prog 153 #[b,c] m (Ret fun v w=>St [] m w [K U v r]):=by
 refine aJ 45 Tryz.func153 Z Z Z ?_
 have a:=St.l m
 refine au [(0,b),(1,c)] ⟨Z,Z,V⟩ ?_
 unfold F.DB at h
 refine I (af (P 1 Z ?_))
 refine H (M (I (af (P 1 Z ?_))))
 refine am (aN u30 Z (n.d a.fr)) Z ?_
 obtain ⟨ak,ac,h⟩:=aj h
 refine aP (de (e:=U) u30 aW Z Z Z a ac) Z ?_
 rintro d w a
 refine P 1 Z ?_
 refine H (M (I (af (P 1 Z ?_))))
 refine H (M (I (I (af (P 1 Z ?_)))))
 refine H (M (aE ?_))
 refine au [(0,b),(1,c),(5,d),(6,v64 0),(7,vI 0)] ⟨Z,Z,Z,Z,Z,V⟩ ?_
 refine bk (F.EU a0 a1) (fun (s:UInt64×Int×List UInt32) L w=>L=[(0,b),(1,c),(5,d),(6,v64 s.1),(7,vI s.2.1)]∧St [] m w [K U d s.2.2]) ?_ (0,0,ak) ⟨Z,a⟩ h
 rintro ar ⟨y,z,A⟩ L w al hI ad h B
 try dsimp only at hI
 obtain ⟨rfl,a⟩:=hI
 unfold F.EU at h
 refine I (I (af (P 2 Z ?_)))
 refine am (aN u30 Z (n.d a.fr)) Z (P 1 Z ?_)
 refine H (M ?_)
 refine ax Z (fun f=>?_) (fun f=>?_)
 ·have h:=aG h f
  refine az (M (I (aE ?_)))
  refine I (af (P 2 Z ?_))
  obtain ⟨j,o,h⟩:=aj h
  refine am (bm u30 aW Z Z (n.d a.fr) o) Z (am (bc u38 Z Z (n.d a.fr) o Z) Z (am (aM Z (bq u38 u87 j)) Z (P 1 Z ?_)))
  refine am (aq Z Z (eH _ j.toUInt64 y)) Z (P 1 Z ?_)
  refine H (M ?_)
  refine a9 (r:=al) (fun (g:UInt64) L w=>L=[(0,b),(1,c),(5,d),(7,vI z),(8,v64 g)]∧St [] m w [K U d A]) (F.ER z A) ?_ ?_
  rotate_left
  ·intro p
   refine I (af (P 2 Z ?_))
   refine am (aN u30 Z (x.d a.fr)) Z (P 1 Z ?_)
   refine H (M ?_)
   refine ax Z (fun k=>?_) (fun k=>?_)
   ·have h:=aG h k
    refine af (P 3 Z ?_)
    obtain ⟨C,q,h⟩:=aj h
    refine am (bm u30 aW Z Z (x.d a.fr) q) Z (am (bc u38 Z Z (x.d a.fr) q Z) Z (am (aM Z (bq u38 u87 C)) Z (am (aq Z Z (eH _ (j.toUInt64 - y) C.toUInt64)) Z ?_)))
    obtain ⟨D,G,h⟩:=aO h
    refine am (aB (v:=v64 D) (by rw [←G]; rfl)) Z ?_
    refine H (M ?_)
    exact au _ (by exact ⟨Z,Z,Z,Z,Z,V⟩) (p D _ _ ⟨Z,a⟩ h)
   have h:=aH h k
   refine az (M ?_)
   exact au _ (by exact ⟨Z,Z,Z,Z,Z,V⟩) (p (j.toUInt64 - y) _ _ ⟨Z,a⟩ h)
  rintro l L w hJ h
  try dsimp only at hJ
  obtain ⟨rfl,a⟩:=hJ
  unfold F.ER at h
  refine I (af (P 3 Z ?_))
  refine am (aM Z (bW u87 u38 l)) Z ?_
  obtain ⟨av,u,h⟩:=aj h
  refine am (bm u30 aW Z Z (a.ro 0 Z) u) Z (bb (cc (t:=l.toUInt32) aW Z Z a (i:=0) Z u Z) ?_)
  intro w a
  obtain ⟨ag,S,h⟩:=aO h
  rw [S]at a
  refine H (M (af (P 1 Z ?_)))
  refine am (aq Z Z (cl _ l 63)) Z (P 1 Z ?_)
  refine H (aU ?_)
  refine M (af (P 3 Z ?_))
  refine H ?_
  exact bv (bz _ (by exact ⟨Z,Z,Z,Z,Z,V⟩) (ad (aQ l 63,wI (z+1),ag) _ _ ⟨Z,a⟩ (ba h B)))
 have h:=aH h f
 refine bh ?_
 refine aI (aI ?_)
 have h:=aX h B
 refine bg ?_
 refine M (I (af (P 1 Z ?_)))
 have hG:=a.pick (os':=[K U d A]++[]) [0] (by decide) Z
 obtain ⟨ay,T,h⟩:=aj h
 refine ao Z (c8  T hG.g ) Z ?_
 rintro aA w ⟨ap,E,ab⟩
 rw [←E]at ab
 have a:=hG.h ab
 refine P 1 Z ?_
 refine H (M (aw ?_))
 cases h
 exact aF Z Z (a.e [0] Z Z)
theorem fx {g:World} {a1 a3:List UInt32} {i j:Value} (a0 a2:Bool) {r:Bool×List UInt32}
  (h:F.B6 a0 a1 a2 a3=some r) (e:RP [] g U i a1) (f:RP [] g U j a3):Calls Tryz.prog 178 #[J a0,i,J a2,j] g (Ret fun v w=>∃u1:Value,v=.tuple #[J r.1,u1]∧St [] g w [K U u1 r.2]):=by
 refine aJ 29 Tryz.func178 Z Z Z ?_
 have a:=St.l g
 refine au [(0,J a0),(1,i),(2,J a2),(3,j)] ⟨Z,Z,Z,Z,V⟩ ?_
 unfold F.B6 at h
 refine I (af (P 2 Z ?_))
 refine H (M (I (I (af (P 2 Z ?_)))))
 refine am (aq Z Z (vO _ a0 a2 Tryz.underlying4 Z)) Z (H (M ?_))
 refine ax Z (fun c=>?_) (fun c=>?_)
 ·have h:=aG h c
  refine I (af (P 3 Z ?_))
  obtain ⟨s,k,h⟩:=aj h
  refine ao Z (jj  k (e.d a.fr).rp (f.d a.fr).rp) Z ?_
  rintro o w b
  have a:=a.f b
  refine P 2 Z ?_
  refine H (M (aw (aD ?_)))
  cases h
  exact bX Z Z Z ⟨o,Z,a.e [0] Z Z⟩
 have h:=aH h c
 refine az (M (I (I (af (P 2 Z ?_)))))
 obtain ⟨t,l,h⟩:=aj h
 refine ao Z (jn  l (e.d a.fr).rp (f.d a.fr).rp) Z ?_
 rintro _ w ⟨rfl,b⟩
 have a:=a.f b
 refine P 1 Z ?_
 refine H (M ?_)
 refine ax Z (fun d=>?_) (fun d=>?_)
 ·have h:=aG h d
  refine I (af (P 3 Z ?_))
  obtain ⟨u,m,h⟩:=aj h
  refine ao Z (jo  m (e.d a.fr).rp (f.d a.fr).rp) Z ?_
  rintro p w b
  have a:=a.f b
  refine P 2 Z ?_
  refine H (M (aw (aD ?_)))
  cases h
  exact bX Z Z Z ⟨p,Z,a.e [0] Z Z⟩
 have h:=aH h d
 refine az (M (I (af (P 3 Z ?_))))
 obtain ⟨x,n,h⟩:=aj h
 refine ao Z (jo  n (f.d a.fr).rp (e.d a.fr).rp) Z ?_
 rintro q w b
 have a:=a.f b
 refine P 2 Z ?_
 refine H (M (aw ?_))
 cases h
 exact bX Z Z Z ⟨q,Z,a.e [0] Z Z⟩
theorem nA {d:World} {f n o:List UInt32} {b l m:Value} {c p q:Nat} {S:List Nat} (e g j:Bool) {r:Bool×List UInt32}
  (h:F.El e f g n j o=some r) (a:St S d d [W c [J e,b],K U b f]) (u:RP S d U l n) (hBa1:RB S d p [J g,l]) (x:RP S d U m o) (hBa2:RB S d q [J j,m]):Calls Tryz.prog 140 #[N c 0,N p 0,N q 0] d (Ret fun v w=>∃s:Value,v=N c 0∧St S d w [W c [J r.1,s],K U s r.2]):=by
 refine aJ 28 Tryz.func140 Z Z Z ?_
 refine au [(0,N c 0),(1,N p 0),(2,N q 0)] ⟨Z,Z,Z,V⟩ ?_
 unfold F.El at h
 refine I (af (P 1 Z ?_))
 refine H (M (I ?_))
 have hsh1:=(a.ro 1 Z).shp
 refine aZ (fun w'=>St S d w' []) (fun i=>!([17,20].contains i)) bS (fun _ _ _ z=>z.2) (fun _ _ z=>z) (by kernel_rfl) ?_
 have a:=a.drew
 show lxE _ _ _ _ _ _ _ [0,1,2,3,4,5,6,7,8,9,10,11,12,13,14,15,16,17,18,19,20,21] _ _
 refine al (a.e [] Z Z) Z Z (fun w hF=>ar Z) Z (al (a.e [] Z Z) Z Z (fun w hF=>ar Z) Z (al (a.e [] Z Z) Z Z (fun w hF=>aK Z) Z (al (a.e [] Z Z) Z Z (fun w hF=>av (k:=0) u101 Z Z nz4 Z) Z (al (a.e [] Z Z) Z Z (fun w hF=>aC Tryz.underlying4 Z Z (hBa1.cell hF.fr 0 Z)) Z (al (a.e [] Z Z) Z Z (fun w hF=>ar Z) Z (al (a.e [] Z Z) Z Z (fun w hF=>aK Z) Z (al (a.e [] Z Z) Z Z (fun w hF=>av (k:=1) u101 Z Z db Z) Z (al (a.e [] Z Z) Z Z (fun w hF=>aC u30 Z Z (hBa1.cell hF.fr 1 Z)) Z ?_))))))))
 refine al (a.e [] Z Z) Z Z (fun w hF=>ar Z) Z (al (a.e [] Z Z) Z Z (fun w hF=>aK Z) Z (al (a.e [] Z Z) Z Z (fun w hF=>av (k:=0) u101 Z Z nz4 Z) Z (al (a.e [] Z Z) Z Z (fun w hF=>aC Tryz.underlying4 Z Z (hBa2.cell hF.fr 0 Z)) Z (al (a.e [] Z Z) Z Z (fun w hF=>ar Z) Z (al (a.e [] Z Z) Z Z (fun w hF=>aK Z) Z (al (a.e [] Z Z) Z Z (fun w hF=>av (k:=1) u101 Z Z db Z) Z (al (a.e [] Z Z) Z Z (fun w hF=>aC u30 Z Z (hBa2.cell hF.fr 1 Z)) Z ?_)))))))
 obtain ⟨y,A,h⟩:=aj h
 refine bj (a.e [] Z Z) Z Z (by kernel_rfl) Z (fx g j A (u.d a.fr).rp (x.d a.fr).rp) Z ?_
 rintro _ w ⟨C,rfl,t⟩
 have a:=a.f t
 refine al (a.e [] Z Z) Z Z (fun w hF=>cp Z Z) Z (al (a.e [] Z Z) Z Z (fun w hF=>cp Z Z) Z ?_)
 have D:=a.pick (os':=[W c [J e,b],K U b f,K U C y.2]++[]) [1,2,0] (by decide) Z
 obtain ⟨G,B,h⟩:=aj h
 refine bj (a.e [] Z Z) Z Z (by kernel_rfl) Z (bK e y.1 B D.g ) Z ?_
 rintro _ w ⟨E,rfl,t⟩
 have a:=D.h t
 refine al (a.e [] Z Z) Z Z (fun w hF=>aB Z) Z (bn (a.e [] Z Z) ?_)
 refine M (aw ?_)
 cases h
 exact aF Z Z ⟨E,Z,a.e [0,1] Z Z⟩
theorem du {e:World} {f l:List UInt32} {c j:Value} {b m:Nat} {S:List Nat} (d g:Bool) {r:Bool×List UInt32}
  (h:F.Ci d f g l=some r) (a:St S e e [W b [J d,c],K U c f]) (p:RP S e U j l) (hBa2:RB S e m [J g,j]):Calls Tryz.prog 140 #[N b 0,N b 0,N m 0] e (Ret fun v w=>∃n:Value,v=N b 0∧St S e w [W b [J r.1,n],K U n r.2]):=by
 refine aJ 28 Tryz.func140 Z Z Z ?_
 refine au [(0,N b 0),(1,N b 0),(2,N m 0)] ⟨Z,Z,Z,V⟩ ?_
 unfold F.Ci at h
 refine I (af (P 1 Z ?_))
 refine H (M (I ?_))
 have hsh1:=(a.ro 1 Z).shp
 refine aZ (fun w'=>St S e w' []) (fun i=>!([1004,1008,17,20].contains i)) bS (fun _ _ _ s=>s.2) (fun _ _ s=>s) (by kernel_rfl) ?_
 have a:=a.drew
 show lxE _ _ _ _ _ _ _ [0,1,2,3,4,5,6,7,8,9,10,11,12,13,14,15,16,17,18,19,20,21] _ _
 refine al (a.e [] Z Z) Z Z (fun w hF=>ar Z) Z (al (a.e [] Z Z) Z Z (fun w hF=>ar Z) Z (al (a.e [] Z Z) Z Z (fun w hF=>aK Z) Z (al (a.e [] Z Z) Z Z (fun w hF=>av (k:=0) u101 Z Z nz4 Z) Z (mC (a.e [] Z Z) Z Z Z (aC Tryz.underlying4 Z Z (a.r 0 Z 0)) Z ?_))))
 refine al (a.e [] Z Z) Z Z (fun w hF=>ar Z) Z (al (a.e [] Z Z) Z Z (fun w hF=>aK Z) Z (al (a.e [] Z Z) Z Z (fun w hF=>av (k:=1) u101 Z Z db Z) Z (mC (a.e [] Z Z) Z Z Z (aC u30 Z Z (a.r 0 Z 1)) Z ?_)))
 refine al (a.e [] Z Z) Z Z (fun w hF=>ar Z) Z (al (a.e [] Z Z) Z Z (fun w hF=>aK Z) Z (al (a.e [] Z Z) Z Z (fun w hF=>av (k:=0) u101 Z Z nz4 Z) Z (al (a.e [] Z Z) Z Z (fun w hF=>aC Tryz.underlying4 Z Z (hBa2.cell hF.fr 0 Z)) Z (al (a.e [] Z Z) Z Z (fun w hF=>ar Z) Z (al (a.e [] Z Z) Z Z (fun w hF=>aK Z) Z (al (a.e [] Z Z) Z Z (fun w hF=>av (k:=1) u101 Z Z db Z) Z (al (a.e [] Z Z) Z Z (fun w hF=>aC u30 Z Z (hBa2.cell hF.fr 1 Z)) Z ?_)))))))
 obtain ⟨q,t,h⟩:=aj h
 refine bj (a.e [] Z Z) Z Z (by kernel_rfl) Z (fx d g t (a.ro 1 Z).rp (p.d a.fr).rp) Z ?_
 rintro _ w ⟨x,rfl,o⟩
 have a:=a.f o
 refine al (a.e [] Z Z) Z Z (fun w hF=>cp Z Z) Z (al (a.e [] Z Z) Z Z (fun w hF=>cp Z Z) Z ?_)
 have y:=a.pick (os':=[W b [J d,c],K U c f,K U x q.2]++[]) [1,2,0] (by decide) Z
 obtain ⟨A,u,h⟩:=aj h
 refine bj (a.e [] Z Z) Z Z (by kernel_rfl) Z (bK d q.1 u y.g ) Z ?_
 rintro _ w ⟨z,rfl,o⟩
 have a:=y.h o
 refine al (a.e [] Z Z) Z Z (fun w hF=>aB Z) Z (bn (a.e [] Z Z) ?_)
 refine M (aw ?_)
 cases h
 exact aF Z Z ⟨z,Z,a.e [0,1] Z Z⟩
theorem js {d:World} {g n o:List UInt32} {b l m:Value} {c p q:Nat} {S:List Nat} (e j f:Bool) {r:Bool×List UInt32}
  (h:F.Ee e g j n f o=some r) (a:St S d d [W c [J e,b],K U b g]) (u:RP S d U l n) (hBa1:RB S d p [J j,l]) (x:RP S d U m o) (hBa2:RB S d q [J f,m]):Calls Tryz.prog 177 #[N c 0,N p 0,N q 0] d (Ret fun v w=>∃s:Value,v=N c 0∧St S d w [W c [J r.1,s],K U s r.2]):=by
 refine aJ 29 Tryz.func177 Z Z Z ?_
 refine au [(0,N c 0),(1,N p 0),(2,N q 0)] ⟨Z,Z,Z,V⟩ ?_
 unfold F.Ee at h
 refine I (af (P 1 Z ?_))
 refine H (M (I ?_))
 have hsh1:=(a.ro 1 Z).shp
 refine aZ (fun w'=>St S d w' []) (fun i=>!([18,21].contains i)) bS (fun _ _ _ z=>z.2) (fun _ _ z=>z) (by kernel_rfl) ?_
 have a:=a.drew
 show lxE _ _ _ _ _ _ _ [0,1,2,3,4,5,6,7,8,9,10,11,12,13,14,15,16,17,18,19,20,21,22] _ _
 refine al (a.e [] Z Z) Z Z (fun w hF=>ar Z) Z (al (a.e [] Z Z) Z Z (fun w hF=>ar Z) Z (al (a.e [] Z Z) Z Z (fun w hF=>aK Z) Z (al (a.e [] Z Z) Z Z (fun w hF=>av (k:=0) u101 Z Z nz4 Z) Z (al (a.e [] Z Z) Z Z (fun w hF=>aC Tryz.underlying4 Z Z (hBa1.cell hF.fr 0 Z)) Z (al (a.e [] Z Z) Z Z (fun w hF=>ar Z) Z (al (a.e [] Z Z) Z Z (fun w hF=>aK Z) Z (al (a.e [] Z Z) Z Z (fun w hF=>av (k:=1) u101 Z Z db Z) Z (al (a.e [] Z Z) Z Z (fun w hF=>aC u30 Z Z (hBa1.cell hF.fr 1 Z)) Z ?_))))))))
 refine al (a.e [] Z Z) Z Z (fun w hF=>ar Z) Z (al (a.e [] Z Z) Z Z (fun w hF=>aK Z) Z (al (a.e [] Z Z) Z Z (fun w hF=>av (k:=0) u101 Z Z nz4 Z) Z (al (a.e [] Z Z) Z Z (fun w hF=>aC Tryz.underlying4 Z Z (hBa2.cell hF.fr 0 Z)) Z (al (a.e [] Z Z) Z Z (fun w hF=>iu Z (qx f)) Z (al (a.e [] Z Z) Z Z (fun w hF=>ar Z) Z (al (a.e [] Z Z) Z Z (fun w hF=>aK Z) Z (al (a.e [] Z Z) Z Z (fun w hF=>av (k:=1) u101 Z Z db Z) Z (al (a.e [] Z Z) Z Z (fun w hF=>aC u30 Z Z (hBa2.cell hF.fr 1 Z)) Z ?_))))))))
 obtain ⟨y,A,h⟩:=aj h
 refine bj (a.e [] Z Z) Z Z (by kernel_rfl) Z (fx j (!f) A (u.d a.fr).rp (x.d a.fr).rp) Z ?_
 rintro _ w ⟨C,rfl,t⟩
 have a:=a.f t
 refine al (a.e [] Z Z) Z Z (fun w hF=>cp Z Z) Z (al (a.e [] Z Z) Z Z (fun w hF=>cp Z Z) Z ?_)
 have D:=a.pick (os':=[W c [J e,b],K U b g,K U C y.2]++[]) [1,2,0] (by decide) Z
 obtain ⟨G,B,h⟩:=aj h
 refine bj (a.e [] Z Z) Z Z (by kernel_rfl) Z (bK e y.1 B D.g ) Z ?_
 rintro _ w ⟨E,rfl,t⟩
 have a:=D.h t
 refine al (a.e [] Z Z) Z Z (fun w hF=>aB Z) Z (bn (a.e [] Z Z) ?_)
 refine M (aw ?_)
 cases h
 exact aF Z Z ⟨E,Z,a.e [0,1] Z Z⟩
theorem dW {f:World} {g l:List UInt32} {c j:Value} {b m:Nat} {S:List Nat} (d e:Bool) {r:Bool×List UInt32}
  (h:F.CA d g e l=some r) (a:St S f f [W b [J d,c],K U c g]) (p:RP S f U j l) (hBa2:RB S f m [J e,j]):Calls Tryz.prog 177 #[N b 0,N b 0,N m 0] f (Ret fun v w=>∃n:Value,v=N b 0∧St S f w [W b [J r.1,n],K U n r.2]):=by
 refine aJ 29 Tryz.func177 Z Z Z ?_
 refine au [(0,N b 0),(1,N b 0),(2,N m 0)] ⟨Z,Z,Z,V⟩ ?_
 unfold F.CA at h
 refine I (af (P 1 Z ?_))
 refine H (M (I ?_))
 have hsh1:=(a.ro 1 Z).shp
 refine aZ (fun w'=>St S f w' []) (fun i=>!([1004,1008,18,21].contains i)) bS (fun _ _ _ s=>s.2) (fun _ _ s=>s) (by kernel_rfl) ?_
 have a:=a.drew
 show lxE _ _ _ _ _ _ _ [0,1,2,3,4,5,6,7,8,9,10,11,12,13,14,15,16,17,18,19,20,21,22] _ _
 refine al (a.e [] Z Z) Z Z (fun w hF=>ar Z) Z (al (a.e [] Z Z) Z Z (fun w hF=>ar Z) Z (al (a.e [] Z Z) Z Z (fun w hF=>aK Z) Z (al (a.e [] Z Z) Z Z (fun w hF=>av (k:=0) u101 Z Z nz4 Z) Z (mC (a.e [] Z Z) Z Z Z (aC Tryz.underlying4 Z Z (a.r 0 Z 0)) Z ?_))))
 refine al (a.e [] Z Z) Z Z (fun w hF=>ar Z) Z (al (a.e [] Z Z) Z Z (fun w hF=>aK Z) Z (al (a.e [] Z Z) Z Z (fun w hF=>av (k:=1) u101 Z Z db Z) Z (mC (a.e [] Z Z) Z Z Z (aC u30 Z Z (a.r 0 Z 1)) Z ?_)))
 refine al (a.e [] Z Z) Z Z (fun w hF=>ar Z) Z (al (a.e [] Z Z) Z Z (fun w hF=>aK Z) Z (al (a.e [] Z Z) Z Z (fun w hF=>av (k:=0) u101 Z Z nz4 Z) Z (al (a.e [] Z Z) Z Z (fun w hF=>aC Tryz.underlying4 Z Z (hBa2.cell hF.fr 0 Z)) Z (al (a.e [] Z Z) Z Z (fun w hF=>iu Z (qx e)) Z (al (a.e [] Z Z) Z Z (fun w hF=>ar Z) Z (al (a.e [] Z Z) Z Z (fun w hF=>aK Z) Z (al (a.e [] Z Z) Z Z (fun w hF=>av (k:=1) u101 Z Z db Z) Z (al (a.e [] Z Z) Z Z (fun w hF=>aC u30 Z Z (hBa2.cell hF.fr 1 Z)) Z ?_))))))))
 obtain ⟨q,t,h⟩:=aj h
 refine bj (a.e [] Z Z) Z Z (by kernel_rfl) Z (fx d (!e) t (a.ro 1 Z).rp (p.d a.fr).rp) Z ?_
 rintro _ w ⟨x,rfl,o⟩
 have a:=a.f o
 refine al (a.e [] Z Z) Z Z (fun w hF=>cp Z Z) Z (al (a.e [] Z Z) Z Z (fun w hF=>cp Z Z) Z ?_)
 have y:=a.pick (os':=[W b [J d,c],K U c g,K U x q.2]++[]) [1,2,0] (by decide) Z
 obtain ⟨A,u,h⟩:=aj h
 refine bj (a.e [] Z Z) Z Z (by kernel_rfl) Z (bK d q.1 u y.g ) Z ?_
 rintro _ w ⟨z,rfl,o⟩
 have a:=y.h o
 refine al (a.e [] Z Z) Z Z (fun w hF=>aB Z) Z (bn (a.e [] Z Z) ?_)
 refine M (aw ?_)
 cases h
 exact aF Z Z ⟨z,Z,a.e [0,1] Z Z⟩
theorem kx {e:World} {f l:List UInt32} {d j:Value} {c m:Nat} {S:List Nat} (b g:Bool) {r:Bool×List UInt32}
  (h:F.EZ b f g l=some r) (a:St S e e [W c [J b,d],K U d f]) (p:RP S e U j l) (hBa1:RB S e m [J g,j]):Calls Tryz.prog 177 #[N c 0,N m 0,N c 0] e (Ret fun v w=>∃n:Value,v=N c 0∧St S e w [W c [J r.1,n],K U n r.2]):=by
 refine aJ 29 Tryz.func177 Z Z Z ?_
 refine au [(0,N c 0),(1,N m 0),(2,N c 0)] ⟨Z,Z,Z,V⟩ ?_
 unfold F.EZ at h
 refine I (af (P 1 Z ?_))
 refine H (M (I ?_))
 have hsh1:=(a.ro 1 Z).shp
 refine aZ (fun w'=>St S e w' []) (fun i=>!([1012,1017,18,21].contains i)) bS (fun _ _ _ s=>s.2) (fun _ _ s=>s) (by kernel_rfl) ?_
 have a:=a.drew
 show lxE _ _ _ _ _ _ _ [0,1,2,3,4,5,6,7,8,9,10,11,12,13,14,15,16,17,18,19,20,21,22] _ _
 refine al (a.e [] Z Z) Z Z (fun w hF=>ar Z) Z (al (a.e [] Z Z) Z Z (fun w hF=>ar Z) Z (al (a.e [] Z Z) Z Z (fun w hF=>aK Z) Z (al (a.e [] Z Z) Z Z (fun w hF=>av (k:=0) u101 Z Z nz4 Z) Z (al (a.e [] Z Z) Z Z (fun w hF=>aC Tryz.underlying4 Z Z (hBa1.cell hF.fr 0 Z)) Z (al (a.e [] Z Z) Z Z (fun w hF=>ar Z) Z (al (a.e [] Z Z) Z Z (fun w hF=>aK Z) Z (al (a.e [] Z Z) Z Z (fun w hF=>av (k:=1) u101 Z Z db Z) Z (al (a.e [] Z Z) Z Z (fun w hF=>aC u30 Z Z (hBa1.cell hF.fr 1 Z)) Z ?_))))))))
 refine al (a.e [] Z Z) Z Z (fun w hF=>ar Z) Z (al (a.e [] Z Z) Z Z (fun w hF=>aK Z) Z (al (a.e [] Z Z) Z Z (fun w hF=>av (k:=0) u101 Z Z nz4 Z) Z (mC (a.e [] Z Z) Z Z Z (aC Tryz.underlying4 Z Z (a.r 0 Z 0)) Z ?_)))
 refine al (a.e [] Z Z) Z Z (fun w hF=>iu Z (qx b)) Z (al (a.e [] Z Z) Z Z (fun w hF=>ar Z) Z (al (a.e [] Z Z) Z Z (fun w hF=>aK Z) Z (al (a.e [] Z Z) Z Z (fun w hF=>av (k:=1) u101 Z Z db Z) Z (mC (a.e [] Z Z) Z Z Z (aC u30 Z Z (a.r 0 Z 1)) Z ?_))))
 obtain ⟨q,t,h⟩:=aj h
 refine bj (a.e [] Z Z) Z Z (by kernel_rfl) Z (fx g (!b) t (p.d a.fr).rp (a.ro 1 Z).rp) Z ?_
 rintro _ w ⟨x,rfl,o⟩
 have a:=a.f o
 refine al (a.e [] Z Z) Z Z (fun w hF=>cp Z Z) Z (al (a.e [] Z Z) Z Z (fun w hF=>cp Z Z) Z ?_)
 have y:=a.pick (os':=[W c [J b,d],K U d f,K U x q.2]++[]) [1,2,0] (by decide) Z
 obtain ⟨A,u,h⟩:=aj h
 refine bj (a.e [] Z Z) Z Z (by kernel_rfl) Z (bK b q.1 u y.g ) Z ?_
 rintro _ w ⟨z,rfl,o⟩
 have a:=y.h o
 refine al (a.e [] Z Z) Z Z (fun w hF=>aB Z) Z (bn (a.e [] Z Z) ?_)
 refine M (aw ?_)
 cases h
 exact aF Z Z ⟨z,Z,a.e [0,1] Z Z⟩
theorem k5 {x:World} {y ar ay z:List UInt32} {l an ap m:Value} {e aA aB f:Nat} {S:List Nat} (o ag A p:Bool) {r:Bool×List UInt32×Bool×List UInt32}
  (h:F.Ez o y ag ar A ay p z=some r) (c:St S x x [W e [J o,l],K U l y,W f [J p,m],K U m z]) (aN:RP S x U an ar) (hBa1:RB S x aA [J ag,an]) (aq:RP S x U ap ay) (hBa2:RB S x aB [J A,ap]):Calls Tryz.prog 136 #[N e 0,N aA 0,N aB 0,N f 0] x (Ret fun v w=>∃aD aE:Value,v=.tuple #[N e 0,N f 0]∧St S x w [W e [J r.1,aD],K U aD r.2.1,W f [J r.2.2.1,aE],K U aE r.2.2.2]):=by
 refine aJ 45 Tryz.func136 Z Z Z ?_
 refine au [(0,N e 0),(1,N aA 0),(2,N aB 0),(3,N f 0)] ⟨Z,Z,Z,Z,V⟩ ?_
 unfold F.Ez at h
 refine I (af (P 2 Z ?_))
 refine H (M (I (af (aP (aT (cs:=[J false,.slice none 0 0]) c6 Z c) Z ?_))))
 rintro _ w ⟨u,rfl,c⟩
 refine P 1 Z ?_
 replace c:=c.nil U
 have b:=c.pick (os':=[W u [J false,.slice none 0 0],K U (.slice none 0 0) []]++[W e [J o,l],K U l y,W f [J p,m],K U m z]) [1,0,2,3,4,5] (by decide) Z
 obtain ⟨j,aX,h⟩:=aj h
 refine ao Z (fh false A aX b.g (aq.g (R Z) b) (hBa2.g b)) Z ?_
 rintro _ w ⟨n,rfl,d⟩
 have c:=b.h d
 refine P 1 Z ?_
 refine H (M (I (af (P 4 Z ?_))))
 have b:=c.pick (os':=[W e [J o,l],K U l y,W f [J p,m],K U m z]++[W u [J j.1,n],K U n j.2]) [2,3,4,5,0,1] (by decide) Z
 obtain ⟨a,aO,h⟩:=aj h
 refine ao Z (gG o ag A p aO b.g (aN.g (R Z) b) (hBa1.g b) (aq.g (R Z) b) (hBa2.g b)) Z ?_
 rintro _ w ⟨q,i,rfl,d⟩
 have c:=b.h d
 refine H (M ?_)
 refine a9 (r:=r) (fun (g:Bool×List UInt32×Bool×List UInt32) L w=>∃(B:Value) (C:Value),L=[(0,N e 0),(3,N f 0)]∧St S x w [K U B g.2.1,W e [J g.1,B],K U C g.2.2.2,W f [J g.2.2.1,C]]) (F.FA) ?_ ?_
 rotate_left
 ·intro D
  refine I (af (P 1 Z ?_))
  refine am (aK Z) Z (am (av (k:=0) u101 Z Z nz4 Z) Z (am (aC Tryz.underlying4 Z Z (c.r 2 Z 0)) Z (H (M ?_))))
  refine ax Z (fun E=>?_) (fun E=>?_)
  ·have h:=aG h E
   refine I (af (P 1 Z ?_))
   refine am (aK Z) Z (am (av (k:=0) u101 Z Z nz4 Z) Z (am (aC Tryz.underlying4 Z Z (c.r 4 Z 0)) Z (H (M ?_))))
   refine ax Z (fun G=>?_) (fun G=>?_)
   ·have h:=aG h G
    refine I (af (P 2 Z ?_))
    obtain ⟨s,aQ,h⟩:=aj h
    refine ao Z (cD 1 aQ ) Z ?_
    rintro _ w ⟨T,aF,rfl,d⟩
    have c:=c.f d
    have b:=c.pick (os':=[W e [J a.1,q],K U q a.2.1]++[W aF [J s.1,T],K U T s.2,W f [J a.2.2.1,i],K U i a.2.2.2,W u [J j.1,n],K U n j.2]) [2,3,0,1,4,5,6,7] (by decide) Z
    obtain ⟨ab,aR,h⟩:=aj h
    refine ao Z (du a.1 s.1 aR b.g (b.giveO 1 Z) (b.giveB 0 Z)) Z ?_
    rintro _ w ⟨ak,rfl,d⟩
    have c:=b.h d
    refine H (M (af (P 3 Z ?_)))
    have b:=c.pick (os':=[W f [J a.2.2.1,i],K U i a.2.2.2]++[W e [J ab.1,ak],K U ak ab.2,W aF [J s.1,T],K U T s.2,W u [J j.1,n],K U n j.2]) [4,5,0,1,2,3,6,7] (by decide) Z
    obtain ⟨aI,aS,h⟩:=aj h
    refine ao Z (dW a.2.2.1 j.1 aS b.g (b.giveO 5 Z) (b.giveB 4 Z)) Z ?_
    rintro _ w ⟨aY,rfl,d⟩
    have c:=b.h d
    refine H (M ?_)
    exact au _ (by exact ⟨Z,Z,V⟩) (D (ab.1,ab.2,aI.1,aI.2) _ _ ⟨ak,aY,Z,(c.e [3,2,1,0] Z Z)⟩ h)
   have h:=aH h G
   refine I (af (P 2 Z ?_))
   obtain ⟨t,aU,h⟩:=aj h
   refine ao Z (cD 1 aU ) Z ?_
   rintro _ w ⟨ac,aL,rfl,d⟩
   have c:=c.f d
   have b:=c.pick (os':=[W e [J a.1,q],K U q a.2.1]++[W aL [J t.1,ac],K U ac t.2,W f [J a.2.2.1,i],K U i a.2.2.2,W u [J j.1,n],K U n j.2]) [2,3,0,1,4,5,6,7] (by decide) Z
   obtain ⟨ad,aV,h⟩:=aj h
   refine ao Z (dW a.1 t.1 aV b.g (b.giveO 1 Z) (b.giveB 0 Z)) Z ?_
   rintro _ w ⟨al,rfl,d⟩
   have c:=b.h d
   refine H (M (af (P 3 Z ?_)))
   have b:=c.pick (os':=[W f [J a.2.2.1,i],K U i a.2.2.2]++[W e [J ad.1,al],K U al ad.2,W aL [J t.1,ac],K U ac t.2,W u [J j.1,n],K U n j.2]) [4,5,0,1,2,3,6,7] (by decide) Z
   obtain ⟨aM,aW,h⟩:=aj h
   refine ao Z (du a.2.2.1 j.1 aW b.g (b.giveO 5 Z) (b.giveB 4 Z)) Z ?_
   rintro _ w ⟨aZ,rfl,d⟩
   have c:=b.h d
   refine H (M ?_)
   exact au _ (by exact ⟨Z,Z,V⟩) (D (ad.1,ad.2,aM.1,aM.2) _ _ ⟨al,aZ,Z,(c.e [3,2,1,0] Z Z)⟩ h)
  have h:=aH h E
  refine az (M ?_)
  exact au _ (by exact ⟨Z,Z,V⟩) (D (a.1,a.2.1,a.2.2.1,a.2.2.2) _ _ ⟨q,i,Z,(c.e [1,0,3,2] Z Z)⟩ h)
 rintro ⟨a0,a1,a2,a3⟩ L w hJ h
 try dsimp only at hJ
 obtain ⟨B,C,rfl,c⟩:=hJ
 unfold F.FA at h
 refine I (af (P 4 Z ?_))
 refine H (M (aw ?_))
 cases h
 exact bX Z Z Z ⟨B,C,Z,c.e [1,0,3,2] Z Z⟩
theorem jt {w0:World} {x ap y:List UInt32} {l al m:Value} {f aq d:Nat} {S:List Nat} (o z p:Bool) {r:Bool×List UInt32×Bool×List UInt32}
  (h:F.FZ o x z ap p y=some r) (c:St S w0 w0 [W f [J o,l],K U l x,W d [J p,m],K U m y]) (an:RP S w0 U al ap) (hBa2:RB S w0 aq [J z,al]):Calls Tryz.prog 136 #[N f 0,N d 0,N aq 0,N d 0] w0 (Ret fun v w=>∃ar ay:Value,v=.tuple #[N f 0,N d 0]∧St S w0 w [W f [J r.1,ar],K U ar r.2.1,W d [J r.2.2.1,ay],K U ay r.2.2.2]):=by
 refine aJ 45 Tryz.func136 Z Z Z ?_
 refine au [(0,N f 0),(1,N d 0),(2,N aq 0),(3,N d 0)] ⟨Z,Z,Z,Z,V⟩ ?_
 unfold F.FZ at h
 refine I (af (P 2 Z ?_))
 refine H (M (I (af (aP (aT (cs:=[J false,.slice none 0 0]) c6 Z c) Z ?_))))
 rintro _ w ⟨u,rfl,c⟩
 refine P 1 Z ?_
 replace c:=c.nil U
 have b:=c.pick (os':=[W u [J false,.slice none 0 0],K U (.slice none 0 0) []]++[W f [J o,l],K U l x,W d [J p,m],K U m y]) [1,0,2,3,4,5] (by decide) Z
 obtain ⟨j,aR,h⟩:=aj h
 refine ao Z (fh false z aR b.g (an.g (R Z) b) (hBa2.g b)) Z ?_
 rintro _ w ⟨n,rfl,e⟩
 have c:=b.h e
 refine P 1 Z ?_
 refine H (M (I (af (P 4 Z ?_))))
 have b:=c.pick (os':=[W f [J o,l],K U l x,W d [J p,m],K U m y]++[W u [J j.1,n],K U n j.2]) [2,3,4,5,0,1] (by decide) Z
 obtain ⟨a,aF,h⟩:=aj h
 refine ao Z (jv o z p aF b.g (an.g (R Z) b) (hBa2.g b)) Z ?_
 rintro _ w ⟨q,i,rfl,e⟩
 have c:=b.h e
 refine H (M ?_)
 refine a9 (r:=r) (fun (g:Bool×List UInt32×Bool×List UInt32) L w=>∃(A:Value) (B:Value),L=[(0,N f 0),(3,N d 0)]∧St S w0 w [K U A g.2.1,W f [J g.1,A],K U B g.2.2.2,W d [J g.2.2.1,B]]) (F.E8) ?_ ?_
 rotate_left
 ·intro C
  refine I (af (P 1 Z ?_))
  refine am (aK Z) Z (am (av (k:=0) u101 Z Z nz4 Z) Z (am (aC Tryz.underlying4 Z Z (c.r 2 Z 0)) Z (H (M ?_))))
  refine ax Z (fun D=>?_) (fun D=>?_)
  ·have h:=aG h D
   refine I (af (P 1 Z ?_))
   refine am (aK Z) Z (am (av (k:=0) u101 Z Z nz4 Z) Z (am (aC Tryz.underlying4 Z Z (c.r 4 Z 0)) Z (H (M ?_))))
   refine ax Z (fun E=>?_) (fun E=>?_)
   ·have h:=aG h E
    refine I (af (P 2 Z ?_))
    obtain ⟨s,aI,h⟩:=aj h
    refine ao Z (cD 1 aI ) Z ?_
    rintro _ w ⟨G,aA,rfl,e⟩
    have c:=c.f e
    have b:=c.pick (os':=[W f [J a.1,q],K U q a.2.1]++[W aA [J s.1,G],K U G s.2,W d [J a.2.2.1,i],K U i a.2.2.2,W u [J j.1,n],K U n j.2]) [2,3,0,1,4,5,6,7] (by decide) Z
    obtain ⟨T,aL,h⟩:=aj h
    refine ao Z (du a.1 s.1 aL b.g (b.giveO 1 Z) (b.giveB 0 Z)) Z ?_
    rintro _ w ⟨ag,rfl,e⟩
    have c:=b.h e
    refine H (M (af (P 3 Z ?_)))
    have b:=c.pick (os':=[W d [J a.2.2.1,i],K U i a.2.2.2]++[W f [J T.1,ag],K U ag T.2,W aA [J s.1,G],K U G s.2,W u [J j.1,n],K U n j.2]) [4,5,0,1,2,3,6,7] (by decide) Z
    obtain ⟨aB,aM,h⟩:=aj h
    refine ao Z (dW a.2.2.1 j.1 aM b.g (b.giveO 5 Z) (b.giveB 4 Z)) Z ?_
    rintro _ w ⟨aS,rfl,e⟩
    have c:=b.h e
    refine H (M ?_)
    exact au _ (by exact ⟨Z,Z,V⟩) (C (T.1,T.2,aB.1,aB.2) _ _ ⟨ag,aS,Z,(c.e [3,2,1,0] Z Z)⟩ h)
   have h:=aH h E
   refine I (af (P 2 Z ?_))
   obtain ⟨t,aN,h⟩:=aj h
   refine ao Z (cD 1 aN ) Z ?_
   rintro _ w ⟨ab,aD,rfl,e⟩
   have c:=c.f e
   have b:=c.pick (os':=[W f [J a.1,q],K U q a.2.1]++[W aD [J t.1,ab],K U ab t.2,W d [J a.2.2.1,i],K U i a.2.2.2,W u [J j.1,n],K U n j.2]) [2,3,0,1,4,5,6,7] (by decide) Z
   obtain ⟨ac,aO,h⟩:=aj h
   refine ao Z (dW a.1 t.1 aO b.g (b.giveO 1 Z) (b.giveB 0 Z)) Z ?_
   rintro _ w ⟨ak,rfl,e⟩
   have c:=b.h e
   refine H (M (af (P 3 Z ?_)))
   have b:=c.pick (os':=[W d [J a.2.2.1,i],K U i a.2.2.2]++[W f [J ac.1,ak],K U ak ac.2,W aD [J t.1,ab],K U ab t.2,W u [J j.1,n],K U n j.2]) [4,5,0,1,2,3,6,7] (by decide) Z
   obtain ⟨aE,aQ,h⟩:=aj h
   refine ao Z (du a.2.2.1 j.1 aQ b.g (b.giveO 5 Z) (b.giveB 4 Z)) Z ?_
   rintro _ w ⟨aU,rfl,e⟩
   have c:=b.h e
   refine H (M ?_)
   exact au _ (by exact ⟨Z,Z,V⟩) (C (ac.1,ac.2,aE.1,aE.2) _ _ ⟨ak,aU,Z,(c.e [3,2,1,0] Z Z)⟩ h)
  have h:=aH h D
  refine az (M ?_)
  exact au _ (by exact ⟨Z,Z,V⟩) (C (a.1,a.2.1,a.2.2.1,a.2.2.2) _ _ ⟨q,i,Z,(c.e [1,0,3,2] Z Z)⟩ h)
 rintro ⟨aV,aW,aX,aY⟩ L w hJ h
 try dsimp only at hJ
 obtain ⟨A,B,rfl,c⟩:=hJ
 unfold F.E8 at h
 refine I (af (P 4 Z ?_))
 refine H (M (aw ?_))
 cases h
 exact bX Z Z Z ⟨A,B,Z,c.e [1,0,3,2] Z Z⟩
end Go.Proofs
