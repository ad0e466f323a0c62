import Derived.Test.YtkickcbphbgldaaGreatDoorTW0
import Derived.Test.YtkickcbphbgldaaGreatDoorGkFman
import Derived.Test.YtkickcbphbgldaaGreatDoorTWbignuma
set_option linter.unusedVariables false
set_option linter.unusedSimpArgs false
set_option linter.unusedSectionVars false
set_option maxRecDepth 4000
namespace Go.Proofs
open Go Go.RowKit Go.Gk
open Go.Gk renaming aa → P, ae → O, ah → J, ai → H, e32 → U, own → M, pB → N, vB → I
open Nat renaming le_of_ble_eq_true → R
open Go.Gk.OE renaming bx → X
theorem oU {y:World} {a0:List UInt32} {c:Value} (a1:UInt64) {r:List UInt32}
  (h:F.Fb a0 a1=some r) (b:RP [] y U c a0):Calls Tryz.prog 199 #[c,v64 a1] y (Ret fun v w=>St [] y w [M U v r]):=by
 refine aJ 64 Tryz.func199 Z Z Z ?_
 have a:=St.l y
 refine au [(0,c),(1,v64 a1)] ⟨Z,Z,V⟩ ?_
 unfold F.Fb at h
 refine J (af (P 1 Z ?_))
 refine H (O (J (af (P 1 Z ?_))))
 refine am (aq Z Z (gO _ a1 32 (by decide))) Z ?_
 refine am (aM Z (mi u112 Tryz.underlying3 (a1 / 32))) Z (P 1 Z ?_)
 refine am (aq Z Z (fe _ a1 32 (by decide))) Z ?_
 obtain ⟨l,ab,h⟩:=aO h
 refine am (aB (v:=vI l) (by rw [←ab]; rfl)) Z ?_
 refine P 1 Z ?_
 refine H (O (J (J (af (P 2 Z ?_)))))
 refine am (aN u30 Z (b.d a.fr)) Z (P 1 Z ?_)
 refine H (O ?_)
 refine ax Z (fun f=>?_) (fun f=>?_)
 ·have h:=aI h f
  refine J (af (P 1 Z ?_))
  refine H (O (aw (aE ?_)))
  cases h
  exact aF Z Z ((a.nil U).e [0] Z Z)
 have h:=aH h f
 refine ay (O (J (af (P 1 Z ?_))))
 refine am (aN u30 Z (b.d a.fr)) Z (P 2 Z ?_)
 obtain ⟨ak,ac,h⟩:=aj h
 refine aT (de (e:=U) u30 aV Z Z Z a ac) Z ?_
 rintro d w a
 refine P 1 Z ?_
 refine H (O (J (J (af (P 1 Z ?_)))))
 refine H (O (aD ?_))
 refine au [(0,c),(5,vI l),(6,v64 (a1%32)),(7,d),(8,vI 0)] ⟨Z,Z,Z,Z,Z,V⟩ ?_
 refine bj (F.EQ a0 l a1) (fun (s:Int×List UInt32) L w=>L=[(0,c),(5,vI l),(6,v64 (a1%32)),(7,d),(8,vI s.1)]∧St [] y w [M U d s.2]) ?_ (0,ak) ⟨Z,a⟩ h
 rintro ar ⟨z,A⟩ L w al hI ad h B
 try dsimp only at hI
 obtain ⟨rfl,a⟩:=hI
 unfold F.EQ at h
 refine J (J (af (P 2 Z ?_)))
 refine am (aN u30 Z (a.ro 0 Z)) Z (P 1 Z ?_)
 refine H (O ?_)
 refine ax Z (fun j=>?_) (fun j=>?_)
 ·have h:=aI h j
  refine ay (O (J (aD ?_)))
  refine J (af (P 4 Z ?_))
  obtain ⟨m,p,h⟩:=aj h
  refine am (bm u30 aV Z Z (b.d a.fr) p) Z (am (bb u38 Z Z (b.d a.fr) p Z) Z (am (aM Z (bp u38 u87 m)) Z (P 1 Z ?_)))
  refine H (O ?_)
  refine a9 (r:=al) (fun (g:UInt64) L w=>L=[(0,c),(5,vI l),(6,v64 (a1%32)),(7,d),(8,vI z),(9,v64 g)]∧St [] y w [M U d A]) (F.El a1 z A) ?_ ?_
  rotate_left
  ·intro q
   refine J (af (P 5 Z ?_))
   refine am (aN u30 Z (b.d a.fr)) Z (P 1 Z ?_)
   refine H (O ?_)
   refine ax Z (fun k=>?_) (fun k=>?_)
   ·have h:=aI h k
    refine af (P 6 Z ?_)
    obtain ⟨n,u,h⟩:=aj h
    refine am (bm u30 aV Z Z (b.d a.fr) u) Z (am (bb u38 Z Z (b.d a.fr) u Z) Z (am (aM Z (bp u38 u87 n)) Z (am (aq Z Z (c9 _ n.toUInt64 32)) Z (am (aq Z Z (fa _ m.toUInt64 (bo n.toUInt64 32))) Z ?_))))
    obtain ⟨C,E,h⟩:=aO h
    refine am (aB (v:=v64 C) (by rw [←E]; rfl)) Z ?_
    refine H (O ?_)
    exact au _ (by exact ⟨Z,Z,Z,Z,Z,Z,V⟩) (q C _ _ ⟨Z,a⟩ h)
   have h:=aH h k
   refine ay (O ?_)
   exact au _ (by exact ⟨Z,Z,Z,Z,Z,Z,V⟩) (q m.toUInt64 _ _ ⟨Z,a⟩ h)
  rintro o L w hJ h
  try dsimp only at hJ
  obtain ⟨rfl,a⟩:=hJ
  unfold F.El at h
  refine af (P 4 Z ?_)
  refine am (aq Z Z (cp _ o (a1%32))) Z (am (aM Z (bV u87 u38 (aP o ((a1%32).toNat)))) Z ?_)
  obtain ⟨av,x,h⟩:=aj h
  refine am (bm u30 aV Z Z (a.ro 0 Z) x) Z (bk (cd (t:=((aP o ((a1%32).toNat)).toUInt32)) aV Z Z a (i:=0) Z x Z) ?_)
  intro w a
  obtain ⟨ag,G,h⟩:=aO h
  rw [G]at a
  refine H (aR ?_)
  refine O (af (P 3 Z ?_))
  refine H ?_
  exact bA (bz _ (by exact ⟨Z,Z,Z,Z,Z,V⟩) (ad (wI (z+1),ag) _ _ ⟨Z,a⟩ (a8 h B)))
 have h:=aH h j
 refine bd ?_
 refine aG (aG ?_)
 have h:=aW h B
 refine bf ?_
 refine O (J (af (P 1 Z ?_)))
 have hG:=a.pick (os':=[M U d A]++[]) [0] (by decide) Z
 obtain ⟨az,S,h⟩:=aj h
 refine ao Z (c7  S hG.g ) Z ?_
 rintro aA w ⟨ap,D,T⟩
 rw [←D]at T
 have a:=hG.h T
 refine P 1 Z ?_
 refine H (O (aw ?_))
 cases h
 exact aF Z Z (a.e [0] Z Z)
theorem jd {A:World} {a0 a1:List UInt32} {bQ bR:Value} {r:List UInt32×List UInt32}
  (h:F.C7 a0 a1=some r) (G:RP [] A U bQ a0) (D:RP [] A U bR a1):Calls Tryz.prog 193 #[bQ,bR] A (Ret fun v w=>∃u0 u1:Value,v=.tuple #[u0,u1]∧St [] A w [M U u0 r.1,M U u1 r.2]):=by
 refine aJ 273 Tryz.func193 Z Z Z ?_
 have a:=St.l A
 refine au [(0,bQ),(1,bR)] ⟨Z,Z,V⟩ ?_
 unfold F.C7 at h
 refine J (af (P 2 Z ?_))
 refine H (O (J (J (af (P 1 Z ?_)))))
 refine am (aN u30 Z (D.d a.fr)) Z (P 1 Z ?_)
 refine H (O ?_)
 refine ax Z (fun S=>?_) (fun S=>?_)
 ·have h:=aI h S
  refine J (af (P 2 Z ?_))
  refine H (O (aw (aE ?_)))
  cases h
  exact bW Z Z Z ⟨.slice none 0 0,.slice none 0 0,Z,((a.nil U).nil U).e [1,0] Z Z⟩
 have h:=aH h S
 refine ay (O (J (J (af (P 2 Z ?_)))))
 obtain ⟨du,cJ,h⟩:=aj h
 refine ao Z (jo  cJ (G.d a.fr).rp (D.d a.fr).rp) Z ?_
 rintro _ w ⟨rfl,k⟩
 have a:=a.f k
 refine P 1 Z ?_
 refine H (O ?_)
 refine ax Z (fun T=>?_) (fun T=>?_)
 ·have h:=aI h T
  refine J (af (P 1 Z ?_))
  obtain ⟨dv,cK,h⟩:=aj h
  refine ao Z (iF  cK (G.d a.fr).rp) Z ?_
  rintro c2 w k
  have a:=a.f k
  refine P 2 Z ?_
  refine H (O (aw (aE ?_)))
  cases h
  exact bW Z Z Z ⟨.slice none 0 0,c2,Z,(a.nil U).e [0,1] Z Z⟩
 have h:=aH h T
 refine ay (O (J (J (af (P 1 Z ?_)))))
 refine am (aN u30 Z (G.d a.fr)) Z (P 1 Z ?_)
 refine H (O ?_)
 refine ax Z (fun ab=>?_) (fun ab=>?_)
 ·have h:=aI h ab
  refine J (af (P 1 Z ?_))
  obtain ⟨be,cL,h⟩:=aj h
  refine ao Z (kq  cL (G.d a.fr).rp) Z ?_
  rintro _ w ⟨rfl,k⟩
  have a:=a.f k
  refine P 1 Z ?_
  obtain ⟨bh,cM,h⟩:=aj h
  refine ao Z (kq  cM (D.d a.fr).rp) Z ?_
  rintro _ w ⟨rfl,k⟩
  have a:=a.f k
  refine P 2 Z ?_
  refine H (O (J ?_))
  refine aZ (fun w'=>St [] A w' []) (fun i=>!([3,7].contains i)) bS (fun _ _ _ y=>y.2) (fun _ _ y=>y) (by kernel_rfl) ?_
  have a:=a.drew
  show lxE _ _ _ _ _ _ _ [0,1,2,3,4,5,6,7,8,9] _ _
  refine al a Z Z (fun w hF=>ar Z) Z (al a Z Z (fun w hF=>ar Z) Z ?_)
  obtain ⟨cN,h⟩:=bZ h
  refine al a Z Z (fun w hF=>aq Z Z (gO _ be bh cN)) Z ?_
  obtain ⟨dw,cO,h⟩:=aj h
  refine bg a Z Z (by kernel_rfl) Z (eb (be / bh) cO ) Z ?_
  rintro c3 w k
  have a:=a.f k
  refine al (a.e [] Z Z) Z Z (fun w hF=>ar Z) Z (al (a.e [] Z Z) Z Z (fun w hF=>ar Z) Z ?_)
  obtain ⟨cb,h⟩:=bZ h
  refine al (a.e [] Z Z) Z Z (fun w hF=>aq Z Z (fe _ be bh cb)) Z ?_
  obtain ⟨dg,cc,h⟩:=aj h
  refine bg (a.e [] Z Z) Z Z (by kernel_rfl) Z (eb (be%bh) cc ) Z ?_
  rintro cP w k
  have a:=a.f k
  refine al (a.e [] Z Z) Z Z (fun w hF=>aB Z) Z (al (a.e [] Z Z) Z Z (fun w hF=>aB Z) Z (bn (a.e [] Z Z) ?_))
  refine O (aw (aE ?_))
  cases h
  exact bW Z Z Z ⟨c3,cP,Z,a.e [1,0] Z Z⟩
 have h:=aH h ab
 refine ay (O (J (J (af (P 1 Z ?_)))))
 refine am (aN u30 Z (D.d a.fr)) Z (P 1 Z ?_)
 refine H (O ?_)
 refine ax Z (fun ac=>?_) (fun ac=>?_)
 ·have h:=aI h ac
  refine J (af (P 2 Z ?_))
  obtain ⟨cQ,bi,h⟩:=aj h
  refine am (bm u30 aV Z Z (D.d a.fr) bi) Z (am (bb u38 Z Z (D.d a.fr) bi Z) Z ?_)
  obtain ⟨az,ce,h⟩:=aj h
  refine ao Z (pz cQ ce (G.d a.fr).rp) Z ?_
  rintro _ w ⟨bT,rfl,k⟩
  have a:=a.f k
  refine P 5 Z ?_
  refine H (O (J (af (P 2 Z ?_))))
  refine aT (cV (e:=U) (l:=([az.2]:List UInt32)) (vs:=[v32 az.2]) u30 aV Z Z Z Z (by decide) (by decide) a) Z ?_
  rintro cR w a
  have hG:=a.pick (os':=[M U cR ([az.2]:List UInt32)]++[M U bT az.1]) [0,1] (by decide) Z
  obtain ⟨dh,cf,h⟩:=aj h
  refine ao Z (c7  cf hG.g ) Z ?_
  rintro cS w ⟨c6,bU,k⟩
  rw [←bU]at k
  have a:=hG.h k
  refine P 2 Z ?_
  refine H (O (aw (aE ?_)))
  cases h
  exact bW Z Z Z ⟨bT,cS,Z,a.e [1,0] Z Z⟩
 have h:=aH h ac
 refine ay (O (J (af (P 1 Z ?_))))
 obtain ⟨bX,cg,h⟩:=aj h
 refine ao Z (gI  cg (D.d a.fr).rp) Z ?_
 rintro _ w ⟨rfl,k⟩
 have a:=a.f k
 refine P 1 Z ?_
 refine am (aq Z Z (km _ (wI (bX - 1)) 32 (by decide))) Z ?_
 refine P 2 Z ?_
 refine am (aM Z (ff Tryz.underlying3 u112 (wI ((wI (32 - (Int.tmod (wI (bX - 1)) 32))) - 1)))) Z ?_
 obtain ⟨o,ch,h⟩:=aO h
 refine am (aB (v:=v64 o) (by rw [←ch]; rfl)) Z ?_
 refine H (O (J (af (P 2 Z ?_))))
 obtain ⟨b,ci,h⟩:=aj h
 refine ao Z (iC o ci (D.d a.fr).rp) Z ?_
 rintro c w k
 have a:=a.f k
 refine P 1 Z ?_
 refine H (O (J (af (P 1 Z ?_))))
 refine am (aN u30 Z (G.d a.fr)) Z (P 1 Z ?_)
 obtain ⟨di,cj,h⟩:=aj h
 refine aT (de (e:=U) u30 aV Z Z Z a cj) Z ?_
 rintro d w a
 refine P 1 Z ?_
 refine H (O (J (af (P 3 Z ?_))))
 obtain ⟨cT,ck,h⟩:=aj h
 refine ao Z (iC o ck (G.d a.fr).rp) Z ?_
 rintro cU w k
 have a:=a.f k
 refine aT (vZ (e:=U) u30 aV Z Z Z a (i:=1) Z (a.ro 0 Z)) Z ?_
 rintro v_q w ⟨hv_q,a⟩
 subst v_q
 obtain ⟨bY,cl,h⟩:=aO h
 rw [cl]at a
 refine H (O (J (af (P 1 Z ?_))))
 refine am (aN u30 Z (a.ro 2 Z)) Z (P 1 Z ?_)
 refine H (O (J (af (P 1 Z ?_))))
 refine am (aN u30 Z (a.ro 1 Z)) Z (P 3 Z ?_)
 obtain ⟨aY,cm,h⟩:=aO h
 refine am (aB (v:=vI aY) (by rw [←cm]; rfl)) Z ?_
 refine H (O (J (af (P 2 Z ?_))))
 obtain ⟨b0,cn,h⟩:=aj h
 refine aT (de (e:=U) u30 aV Z Z Z a cn) Z ?_
 rintro j w a
 refine P 1 Z ?_
 refine H (O (J ?_))
 refine aZ (fun w'=>St [] A w' [M U j b0,M U cU cT,M U d bY,M U c b]) (fun _=>true) bS (fun _ _ _ y=>y.2) (fun _ _ y=>y) (by kernel_rfl) ?_
 have a:=a.drew
 show lxE _ _ _ _ _ _ _ [0,1,2,3,4,5,6,7,8,9,10,11,12,13] _ _
 refine al a Z Z (fun w hF=>ar Z) Z (al a Z Z (fun w hF=>ar Z) Z (al a Z Z (fun w hF=>aq Z Z (dM _ (b.length:Int) 1)) Z ?_))
 obtain ⟨f,bl,h⟩:=aj h
 refine al a Z Z (fun w hF=>bm u30 aV Z Z (hF.ro 3 Z) bl) Z (al a Z Z (fun w hF=>bb u38 Z Z (hF.ro 3 Z) bl Z) Z (al a Z Z (fun w hF=>aM Z (bp u38 u87 f)) Z (al a Z Z (fun w hF=>ar Z) Z (al a Z Z (fun w hF=>ar Z) Z (al a Z Z (fun w hF=>aq Z Z (dM _ (b.length:Int) 2)) Z ?_)))))
 obtain ⟨n,bq,h⟩:=aj h
 refine al a Z Z (fun w hF=>bm u30 aV Z Z (hF.ro 3 Z) bq) Z (al a Z Z (fun w hF=>bb u38 Z Z (hF.ro 3 Z) bq Z) Z (al a Z Z (fun w hF=>aM Z (bp u38 u87 n)) Z (al a Z Z (fun w hF=>aB Z) Z (al a Z Z (fun w hF=>aB Z) Z (bn a ?_)))))
 refine O (J (J (af (P 2 Z ?_))))
 refine H (O (aD ?_))
 refine au [(10,v64 o),(11,c),(12,d),(13,vI (b.length:Int)),(15,j),(16,v64 f.toUInt64),(17,v64 n.toUInt64),(18,vI aY)] ⟨Z,Z,Z,Z,Z,Z,Z,Z,V⟩ ?_
 refine bj (F.Dv o b f n) (fun (s:Int×List UInt32×List UInt32) L w=>L=[(10,v64 o),(11,c),(12,d),(13,vI (b.length:Int)),(15,j),(16,v64 f.toUInt64),(17,v64 n.toUInt64),(18,vI s.1)]∧St [] A w [M U c b,M U d s.2.1,M U j s.2.2]) ?_ (aY,bY,b0) ⟨Z,(a.e [3,2,0] Z Z)⟩ h
 rintro c8 ⟨m,q,p⟩ L w b1 hI co h br
 try dsimp only at hI
 obtain ⟨rfl,a⟩:=hI
 unfold F.Dv at h
 refine J (J (af (P 2 Z ?_)))
 refine H (O ?_)
 refine ax Z (fun ad=>?_) (fun ad=>?_)
 ·have h:=aI h ad
  refine ay (O (J (aD ?_)))
  refine J ?_
  refine aZ (fun w'=>St [] A w' [M U c b,M U d q,M U j p]) (fun _=>true) bS (fun _ _ _ y=>y.2) (fun _ _ y=>y) (by kernel_rfl) ?_
  have a:=a.drew
  show lxE _ _ _ _ _ _ _ [0,1,2,3,4,5,6,7,8,9,10,11,12,13,14,15,16,17] _ _
  refine al a Z Z (fun w hF=>ar Z) Z (al a Z Z (fun w hF=>ar Z) Z (al a Z Z (fun w hF=>ar Z) Z (al a Z Z (fun w hF=>aq Z Z (md _ m (b.length:Int))) Z ?_)))
  obtain ⟨a2,bs,h⟩:=aj h
  refine al a Z Z (fun w hF=>bm u30 aV Z Z (hF.ro 1 Z) bs) Z (al a Z Z (fun w hF=>bb u38 Z Z (hF.ro 1 Z) bs Z) Z (al a Z Z (fun w hF=>aM Z (bp u38 u87 a2)) Z (al a Z Z (fun w hF=>aq Z Z (c9 _ a2.toUInt64 32)) Z (al a Z Z (fun w hF=>ar Z) Z (al a Z Z (fun w hF=>ar Z) Z (al a Z Z (fun w hF=>ar Z) Z (al a Z Z (fun w hF=>aq Z Z (md _ m (b.length:Int))) Z (al a Z Z (fun w hF=>aq Z Z (dM _ (wI (m+(b.length:Int))) 1)) Z ?_))))))))
  obtain ⟨b2,bt,h⟩:=aj h
  refine al a Z Z (fun w hF=>bm u30 aV Z Z (hF.ro 1 Z) bt) Z (al a Z Z (fun w hF=>bb u38 Z Z (hF.ro 1 Z) bt Z) Z (al a Z Z (fun w hF=>aM Z (bp u38 u87 b2)) Z (al a Z Z (fun w hF=>aq Z Z (fa _ (bo a2.toUInt64 32) b2.toUInt64)) Z ?_)))
  obtain ⟨B,cq,h⟩:=aO h
  refine al a Z Z (fun w hF=>aB (v:=v64 B) (by rw [←cq]; rfl)) Z ?_
  refine bn a ?_
  refine O (J ?_)
  refine aZ (fun w'=>St [] A w' [M U c b,M U d q,M U j p]) (fun _=>true) bS (fun _ _ _ y=>y.2) (fun _ _ y=>y) (by kernel_rfl) ?_
  have a:=a.drew
  show lxE _ _ _ _ _ _ _ [0,1,2,3,4,5,6,7] _ _
  refine al a Z Z (fun w hF=>ar Z) Z (al a Z Z (fun w hF=>ar Z) Z ?_)
  obtain ⟨cr,h⟩:=bZ h
  refine al a Z Z (fun w hF=>aq Z Z (gO _ B f.toUInt64 cr)) Z (al a Z Z (fun w hF=>ar Z) Z (al a Z Z (fun w hF=>ar Z) Z ?_))
  obtain ⟨cs,h⟩:=bZ h
  refine al a Z Z (fun w hF=>aq Z Z (fe _ B f.toUInt64 cs)) Z (al a Z Z (fun w hF=>aB Z) Z (al a Z Z (fun w hF=>aB Z) Z (bn a ?_)))
  refine O ?_
  refine a9 (r:=b1) (fun (g:UInt64) L w=>L=[(10,v64 o),(11,c),(12,d),(13,vI (b.length:Int)),(15,j),(16,v64 f.toUInt64),(17,v64 n.toUInt64),(18,vI m),(20,v64 g)]∧St [] A w [M U c b,M U d q,M U j p]) (F.DN q b m p) ?_ ?_
  rotate_left
  ·intro bu
   refine aD ?_
   refine au [(10,v64 o),(11,c),(12,d),(13,vI (b.length:Int)),(15,j),(16,v64 f.toUInt64),(17,v64 n.toUInt64),(18,vI m),(20,v64 (B / f.toUInt64)),(21,v64 (B%f.toUInt64))] ⟨Z,Z,Z,Z,Z,Z,Z,Z,Z,Z,V⟩ ?_
   refine bj (F.DI b n m q f p) (fun (s:UInt64×UInt64) L w=>L=[(10,v64 o),(11,c),(12,d),(13,vI (b.length:Int)),(15,j),(16,v64 f.toUInt64),(17,v64 n.toUInt64),(18,vI m),(20,v64 s.1),(21,v64 s.2)]∧St [] A w [M U c b,M U d q,M U j p]) ?_ (B / f.toUInt64,B%f.toUInt64) ⟨Z,a⟩ h
   rintro dj ⟨u,z⟩ L w cW hI ct h aA
   try dsimp only at hI
   obtain ⟨rfl,a⟩:=hI
   unfold F.DI at h
   refine J ?_
   refine a9 (r:=cW) (fun (g:Bool) L w=>L=[(10,v64 o),(11,c),(12,d),(13,vI (b.length:Int)),(15,j),(16,v64 f.toUInt64),(17,v64 n.toUInt64),(18,vI m),(20,v64 u),(21,v64 z),(154,I g)]∧St [] A w [M U c b,M U d q,M U j p]) (F.Cd f u z q b m p) ?_ ?_
   rotate_left
   ·intro bv
    refine af (P 1 Z ?_)
    refine am (aq Z Z (mt _ u 4294967295)) Z (P 1 Z ?_)
    cases E:(decide ((4294967295:UInt64)<u))
    case true=>
     have h:=aI h E
     try simp only [E]
     refine P 16 Z ?_
     refine H (O ?_)
     exact au _ (by exact ⟨Z,Z,Z,Z,Z,Z,Z,Z,Z,Z,Z,V⟩) (bv true _ _ ⟨Z,a⟩ h)
    case false=>
     have h:=aH h E
     try simp only [E]
     refine P 2 Z ?_
     refine ba (t:=138) Z Z (aq Z Z (gX _ u n.toUInt64)) Z (P 1 Z ?_)
     refine ba (t:=138) Z Z (aq Z Z (c9 _ z 32)) Z (P 5 Z ?_)
     obtain ⟨aC,bw,h⟩:=aj h
     refine ba (t:=138) Z Z (bm u30 aV Z Z (a.ro 1 Z) bw) Z (ba (t:=138) Z Z (bb u38 Z Z (a.ro 1 Z) bw Z) Z (ba (t:=138) Z Z (aM Z (bp u38 u87 aC)) Z (ba (t:=138) Z Z (aq Z Z (fa _ (bo z 32) aC.toUInt64)) Z (ba (t:=138) Z Z (aq Z Z (mt _ (u*n.toUInt64) ((bo z 32) ||| aC.toUInt64))) Z (P 1 Z ?_)))))
     refine H (O ?_)
     exact au _ (by exact ⟨Z,Z,Z,Z,Z,Z,Z,Z,Z,Z,Z,V⟩) (bv (decide (((bo z 32) ||| aC.toUInt64)<(u*n.toUInt64))) _ _ ⟨Z,a⟩ h)
   rintro dk L w hJ h
   try dsimp only at hJ
   obtain ⟨rfl,a⟩:=hJ
   unfold F.Cd at h
   refine ax Z (fun aF=>?_) (fun aF=>?_)
   ·have h:=aI h aF
    refine ay (O (aD ?_))
    refine J (af (P 1 Z ?_))
    refine am (aq Z Z (eD _ u 1)) Z (P 1 Z ?_)
    refine H (O (J (af (P 2 Z ?_))))
    refine am (aq Z Z (cv _ z f.toUInt64)) Z (P 1 Z ?_)
    refine H (O (J (af (P 1 Z ?_))))
    refine am (aq Z Z (mt _ (z+f.toUInt64) 4294967295)) Z (H (O ?_))
    refine ax Z (fun aK=>?_) (fun aK=>?_)
    ·have h:=aI h aK
     refine bd ?_
     refine nC Z ?_
     refine aG ?_
     have h:=aW h aA
     refine bf ?_
     refine O ?_
     exact au _ (by exact ⟨Z,Z,Z,Z,Z,Z,Z,Z,Z,V⟩) (bu (u - 1) _ _ ⟨Z,a⟩ h)
    have h:=aH h aK
    refine ay (aR ?_)
    exact bA (bz _ (by exact ⟨Z,Z,Z,Z,Z,Z,Z,Z,Z,Z,V⟩) (ct (u - 1,z+f.toUInt64) _ _ ⟨Z,a⟩ (a8 h aA)))
   have h:=aH h aF
   refine bd ?_
   refine aG (aG ?_)
   have h:=aW h aA
   refine bf ?_
   refine O ?_
   exact au _ (by exact ⟨Z,Z,Z,Z,Z,Z,Z,Z,Z,V⟩) (bu u _ _ ⟨Z,a⟩ h)
  rintro x L w hJ h
  try dsimp only at hJ
  obtain ⟨rfl,a⟩:=hJ
  unfold F.DN at h
  refine J (af (P 2 Z ?_))
  refine H (O (J (J (af (P 1 Z ?_)))))
  refine H (O (aD ?_))
  refine au [(10,v64 o),(11,c),(12,d),(13,vI (b.length:Int)),(15,j),(16,v64 f.toUInt64),(17,v64 n.toUInt64),(18,vI m),(20,v64 x),(22,v64 0),(23,v64 0),(24,vI 0)] ⟨Z,Z,Z,Z,Z,Z,Z,Z,Z,Z,Z,Z,V⟩ ?_
  refine bj (F.Dt b m x p) (fun (s:UInt64×UInt64×Int×List UInt32) L w=>L=[(10,v64 o),(11,c),(12,d),(13,vI (b.length:Int)),(15,j),(16,v64 f.toUInt64),(17,v64 n.toUInt64),(18,vI m),(20,v64 x),(22,v64 s.1),(23,v64 s.2.1),(24,vI s.2.2.1)]∧St [] A w [M U c b,M U d s.2.2.2,M U j p]) ?_ (0,0,0,q) ⟨Z,a⟩ h
  rintro da ⟨a3,b3,cX,dl⟩ L w dm hI cu h bx
  try dsimp only at hI
  obtain ⟨rfl,a⟩:=hI
  unfold F.Dt at h
  refine J (J (af (P 3 Z ?_)))
  refine H (O ?_)
  refine ax Z (fun ag=>?_) (fun ag=>?_)
  ·have h:=aI h ag
   refine ay (O (J (aD ?_)))
   refine J (af (P 4 Z ?_))
   obtain ⟨a4,bB,h⟩:=aj h
   refine am (bm u30 aV Z Z (a.ro 0 Z) bB) Z (am (bb u38 Z Z (a.ro 0 Z) bB Z) Z (am (aM Z (bp u38 u87 a4)) Z (am (aq Z Z (gX _ x a4.toUInt64)) Z (am (aq Z Z (cv _ a3 (x*a4.toUInt64))) Z ?_))))
   obtain ⟨C,cw,h⟩:=aO h
   refine am (aB (v:=v64 C) (by rw [←cw]; rfl)) Z ?_
   refine H (O (J (af (P 4 Z ?_))))
   obtain ⟨a5,bC,h⟩:=aj h
   refine am (bm u30 aV Z Z (a.ro 1 Z) bC) Z (am (bb u38 Z Z (a.ro 1 Z) bC Z) Z (am (aM Z (bp u38 u87 a5)) Z (P 1 Z ?_)))
   refine am (aM Z (bV u87 u38 C)) Z (am (aM Z (bp u38 u87 C.toUInt32)) Z (am (aq Z Z (eD _ a5.toUInt64 C.toUInt32.toUInt64)) Z (P 1 Z ?_)))
   refine am (aq Z Z (eD _ (a5.toUInt64 - C.toUInt32.toUInt64) b3)) Z ?_
   obtain ⟨ak,cx,h⟩:=aO h
   refine am (aB (v:=v64 ak) (by rw [←cx]; rfl)) Z ?_
   refine H (O (J (af (P 5 Z ?_))))
   refine am (aM Z (bV u87 u38 ak)) Z ?_
   obtain ⟨dn,bD,h⟩:=aj h
   refine am (bm u30 aV Z Z (a.ro 1 Z) bD) Z (bk (cd (t:=ak.toUInt32) aV Z Z a (i:=1) Z bD Z) ?_)
   intro w a
   obtain ⟨cY,cy,h⟩:=aO h
   rw [cy]at a
   refine H (O (J (af (P 1 Z ?_))))
   refine am (aq Z Z (cp _ ak 63)) Z (P 1 Z ?_)
   refine H (O (af (P 1 Z ?_)))
   refine am (aq Z Z (cp _ C 32)) Z (P 1 Z ?_)
   refine H (aR ?_)
   refine O (af (P 3 Z ?_))
   refine H ?_
   exact bA (bz _ (by exact ⟨Z,Z,Z,Z,Z,Z,Z,Z,Z,Z,Z,Z,V⟩) (cu (aP C 32,aP ak 63,wI (cX+1),cY) _ _ ⟨Z,a⟩ (a8 h bx)))
  have h:=aH h ag
  refine bd ?_
  refine aG (aG ?_)
  have h:=aW h bx
  refine bf ?_
  refine O (J (af (P 4 Z ?_)))
  obtain ⟨a6,bE,h⟩:=aj h
  refine am (bm u30 aV Z Z (a.ro 1 Z) bE) Z (am (bb u38 Z Z (a.ro 1 Z) bE Z) Z (am (aM Z (bp u38 u87 a6)) Z (P 1 Z ?_)))
  refine am (aq Z Z (eD _ a6.toUInt64 a3)) Z (P 1 Z ?_)
  refine am (aq Z Z (eD _ (a6.toUInt64 - a3) b3)) Z ?_
  obtain ⟨an,cz,h⟩:=aO h
  refine am (aB (v:=v64 an) (by rw [←cz]; rfl)) Z ?_
  refine H (O (J (af (P 5 Z ?_))))
  refine am (aM Z (bV u87 u38 an)) Z ?_
  obtain ⟨dp,bF,h⟩:=aj h
  refine am (bm u30 aV Z Z (a.ro 1 Z) bF) Z (bk (cd (t:=an.toUInt32) aV Z Z a (i:=1) Z bF Z) ?_)
  intro w a
  obtain ⟨b4,cA,h⟩:=aO h
  rw [cA]at a
  refine H (O ?_)
  refine a9 (r:=b1) (fun (g:UInt64×List UInt32) L w=>L=[(10,v64 o),(11,c),(12,d),(13,vI (b.length:Int)),(15,j),(16,v64 f.toUInt64),(17,v64 n.toUInt64),(18,vI m),(20,v64 g.1)]∧St [] A w [M U c b,M U d g.2,M U j p]) (F.CR m p) ?_ ?_
  rotate_left
  ·intro aU
   refine J (af (P 1 Z ?_))
   refine am (aq Z Z (cp _ an 63)) Z (am (aq Z Z (zw _ (aP an 63) 0)) Z (H (O ?_)))
   refine ax Z (fun ap=>?_) (fun ap=>?_)
   ·have h:=aI h ap
    refine J (af (P 1 Z ?_))
    refine am (aq Z Z (eD _ x 1)) Z (P 1 Z ?_)
    refine H (O (J (af (P 1 Z ?_))))
    refine H (O (J (J (af (P 1 Z ?_)))))
    refine H (O (aD ?_))
    refine au [(10,v64 o),(11,c),(12,d),(13,vI (b.length:Int)),(15,j),(16,v64 f.toUInt64),(17,v64 n.toUInt64),(18,vI m),(20,v64 (x - 1)),(22,v64 0),(27,vI 0)] ⟨Z,Z,Z,Z,Z,Z,Z,Z,Z,Z,Z,V⟩ ?_
    refine bj (F.CG b m x p) (fun (s:UInt64×Int×List UInt32) L w=>L=[(10,v64 o),(11,c),(12,d),(13,vI (b.length:Int)),(15,j),(16,v64 f.toUInt64),(17,v64 n.toUInt64),(18,vI m),(20,v64 (x - 1)),(22,v64 s.1),(27,vI s.2.1)]∧St [] A w [M U c b,M U d s.2.2,M U j p]) ?_ (0,0,b4) ⟨Z,a⟩ h
    rintro dq ⟨aL,b5,cZ⟩ L w dr hI cB h bG
    try dsimp only at hI
    obtain ⟨rfl,a⟩:=hI
    unfold F.CG at h
    refine J (J (af (P 3 Z ?_)))
    refine H (O ?_)
    refine ax Z (fun aQ=>?_) (fun aQ=>?_)
    ·have h:=aI h aQ
     refine ay (O (J (aD ?_)))
     refine J ?_
     refine aZ (fun w'=>St [] A w' [M U c b,M U d cZ,M U j p]) (fun _=>true) bS (fun _ _ _ y=>y.2) (fun _ _ y=>y) (by kernel_rfl) ?_
     have a:=a.drew
     show lxE _ _ _ _ _ _ _ [0,1,2,3,4,5,6,7,8,9,10,11,12,13,14,15] _ _
     refine al a Z Z (fun w hF=>ar Z) Z (al a Z Z (fun w hF=>ar Z) Z (al a Z Z (fun w hF=>ar Z) Z (al a Z Z (fun w hF=>ar Z) Z (al a Z Z (fun w hF=>aq Z Z (md _ b5 m)) Z ?_))))
     obtain ⟨a7,bH,h⟩:=aj h
     refine al a Z Z (fun w hF=>bm u30 aV Z Z (hF.ro 1 Z) bH) Z (al a Z Z (fun w hF=>bb u38 Z Z (hF.ro 1 Z) bH Z) Z (al a Z Z (fun w hF=>aM Z (bp u38 u87 a7)) Z (al a Z Z (fun w hF=>ar Z) Z (al a Z Z (fun w hF=>ar Z) Z ?_))))
     obtain ⟨bc,bI,h⟩:=aj h
     refine al a Z Z (fun w hF=>bm u30 aV Z Z (hF.ro 0 Z) bI) Z (al a Z Z (fun w hF=>bb u38 Z Z (hF.ro 0 Z) bI Z) Z (al a Z Z (fun w hF=>aM Z (bp u38 u87 bc)) Z (al a Z Z (fun w hF=>aq Z Z (cv _ a7.toUInt64 bc.toUInt64)) Z (al a Z Z (fun w hF=>aq Z Z (cv _ aL (a7.toUInt64+bc.toUInt64))) Z ?_))))
     obtain ⟨av,cC,h⟩:=aO h
     refine al a Z Z (fun w hF=>aB (v:=v64 av) (by rw [←cC]; rfl)) Z ?_
     refine bn a ?_
     refine O (J (af (P 5 Z ?_)))
     refine am (aM Z (bV u87 u38 av)) Z ?_
     obtain ⟨ds,bJ,h⟩:=aj h
     refine am (bm u30 aV Z Z (a.ro 1 Z) bJ) Z (bk (cd (t:=av.toUInt32) aV Z Z a (i:=1) Z bJ Z) ?_)
     intro w a
     obtain ⟨c0,cD,h⟩:=aO h
     rw [cD]at a
     refine H (O (af (P 1 Z ?_)))
     refine am (aq Z Z (cp _ av 32)) Z (P 1 Z ?_)
     refine H (aR ?_)
     refine O (af (P 3 Z ?_))
     refine H ?_
     exact bA (bz _ (by exact ⟨Z,Z,Z,Z,Z,Z,Z,Z,Z,Z,Z,V⟩) (cB (aP av 32,wI (b5+1),c0) _ _ ⟨Z,a⟩ (a8 h bG)))
    have h:=aH h aQ
    refine bd ?_
    refine aG (aG ?_)
    have h:=aW h bG
    refine bf ?_
    refine O (af (P 4 Z ?_))
    obtain ⟨b6,bK,h⟩:=aj h
    refine am (bm u30 aV Z Z (a.ro 1 Z) bK) Z (am (bb u38 Z Z (a.ro 1 Z) bK Z) Z (P 1 Z ?_))
    refine am (aM Z (bV u87 u38 aL)) Z (am (aq Z Z (eE _ b6 aL.toUInt32)) Z ?_)
    obtain ⟨dt,bL,h⟩:=aj h
    refine am (bm u30 aV Z Z (a.ro 1 Z) bL) Z (bk (cd (t:=(b6+aL.toUInt32)) aV Z Z a (i:=1) Z bL Z) ?_)
    intro w a
    obtain ⟨c1,cE,h⟩:=aO h
    rw [cE]at a
    refine H (O ?_)
    exact au _ (by exact ⟨Z,Z,Z,Z,Z,Z,Z,Z,Z,V⟩) (aU (x - 1,c1) _ _ ⟨Z,a⟩ h)
   have h:=aH h ap
   refine ay (O ?_)
   exact au _ (by exact ⟨Z,Z,Z,Z,Z,Z,Z,Z,Z,V⟩) (aU (x,b4) _ _ ⟨Z,a⟩ h)
  rintro ⟨bM,cF⟩ L w hJ h
  try dsimp only at hJ
  obtain ⟨rfl,a⟩:=hJ
  unfold F.CR at h
  refine af (P 3 Z ?_)
  refine am (aM Z (bV u87 u38 bM)) Z ?_
  obtain ⟨db,aX,h⟩:=aj h
  refine am (bm u30 aV Z Z (a.ro 2 Z) aX) Z (bk (cd (t:=bM.toUInt32) aV Z Z a (i:=2) Z aX Z) ?_)
  intro w a
  obtain ⟨cG,b7,h⟩:=aO h
  rw [b7]at a
  refine H (aR ?_)
  refine O (af (P 3 Z ?_))
  refine H ?_
  exact bA (bz _ (by exact ⟨Z,Z,Z,Z,Z,Z,Z,Z,V⟩) (co (wI (m - 1),cF,cG) _ _ ⟨Z,a⟩ (a8 h br)))
 have h:=aH h ad
 refine bd ?_
 refine aG (aG ?_)
 have h:=aW h br
 refine bf ?_
 refine O (J (af (P 1 Z ?_)))
 have hG:=a.pick (os':=[M U j p]++[M U c b,M U d q]) [2,0,1] (by decide) Z
 obtain ⟨cH,b8,h⟩:=aj h
 refine ao Z (c7  b8 hG.g ) Z ?_
 rintro bN w ⟨c4,bO,k⟩
 rw [←bO]at k
 have a:=hG.h k
 refine P 1 Z ?_
 have hG:=a.pick (os':=[M U d q]++[M U bN cH,M U c b]) [2,0,1] (by decide) Z
 obtain ⟨dc,b9,h⟩:=aj h
 refine ao Z (c7  b9 hG.g ) Z ?_
 rintro dd w ⟨c5,bP,k⟩
 rw [←bP]at k
 have a:=hG.h k
 refine P 1 Z ?_
 obtain ⟨df,ca,h⟩:=aj h
 refine ao Z (oU o ca (a.ro 0 Z).rp) Z ?_
 rintro cI w k
 have a:=a.f k
 refine P 2 Z ?_
 refine H (O (aw ?_))
 cases h
 exact bW Z Z Z ⟨bN,cI,Z,a.e [2,0] Z Z⟩
theorem gN {n:World} {l x y g:List UInt32} {c t u b:Value} {e z A f:Nat} {S:List Nat} (j m o d:Bool) {r:Bool×List UInt32×Bool×List UInt32}
  (h:F.C8 j l m x o y d g=some r) (a:St S n n [X e [I j,c],M U c l,X f [I d,b],M U b g]) (L:RP S n U t x) (hBa1:RB S n z [I m,t]) (T:RP S n U u y) (hBa2:RB S n A [I o,u]):Calls Tryz.prog 176 #[N e 0,N z 0,N A 0,N f 0] n (Ret fun v w=>∃B C:Value,v=.tuple #[N e 0,N f 0]∧St S n w [X e [I r.1,B],M U B r.2.1,X f [I r.2.2.1,C],M U C r.2.2.2]):=by
 refine aJ 46 Tryz.func176 Z Z Z ?_
 refine au [(0,N e 0),(1,N z 0),(2,N A 0),(3,N f 0)] ⟨Z,Z,Z,Z,V⟩ ?_
 unfold F.C8 at h
 refine J (af (P 2 Z ?_))
 refine H (O (J ?_))
 refine aZ (fun w'=>St S n w' [X e [I j,c],M U c l,X f [I d,b],M U b g]) (fun _=>true) bS (fun _ _ _ q=>q.2) (fun _ _ q=>q) (by kernel_rfl) ?_
 have a:=a.drew
 show lxE _ _ _ _ _ _ _ [0,1,2,3,4,5,6,7,8,9] _ _
 refine al a Z Z (fun w hF=>ar Z) Z (al a Z Z (fun w hF=>aK Z) Z (al a Z Z (fun w hF=>av (k:=0) u101 Z Z nz4 Z) Z (al a Z Z (fun w hF=>aC Tryz.underlying4 Z Z (hBa1.cell hF.fr 0 Z)) Z (al a Z Z (fun w hF=>ar Z) Z (al a Z Z (fun w hF=>aK Z) Z (al a Z Z (fun w hF=>av (k:=0) u101 Z Z nz4 Z) Z (al a Z Z (fun w hF=>aC Tryz.underlying4 Z Z (hBa2.cell hF.fr 0 Z)) Z (al a Z Z (fun w hF=>aB Z) Z ?_))))))))
 refine al a Z Z (fun w hF=>aB Z) Z (bn a ?_)
 refine O (J ?_)
 refine aZ (fun w'=>St S n w' [X e [I j,c],M U c l,X f [I d,b],M U b g]) (fun i=>!([8].contains i)) bS (fun _ _ _ q=>q.2) (fun _ _ q=>q) (by kernel_rfl) ?_
 have a:=a.drew
 show lxE _ _ _ _ _ _ _ [0,1,2,3,4,5,6,7,8,9,10,11,12,13] _ _
 refine al a Z Z (fun w hF=>ar Z) Z (al a Z Z (fun w hF=>aK Z) Z (al a Z Z (fun w hF=>av (k:=1) u101 Z Z dc Z) Z (al a Z Z (fun w hF=>aC u30 Z Z (hBa1.cell hF.fr 1 Z)) Z (al a Z Z (fun w hF=>ar Z) Z (al a Z Z (fun w hF=>aK Z) Z (al a Z Z (fun w hF=>av (k:=1) u101 Z Z dc Z) Z (al a Z Z (fun w hF=>aC u30 Z Z (hBa2.cell hF.fr 1 Z)) Z ?_)))))))
 obtain ⟨D,ag,h⟩:=aj h
 refine bg a Z Z (by kernel_rfl) Z (jd  ag (L.d a.fr).rp (T.d a.fr).rp) Z ?_
 rintro _ w ⟨an,ad,rfl,p⟩
 have a:=a.f p
 refine al (a.e [2,3,4,5] Z Z) Z Z (fun w hF=>ar Z) Z (al (a.e [2,3,4,5] Z Z) Z Z (fun w hF=>cq Z Z) Z (al (a.e [2,3,4,5] Z Z) Z Z (fun w hF=>cq Z Z) Z (al (a.e [2,3,4,5] Z Z) Z Z (fun w hF=>aB Z) Z (al (a.e [2,3,4,5] Z Z) Z Z (fun w hF=>aB Z) Z (bn (a.e [2,3,4,5] Z Z) ?_)))))
 refine O (J (af (P 3 Z ?_)))
 refine am (aq Z Z (l7 _ m o Tryz.underlying4 Z)) Z (P 1 Z ?_)
 have E:=a.pick (os':=[X e [I j,c],M U c l,M U an D.1]++[M U ad D.2,X f [I d,b],M U b g]) [2,3,0,1,4,5] (by decide) Z
 obtain ⟨G,ab,h⟩:=aj h
 refine ao Z (bH j (m != o) ab E.g ) Z ?_
 rintro _ w ⟨s,rfl,p⟩
 have a:=E.h p
 refine H (O (J (af (P 3 Z ?_))))
 have E:=a.pick (os':=[X f [I d,b],M U b g,M U ad D.2]++[X e [I G.1,s],M U s G.2]) [3,4,2,0,1] (by decide) Z
 obtain ⟨ap,ac,h⟩:=aj h
 refine ao Z (bH d m ac E.g ) Z ?_
 rintro _ w ⟨ak,rfl,p⟩
 have a:=E.h p
 refine H (O (J (af (P 4 Z ?_))))
 refine H (O (aw ?_))
 cases h
 exact bW Z Z Z ⟨s,ak,Z,a.e [2,3,0,1] Z Z⟩
theorem jx {n:World} {l t g:List UInt32} {c s b:Value} {f u e:Nat} {S:List Nat} (j m d:Bool) {r:Bool×List UInt32×Bool×List UInt32}
  (h:F.F5 j l m t d g=some r) (a:St S n n [X f [I j,c],M U c l,X e [I d,b],M U b g]) (C:RP S n U s t) (hBa2:RB S n u [I m,s]):Calls Tryz.prog 176 #[N f 0,N e 0,N u 0,N e 0] n (Ret fun v w=>∃x y:Value,v=.tuple #[N f 0,N e 0]∧St S n w [X f [I r.1,x],M U x r.2.1,X e [I r.2.2.1,y],M U y r.2.2.2]):=by
 refine aJ 46 Tryz.func176 Z Z Z ?_
 refine au [(0,N f 0),(1,N e 0),(2,N u 0),(3,N e 0)] ⟨Z,Z,Z,Z,V⟩ ?_
 unfold F.F5 at h
 refine J (af (P 2 Z ?_))
 refine H (O (J ?_))
 refine aZ (fun w'=>St S n w' [X f [I j,c],M U c l,X e [I d,b],M U b g]) (fun _=>true) bS (fun _ _ _ p=>p.2) (fun _ _ p=>p) (by kernel_rfl) ?_
 have a:=a.drew
 show lxE _ _ _ _ _ _ _ [0,1,2,3,4,5,6,7,8,9] _ _
 refine al a Z Z (fun w hF=>ar Z) Z (al a Z Z (fun w hF=>aK Z) Z (al a Z Z (fun w hF=>av (k:=0) u101 Z Z nz4 Z) Z (al a Z Z (fun w hF=>aC Tryz.underlying4 Z Z (hF.r 2 Z 0)) Z (al a Z Z (fun w hF=>ar Z) Z (al a Z Z (fun w hF=>aK Z) Z (al a Z Z (fun w hF=>av (k:=0) u101 Z Z nz4 Z) Z (al a Z Z (fun w hF=>aC Tryz.underlying4 Z Z (hBa2.cell hF.fr 0 Z)) Z (al a Z Z (fun w hF=>aB Z) Z ?_))))))))
 refine al a Z Z (fun w hF=>aB Z) Z (bn a ?_)
 refine O (J ?_)
 refine aZ (fun w'=>St S n w' [X f [I j,c],M U c l,X e [I d,b],M U b g]) (fun i=>!([8].contains i)) bS (fun _ _ _ p=>p.2) (fun _ _ p=>p) (by kernel_rfl) ?_
 have a:=a.drew
 show lxE _ _ _ _ _ _ _ [0,1,2,3,4,5,6,7,8,9,10,11,12,13] _ _
 refine al a Z Z (fun w hF=>ar Z) Z (al a Z Z (fun w hF=>aK Z) Z (al a Z Z (fun w hF=>av (k:=1) u101 Z Z dc Z) Z (al a Z Z (fun w hF=>aC u30 Z Z (hF.r 2 Z 1)) Z (al a Z Z (fun w hF=>ar Z) Z (al a Z Z (fun w hF=>aK Z) Z (al a Z Z (fun w hF=>av (k:=1) u101 Z Z dc Z) Z (al a Z Z (fun w hF=>aC u30 Z Z (hBa2.cell hF.fr 1 Z)) Z ?_)))))))
 obtain ⟨z,L,h⟩:=aj h
 refine bg a Z Z (by kernel_rfl) Z (jd  L (a.ro 3 Z).rp (C.d a.fr).rp) Z ?_
 rintro _ w ⟨ab,G,rfl,o⟩
 have a:=a.f o
 refine al (a.e [2,3,4,5] Z Z) Z Z (fun w hF=>ar Z) Z (al (a.e [2,3,4,5] Z Z) Z Z (fun w hF=>cq Z Z) Z (al (a.e [2,3,4,5] Z Z) Z Z (fun w hF=>cq Z Z) Z (al (a.e [2,3,4,5] Z Z) Z Z (fun w hF=>aB Z) Z (al (a.e [2,3,4,5] Z Z) Z Z (fun w hF=>aB Z) Z (bn (a.e [2,3,4,5] Z Z) ?_)))))
 refine O (J (af (P 3 Z ?_)))
 refine am (aq Z Z (l7 _ d m Tryz.underlying4 Z)) Z (P 1 Z ?_)
 have A:=a.pick (os':=[X f [I j,c],M U c l,M U ab z.1]++[M U G z.2,X e [I d,b],M U b g]) [2,3,0,1,4,5] (by decide) Z
 obtain ⟨B,D,h⟩:=aj h
 refine ao Z (bH j (d != m) D A.g ) Z ?_
 rintro _ w ⟨q,rfl,o⟩
 have a:=A.h o
 refine H (O (J (af (P 3 Z ?_))))
 have A:=a.pick (os':=[X e [I d,b],M U b g,M U G z.2]++[X f [I B.1,q],M U q B.2]) [3,4,2,0,1] (by decide) Z
 obtain ⟨ac,E,h⟩:=aj h
 refine ao Z (bH d d E A.g ) Z ?_
 rintro _ w ⟨T,rfl,o⟩
 have a:=A.h o
 refine H (O (J (af (P 4 Z ?_))))
 refine H (O (aw ?_))
 cases h
 exact bW Z Z Z ⟨q,T,Z,a.e [2,3,0,1] Z Z⟩
theorem jv {n:World} {l t j:List UInt32} {c s b:Value} {e u g:Nat} {S:List Nat} (d m f:Bool) {r:Bool×List UInt32×Bool×List UInt32}
  (h:F.F4 d l m t f j=some r) (a:St S n n [X e [I d,c],M U c l,X g [I f,b],M U b j]) (C:RP S n U s t) (hBa2:RB S n u [I m,s]):Calls Tryz.prog 176 #[N e 0,N e 0,N u 0,N g 0] n (Ret fun v w=>∃x y:Value,v=.tuple #[N e 0,N g 0]∧St S n w [X e [I r.1,x],M U x r.2.1,X g [I r.2.2.1,y],M U y r.2.2.2]):=by
 refine aJ 46 Tryz.func176 Z Z Z ?_
 refine au [(0,N e 0),(1,N e 0),(2,N u 0),(3,N g 0)] ⟨Z,Z,Z,Z,V⟩ ?_
 unfold F.F4 at h
 refine J (af (P 2 Z ?_))
 refine H (O (J ?_))
 refine aZ (fun w'=>St S n w' [X e [I d,c],M U c l,X g [I f,b],M U b j]) (fun _=>true) bS (fun _ _ _ p=>p.2) (fun _ _ p=>p) (by kernel_rfl) ?_
 have a:=a.drew
 show lxE _ _ _ _ _ _ _ [0,1,2,3,4,5,6,7,8,9] _ _
 refine al a Z Z (fun w hF=>ar Z) Z (al a Z Z (fun w hF=>aK Z) Z (al a Z Z (fun w hF=>av (k:=0) u101 Z Z nz4 Z) Z (al a Z Z (fun w hF=>aC Tryz.underlying4 Z Z (hF.r 0 Z 0)) Z (al a Z Z (fun w hF=>ar Z) Z (al a Z Z (fun w hF=>aK Z) Z (al a Z Z (fun w hF=>av (k:=0) u101 Z Z nz4 Z) Z (al a Z Z (fun w hF=>aC Tryz.underlying4 Z Z (hBa2.cell hF.fr 0 Z)) Z (al a Z Z (fun w hF=>aB Z) Z ?_))))))))
 refine al a Z Z (fun w hF=>aB Z) Z (bn a ?_)
 refine O (J ?_)
 refine aZ (fun w'=>St S n w' [X e [I d,c],M U c l,X g [I f,b],M U b j]) (fun i=>!([8].contains i)) bS (fun _ _ _ p=>p.2) (fun _ _ p=>p) (by kernel_rfl) ?_
 have a:=a.drew
 show lxE _ _ _ _ _ _ _ [0,1,2,3,4,5,6,7,8,9,10,11,12,13] _ _
 refine al a Z Z (fun w hF=>ar Z) Z (al a Z Z (fun w hF=>aK Z) Z (al a Z Z (fun w hF=>av (k:=1) u101 Z Z dc Z) Z (al a Z Z (fun w hF=>aC u30 Z Z (hF.r 0 Z 1)) Z (al a Z Z (fun w hF=>ar Z) Z (al a Z Z (fun w hF=>aK Z) Z (al a Z Z (fun w hF=>av (k:=1) u101 Z Z dc Z) Z (al a Z Z (fun w hF=>aC u30 Z Z (hBa2.cell hF.fr 1 Z)) Z ?_)))))))
 obtain ⟨z,L,h⟩:=aj h
 refine bg a Z Z (by kernel_rfl) Z (jd  L (a.ro 1 Z).rp (C.d a.fr).rp) Z ?_
 rintro _ w ⟨ab,G,rfl,o⟩
 have a:=a.f o
 refine al (a.e [2,3,4,5] Z Z) Z Z (fun w hF=>ar Z) Z (al (a.e [2,3,4,5] Z Z) Z Z (fun w hF=>cq Z Z) Z (al (a.e [2,3,4,5] Z Z) Z Z (fun w hF=>cq Z Z) Z (al (a.e [2,3,4,5] Z Z) Z Z (fun w hF=>aB Z) Z (al (a.e [2,3,4,5] Z Z) Z Z (fun w hF=>aB Z) Z (bn (a.e [2,3,4,5] Z Z) ?_)))))
 refine O (J (af (P 3 Z ?_)))
 refine am (aq Z Z (l7 _ d m Tryz.underlying4 Z)) Z (P 1 Z ?_)
 have A:=a.pick (os':=[X e [I d,c],M U c l,M U ab z.1]++[M U G z.2,X g [I f,b],M U b j]) [2,3,0,1,4,5] (by decide) Z
 obtain ⟨B,D,h⟩:=aj h
 refine ao Z (bH d (d != m) D A.g ) Z ?_
 rintro _ w ⟨q,rfl,o⟩
 have a:=A.h o
 refine H (O (J (af (P 3 Z ?_))))
 have A:=a.pick (os':=[X g [I f,b],M U b j,M U G z.2]++[X e [I B.1,q],M U q B.2]) [3,4,2,0,1] (by decide) Z
 obtain ⟨ac,E,h⟩:=aj h
 refine ao Z (bH f d E A.g ) Z ?_
 rintro _ w ⟨T,rfl,o⟩
 have a:=A.h o
 refine H (O (J (af (P 4 Z ?_))))
 refine H (O (aw ?_))
 cases h
 exact bW Z Z Z ⟨q,T,Z,a.e [2,3,0,1] Z Z⟩
theorem jm {m:World} {a0 a1:List UInt32} {b c:Value} {r:List UInt32}
  (h:F.Dc a0 a1=some r) (n:RP [] m U b a0) (x:RP [] m U c a1):Calls Tryz.prog 153 #[b,c] m (Ret fun v w=>St [] m w [M U v r]):=by
 refine aJ 45 Tryz.func153 Z Z Z ?_
 have a:=St.l m
 refine au [(0,b),(1,c)] ⟨Z,Z,V⟩ ?_
 unfold F.Dc at h
 refine J (af (P 1 Z ?_))
 refine H (O (J (af (P 1 Z ?_))))
 refine am (aN u30 Z (n.d a.fr)) Z ?_
 obtain ⟨ak,ac,h⟩:=aj h
 refine aT (de (e:=U) u30 aV Z Z Z a ac) Z ?_
 rintro d w a
 refine P 1 Z ?_
 refine H (O (J (af (P 1 Z ?_))))
 refine H (O (J (J (af (P 1 Z ?_)))))
 refine H (O (aD ?_))
 refine au [(0,b),(1,c),(5,d),(6,v64 0),(7,vI 0)] ⟨Z,Z,Z,Z,Z,V⟩ ?_
 refine bj (F.Er a0 a1) (fun (s:UInt64×Int×List UInt32) L w=>L=[(0,b),(1,c),(5,d),(6,v64 s.1),(7,vI s.2.1)]∧St [] m w [M U d s.2.2]) ?_ (0,0,ak) ⟨Z,a⟩ h
 rintro ar ⟨y,z,A⟩ L w al hI ad h B
 try dsimp only at hI
 obtain ⟨rfl,a⟩:=hI
 unfold F.Er at h
 refine J (J (af (P 2 Z ?_)))
 refine am (aN u30 Z (n.d a.fr)) Z (P 1 Z ?_)
 refine H (O ?_)
 refine ax Z (fun f=>?_) (fun f=>?_)
 ·have h:=aI h f
  refine ay (O (J (aD ?_)))
  refine J (af (P 2 Z ?_))
  obtain ⟨j,o,h⟩:=aj h
  refine am (bm u30 aV Z Z (n.d a.fr) o) Z (am (bb u38 Z Z (n.d a.fr) o Z) Z (am (aM Z (bp u38 u87 j)) Z (P 1 Z ?_)))
  refine am (aq Z Z (eD _ j.toUInt64 y)) Z (P 1 Z ?_)
  refine H (O ?_)
  refine a9 (r:=al) (fun (g:UInt64) L w=>L=[(0,b),(1,c),(5,d),(7,vI z),(8,v64 g)]∧St [] m w [M U d A]) (F.EO z A) ?_ ?_
  rotate_left
  ·intro p
   refine J (af (P 2 Z ?_))
   refine am (aN u30 Z (x.d a.fr)) Z (P 1 Z ?_)
   refine H (O ?_)
   refine ax Z (fun k=>?_) (fun k=>?_)
   ·have h:=aI h k
    refine af (P 3 Z ?_)
    obtain ⟨C,q,h⟩:=aj h
    refine am (bm u30 aV Z Z (x.d a.fr) q) Z (am (bb u38 Z Z (x.d a.fr) q Z) Z (am (aM Z (bp u38 u87 C)) Z (am (aq Z Z (eD _ (j.toUInt64 - y) C.toUInt64)) Z ?_)))
    obtain ⟨D,G,h⟩:=aO h
    refine am (aB (v:=v64 D) (by rw [←G]; rfl)) Z ?_
    refine H (O ?_)
    exact au _ (by exact ⟨Z,Z,Z,Z,Z,V⟩) (p D _ _ ⟨Z,a⟩ h)
   have h:=aH h k
   refine ay (O ?_)
   exact au _ (by exact ⟨Z,Z,Z,Z,Z,V⟩) (p (j.toUInt64 - y) _ _ ⟨Z,a⟩ h)
  rintro l L w hJ h
  try dsimp only at hJ
  obtain ⟨rfl,a⟩:=hJ
  unfold F.EO at h
  refine J (af (P 3 Z ?_))
  refine am (aM Z (bV u87 u38 l)) Z ?_
  obtain ⟨av,u,h⟩:=aj h
  refine am (bm u30 aV Z Z (a.ro 0 Z) u) Z (bk (cd (t:=l.toUInt32) aV Z Z a (i:=0) Z u Z) ?_)
  intro w a
  obtain ⟨ag,S,h⟩:=aO h
  rw [S]at a
  refine H (O (af (P 1 Z ?_)))
  refine am (aq Z Z (cp _ l 63)) Z (P 1 Z ?_)
  refine H (aR ?_)
  refine O (af (P 3 Z ?_))
  refine H ?_
  exact bA (bz _ (by exact ⟨Z,Z,Z,Z,Z,V⟩) (ad (aP l 63,wI (z+1),ag) _ _ ⟨Z,a⟩ (a8 h B)))
 have h:=aH h f
 refine bd ?_
 refine aG (aG ?_)
 have h:=aW h B
 refine bf ?_
 refine O (J (af (P 1 Z ?_)))
 have hG:=a.pick (os':=[M U d A]++[]) [0] (by decide) Z
 obtain ⟨az,T,h⟩:=aj h
 refine ao Z (c7  T hG.g ) Z ?_
 rintro aA w ⟨ap,E,ab⟩
 rw [←E]at ab
 have a:=hG.h ab
 refine P 1 Z ?_
 refine H (O (aw ?_))
 cases h
 exact aF Z Z (a.e [0] Z Z)
theorem fL {g:World} {a1 a3:List UInt32} {i j:Value} (a0 a2:Bool) {r:Bool×List UInt32}
  (h:F.B8 a0 a1 a2 a3=some r) (e:RP [] g U i a1) (f:RP [] g U j a3):Calls Tryz.prog 178 #[I a0,i,I a2,j] g (Ret fun v w=>∃u1:Value,v=.tuple #[I r.1,u1]∧St [] g w [M U u1 r.2]):=by
 refine aJ 29 Tryz.func178 Z Z Z ?_
 have a:=St.l g
 refine au [(0,I a0),(1,i),(2,I a2),(3,j)] ⟨Z,Z,Z,Z,V⟩ ?_
 unfold F.B8 at h
 refine J (af (P 2 Z ?_))
 refine H (O (J (J (af (P 2 Z ?_)))))
 refine am (aq Z Z (vE _ a0 a2 Tryz.underlying4 Z)) Z (H (O ?_))
 refine ax Z (fun c=>?_) (fun c=>?_)
 ·have h:=aI h c
  refine J (af (P 3 Z ?_))
  obtain ⟨s,k,h⟩:=aj h
  refine ao Z (jp  k (e.d a.fr).rp (f.d a.fr).rp) Z ?_
  rintro o w b
  have a:=a.f b
  refine P 2 Z ?_
  refine H (O (aw (aE ?_)))
  cases h
  exact bW Z Z Z ⟨o,Z,a.e [0] Z Z⟩
 have h:=aH h c
 refine ay (O (J (J (af (P 2 Z ?_)))))
 obtain ⟨t,l,h⟩:=aj h
 refine ao Z (jo  l (e.d a.fr).rp (f.d a.fr).rp) Z ?_
 rintro _ w ⟨rfl,b⟩
 have a:=a.f b
 refine P 1 Z ?_
 refine H (O ?_)
 refine ax Z (fun d=>?_) (fun d=>?_)
 ·have h:=aI h d
  refine J (af (P 3 Z ?_))
  obtain ⟨u,m,h⟩:=aj h
  refine ao Z (jm  m (e.d a.fr).rp (f.d a.fr).rp) Z ?_
  rintro p w b
  have a:=a.f b
  refine P 2 Z ?_
  refine H (O (aw (aE ?_)))
  cases h
  exact bW Z Z Z ⟨p,Z,a.e [0] Z Z⟩
 have h:=aH h d
 refine ay (O (J (af (P 3 Z ?_))))
 obtain ⟨x,n,h⟩:=aj h
 refine ao Z (jm  n (f.d a.fr).rp (e.d a.fr).rp) Z ?_
 rintro q w b
 have a:=a.f b
 refine P 2 Z ?_
 refine H (O (aw ?_))
 cases h
 exact bW Z Z Z ⟨q,Z,a.e [0] Z Z⟩
theorem np {d:World} {f n o:List UInt32} {b l m:Value} {c p q:Nat} {S:List Nat} (e g j:Bool) {r:Bool×List UInt32}
  (h:F.ED e f g n j o=some r) (a:St S d d [X c [I e,b],M U b f]) (u:RP S d U l n) (hBa1:RB S d p [I g,l]) (x:RP S d U m o) (hBa2:RB S d q [I j,m]):Calls Tryz.prog 140 #[N c 0,N p 0,N q 0] d (Ret fun v w=>∃s:Value,v=N c 0∧St S d w [X c [I r.1,s],M U s r.2]):=by
 refine aJ 28 Tryz.func140 Z Z Z ?_
 refine au [(0,N c 0),(1,N p 0),(2,N q 0)] ⟨Z,Z,Z,V⟩ ?_
 unfold F.ED at h
 refine J (af (P 1 Z ?_))
 refine H (O (J ?_))
 have hsh1:=(a.ro 1 Z).shp
 refine aZ (fun w'=>St S d w' []) (fun i=>!([17,20].contains i)) bS (fun _ _ _ z=>z.2) (fun _ _ z=>z) (by kernel_rfl) ?_
 have a:=a.drew
 show lxE _ _ _ _ _ _ _ [0,1,2,3,4,5,6,7,8,9,10,11,12,13,14,15,16,17,18,19,20,21] _ _
 refine al (a.e [] Z Z) Z Z (fun w hF=>ar Z) Z (al (a.e [] Z Z) Z Z (fun w hF=>ar Z) Z (al (a.e [] Z Z) Z Z (fun w hF=>aK Z) Z (al (a.e [] Z Z) Z Z (fun w hF=>av (k:=0) u101 Z Z nz4 Z) Z (al (a.e [] Z Z) Z Z (fun w hF=>aC Tryz.underlying4 Z Z (hBa1.cell hF.fr 0 Z)) Z (al (a.e [] Z Z) Z Z (fun w hF=>ar Z) Z (al (a.e [] Z Z) Z Z (fun w hF=>aK Z) Z (al (a.e [] Z Z) Z Z (fun w hF=>av (k:=1) u101 Z Z dc Z) Z (al (a.e [] Z Z) Z Z (fun w hF=>aC u30 Z Z (hBa1.cell hF.fr 1 Z)) Z ?_))))))))
 refine al (a.e [] Z Z) Z Z (fun w hF=>ar Z) Z (al (a.e [] Z Z) Z Z (fun w hF=>aK Z) Z (al (a.e [] Z Z) Z Z (fun w hF=>av (k:=0) u101 Z Z nz4 Z) Z (al (a.e [] Z Z) Z Z (fun w hF=>aC Tryz.underlying4 Z Z (hBa2.cell hF.fr 0 Z)) Z (al (a.e [] Z Z) Z Z (fun w hF=>ar Z) Z (al (a.e [] Z Z) Z Z (fun w hF=>aK Z) Z (al (a.e [] Z Z) Z Z (fun w hF=>av (k:=1) u101 Z Z dc Z) Z (al (a.e [] Z Z) Z Z (fun w hF=>aC u30 Z Z (hBa2.cell hF.fr 1 Z)) Z ?_)))))))
 obtain ⟨y,A,h⟩:=aj h
 refine bg (a.e [] Z Z) Z Z (by kernel_rfl) Z (fL g j A (u.d a.fr).rp (x.d a.fr).rp) Z ?_
 rintro _ w ⟨C,rfl,t⟩
 have a:=a.f t
 refine al (a.e [] Z Z) Z Z (fun w hF=>cq Z Z) Z (al (a.e [] Z Z) Z Z (fun w hF=>cq Z Z) Z ?_)
 have D:=a.pick (os':=[X c [I e,b],M U b f,M U C y.2]++[]) [1,2,0] (by decide) Z
 obtain ⟨G,B,h⟩:=aj h
 refine bg (a.e [] Z Z) Z Z (by kernel_rfl) Z (bH e y.1 B D.g ) Z ?_
 rintro _ w ⟨E,rfl,t⟩
 have a:=D.h t
 refine al (a.e [] Z Z) Z Z (fun w hF=>aB Z) Z (bn (a.e [] Z Z) ?_)
 refine O (aw ?_)
 cases h
 exact aF Z Z ⟨E,Z,a.e [0,1] Z Z⟩
theorem dw {e:World} {f l:List UInt32} {c j:Value} {b m:Nat} {S:List Nat} (d g:Bool) {r:Bool×List UInt32}
  (h:F.Cf d f g l=some r) (a:St S e e [X b [I d,c],M U c f]) (p:RP S e U j l) (hBa2:RB S e m [I g,j]):Calls Tryz.prog 140 #[N b 0,N b 0,N m 0] e (Ret fun v w=>∃n:Value,v=N b 0∧St S e w [X b [I r.1,n],M U n r.2]):=by
 refine aJ 28 Tryz.func140 Z Z Z ?_
 refine au [(0,N b 0),(1,N b 0),(2,N m 0)] ⟨Z,Z,Z,V⟩ ?_
 unfold F.Cf at h
 refine J (af (P 1 Z ?_))
 refine H (O (J ?_))
 have hsh1:=(a.ro 1 Z).shp
 refine aZ (fun w'=>St S e w' []) (fun i=>!([1004,1008,17,20].contains i)) bS (fun _ _ _ s=>s.2) (fun _ _ s=>s) (by kernel_rfl) ?_
 have a:=a.drew
 show lxE _ _ _ _ _ _ _ [0,1,2,3,4,5,6,7,8,9,10,11,12,13,14,15,16,17,18,19,20,21] _ _
 refine al (a.e [] Z Z) Z Z (fun w hF=>ar Z) Z (al (a.e [] Z Z) Z Z (fun w hF=>ar Z) Z (al (a.e [] Z Z) Z Z (fun w hF=>aK Z) Z (al (a.e [] Z Z) Z Z (fun w hF=>av (k:=0) u101 Z Z nz4 Z) Z (mn (a.e [] Z Z) Z Z Z (aC Tryz.underlying4 Z Z (a.r 0 Z 0)) Z ?_))))
 refine al (a.e [] Z Z) Z Z (fun w hF=>ar Z) Z (al (a.e [] Z Z) Z Z (fun w hF=>aK Z) Z (al (a.e [] Z Z) Z Z (fun w hF=>av (k:=1) u101 Z Z dc Z) Z (mn (a.e [] Z Z) Z Z Z (aC u30 Z Z (a.r 0 Z 1)) Z ?_)))
 refine al (a.e [] Z Z) Z Z (fun w hF=>ar Z) Z (al (a.e [] Z Z) Z Z (fun w hF=>aK Z) Z (al (a.e [] Z Z) Z Z (fun w hF=>av (k:=0) u101 Z Z nz4 Z) Z (al (a.e [] Z Z) Z Z (fun w hF=>aC Tryz.underlying4 Z Z (hBa2.cell hF.fr 0 Z)) Z (al (a.e [] Z Z) Z Z (fun w hF=>ar Z) Z (al (a.e [] Z Z) Z Z (fun w hF=>aK Z) Z (al (a.e [] Z Z) Z Z (fun w hF=>av (k:=1) u101 Z Z dc Z) Z (al (a.e [] Z Z) Z Z (fun w hF=>aC u30 Z Z (hBa2.cell hF.fr 1 Z)) Z ?_)))))))
 obtain ⟨q,t,h⟩:=aj h
 refine bg (a.e [] Z Z) Z Z (by kernel_rfl) Z (fL d g t (a.ro 1 Z).rp (p.d a.fr).rp) Z ?_
 rintro _ w ⟨x,rfl,o⟩
 have a:=a.f o
 refine al (a.e [] Z Z) Z Z (fun w hF=>cq Z Z) Z (al (a.e [] Z Z) Z Z (fun w hF=>cq Z Z) Z ?_)
 have y:=a.pick (os':=[X b [I d,c],M U c f,M U x q.2]++[]) [1,2,0] (by decide) Z
 obtain ⟨A,u,h⟩:=aj h
 refine bg (a.e [] Z Z) Z Z (by kernel_rfl) Z (bH d q.1 u y.g ) Z ?_
 rintro _ w ⟨z,rfl,o⟩
 have a:=y.h o
 refine al (a.e [] Z Z) Z Z (fun w hF=>aB Z) Z (bn (a.e [] Z Z) ?_)
 refine O (aw ?_)
 cases h
 exact aF Z Z ⟨z,Z,a.e [0,1] Z Z⟩
theorem jn {d:World} {g n o:List UInt32} {b l m:Value} {c p q:Nat} {S:List Nat} (e j f:Bool) {r:Bool×List UInt32}
  (h:F.EV e g j n f o=some r) (a:St S d d [X c [I e,b],M U b g]) (u:RP S d U l n) (hBa1:RB S d p [I j,l]) (x:RP S d U m o) (hBa2:RB S d q [I f,m]):Calls Tryz.prog 177 #[N c 0,N p 0,N q 0] d (Ret fun v w=>∃s:Value,v=N c 0∧St S d w [X c [I r.1,s],M U s r.2]):=by
 refine aJ 29 Tryz.func177 Z Z Z ?_
 refine au [(0,N c 0),(1,N p 0),(2,N q 0)] ⟨Z,Z,Z,V⟩ ?_
 unfold F.EV at h
 refine J (af (P 1 Z ?_))
 refine H (O (J ?_))
 have hsh1:=(a.ro 1 Z).shp
 refine aZ (fun w'=>St S d w' []) (fun i=>!([18,21].contains i)) bS (fun _ _ _ z=>z.2) (fun _ _ z=>z) (by kernel_rfl) ?_
 have a:=a.drew
 show lxE _ _ _ _ _ _ _ [0,1,2,3,4,5,6,7,8,9,10,11,12,13,14,15,16,17,18,19,20,21,22] _ _
 refine al (a.e [] Z Z) Z Z (fun w hF=>ar Z) Z (al (a.e [] Z Z) Z Z (fun w hF=>ar Z) Z (al (a.e [] Z Z) Z Z (fun w hF=>aK Z) Z (al (a.e [] Z Z) Z Z (fun w hF=>av (k:=0) u101 Z Z nz4 Z) Z (al (a.e [] Z Z) Z Z (fun w hF=>aC Tryz.underlying4 Z Z (hBa1.cell hF.fr 0 Z)) Z (al (a.e [] Z Z) Z Z (fun w hF=>ar Z) Z (al (a.e [] Z Z) Z Z (fun w hF=>aK Z) Z (al (a.e [] Z Z) Z Z (fun w hF=>av (k:=1) u101 Z Z dc Z) Z (al (a.e [] Z Z) Z Z (fun w hF=>aC u30 Z Z (hBa1.cell hF.fr 1 Z)) Z ?_))))))))
 refine al (a.e [] Z Z) Z Z (fun w hF=>ar Z) Z (al (a.e [] Z Z) Z Z (fun w hF=>aK Z) Z (al (a.e [] Z Z) Z Z (fun w hF=>av (k:=0) u101 Z Z nz4 Z) Z (al (a.e [] Z Z) Z Z (fun w hF=>aC Tryz.underlying4 Z Z (hBa2.cell hF.fr 0 Z)) Z (al (a.e [] Z Z) Z Z (fun w hF=>iu Z (qo f)) Z (al (a.e [] Z Z) Z Z (fun w hF=>ar Z) Z (al (a.e [] Z Z) Z Z (fun w hF=>aK Z) Z (al (a.e [] Z Z) Z Z (fun w hF=>av (k:=1) u101 Z Z dc Z) Z (al (a.e [] Z Z) Z Z (fun w hF=>aC u30 Z Z (hBa2.cell hF.fr 1 Z)) Z ?_))))))))
 obtain ⟨y,A,h⟩:=aj h
 refine bg (a.e [] Z Z) Z Z (by kernel_rfl) Z (fL j (!f) A (u.d a.fr).rp (x.d a.fr).rp) Z ?_
 rintro _ w ⟨C,rfl,t⟩
 have a:=a.f t
 refine al (a.e [] Z Z) Z Z (fun w hF=>cq Z Z) Z (al (a.e [] Z Z) Z Z (fun w hF=>cq Z Z) Z ?_)
 have D:=a.pick (os':=[X c [I e,b],M U b g,M U C y.2]++[]) [1,2,0] (by decide) Z
 obtain ⟨G,B,h⟩:=aj h
 refine bg (a.e [] Z Z) Z Z (by kernel_rfl) Z (bH e y.1 B D.g ) Z ?_
 rintro _ w ⟨E,rfl,t⟩
 have a:=D.h t
 refine al (a.e [] Z Z) Z Z (fun w hF=>aB Z) Z (bn (a.e [] Z Z) ?_)
 refine O (aw ?_)
 cases h
 exact aF Z Z ⟨E,Z,a.e [0,1] Z Z⟩
theorem dT {f:World} {g l:List UInt32} {c j:Value} {b m:Nat} {S:List Nat} (d e:Bool) {r:Bool×List UInt32}
  (h:F.Cp d g e l=some r) (a:St S f f [X b [I d,c],M U c g]) (p:RP S f U j l) (hBa2:RB S f m [I e,j]):Calls Tryz.prog 177 #[N b 0,N b 0,N m 0] f (Ret fun v w=>∃n:Value,v=N b 0∧St S f w [X b [I r.1,n],M U n r.2]):=by
 refine aJ 29 Tryz.func177 Z Z Z ?_
 refine au [(0,N b 0),(1,N b 0),(2,N m 0)] ⟨Z,Z,Z,V⟩ ?_
 unfold F.Cp at h
 refine J (af (P 1 Z ?_))
 refine H (O (J ?_))
 have hsh1:=(a.ro 1 Z).shp
 refine aZ (fun w'=>St S f w' []) (fun i=>!([1004,1008,18,21].contains i)) bS (fun _ _ _ s=>s.2) (fun _ _ s=>s) (by kernel_rfl) ?_
 have a:=a.drew
 show lxE _ _ _ _ _ _ _ [0,1,2,3,4,5,6,7,8,9,10,11,12,13,14,15,16,17,18,19,20,21,22] _ _
 refine al (a.e [] Z Z) Z Z (fun w hF=>ar Z) Z (al (a.e [] Z Z) Z Z (fun w hF=>ar Z) Z (al (a.e [] Z Z) Z Z (fun w hF=>aK Z) Z (al (a.e [] Z Z) Z Z (fun w hF=>av (k:=0) u101 Z Z nz4 Z) Z (mn (a.e [] Z Z) Z Z Z (aC Tryz.underlying4 Z Z (a.r 0 Z 0)) Z ?_))))
 refine al (a.e [] Z Z) Z Z (fun w hF=>ar Z) Z (al (a.e [] Z Z) Z Z (fun w hF=>aK Z) Z (al (a.e [] Z Z) Z Z (fun w hF=>av (k:=1) u101 Z Z dc Z) Z (mn (a.e [] Z Z) Z Z Z (aC u30 Z Z (a.r 0 Z 1)) Z ?_)))
 refine al (a.e [] Z Z) Z Z (fun w hF=>ar Z) Z (al (a.e [] Z Z) Z Z (fun w hF=>aK Z) Z (al (a.e [] Z Z) Z Z (fun w hF=>av (k:=0) u101 Z Z nz4 Z) Z (al (a.e [] Z Z) Z Z (fun w hF=>aC Tryz.underlying4 Z Z (hBa2.cell hF.fr 0 Z)) Z (al (a.e [] Z Z) Z Z (fun w hF=>iu Z (qo e)) Z (al (a.e [] Z Z) Z Z (fun w hF=>ar Z) Z (al (a.e [] Z Z) Z Z (fun w hF=>aK Z) Z (al (a.e [] Z Z) Z Z (fun w hF=>av (k:=1) u101 Z Z dc Z) Z (al (a.e [] Z Z) Z Z (fun w hF=>aC u30 Z Z (hBa2.cell hF.fr 1 Z)) Z ?_))))))))
 obtain ⟨q,t,h⟩:=aj h
 refine bg (a.e [] Z Z) Z Z (by kernel_rfl) Z (fL d (!e) t (a.ro 1 Z).rp (p.d a.fr).rp) Z ?_
 rintro _ w ⟨x,rfl,o⟩
 have a:=a.f o
 refine al (a.e [] Z Z) Z Z (fun w hF=>cq Z Z) Z (al (a.e [] Z Z) Z Z (fun w hF=>cq Z Z) Z ?_)
 have y:=a.pick (os':=[X b [I d,c],M U c g,M U x q.2]++[]) [1,2,0] (by decide) Z
 obtain ⟨A,u,h⟩:=aj h
 refine bg (a.e [] Z Z) Z Z (by kernel_rfl) Z (bH d q.1 u y.g ) Z ?_
 rintro _ w ⟨z,rfl,o⟩
 have a:=y.h o
 refine al (a.e [] Z Z) Z Z (fun w hF=>aB Z) Z (bn (a.e [] Z Z) ?_)
 refine O (aw ?_)
 cases h
 exact aF Z Z ⟨z,Z,a.e [0,1] Z Z⟩
theorem ky {e:World} {f l:List UInt32} {d j:Value} {c m:Nat} {S:List Nat} (b g:Bool) {r:Bool×List UInt32}
  (h:F.FG b f g l=some r) (a:St S e e [X c [I b,d],M U d f]) (p:RP S e U j l) (hBa1:RB S e m [I g,j]):Calls Tryz.prog 177 #[N c 0,N m 0,N c 0] e (Ret fun v w=>∃n:Value,v=N c 0∧St S e w [X c [I r.1,n],M U n r.2]):=by
 refine aJ 29 Tryz.func177 Z Z Z ?_
 refine au [(0,N c 0),(1,N m 0),(2,N c 0)] ⟨Z,Z,Z,V⟩ ?_
 unfold F.FG at h
 refine J (af (P 1 Z ?_))
 refine H (O (J ?_))
 have hsh1:=(a.ro 1 Z).shp
 refine aZ (fun w'=>St S e w' []) (fun i=>!([1012,1017,18,21].contains i)) bS (fun _ _ _ s=>s.2) (fun _ _ s=>s) (by kernel_rfl) ?_
 have a:=a.drew
 show lxE _ _ _ _ _ _ _ [0,1,2,3,4,5,6,7,8,9,10,11,12,13,14,15,16,17,18,19,20,21,22] _ _
 refine al (a.e [] Z Z) Z Z (fun w hF=>ar Z) Z (al (a.e [] Z Z) Z Z (fun w hF=>ar Z) Z (al (a.e [] Z Z) Z Z (fun w hF=>aK Z) Z (al (a.e [] Z Z) Z Z (fun w hF=>av (k:=0) u101 Z Z nz4 Z) Z (al (a.e [] Z Z) Z Z (fun w hF=>aC Tryz.underlying4 Z Z (hBa1.cell hF.fr 0 Z)) Z (al (a.e [] Z Z) Z Z (fun w hF=>ar Z) Z (al (a.e [] Z Z) Z Z (fun w hF=>aK Z) Z (al (a.e [] Z Z) Z Z (fun w hF=>av (k:=1) u101 Z Z dc Z) Z (al (a.e [] Z Z) Z Z (fun w hF=>aC u30 Z Z (hBa1.cell hF.fr 1 Z)) Z ?_))))))))
 refine al (a.e [] Z Z) Z Z (fun w hF=>ar Z) Z (al (a.e [] Z Z) Z Z (fun w hF=>aK Z) Z (al (a.e [] Z Z) Z Z (fun w hF=>av (k:=0) u101 Z Z nz4 Z) Z (mn (a.e [] Z Z) Z Z Z (aC Tryz.underlying4 Z Z (a.r 0 Z 0)) Z ?_)))
 refine al (a.e [] Z Z) Z Z (fun w hF=>iu Z (qo b)) Z (al (a.e [] Z Z) Z Z (fun w hF=>ar Z) Z (al (a.e [] Z Z) Z Z (fun w hF=>aK Z) Z (al (a.e [] Z Z) Z Z (fun w hF=>av (k:=1) u101 Z Z dc Z) Z (mn (a.e [] Z Z) Z Z Z (aC u30 Z Z (a.r 0 Z 1)) Z ?_))))
 obtain ⟨q,t,h⟩:=aj h
 refine bg (a.e [] Z Z) Z Z (by kernel_rfl) Z (fL g (!b) t (p.d a.fr).rp (a.ro 1 Z).rp) Z ?_
 rintro _ w ⟨x,rfl,o⟩
 have a:=a.f o
 refine al (a.e [] Z Z) Z Z (fun w hF=>cq Z Z) Z (al (a.e [] Z Z) Z Z (fun w hF=>cq Z Z) Z ?_)
 have y:=a.pick (os':=[X c [I b,d],M U d f,M U x q.2]++[]) [1,2,0] (by decide) Z
 obtain ⟨A,u,h⟩:=aj h
 refine bg (a.e [] Z Z) Z Z (by kernel_rfl) Z (bH b q.1 u y.g ) Z ?_
 rintro _ w ⟨z,rfl,o⟩
 have a:=y.h o
 refine al (a.e [] Z Z) Z Z (fun w hF=>aB Z) Z (bn (a.e [] Z Z) ?_)
 refine O (aw ?_)
 cases h
 exact aF Z Z ⟨z,Z,a.e [0,1] Z Z⟩
theorem k7 {x:World} {y ar az z:List UInt32} {l an ap m:Value} {e aA aB f:Nat} {S:List Nat} (o ag A p:Bool) {r:Bool×List UInt32×Bool×List UInt32}
  (h:F.Ei o y ag ar A az p z=some r) (c:St S x x [X e [I o,l],M U l y,X f [I p,m],M U m z]) (aN:RP S x U an ar) (hBa1:RB S x aA [I ag,an]) (aq:RP S x U ap az) (hBa2:RB S x aB [I A,ap]):Calls Tryz.prog 136 #[N e 0,N aA 0,N aB 0,N f 0] x (Ret fun v w=>∃aD aE:Value,v=.tuple #[N e 0,N f 0]∧St S x w [X e [I r.1,aD],M U aD r.2.1,X f [I r.2.2.1,aE],M U aE r.2.2.2]):=by
 refine aJ 45 Tryz.func136 Z Z Z ?_
 refine au [(0,N e 0),(1,N aA 0),(2,N aB 0),(3,N f 0)] ⟨Z,Z,Z,Z,V⟩ ?_
 unfold F.Ei at h
 refine J (af (P 2 Z ?_))
 refine H (O (J (af (aT (aY (cs:=[I false,.slice none 0 0]) c6 Z c) Z ?_))))
 rintro _ w ⟨u,rfl,c⟩
 refine P 1 Z ?_
 replace c:=c.nil U
 have b:=c.pick (os':=[X u [I false,.slice none 0 0],M U (.slice none 0 0) []]++[X e [I o,l],M U l y,X f [I p,m],M U m z]) [1,0,2,3,4,5] (by decide) Z
 obtain ⟨j,aW,h⟩:=aj h
 refine ao Z (fh false A aW b.g (aq.g (R Z) b) (hBa2.g b)) Z ?_
 rintro _ w ⟨n,rfl,d⟩
 have c:=b.h d
 refine P 1 Z ?_
 refine H (O (J (af (P 4 Z ?_))))
 have b:=c.pick (os':=[X e [I o,l],M U l y,X f [I p,m],M U m z]++[X u [I j.1,n],M U n j.2]) [2,3,4,5,0,1] (by decide) Z
 obtain ⟨a,aO,h⟩:=aj h
 refine ao Z (gN o ag A p aO b.g (aN.g (R Z) b) (hBa1.g b) (aq.g (R Z) b) (hBa2.g b)) Z ?_
 rintro _ w ⟨q,i,rfl,d⟩
 have c:=b.h d
 refine H (O ?_)
 refine a9 (r:=r) (fun (g:Bool×List UInt32×Bool×List UInt32) L w=>∃(B:Value) (C:Value),L=[(0,N e 0),(3,N f 0)]∧St S x w [M U B g.2.1,X e [I g.1,B],M U C g.2.2.2,X f [I g.2.2.1,C]]) (F.Fs) ?_ ?_
 rotate_left
 ·intro D
  refine J (af (P 1 Z ?_))
  refine am (aK Z) Z (am (av (k:=0) u101 Z Z nz4 Z) Z (am (aC Tryz.underlying4 Z Z (c.r 2 Z 0)) Z (H (O ?_))))
  refine ax Z (fun E=>?_) (fun E=>?_)
  ·have h:=aI h E
   refine J (af (P 1 Z ?_))
   refine am (aK Z) Z (am (av (k:=0) u101 Z Z nz4 Z) Z (am (aC Tryz.underlying4 Z Z (c.r 4 Z 0)) Z (H (O ?_))))
   refine ax Z (fun G=>?_) (fun G=>?_)
   ·have h:=aI h G
    refine J (af (P 2 Z ?_))
    obtain ⟨s,aP,h⟩:=aj h
    refine ao Z (cG 1 aP ) Z ?_
    rintro _ w ⟨T,aF,rfl,d⟩
    have c:=c.f d
    have b:=c.pick (os':=[X e [I a.1,q],M U q a.2.1]++[X aF [I s.1,T],M U T s.2,X f [I a.2.2.1,i],M U i a.2.2.2,X u [I j.1,n],M U n j.2]) [2,3,0,1,4,5,6,7] (by decide) Z
    obtain ⟨ab,aQ,h⟩:=aj h
    refine ao Z (dw a.1 s.1 aQ b.g (b.giveO 1 Z) (b.giveB 0 Z)) Z ?_
    rintro _ w ⟨ak,rfl,d⟩
    have c:=b.h d
    refine H (O (af (P 3 Z ?_)))
    have b:=c.pick (os':=[X f [I a.2.2.1,i],M U i a.2.2.2]++[X e [I ab.1,ak],M U ak ab.2,X aF [I s.1,T],M U T s.2,X u [I j.1,n],M U n j.2]) [4,5,0,1,2,3,6,7] (by decide) Z
    obtain ⟨aG,aR,h⟩:=aj h
    refine ao Z (dT a.2.2.1 j.1 aR b.g (b.giveO 5 Z) (b.giveB 4 Z)) Z ?_
    rintro _ w ⟨aX,rfl,d⟩
    have c:=b.h d
    refine H (O ?_)
    exact au _ (by exact ⟨Z,Z,V⟩) (D (ab.1,ab.2,aG.1,aG.2) _ _ ⟨ak,aX,Z,(c.e [3,2,1,0] Z Z)⟩ h)
   have h:=aH h G
   refine J (af (P 2 Z ?_))
   obtain ⟨t,aS,h⟩:=aj h
   refine ao Z (cG 1 aS ) Z ?_
   rintro _ w ⟨ac,aL,rfl,d⟩
   have c:=c.f d
   have b:=c.pick (os':=[X e [I a.1,q],M U q a.2.1]++[X aL [I t.1,ac],M U ac t.2,X f [I a.2.2.1,i],M U i a.2.2.2,X u [I j.1,n],M U n j.2]) [2,3,0,1,4,5,6,7] (by decide) Z
   obtain ⟨ad,aU,h⟩:=aj h
   refine ao Z (dT a.1 t.1 aU b.g (b.giveO 1 Z) (b.giveB 0 Z)) Z ?_
   rintro _ w ⟨al,rfl,d⟩
   have c:=b.h d
   refine H (O (af (P 3 Z ?_)))
   have b:=c.pick (os':=[X f [I a.2.2.1,i],M U i a.2.2.2]++[X e [I ad.1,al],M U al ad.2,X aL [I t.1,ac],M U ac t.2,X u [I j.1,n],M U n j.2]) [4,5,0,1,2,3,6,7] (by decide) Z
   obtain ⟨aM,aV,h⟩:=aj h
   refine ao Z (dw a.2.2.1 j.1 aV b.g (b.giveO 5 Z) (b.giveB 4 Z)) Z ?_
   rintro _ w ⟨aZ,rfl,d⟩
   have c:=b.h d
   refine H (O ?_)
   exact au _ (by exact ⟨Z,Z,V⟩) (D (ad.1,ad.2,aM.1,aM.2) _ _ ⟨al,aZ,Z,(c.e [3,2,1,0] Z Z)⟩ h)
  have h:=aH h E
  refine ay (O ?_)
  exact au _ (by exact ⟨Z,Z,V⟩) (D (a.1,a.2.1,a.2.2.1,a.2.2.2) _ _ ⟨q,i,Z,(c.e [1,0,3,2] Z Z)⟩ h)
 rintro ⟨a0,a1,a2,a3⟩ L w hJ h
 try dsimp only at hJ
 obtain ⟨B,C,rfl,c⟩:=hJ
 unfold F.Fs at h
 refine J (af (P 4 Z ?_))
 refine H (O (aw ?_))
 cases h
 exact bW Z Z Z ⟨B,C,Z,c.e [1,0,3,2] Z Z⟩
theorem jy {w0:World} {x ap y:List UInt32} {l al m:Value} {f aq d:Nat} {S:List Nat} (o z p:Bool) {r:Bool×List UInt32×Bool×List UInt32}
  (h:F.FO o x z ap p y=some r) (c:St S w0 w0 [X f [I o,l],M U l x,X d [I p,m],M U m y]) (an:RP S w0 U al ap) (hBa2:RB S w0 aq [I z,al]):Calls Tryz.prog 136 #[N f 0,N d 0,N aq 0,N d 0] w0 (Ret fun v w=>∃ar az:Value,v=.tuple #[N f 0,N d 0]∧St S w0 w [X f [I r.1,ar],M U ar r.2.1,X d [I r.2.2.1,az],M U az r.2.2.2]):=by
 refine aJ 45 Tryz.func136 Z Z Z ?_
 refine au [(0,N f 0),(1,N d 0),(2,N aq 0),(3,N d 0)] ⟨Z,Z,Z,Z,V⟩ ?_
 unfold F.FO at h
 refine J (af (P 2 Z ?_))
 refine H (O (J (af (aT (aY (cs:=[I false,.slice none 0 0]) c6 Z c) Z ?_))))
 rintro _ w ⟨u,rfl,c⟩
 refine P 1 Z ?_
 replace c:=c.nil U
 have b:=c.pick (os':=[X u [I false,.slice none 0 0],M U (.slice none 0 0) []]++[X f [I o,l],M U l x,X d [I p,m],M U m y]) [1,0,2,3,4,5] (by decide) Z
 obtain ⟨j,aQ,h⟩:=aj h
 refine ao Z (fh false z aQ b.g (an.g (R Z) b) (hBa2.g b)) Z ?_
 rintro _ w ⟨n,rfl,e⟩
 have c:=b.h e
 refine P 1 Z ?_
 refine H (O (J (af (P 4 Z ?_))))
 have b:=c.pick (os':=[X f [I o,l],M U l x,X d [I p,m],M U m y]++[X u [I j.1,n],M U n j.2]) [2,3,4,5,0,1] (by decide) Z
 obtain ⟨a,aF,h⟩:=aj h
 refine ao Z (jx o z p aF b.g (an.g (R Z) b) (hBa2.g b)) Z ?_
 rintro _ w ⟨q,i,rfl,e⟩
 have c:=b.h e
 refine H (O ?_)
 refine a9 (r:=r) (fun (g:Bool×List UInt32×Bool×List UInt32) L w=>∃(A:Value) (B:Value),L=[(0,N f 0),(3,N d 0)]∧St S w0 w [M U A g.2.1,X f [I g.1,A],M U B g.2.2.2,X d [I g.2.2.1,B]]) (F.FB) ?_ ?_
 rotate_left
 ·intro C
  refine J (af (P 1 Z ?_))
  refine am (aK Z) Z (am (av (k:=0) u101 Z Z nz4 Z) Z (am (aC Tryz.underlying4 Z Z (c.r 2 Z 0)) Z (H (O ?_))))
  refine ax Z (fun D=>?_) (fun D=>?_)
  ·have h:=aI h D
   refine J (af (P 1 Z ?_))
   refine am (aK Z) Z (am (av (k:=0) u101 Z Z nz4 Z) Z (am (aC Tryz.underlying4 Z Z (c.r 4 Z 0)) Z (H (O ?_))))
   refine ax Z (fun E=>?_) (fun E=>?_)
   ·have h:=aI h E
    refine J (af (P 2 Z ?_))
    obtain ⟨s,aG,h⟩:=aj h
    refine ao Z (cG 1 aG ) Z ?_
    rintro _ w ⟨G,aA,rfl,e⟩
    have c:=c.f e
    have b:=c.pick (os':=[X f [I a.1,q],M U q a.2.1]++[X aA [I s.1,G],M U G s.2,X d [I a.2.2.1,i],M U i a.2.2.2,X u [I j.1,n],M U n j.2]) [2,3,0,1,4,5,6,7] (by decide) Z
    obtain ⟨T,aL,h⟩:=aj h
    refine ao Z (dw a.1 s.1 aL b.g (b.giveO 1 Z) (b.giveB 0 Z)) Z ?_
    rintro _ w ⟨ag,rfl,e⟩
    have c:=b.h e
    refine H (O (af (P 3 Z ?_)))
    have b:=c.pick (os':=[X d [I a.2.2.1,i],M U i a.2.2.2]++[X f [I T.1,ag],M U ag T.2,X aA [I s.1,G],M U G s.2,X u [I j.1,n],M U n j.2]) [4,5,0,1,2,3,6,7] (by decide) Z
    obtain ⟨aB,aM,h⟩:=aj h
    refine ao Z (dT a.2.2.1 j.1 aM b.g (b.giveO 5 Z) (b.giveB 4 Z)) Z ?_
    rintro _ w ⟨aR,rfl,e⟩
    have c:=b.h e
    refine H (O ?_)
    exact au _ (by exact ⟨Z,Z,V⟩) (C (T.1,T.2,aB.1,aB.2) _ _ ⟨ag,aR,Z,(c.e [3,2,1,0] Z Z)⟩ h)
   have h:=aH h E
   refine J (af (P 2 Z ?_))
   obtain ⟨t,aN,h⟩:=aj h
   refine ao Z (cG 1 aN ) Z ?_
   rintro _ w ⟨ab,aD,rfl,e⟩
   have c:=c.f e
   have b:=c.pick (os':=[X f [I a.1,q],M U q a.2.1]++[X aD [I t.1,ab],M U ab t.2,X d [I a.2.2.1,i],M U i a.2.2.2,X u [I j.1,n],M U n j.2]) [2,3,0,1,4,5,6,7] (by decide) Z
   obtain ⟨ac,aO,h⟩:=aj h
   refine ao Z (dT a.1 t.1 aO b.g (b.giveO 1 Z) (b.giveB 0 Z)) Z ?_
   rintro _ w ⟨ak,rfl,e⟩
   have c:=b.h e
   refine H (O (af (P 3 Z ?_)))
   have b:=c.pick (os':=[X d [I a.2.2.1,i],M U i a.2.2.2]++[X f [I ac.1,ak],M U ak ac.2,X aD [I t.1,ab],M U ab t.2,X u [I j.1,n],M U n j.2]) [4,5,0,1,2,3,6,7] (by decide) Z
   obtain ⟨aE,aP,h⟩:=aj h
   refine ao Z (dw a.2.2.1 j.1 aP b.g (b.giveO 5 Z) (b.giveB 4 Z)) Z ?_
   rintro _ w ⟨aS,rfl,e⟩
   have c:=b.h e
   refine H (O ?_)
   exact au _ (by exact ⟨Z,Z,V⟩) (C (ac.1,ac.2,aE.1,aE.2) _ _ ⟨ak,aS,Z,(c.e [3,2,1,0] Z Z)⟩ h)
  have h:=aH h D
  refine ay (O ?_)
  exact au _ (by exact ⟨Z,Z,V⟩) (C (a.1,a.2.1,a.2.2.1,a.2.2.2) _ _ ⟨q,i,Z,(c.e [1,0,3,2] Z Z)⟩ h)
 rintro ⟨aU,aV,aW,aX⟩ L w hJ h
 try dsimp only at hJ
 obtain ⟨A,B,rfl,c⟩:=hJ
 unfold F.FB at h
 refine J (af (P 4 Z ?_))
 refine H (O (aw ?_))
 cases h
 exact bW Z Z Z ⟨A,B,Z,c.e [1,0,3,2] Z Z⟩
end Go.Proofs
