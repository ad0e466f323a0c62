import Derived.Test.YtkickcbphbgldaaGreatDoorTW0
import Derived.Test.YtkickcbphbgldaaGreatDoorGkFman
import Derived.Test.YtkickcbphbgldaaGreatDoorTWshaa
set_option linter.unusedVariables false
set_option linter.unusedSimpArgs false
set_option linter.unusedSectionVars false
set_option maxRecDepth 4000
namespace Go.Proofs
open Go Go.RowKit Go.Gk
open Go.Gk renaming aa → Q, ae → N, af → H, ah → M, ai → J, e32 → U, own → O, pB → K
open Nat renaming le_of_ble_eq_true → R
open Go.Gk.OE renaming bx → X
theorem nO {B:World} {q:Nat} {S:List Nat} (d:Int) (f:List UInt32) (j:List UInt64) (n:List UInt8) (b:UInt64) {r:List UInt8×Int×List UInt32×List UInt64×List UInt8×UInt64}
  (h:F.Fa d f j n b=some r) (a:St S B B [X q ([vI d]++(U.fl f++(e64.fl j++(e8.fl n++[v64 b]))))]) (hT:TB S B) (u:f.length=8) (x:j.length=8) (y:n.length=128):Calls Tryz.prog 125 #[K q 0] B (Ret fun v w=>∃u0:Value,v=u0∧r.2.2.1.length=8∧r.2.2.2.1.length=8∧r.2.2.2.2.1.length=128∧St S B w [O e8 u0 r.1,X q ([vI r.2.1]++(U.fl r.2.2.1++(e64.fl r.2.2.2.1++(e8.fl r.2.2.2.2.1++[v64 r.2.2.2.2.2]))))]):=by
 refine aN 120 Tryz.func125 Z Z Z ?_
 refine ar [(0,K q 0)] ⟨Z,V⟩ ?_
 unfold F.Fa at h
 refine M (H (Q 1 Z ?_))
 refine J (N (M (H (Q 1 Z ?_))))
 refine al (aO Z) Z ?_
 refine al (iY (us:=[vI d]++(U.fl f++(e64.fl j++(e8.fl n++[v64 b])))) u168 Z yq (ej Z (ej (bj u Z) (ej (bj x Z) (ej (bj y Z) Z Z) Z) Z) Z) Z (a.bxgs0 0 Z Up.last)) Z ?_
 refine aU (bg (cs:=[vI 0]++(U.fl (List.replicate 8 0)++(e64.fl (List.replicate 8 0)++(e8.fl (List.replicate 128 0)++[v64 0])))) A2 (by kernel_rfl) a) Z ?_
 rintro _ w ⟨p,rfl,a⟩
 refine bn (eD (m:=146) (xs:=[vI 0]++(U.fl (List.replicate 8 0)++(e64.fl (List.replicate 8 0)++(e8.fl (List.replicate 128 0)++[v64 0])))) (xs':=[vI d]++(U.fl f++(e64.fl j++(e8.fl n++[v64 b])))) (i:=0) Z yq Z Z Z Up.last (ej Z (ej (bj List.length_replicate Z) (ej (bj List.length_replicate Z) (ej (bj List.length_replicate Z) Z Z) Z) Z) Z) (ej Z (ej (bj u Z) (ej (bj x Z) (ej (bj y Z) Z Z) Z) Z) Z) (mo (fx Z) (mo j6 (mo j6 (mo j6 (fx Z))))) a) ?_
 intro w a
 refine J (N (M ?_))
 refine bb (fun w'=>St S B w' [X p ([vI d]++(U.fl f++(e64.fl j++(e8.fl n++[v64 b])))),X q ([vI d]++(U.fl f++(e64.fl j++(e8.fl n++[v64 b]))))]) (fun i=>!([2].contains i)) bR (fun _ _ _ hf=>hf.2) (fun _ _ hf=>hf) (by kernel_rfl) ?_
 have a:=a.drew
 show lxE _ _ _ _ _ _ _ [0,1,2,3,4,5,6] _ _
 refine am a Z Z (fun w hF=>ax (k:=0) u168 Z Z oZ Z) Z (am a Z Z (fun w hF=>aH u22 Z Z (hF.s 0 Z (Up.get0 Up.p))) Z ?_)
 obtain ⟨t,bP,h⟩:=aj h
 refine bk a Z Z (by kernel_rfl) Z (mS d bP ) Z ?_
 rintro _ w ⟨rfl,E⟩
 have a:=a.f E
 refine am a Z Z (fun w hF=>ax (k:=145) u168 Z Z uf Z) Z ?_
 refine am a Z Z (fun w hF=>aH u87 Z Z (hF.s 0 Z (Up.get0 (Up.o (k:=1) Z (Up.o (k:=8) (bj u Z) (Up.o (k:=8) (bj x Z) (Up.o (k:=128) (bj y Z) Up.last Z) Z) Z) Z)))) Z ?_
 refine am a Z Z (fun w hF=>aD Z) Z (am a Z Z (fun w hF=>aD Z) Z (bp a ?_))
 refine N (M (H (Q 1 Z ?_)))
 refine al (aq Z Z (dR _ t 8 (by decide))) Z ?_
 refine Q 1 Z ?_
 refine J (N (M (H ?_)))
 refine aU (ci (e:=e8) (l:=[128]) (vs:=[v8 128]) u24 ti5 Z Z Z Z (by decide) (by decide) a) Z ?_
 rintro bN w a
 refine Q 1 Z ?_
 refine J (N (M (az ?_)))
 refine ar [(3,K p 0),(4,vI t),(5,v64 b),(6,vI (wI (Int.tdiv t 8))),(7,bN)] ⟨Z,Z,Z,Z,Z,V⟩ ?_
 refine bd (F.EF b t d f j n) (fun (s:List UInt8) L w=>∃(aS:Value),L=[(3,K p 0),(4,vI t),(5,v64 b),(6,vI (wI (Int.tdiv t 8))),(7,aS)]∧St S B w [O e8 aS s,X p ([vI d]++(U.fl f++(e64.fl j++(e8.fl n++[v64 b])))),X q ([vI d]++(U.fl f++(e64.fl j++(e8.fl n++[v64 b]))))]) ?_ [128] ⟨bN,Z,a⟩ h
 rintro b5 bO L w b6 hI bm h a0
 try dsimp only at hI
 obtain ⟨aS,rfl,a⟩:=hI
 unfold F.EF at h
 refine M (M (H (Q 2 Z ?_)))
 refine al (aK Z (eA Tryz.underlying3 u87 t)) Z ?_
 obtain ⟨bq,h⟩:=bZ h
 refine al (aq Z Z (eM _ b (UInt64.ofInt t) bq)) Z (al (aK Z (l8 u87 Tryz.underlying3 (b%(UInt64.ofInt t)))) Z (Q 1 Z ?_))
 refine al (aL u24 Z (a.ro 0 Z)) Z (Q 2 Z ?_)
 obtain ⟨bs,h⟩:=bZ h
 refine al (aq Z Z (jX _ (wI ((wI ((b%(UInt64.ofInt t)).toNat:Int))+(bO.length:Int))) t bs)) Z (Q 4 Z ?_)
 refine J (N ?_)
 refine av Z (fun T=>?_) (fun T=>?_)
 ·have h:=aJ h T
  refine aw (N (az ?_))
  refine H (Q 1 Z ?_)
  refine aU (ci (e:=e8) (l:=[0]) (vs:=[v8 0]) u24 ti5 Z Z Z Z (by decide) (by decide) a) Z ?_
  rintro b7 w a
  obtain ⟨bQ,bt,h⟩:=aj h
  refine aU (fi u24 ti5 Z Z Z a (i:=1) Z (a.ro 0 Z) bt) Z ?_
  rintro bS w a
  refine Q 1 Z ?_
  refine J (aP ?_)
  exact bh (bo _ (by exact ⟨Z,Z,Z,Z,Z,V⟩) (bm bQ _ _ ⟨bS,Z,(a.e [1,2,3] Z Z)⟩ (aY h a0)))
 have h:=aI h T
 refine ba ?_
 refine aC (aC ?_)
 have h:=aT h a0
 refine a9 ?_
 refine N (M (M (H (Q 2 Z ?_))))
 obtain ⟨aW,bu,h⟩:=aQ h
 refine al (aD (v:=vI aW) (by rw [←bu]; rfl)) Z ?_
 refine J (N (az ?_))
 refine ar [(3,K p 0),(5,v64 b),(7,aS),(8,vI aW)] ⟨Z,Z,Z,Z,V⟩ ?_
 refine bd (F.CD d f j n b) (fun (s:List UInt8×Int) L w=>∃(C:Value),L=[(3,K p 0),(5,v64 b),(7,C),(8,vI s.2)]∧St S B w [O e8 C s.1,X p ([vI d]++(U.fl f++(e64.fl j++(e8.fl n++[v64 b])))),X q ([vI d]++(U.fl f++(e64.fl j++(e8.fl n++[v64 b]))))]) ?_ (bO,aW) ⟨aS,Z,a⟩ h
 rintro b8 ⟨aZ,D⟩ L w bT hI bv h a1
 try dsimp only at hI
 obtain ⟨C,rfl,a⟩:=hI
 unfold F.CD at h
 refine M (M (H (Q 2 Z ?_)))
 refine J (N ?_)
 refine av Z (fun ab=>?_) (fun ab=>?_)
 ·have h:=aJ h ab
  refine aw (N (M (az ?_)))
  refine M (H (Q 1 Z ?_))
  refine J (N ?_)
  refine bf (r:=bT) (fun (g:UInt8) L w=>L=[(3,K p 0),(5,v64 b),(7,C),(8,vI D),(9,v8 g)]∧St S B w [X p ([vI d]++(U.fl f++(e64.fl j++(e8.fl n++[v64 b])))),O e8 C aZ,X q ([vI d]++(U.fl f++(e64.fl j++(e8.fl n++[v64 b]))))]) (F.Dt aZ D) ?_ ?_
  rotate_left
  ·intro ac
   refine az ?_
   refine M (H (Q 3 Z ?_))
   refine J (N ?_)
   refine av Z (fun ad=>?_) (fun ad=>?_)
   ·have h:=aJ h ad
    refine H (Q 1 Z ?_)
    refine al (aq Z Z (c9 _ b 3)) Z (Q 1 Z ?_)
    refine al (aq Z Z (fj _ 8 D)) Z ?_
    obtain ⟨bw,h⟩:=bZ h
    refine al (aq Z Z (kZ _ (br b 3) (wI (8*D)) bw)) Z (al (aK Z (oD u87 Tryz.underlying5 (aX (br b 3) (((wI (8*D))).toNat)))) Z ?_)
    obtain ⟨bc,bz,h⟩:=aQ h
    refine al (aD (v:=v8 bc) (by rw [←bz]; rfl)) Z ?_
    refine J (aP ?_)
    refine N ?_
    exact ar _ (by exact ⟨Z,Z,Z,Z,Z,V⟩) (ac bc _ _ ⟨Z,(a.e [1,0,2] Z Z)⟩ h)
   have h:=aI h ad
   refine M (H (Q 3 Z ?_))
   refine J (N ?_)
   refine av Z (fun ag=>?_) (fun ag=>?_)
   ·have h:=aJ h ag
    refine H (Q 1 Z ?_)
    refine al (aq Z Z (cq _ b 61)) Z (al (aK Z (oD u87 Tryz.underlying5 (aX b 61))) Z (Q 1 Z ?_))
    refine J (aP ?_)
    refine N ?_
    exact ar _ (by exact ⟨Z,Z,Z,Z,Z,V⟩) (ac ((aX b 61).toUInt8) _ _ ⟨Z,(a.e [1,0,2] Z Z)⟩ h)
   have h:=aI h ag
   refine aw (aP ?_)
   refine N ?_
   exact ar _ (by exact ⟨Z,Z,Z,Z,Z,V⟩) (ac 0 _ _ ⟨Z,(a.e [1,0,2] Z Z)⟩ h)
  rintro be L w hJ h
  try dsimp only at hJ
  obtain ⟨rfl,a⟩:=hJ
  unfold F.Dt at h
  refine H (Q 2 Z ?_)
  refine aU (ci (e:=e8) (l:=[be]) (vs:=[v8 be]) u24 ti5 Z Z Z Z (by decide) (by decide) a) Z ?_
  rintro b9 w a
  obtain ⟨bU,bA,h⟩:=aj h
  refine aU (fi u24 ti5 Z Z Z a (i:=2) Z (a.ro 0 Z) bA) Z ?_
  rintro bV w a
  refine Q 1 Z ?_
  refine J (aP ?_)
  refine N (H (Q 3 Z ?_))
  refine J ?_
  exact bh (bo _ (by exact ⟨Z,Z,Z,Z,V⟩) (bv (bU,wI (D - 1)) _ _ ⟨bV,Z,(a.e [2,1,3] Z Z)⟩ (aY h a1)))
 have h:=aI h ab
 refine ba ?_
 refine aC (aC ?_)
 have h:=aT h a1
 refine a9 ?_
 refine N (M (H (Q 1 Z ?_)))
 have hG:=a.pick (os':=[X p ([vI d]++(U.fl f++(e64.fl j++(e8.fl n++[v64 b]))))]++[O e8 C aZ,X q ([vI d]++(U.fl f++(e64.fl j++(e8.fl n++[v64 b]))))]) [1,0,2] (by decide) Z
 obtain ⟨c,bD,h⟩:=aj h
 refine ao Z (iJ d f j n b bD hG.g (hT.g hG) u x y (hG.giveO 0 Z)) Z ?_
 rintro _ w ⟨rfl,ak,a2,b3,E⟩
 have a:=hG.h E
 refine J (N (M (H (Q 1 Z ?_))))
 refine J (N (M (M (H (al (ax (k:=0) u168 Z Z oZ Z) Z (al (aH u22 Z Z (a.s 0 Z (Up.get0 Up.p))) Z (Q 1 Z ?_)))))))
 refine J (N ?_)
 refine av Z (fun an=>?_) (fun an=>?_)
 ·have h:=aJ h an
  refine M (M (H (al (ax (k:=1) u168 Z Z fU Z) Z (al (iY (us:=U.fl c.2.1) u165 Z ux (bj ak Z) Z (a.bxgs0 0 Z (Up.o (k:=1) Z Up.p Z))) Z (Q 1 Z ?_)))))
  refine J (N (az ?_))
  refine ar [(10,.slice none 0 0),(75,.agg (U.fl c.2.1).toArray),(76,vI 0)] ⟨Z,Z,Z,V⟩ ?_
  refine bd (F.DF d f j n b c) (fun (s:List UInt8×Int) L w=>∃(ap:Value),L=[(10,ap),(75,.agg (U.fl c.2.1).toArray),(76,vI s.2)]∧St S B w [O e8 ap s.1,X q ([vI d]++(U.fl f++(e64.fl j++(e8.fl n++[v64 b]))))]) ?_ ([],0) ⟨.slice none 0 0,Z,((a.nil e8).e [0,3] Z Z)⟩ h
  rintro ca ⟨cb,bW⟩ L w cc hI bE h a3
  try dsimp only at hI
  obtain ⟨ap,rfl,a⟩:=hI
  unfold F.DF at h
  refine M (H (Q 1 Z ?_))
  refine J (N (M ?_))
  refine av Z (fun aA=>?_) (fun aA=>?_)
  ·have h:=aJ h aA
   refine aw (N (M (az ?_)))
   refine M (H ?_)
   obtain ⟨o,a4,h⟩:=aj h
   refine al (kn (cs:=(U.fl c.2.1).toArray) u165 u38 Z ea Z Z (bJ a4 ak) (mi a4 Z)) Z (Q 1 Z ?_)
   refine J (N (H (Q 2 Z ?_)))
   refine al (aq Z Z (di _ o 24)) Z (al (aK Z (gK u38 Tryz.underlying5 (bC o 24))) Z (Q 1 Z ?_))
   refine al (aq Z Z (di _ o 16)) Z (al (aK Z (gK u38 Tryz.underlying5 (bC o 16))) Z (Q 1 Z ?_))
   refine al (aq Z Z (di _ o 8)) Z (al (aK Z (gK u38 Tryz.underlying5 (bC o 8))) Z (Q 1 Z ?_))
   refine al (aK Z (gK u38 Tryz.underlying5 o)) Z ?_
   refine aU (ci (e:=e8) (l:=[(bC o 24).toUInt8,(bC o 16).toUInt8,(bC o 8).toUInt8,o.toUInt8]) (vs:=[v8 ((bC o 24).toUInt8),v8 ((bC o 16).toUInt8),v8 ((bC o 8).toUInt8),v8 o.toUInt8]) u24 ti5 Z Z Z Z (by decide) (by decide) a) Z ?_
   rintro cd w a
   obtain ⟨bX,bF,h⟩:=aj h
   refine aU (fi u24 ti5 Z Z Z a (i:=1) Z (a.ro 0 Z) bF) Z ?_
   rintro bY w a
   refine Q 1 Z ?_
   refine J (aP ?_)
   refine N (H (Q 2 Z ?_))
   refine J ?_
   exact bh (bo _ (by exact ⟨Z,Z,Z,V⟩) (bE (bX,wI (bW+1)) _ _ ⟨bY,Z,(a.e [1,2] Z Z)⟩ (aY h a3)))
  have h:=aI h aA
  refine ba ?_
  refine aC (aC ?_)
  have h:=aT h a3
  refine a9 ?_
  refine N (M (H (Q 2 Z ?_)))
  refine J (N (ay (aG ?_)))
  cases h
  exact aM Z Z ⟨ap,Z,u,x,y,a.e [0,1] Z Z⟩
 have h:=aI h an
 refine aw (N (M (M (H (al (ax (k:=9) u168 Z Z fy Z) Z (al (iY (us:=e64.fl c.2.2.1) u160 Z nP (bj a2 Z) Z (a.bxgs0 0 Z (Up.o (k:=1) Z (Up.o (k:=8) (bj ak Z) Up.p Z) Z))) Z ?_))))))
 refine Q 1 Z ?_
 refine J (N (az ?_))
 refine ar [(3,K p 0),(10,.slice none 0 0),(96,.agg (e64.fl c.2.2.1).toArray),(97,vI 0)] ⟨Z,Z,Z,Z,V⟩ ?_
 refine bd (F.Cu d f j n b c) (fun (s:List UInt8×Int) L w=>∃(z:Value),L=[(3,K p 0),(10,z),(96,.agg (e64.fl c.2.2.1).toArray),(97,vI s.2)]∧St S B w [O e8 z s.1,X p ([vI c.1]++(U.fl c.2.1++(e64.fl c.2.2.1++(e8.fl c.2.2.2.1++[v64 c.2.2.2.2])))),X q ([vI d]++(U.fl f++(e64.fl j++(e8.fl n++[v64 b]))))]) ?_ ([],0) ⟨.slice none 0 0,Z,((a.nil e8).e [0,1,3] Z Z)⟩ h
 rintro ce ⟨bi,aB⟩ L w cf hI bG h a5
 try dsimp only at hI
 obtain ⟨z,rfl,a⟩:=hI
 unfold F.Cu at h
 refine M (H (Q 1 Z ?_))
 refine J (N (M ?_))
 refine av Z (fun aE=>?_) (fun aE=>?_)
 ·have h:=aJ h aE
  refine aw (N (M (az ?_)))
  refine M (H ?_)
  obtain ⟨A,a6,h⟩:=aj h
  refine al (kn (cs:=(e64.fl c.2.2.1).toArray) u160 u87 Z dO Z Z (bJ a6 a2) (mi a6 Z)) Z (Q 1 Z ?_)
  refine J (N (M (H (Q 1 Z ?_))))
  refine J (N (az ?_))
  refine ar [(3,K p 0),(10,z),(14,v64 A),(15,vI 56),(96,.agg (e64.fl c.2.2.1).toArray),(97,vI aB)] ⟨Z,Z,Z,Z,Z,Z,V⟩ ?_
  refine bd (F.DQ aB A) (fun (s:List UInt8×Int) L w=>∃(aF:Value),L=[(3,K p 0),(10,aF),(14,v64 A),(15,vI s.2),(96,.agg (e64.fl c.2.2.1).toArray),(97,vI aB)]∧St S B w [O e8 aF s.1,X p ([vI c.1]++(U.fl c.2.1++(e64.fl c.2.2.1++(e8.fl c.2.2.2.1++[v64 c.2.2.2.2])))),X q ([vI d]++(U.fl f++(e64.fl j++(e8.fl n++[v64 b]))))]) ?_ (bi,56) ⟨z,Z,a⟩ h
  rintro cg ⟨b0,G⟩ L w ch hI bH h a7
  try dsimp only at hI
  obtain ⟨aF,rfl,a⟩:=hI
  unfold F.DQ at h
  refine M (M (H (Q 2 Z ?_)))
  refine J (N ?_)
  refine av Z (fun aR=>?_) (fun aR=>?_)
  ·have h:=aJ h aR
   refine aw (N (M (az ?_)))
   refine H (Q 3 Z ?_)
   obtain ⟨bI,h⟩:=bZ h
   refine al (aq Z Z (kZ _ A G bI)) Z (al (aK Z (oD u87 Tryz.underlying5 (aX A ((G).toNat)))) Z ?_)
   refine aU (ci (e:=e8) (l:=[(aX A ((G).toNat)).toUInt8]) (vs:=[v8 ((aX A ((G).toNat)).toUInt8)]) u24 ti5 Z Z Z Z (by decide) (by decide) a) Z ?_
   rintro cj w a
   obtain ⟨b1,bK,h⟩:=aj h
   refine aU (fi u24 ti5 Z Z Z a (i:=1) Z (a.ro 0 Z) bK) Z ?_
   rintro b2 w a
   refine Q 1 Z ?_
   refine J (aP ?_)
   refine N (H (Q 3 Z ?_))
   refine J ?_
   exact bh (bo _ (by exact ⟨Z,Z,Z,Z,Z,Z,V⟩) (bH (b1,wI (G - 8)) _ _ ⟨b2,Z,(a.e [1,2,3] Z Z)⟩ (aY h a7)))
  have h:=aI h aR
  refine ba ?_
  refine aC (aC ?_)
  have h:=aT h a7
  refine a9 ?_
  refine aP ?_
  refine N (H (Q 2 Z ?_))
  refine J ?_
  exact bh (bo _ (by exact ⟨Z,Z,Z,Z,V⟩) (bG (b0,wI (aB+1)) _ _ ⟨aF,Z,a⟩ (aY h a5)))
 have h:=aI h aE
 refine ba ?_
 refine aC (aC ?_)
 have h:=aT h a5
 refine a9 ?_
 refine N (M ?_)
 refine bb (fun w'=>St S B w' [O e8 z bi,X p ([vI c.1]++(U.fl c.2.1++(e64.fl c.2.2.1++(e8.fl c.2.2.2.1++[v64 c.2.2.2.2])))),X q ([vI d]++(U.fl f++(e64.fl j++(e8.fl n++[v64 b]))))]) (fun i=>!([3,6].contains i)) bR (fun _ _ _ hf=>hf.2) (fun _ _ hf=>hf) (by kernel_rfl) ?_
 have a:=a.drew
 show lxE _ _ _ _ _ _ _ [0,1,2,3,4,5,6,7,8] _ _
 refine am a Z Z (fun w hF=>au Z) Z (am a Z Z (fun w hF=>ax (k:=0) u168 Z Z oZ Z) Z (am a Z Z (fun w hF=>aH u22 Z Z (hF.s 1 Z (Up.get0 Up.p))) Z ?_))
 obtain ⟨bl,bL,h⟩:=aj h
 refine bk a Z Z (by kernel_rfl) Z (gq c.1 bL ) Z ?_
 rintro _ w ⟨rfl,E⟩
 have a:=a.f E
 refine am a Z Z (fun w hF=>ax (k:=0) u168 Z Z oZ Z) Z (am a Z Z (fun w hF=>aH u22 Z Z (hF.s 1 Z (Up.get0 Up.p))) Z ?_)
 obtain ⟨ck,bM,h⟩:=aj h
 refine bk a Z Z (by kernel_rfl) Z (gq c.1 bM ) Z ?_
 rintro _ w ⟨rfl,E⟩
 have a:=a.f E
 obtain ⟨a8,h⟩:=bZ h
 refine am a Z Z (fun w hF=>rK u24 ti5 Z Z Z (hF.ro 0 Z) a8) Z (am a Z Z (fun w hF=>aD Z) Z (bp a ?_))
 refine N (ay ?_)
 cases h
 replace a:=a.trunc3 (i:=0) rfl a8.2.1
 exact aM Z Z ⟨slV3 z e8.sz 0 ((bl:Int).toNat) ((bl:Int).toNat),Z,u,x,y,a.e [0,2] Z Z⟩
theorem wg {t:World} {a1:List (List UInt8)} {o:Value} {s1:List SV} (a0:Int) {r:List UInt8}
  (h:F.DY a0 a1=some r) (hT:TB [] t) (B:RP [] t eV o s1) (hl1:gC [] t e8 s1 a1):Calls Tryz.prog 67 #[vI a0,o] t (Ret fun v w=>St [] t w [O e8 v r]):=by
 refine aN 24 Tryz.func67 Z Z Z ?_
 have a:=St.l t
 refine ar [(0,vI a0),(1,o)] ⟨Z,Z,V⟩ ?_
 unfold F.DY at h
 refine M (H (Q 1 Z ?_))
 refine J (N (M (H (Q 1 Z ?_))))
 obtain ⟨ax,ak,h⟩:=aj h
 refine ao Z (wD a0 ak (hT.d a.fr)) Z ?_
 rintro _ w ⟨aS,rfl,c,am,b⟩
 cases d:ax with
 | none=>
  have h:=fG h d
  rw [d]at c b
  simp only [Option.map_none,xa]at c
  subst c
  simp only [Option.map_none,yl,List.nil_append]at b
  have a:=a.f b
  refine Q 1 Z ?_
  refine J (N (M (M (H (Q 1 Z ?_)))))
  refine al (aq Z Z (qs Tryz.underlying136)) Z (J (N (cn Z ?_)))
  refine M (H (Q 1 Z ?_))
  refine J (N (ay (aG ?_)))
  cases h
  exact aM Z Z ((a.nil e8).e [0] Z Z)
 | some f=>
  have h:=fv h d
  rw [d]at c b
  simp only [Option.map_some,xa]at c
  obtain ⟨g,rfl⟩:=c
  simp only [Option.map_some,yl,List.singleton_append,List.cons_append,List.nil_append]at b
  have a:=a.f b
  obtain ⟨an,ap,D⟩:=am f d
  refine Q 1 Z ?_
  refine J (N (M (M (H (Q 1 Z ?_)))))
  refine al (aq Z Z (qw Tryz.underlying136 g 0)) Z (J (N (dV Z ?_)))
  refine aw (N (M (M (H (Q 1 Z ?_)))))
  refine al (uj u56 Z (B.d a.fr) hl1.len) Z (Q 1 Z ?_)
  refine J (N (az ?_))
  refine ar [(5,K g 0),(12,o),(13,vI (a1.length:Int)),(14,vI 0)] ⟨Z,Z,Z,Z,V⟩ ?_
  refine bd (F.Cz a1) (fun (s:Int×Int×List UInt32×List UInt64×List UInt8×UInt64) L w=>L=[(5,K g 0),(12,o),(13,vI (a1.length:Int)),(14,vI s.1)]∧s.2.2.1.length=8∧s.2.2.2.1.length=8∧s.2.2.2.2.1.length=128∧St [] t w [X g ([vI s.2.1]++(U.fl s.2.2.1++(e64.fl s.2.2.2.1++(e8.fl s.2.2.2.2.1++[v64 s.2.2.2.2.2]))))]) ?_ (0,f.1,f.2.1,f.2.2.1,f.2.2.2.1,f.2.2.2.2) ⟨Z,an,ap,D,a⟩ h
  rintro aH ⟨au,i,j,k,l,m⟩ L w aK hI E h u
  try dsimp only at hI
  obtain ⟨rfl,x,y,z,a⟩:=hI
  unfold F.Cz at h
  refine M (H (Q 1 Z ?_))
  refine J (N (M ?_))
  refine av Z (fun n=>?_) (fun n=>?_)
  ·have h:=aJ h n
   refine aw (N (M (az ?_)))
   refine M (H ?_)
   obtain ⟨aL,G,h⟩:=aj h
   obtain ⟨aA,p,A⟩:=hl1.get G
   refine al (aW u56 cd Z Z (B.d a.fr) p) Z (al (aR u24 Z Z (B.d a.fr) p Z) Z (Q 1 Z ?_))
   refine J (N (H (Q 2 Z ?_)))
   have q:=a.pick (os':=[X g ([vI i]++(U.fl j++(e64.fl k++(e8.fl l++[v64 m]))))]++[]) [0] (by decide) Z
   obtain ⟨e,S,h⟩:=aj h
   refine ao Z (iJ i j k l m S q.g (hT.g q) x y z (A.g (R Z) q)) Z ?_
   rintro _ w ⟨rfl,T,ab,ac,b⟩
   have a:=q.h b
   refine J (aP ?_)
   refine N (H (Q 2 Z ?_))
   refine J ?_
   exact bh (bo _ (by exact ⟨Z,Z,Z,Z,V⟩) (E (wI (au+1),e.1,e.2.1,e.2.2.1,e.2.2.2.1,e.2.2.2.2) _ _ ⟨Z,T,ab,ac,a⟩ (aY h u)))
  have h:=aI h n
  refine ba ?_
  refine aC (aC ?_)
  have h:=aT h u
  refine a9 ?_
  refine N (M (H (Q 1 Z ?_)))
  have q:=a.pick (os':=[X g ([vI i]++(U.fl j++(e64.fl k++(e8.fl l++[v64 m]))))]++[]) [0] (by decide) Z
  obtain ⟨aO,ad,h⟩:=aj h
  refine ao Z (nO i j k l m ad q.g (hT.g q) x y z) Z ?_
  rintro aQ w ⟨aB,C,aD,aE,aF,b⟩
  rw [←C]at b
  have a:=q.h b
  refine Q 1 Z ?_
  refine J (N (ay ?_))
  cases h
  exact aM Z Z (a.e [0] Z Z)
end Go.Proofs
