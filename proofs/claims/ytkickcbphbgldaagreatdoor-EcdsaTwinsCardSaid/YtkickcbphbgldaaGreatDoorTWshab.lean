import Derived.Test.YtkickcbphbgldaaGreatDoorTW0
import Derived.Test.YtkickcbphbgldaaGreatDoorGkFman
import Derived.Test.YtkickcbphbgldaaGreatDoorTWshaa
set_option linter.unusedVariables false
set_option linter.unusedSimpArgs false
set_option linter.unusedSectionVars false
set_option maxRecDepth 4000
namespace Go.Proofs
open Go Go.RowKit Go.Gk
open Go.Gk renaming aa → P, ae → O, af → H, ah → J, ai → I, e32 → U, own → N, pB → M
open Nat renaming le_of_ble_eq_true → R
open Go.Gk.OE renaming bx → W
theorem nV {B:World} {q:Nat} {S:List Nat} (d:Int) (f:List UInt32) (j:List UInt64) (n:List UInt8) (b:UInt64) {r:List UInt8×Int×List UInt32×List UInt64×List UInt8×UInt64}
  (h:F.E4 d f j n b=some r) (a:St S B B [W q ([vI d]++(U.fl f++(e64.fl j++(e8.fl n++[v64 b]))))]) (hT:TB S B) (u:f.length=8) (x:j.length=8) (y:n.length=128):Calls Tryz.prog 125 #[M q 0] B (Ret fun v w=>∃u0:Value,v=u0∧r.2.2.1.length=8∧r.2.2.2.1.length=8∧r.2.2.2.2.1.length=128∧St S B w [N e8 u0 r.1,W q ([vI r.2.1]++(U.fl r.2.2.1++(e64.fl r.2.2.2.1++(e8.fl r.2.2.2.2.1++[v64 r.2.2.2.2.2]))))]):=by
 refine aF 120 Tryz.func125 Z Z Z ?_
 refine au [(0,M q 0)] ⟨Z,V⟩ ?_
 unfold F.E4 at h
 refine J (H (P 1 Z ?_))
 refine I (O (J (H (P 1 Z ?_))))
 refine am (aL Z) Z ?_
 refine am (iI (us:=[vI d]++(U.fl f++(e64.fl j++(e8.fl n++[v64 b])))) u168 Z yh (ei Z (ei (ba u Z) (ei (ba x Z) (ei (ba y Z) Z Z) Z) Z) Z) Z (a.bxgs0 0 Z Up.last)) Z ?_
 refine aV (a9 (cs:=[vI 0]++(U.fl (List.replicate 8 0)++(e64.fl (List.replicate 8 0)++(e8.fl (List.replicate 128 0)++[v64 0])))) A0 (by kernel_rfl) a) Z ?_
 rintro _ w ⟨p,rfl,a⟩
 refine bn (eB (m:=146) (xs:=[vI 0]++(U.fl (List.replicate 8 0)++(e64.fl (List.replicate 8 0)++(e8.fl (List.replicate 128 0)++[v64 0])))) (xs':=[vI d]++(U.fl f++(e64.fl j++(e8.fl n++[v64 b])))) (i:=0) Z yh Z Z Z Up.last (ei Z (ei (ba List.length_replicate Z) (ei (ba List.length_replicate Z) (ei (ba List.length_replicate Z) Z Z) Z) Z) Z) (ei Z (ei (ba u Z) (ei (ba x Z) (ei (ba y Z) Z Z) Z) Z) Z) (md (fD Z) (md jN (md jN (md jN (fD Z))))) a) ?_
 intro w a
 refine I (O (J ?_))
 refine aY (fun w'=>St S B w' [W p ([vI d]++(U.fl f++(e64.fl j++(e8.fl n++[v64 b])))),W q ([vI d]++(U.fl f++(e64.fl j++(e8.fl n++[v64 b]))))]) (fun i=>!([2].contains i)) bQ (fun _ _ _ hf=>hf.2) (fun _ _ hf=>hf) (by kernel_rfl) ?_
 have a:=a.drew
 show lxE _ _ _ _ _ _ _ [0,1,2,3,4,5,6] _ _
 refine al a Z Z (fun w hF=>av (k:=0) u168 Z Z oS Z) Z (al a Z Z (fun w hF=>aC u22 Z Z (hF.s 0 Z (Up.get0 Up.p))) Z ?_)
 obtain ⟨t,bP,h⟩:=aj h
 refine bc a Z Z (by kernel_rfl) Z (mx d bP ) Z ?_
 rintro _ w ⟨rfl,E⟩
 have a:=a.f E
 refine al a Z Z (fun w hF=>av (k:=145) u168 Z Z tN Z) Z ?_
 refine al a Z Z (fun w hF=>aC u87 Z Z (hF.s 0 Z (Up.get0 (Up.o (k:=1) Z (Up.o (k:=8) (ba u Z) (Up.o (k:=8) (ba x Z) (Up.o (k:=128) (ba y Z) Up.last Z) Z) Z) Z)))) Z ?_
 refine al a Z Z (fun w hF=>aB Z) Z (al a Z Z (fun w hF=>aB Z) Z (bk a ?_))
 refine O (J (H (P 1 Z ?_)))
 refine am (aq Z Z (dI _ t 8 (by decide))) Z ?_
 refine P 1 Z ?_
 refine I (O (J (H ?_)))
 refine aV (cR (e:=e8) (l:=[128]) (vs:=[v8 128]) u24 ti5 Z Z Z Z (by decide) (by decide) a) Z ?_
 rintro bN w a
 refine P 1 Z ?_
 refine I (O (J (aD ?_)))
 refine au [(3,M p 0),(4,vI t),(5,v64 b),(6,vI (wI (Int.tdiv t 8))),(7,bN)] ⟨Z,Z,Z,Z,Z,V⟩ ?_
 refine bh (F.DN b t d f j n) (fun (s:List UInt8) L w=>∃(aT:Value),L=[(3,M p 0),(4,vI t),(5,v64 b),(6,vI (wI (Int.tdiv t 8))),(7,aT)]∧St S B w [N e8 aT s,W p ([vI d]++(U.fl f++(e64.fl j++(e8.fl n++[v64 b])))),W q ([vI d]++(U.fl f++(e64.fl j++(e8.fl n++[v64 b]))))]) ?_ [128] ⟨bN,Z,a⟩ h
 rintro b5 bO L w b6 hI bo h a0
 try dsimp only at hI
 obtain ⟨aT,rfl,a⟩:=hI
 unfold F.DN at h
 refine J (J (H (P 2 Z ?_)))
 refine am (aM Z (eG Tryz.underlying3 u87 t)) Z ?_
 obtain ⟨bp,h⟩:=bZ h
 refine am (aq Z Z (eF _ b (UInt64.ofInt t) bp)) Z (am (aM Z (lO u87 Tryz.underlying3 (b%(UInt64.ofInt t)))) Z (P 1 Z ?_))
 refine am (aN u24 Z (a.ro 0 Z)) Z (P 2 Z ?_)
 obtain ⟨bq,h⟩:=bZ h
 refine am (aq Z Z (jS _ (wI ((wI ((b%(UInt64.ofInt t)).toNat:Int))+(bO.length:Int))) t bq)) Z (P 4 Z ?_)
 refine I (O ?_)
 refine aw Z (fun T=>?_) (fun T=>?_)
 ·have h:=aI h T
  refine az (O (aD ?_))
  refine H (P 1 Z ?_)
  refine aV (cR (e:=e8) (l:=[0]) (vs:=[v8 0]) u24 ti5 Z Z Z Z (by decide) (by decide) a) Z ?_
  rintro b7 w a
  obtain ⟨bR,br,h⟩:=aj h
  refine aV (i2 u24 ti5 Z Z Z a (i:=1) Z (a.ro 0 Z) br) Z ?_
  rintro bS w a
  refine P 1 Z ?_
  refine I (aR ?_)
  exact bv (bu _ (by exact ⟨Z,Z,Z,Z,Z,V⟩) (bo bR _ _ ⟨bS,Z,(a.e [1,2,3] Z Z)⟩ (a7 h a0)))
 have h:=aJ h T
 refine bf ?_
 refine aE (aE ?_)
 have h:=aX h a0
 refine bd ?_
 refine O (J (J (H (P 2 Z ?_))))
 obtain ⟨aW,bs,h⟩:=aO h
 refine am (aB (v:=vI aW) (by rw [←bs]; rfl)) Z ?_
 refine I (O (aD ?_))
 refine au [(3,M p 0),(5,v64 b),(7,aT),(8,vI aW)] ⟨Z,Z,Z,Z,V⟩ ?_
 refine bh (F.Cn d f j n b) (fun (s:List UInt8×Int) L w=>∃(C:Value),L=[(3,M p 0),(5,v64 b),(7,C),(8,vI s.2)]∧St S B w [N e8 C s.1,W p ([vI d]++(U.fl f++(e64.fl j++(e8.fl n++[v64 b])))),W q ([vI d]++(U.fl f++(e64.fl j++(e8.fl n++[v64 b]))))]) ?_ (bO,aW) ⟨aT,Z,a⟩ h
 rintro b8 ⟨aZ,D⟩ L w bT hI bt h a1
 try dsimp only at hI
 obtain ⟨C,rfl,a⟩:=hI
 unfold F.Cn at h
 refine J (J (H (P 2 Z ?_)))
 refine I (O ?_)
 refine aw Z (fun ab=>?_) (fun ab=>?_)
 ·have h:=aI h ab
  refine az (O (J (aD ?_)))
  refine J (H (P 1 Z ?_))
  refine I (O ?_)
  refine a8 (r:=bT) (fun (g:UInt8) L w=>L=[(3,M p 0),(5,v64 b),(7,C),(8,vI D),(9,v8 g)]∧St S B w [W p ([vI d]++(U.fl f++(e64.fl j++(e8.fl n++[v64 b])))),N e8 C aZ,W q ([vI d]++(U.fl f++(e64.fl j++(e8.fl n++[v64 b]))))]) (F.CX aZ D) ?_ ?_
  rotate_left
  ·intro ac
   refine aD ?_
   refine J (H (P 3 Z ?_))
   refine I (O ?_)
   refine aw Z (fun ad=>?_) (fun ad=>?_)
   ·have h:=aI h ad
    refine H (P 1 Z ?_)
    refine am (aq Z Z (cW _ b 3)) Z (P 1 Z ?_)
    refine am (aq Z Z (eY _ 8 D)) Z ?_
    obtain ⟨bw,h⟩:=bZ h
    refine am (aq Z Z (kW _ (bm b 3) (wI (8*D)) bw)) Z (am (aM Z (ov u87 Tryz.underlying5 (aP (bm b 3) (((wI (8*D))).toNat)))) Z ?_)
    obtain ⟨bg,bA,h⟩:=aO h
    refine am (aB (v:=v8 bg) (by rw [←bA]; rfl)) Z ?_
    refine I (aR ?_)
    refine O ?_
    exact au _ (by exact ⟨Z,Z,Z,Z,Z,V⟩) (ac bg _ _ ⟨Z,(a.e [1,0,2] Z Z)⟩ h)
   have h:=aJ h ad
   refine J (H (P 3 Z ?_))
   refine I (O ?_)
   refine aw Z (fun ag=>?_) (fun ag=>?_)
   ·have h:=aI h ag
    refine H (P 1 Z ?_)
    refine am (aq Z Z (cj _ b 61)) Z (am (aM Z (ov u87 Tryz.underlying5 (aP b 61))) Z (P 1 Z ?_))
    refine I (aR ?_)
    refine O ?_
    exact au _ (by exact ⟨Z,Z,Z,Z,Z,V⟩) (ac ((aP b 61).toUInt8) _ _ ⟨Z,(a.e [1,0,2] Z Z)⟩ h)
   have h:=aJ h ag
   refine az (aR ?_)
   refine O ?_
   exact au _ (by exact ⟨Z,Z,Z,Z,Z,V⟩) (ac 0 _ _ ⟨Z,(a.e [1,0,2] Z Z)⟩ h)
  rintro bi L w hJ h
  try dsimp only at hJ
  obtain ⟨rfl,a⟩:=hJ
  unfold F.CX at h
  refine H (P 2 Z ?_)
  refine aV (cR (e:=e8) (l:=[bi]) (vs:=[v8 bi]) u24 ti5 Z Z Z Z (by decide) (by decide) a) Z ?_
  rintro b9 w a
  obtain ⟨bU,bB,h⟩:=aj h
  refine aV (i2 u24 ti5 Z Z Z a (i:=2) Z (a.ro 0 Z) bB) Z ?_
  rintro bV w a
  refine P 1 Z ?_
  refine I (aR ?_)
  refine O (H (P 3 Z ?_))
  refine I ?_
  exact bv (bu _ (by exact ⟨Z,Z,Z,Z,V⟩) (bt (bU,wI (D - 1)) _ _ ⟨bV,Z,(a.e [2,1,3] Z Z)⟩ (a7 h a1)))
 have h:=aJ h ab
 refine bf ?_
 refine aE (aE ?_)
 have h:=aX h a1
 refine bd ?_
 refine O (J (H (P 1 Z ?_)))
 have hG:=a.pick (os':=[W p ([vI d]++(U.fl f++(e64.fl j++(e8.fl n++[v64 b]))))]++[N e8 C aZ,W q ([vI d]++(U.fl f++(e64.fl j++(e8.fl n++[v64 b]))))]) [1,0,2] (by decide) Z
 obtain ⟨c,bD,h⟩:=aj h
 refine ao Z (iy d f j n b bD hG.g (hT.g hG) u x y (hG.giveO 0 Z)) Z ?_
 rintro _ w ⟨rfl,ak,a2,b3,E⟩
 have a:=hG.h E
 refine I (O (J (H (P 1 Z ?_))))
 refine I (O (J (J (H (am (av (k:=0) u168 Z Z oS Z) Z (am (aC u22 Z Z (a.s 0 Z (Up.get0 Up.p))) Z (P 1 Z ?_)))))))
 refine I (O ?_)
 refine aw Z (fun an=>?_) (fun an=>?_)
 ·have h:=aI h an
  refine J (J (H (am (av (k:=1) u168 Z Z fO Z) Z (am (iI (us:=U.fl c.2.1) u165 Z tL (ba ak Z) Z (a.bxgs0 0 Z (Up.o (k:=1) Z Up.p Z))) Z (P 1 Z ?_)))))
  refine I (O (aD ?_))
  refine au [(10,.slice none 0 0),(75,.agg (U.fl c.2.1).toArray),(76,vI 0)] ⟨Z,Z,Z,V⟩ ?_
  refine bh (F.CG d f j n b c) (fun (s:List UInt8×Int) L w=>∃(ap:Value),L=[(10,ap),(75,.agg (U.fl c.2.1).toArray),(76,vI s.2)]∧St S B w [N e8 ap s.1,W q ([vI d]++(U.fl f++(e64.fl j++(e8.fl n++[v64 b]))))]) ?_ ([],0) ⟨.slice none 0 0,Z,((a.nil e8).e [0,3] Z Z)⟩ h
  rintro ca ⟨cb,bW⟩ L w cc hI bF h a3
  try dsimp only at hI
  obtain ⟨ap,rfl,a⟩:=hI
  unfold F.CG at h
  refine J (H (P 1 Z ?_))
  refine I (O (J ?_))
  refine aw Z (fun ay=>?_) (fun ay=>?_)
  ·have h:=aI h ay
   refine az (O (J (aD ?_)))
   refine J (H ?_)
   obtain ⟨o,a4,h⟩:=aj h
   refine am (kl (cs:=(U.fl c.2.1).toArray) u165 u38 Z d6 Z Z (bE a4 ak) (lQ a4 Z)) Z (P 1 Z ?_)
   refine I (O (H (P 2 Z ?_)))
   refine am (aq Z Z (de _ o 24)) Z (am (aM Z (gw u38 Tryz.underlying5 (bz o 24))) Z (P 1 Z ?_))
   refine am (aq Z Z (de _ o 16)) Z (am (aM Z (gw u38 Tryz.underlying5 (bz o 16))) Z (P 1 Z ?_))
   refine am (aq Z Z (de _ o 8)) Z (am (aM Z (gw u38 Tryz.underlying5 (bz o 8))) Z (P 1 Z ?_))
   refine am (aM Z (gw u38 Tryz.underlying5 o)) Z ?_
   refine aV (cR (e:=e8) (l:=[(bz o 24).toUInt8,(bz o 16).toUInt8,(bz o 8).toUInt8,o.toUInt8]) (vs:=[v8 ((bz o 24).toUInt8),v8 ((bz o 16).toUInt8),v8 ((bz o 8).toUInt8),v8 o.toUInt8]) u24 ti5 Z Z Z Z (by decide) (by decide) a) Z ?_
   rintro cd w a
   obtain ⟨bX,bG,h⟩:=aj h
   refine aV (i2 u24 ti5 Z Z Z a (i:=1) Z (a.ro 0 Z) bG) Z ?_
   rintro bY w a
   refine P 1 Z ?_
   refine I (aR ?_)
   refine O (H (P 2 Z ?_))
   refine I ?_
   exact bv (bu _ (by exact ⟨Z,Z,Z,V⟩) (bF (bX,wI (bW+1)) _ _ ⟨bY,Z,(a.e [1,2] Z Z)⟩ (a7 h a3)))
  have h:=aJ h ay
  refine bf ?_
  refine aE (aE ?_)
  have h:=aX h a3
  refine bd ?_
  refine O (J (H (P 2 Z ?_)))
  refine I (O (ax (aH ?_)))
  cases h
  exact aG Z Z ⟨ap,Z,u,x,y,a.e [0,1] Z Z⟩
 have h:=aJ h an
 refine az (O (J (J (H (am (av (k:=9) u168 Z Z fu Z) Z (am (iI (us:=e64.fl c.2.2.1) u160 Z nv (ba a2 Z) Z (a.bxgs0 0 Z (Up.o (k:=1) Z (Up.o (k:=8) (ba ak Z) Up.p Z) Z))) Z ?_))))))
 refine P 1 Z ?_
 refine I (O (aD ?_))
 refine au [(3,M p 0),(10,.slice none 0 0),(96,.agg (e64.fl c.2.2.1).toArray),(97,vI 0)] ⟨Z,Z,Z,Z,V⟩ ?_
 refine bh (F.Ce d f j n b c) (fun (s:List UInt8×Int) L w=>∃(z:Value),L=[(3,M p 0),(10,z),(96,.agg (e64.fl c.2.2.1).toArray),(97,vI s.2)]∧St S B w [N e8 z s.1,W p ([vI c.1]++(U.fl c.2.1++(e64.fl c.2.2.1++(e8.fl c.2.2.2.1++[v64 c.2.2.2.2])))),W q ([vI d]++(U.fl f++(e64.fl j++(e8.fl n++[v64 b]))))]) ?_ ([],0) ⟨.slice none 0 0,Z,((a.nil e8).e [0,1,3] Z Z)⟩ h
 rintro ce ⟨bj,aA⟩ L w cf hI bH h a5
 try dsimp only at hI
 obtain ⟨z,rfl,a⟩:=hI
 unfold F.Ce at h
 refine J (H (P 1 Z ?_))
 refine I (O (J ?_))
 refine aw Z (fun aK=>?_) (fun aK=>?_)
 ·have h:=aI h aK
  refine az (O (J (aD ?_)))
  refine J (H ?_)
  obtain ⟨A,a6,h⟩:=aj h
  refine am (kl (cs:=(e64.fl c.2.2.1).toArray) u160 u87 Z dG Z Z (bE a6 a2) (lQ a6 Z)) Z (P 1 Z ?_)
  refine I (O (J (H (P 1 Z ?_))))
  refine I (O (aD ?_))
  refine au [(3,M p 0),(10,z),(14,v64 A),(15,vI 56),(96,.agg (e64.fl c.2.2.1).toArray),(97,vI aA)] ⟨Z,Z,Z,Z,Z,Z,V⟩ ?_
  refine bh (F.D4 aA A) (fun (s:List UInt8×Int) L w=>∃(aQ:Value),L=[(3,M p 0),(10,aQ),(14,v64 A),(15,vI s.2),(96,.agg (e64.fl c.2.2.1).toArray),(97,vI aA)]∧St S B w [N e8 aQ s.1,W p ([vI c.1]++(U.fl c.2.1++(e64.fl c.2.2.1++(e8.fl c.2.2.2.1++[v64 c.2.2.2.2])))),W q ([vI d]++(U.fl f++(e64.fl j++(e8.fl n++[v64 b]))))]) ?_ (bj,56) ⟨z,Z,a⟩ h
  rintro cg ⟨b0,G⟩ L w ch hI bI h bb
  try dsimp only at hI
  obtain ⟨aQ,rfl,a⟩:=hI
  unfold F.D4 at h
  refine J (J (H (P 2 Z ?_)))
  refine I (O ?_)
  refine aw Z (fun aS=>?_) (fun aS=>?_)
  ·have h:=aI h aS
   refine az (O (J (aD ?_)))
   refine H (P 3 Z ?_)
   obtain ⟨bJ,h⟩:=bZ h
   refine am (aq Z Z (kW _ A G bJ)) Z (am (aM Z (ov u87 Tryz.underlying5 (aP A ((G).toNat)))) Z ?_)
   refine aV (cR (e:=e8) (l:=[(aP A ((G).toNat)).toUInt8]) (vs:=[v8 ((aP A ((G).toNat)).toUInt8)]) u24 ti5 Z Z Z Z (by decide) (by decide) a) Z ?_
   rintro ci w a
   obtain ⟨b1,bK,h⟩:=aj h
   refine aV (i2 u24 ti5 Z Z Z a (i:=1) Z (a.ro 0 Z) bK) Z ?_
   rintro b2 w a
   refine P 1 Z ?_
   refine I (aR ?_)
   refine O (H (P 3 Z ?_))
   refine I ?_
   exact bv (bu _ (by exact ⟨Z,Z,Z,Z,Z,Z,V⟩) (bI (b1,wI (G - 8)) _ _ ⟨b2,Z,(a.e [1,2,3] Z Z)⟩ (a7 h bb)))
  have h:=aJ h aS
  refine bf ?_
  refine aE (aE ?_)
  have h:=aX h bb
  refine bd ?_
  refine aR ?_
  refine O (H (P 2 Z ?_))
  refine I ?_
  exact bv (bu _ (by exact ⟨Z,Z,Z,Z,V⟩) (bH (b0,wI (aA+1)) _ _ ⟨aQ,Z,a⟩ (a7 h a5)))
 have h:=aJ h aK
 refine bf ?_
 refine aE (aE ?_)
 have h:=aX h a5
 refine bd ?_
 refine O (J ?_)
 refine aY (fun w'=>St S B w' [N e8 z bj,W p ([vI c.1]++(U.fl c.2.1++(e64.fl c.2.2.1++(e8.fl c.2.2.2.1++[v64 c.2.2.2.2])))),W q ([vI d]++(U.fl f++(e64.fl j++(e8.fl n++[v64 b]))))]) (fun i=>!([3,6].contains i)) bQ (fun _ _ _ hf=>hf.2) (fun _ _ hf=>hf) (by kernel_rfl) ?_
 have a:=a.drew
 show lxE _ _ _ _ _ _ _ [0,1,2,3,4,5,6,7,8] _ _
 refine al a Z Z (fun w hF=>ar Z) Z (al a Z Z (fun w hF=>av (k:=0) u168 Z Z oS Z) Z (al a Z Z (fun w hF=>aC u22 Z Z (hF.s 1 Z (Up.get0 Up.p))) Z ?_))
 obtain ⟨bl,bL,h⟩:=aj h
 refine bc a Z Z (by kernel_rfl) Z (iH c.1 bL ) Z ?_
 rintro _ w ⟨rfl,E⟩
 have a:=a.f E
 refine al a Z Z (fun w hF=>av (k:=0) u168 Z Z oS Z) Z (al a Z Z (fun w hF=>aC u22 Z Z (hF.s 1 Z (Up.get0 Up.p))) Z ?_)
 obtain ⟨ck,bM,h⟩:=aj h
 refine bc a Z Z (by kernel_rfl) Z (iH c.1 bM ) Z ?_
 rintro _ w ⟨rfl,E⟩
 have a:=a.f E
 obtain ⟨be,h⟩:=bZ h
 refine al a Z Z (fun w hF=>rY u24 ti5 Z Z Z (hF.ro 0 Z) be) Z (al a Z Z (fun w hF=>aB Z) Z (bk a ?_))
 refine O (ax ?_)
 cases h
 replace a:=a.trunc3 (i:=0) rfl be.2.1
 exact aG Z Z ⟨slV3 z e8.sz 0 ((bl:Int).toNat) ((bl:Int).toNat),Z,u,x,y,a.e [0,2] Z Z⟩
theorem vF {t:World} {a1:List (List UInt8)} {o:Value} {s1:List SV} (a0:Int) {r:List UInt8}
  (h:F.DC a0 a1=some r) (hT:TB [] t) (B:RP [] t eV o s1) (hl1:gp [] t e8 s1 a1):Calls Tryz.prog 67 #[vI a0,o] t (Ret fun v w=>St [] t w [N e8 v r]):=by
 refine aF 24 Tryz.func67 Z Z Z ?_
 have a:=St.l t
 refine au [(0,vI a0),(1,o)] ⟨Z,Z,V⟩ ?_
 unfold F.DC at h
 refine J (H (P 1 Z ?_))
 refine I (O (J (H (P 1 Z ?_))))
 obtain ⟨av,ak,h⟩:=aj h
 refine ao Z (vf a0 ak (hT.d a.fr)) Z ?_
 rintro _ w ⟨aQ,rfl,c,al,b⟩
 cases d:av with
 | none=>
  have h:=fy h d
  rw [d]at c b
  simp only [Option.map_none,xm]at c
  subst c
  simp only [Option.map_none,xo,List.nil_append]at b
  have a:=a.f b
  refine P 1 Z ?_
  refine I (O (J (J (H (P 1 Z ?_)))))
  refine am (aq Z Z (rk Tryz.underlying136)) Z (I (O (dN Z ?_)))
  refine J (H (P 1 Z ?_))
  refine I (O (ax (aH ?_)))
  cases h
  exact aG Z Z ((a.nil e8).e [0] Z Z)
 | some f=>
  have h:=fq h d
  rw [d]at c b
  simp only [Option.map_some,xm]at c
  obtain ⟨g,rfl⟩:=c
  simp only [Option.map_some,xo,List.singleton_append,List.cons_append,List.nil_append]at b
  have a:=a.f b
  obtain ⟨an,ap,D⟩:=al f d
  refine P 1 Z ?_
  refine I (O (J (J (H (P 1 Z ?_)))))
  refine am (aq Z Z (rI Tryz.underlying136 g 0)) Z (I (O (fh Z ?_)))
  refine az (O (J (J (H (P 1 Z ?_)))))
  refine am (tF u56 Z (B.d a.fr) hl1.len) Z (P 1 Z ?_)
  refine I (O (aD ?_))
  refine au [(5,M g 0),(12,o),(13,vI (a1.length:Int)),(14,vI 0)] ⟨Z,Z,Z,Z,V⟩ ?_
  refine bh (F.Cp a1) (fun (s:Int×Int×List UInt32×List UInt64×List UInt8×UInt64) L w=>L=[(5,M g 0),(12,o),(13,vI (a1.length:Int)),(14,vI s.1)]∧s.2.2.1.length=8∧s.2.2.2.1.length=8∧s.2.2.2.2.1.length=128∧St [] t w [W g ([vI s.2.1]++(U.fl s.2.2.1++(e64.fl s.2.2.2.1++(e8.fl s.2.2.2.2.1++[v64 s.2.2.2.2.2]))))]) ?_ (0,f.1,f.2.1,f.2.2.1,f.2.2.2.1,f.2.2.2.2) ⟨Z,an,ap,D,a⟩ h
  rintro aL ⟨ar,i,j,k,l,m⟩ L w aM hI E h u
  try dsimp only at hI
  obtain ⟨rfl,x,y,z,a⟩:=hI
  unfold F.Cp at h
  refine J (H (P 1 Z ?_))
  refine I (O (J ?_))
  refine aw Z (fun n=>?_) (fun n=>?_)
  ·have h:=aI h n
   refine az (O (J (aD ?_)))
   refine J (H ?_)
   obtain ⟨aN,G,h⟩:=aj h
   obtain ⟨ay,p,A⟩:=hl1.get G
   refine am (bj u56 Au Z Z (B.d a.fr) p) Z (am (bb u24 Z Z (B.d a.fr) p Z) Z (P 1 Z ?_))
   refine I (O (H (P 2 Z ?_)))
   have q:=a.pick (os':=[W g ([vI i]++(U.fl j++(e64.fl k++(e8.fl l++[v64 m]))))]++[]) [0] (by decide) Z
   obtain ⟨e,S,h⟩:=aj h
   refine ao Z (iy i j k l m S q.g (hT.g q) x y z (A.g (R Z) q)) Z ?_
   rintro _ w ⟨rfl,T,ab,ac,b⟩
   have a:=q.h b
   refine I (aR ?_)
   refine O (H (P 2 Z ?_))
   refine I ?_
   exact bv (bu _ (by exact ⟨Z,Z,Z,Z,V⟩) (E (wI (ar+1),e.1,e.2.1,e.2.2.1,e.2.2.2.1,e.2.2.2.2) _ _ ⟨Z,T,ab,ac,a⟩ (a7 h u)))
  have h:=aJ h n
  refine bf ?_
  refine aE (aE ?_)
  have h:=aX h u
  refine bd ?_
  refine O (J (H (P 1 Z ?_)))
  have q:=a.pick (os':=[W g ([vI i]++(U.fl j++(e64.fl k++(e8.fl l++[v64 m]))))]++[]) [0] (by decide) Z
  obtain ⟨aO,ad,h⟩:=aj h
  refine ao Z (nV i j k l m ad q.g (hT.g q) x y z) Z ?_
  rintro aP w ⟨aA,C,aB,aC,aK,b⟩
  rw [←C]at b
  have a:=q.h b
  refine P 1 Z ?_
  refine I (O (ax ?_))
  cases h
  exact aG Z Z (a.e [0] Z Z)
end Go.Proofs
