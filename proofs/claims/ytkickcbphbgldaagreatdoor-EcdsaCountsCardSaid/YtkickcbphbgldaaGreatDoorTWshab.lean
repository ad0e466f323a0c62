import Derived.Test.YtkickcbphbgldaaGreatDoorTW0
import Derived.Test.YtkickcbphbgldaaGreatDoorGkFman
import Derived.Test.YtkickcbphbgldaaGreatDoorTWshaa
set_option linter.unusedVariables false
set_option linter.unusedSimpArgs false
set_option linter.unusedSectionVars false
set_option maxRecDepth 4000
namespace Go.Proofs
open Go Go.RowKit Go.Gk
open Go.Gk renaming aa → P, ae → O, af → H, ah → J, ai → I, e32 → U, own → N, pB → M
open Nat renaming le_of_ble_eq_true → R
open Go.Gk.OE renaming bx → W
theorem nD {B:World} {q:Nat} {S:List Nat} (d:Int) (f:List UInt32) (j:List UInt64) (n:List UInt8) (b:UInt64) {r:List UInt8×Int×List UInt32×List UInt64×List UInt8×UInt64}
  (h:F.Fn d f j n b=some r) (a:St S B B [W q ([vI d]++(U.fl f++(e64.fl j++(e8.fl n++[v64 b]))))]) (hT:TB S B) (u:f.length=8) (x:j.length=8) (y:n.length=128):Calls Tryz.prog 125 #[M q 0] B (Ret fun v w=>∃u0:Value,v=u0∧r.2.2.1.length=8∧r.2.2.2.1.length=8∧r.2.2.2.2.1.length=128∧St S B w [N e8 u0 r.1,W q ([vI r.2.1]++(U.fl r.2.2.1++(e64.fl r.2.2.2.1++(e8.fl r.2.2.2.2.1++[v64 r.2.2.2.2.2]))))]):=by
 refine aH 120 Tryz.func125 Z Z Z ?_
 refine au [(0,M q 0)] ⟨Z,V⟩ ?_
 unfold F.Fn at h
 refine J (H (P 1 Z ?_))
 refine I (O (J (H (P 1 Z ?_))))
 refine am (aL Z) Z ?_
 refine am (iO (us:=[vI d]++(U.fl f++(e64.fl j++(e8.fl n++[v64 b])))) u168 Z yv (ei Z (ei (bc u Z) (ei (bc x Z) (ei (bc y Z) Z Z) Z) Z) Z) Z (a.bxgs0 0 Z Up.last)) Z ?_
 refine aV (ba (cs:=[vI 0]++(U.fl (List.replicate 8 0)++(e64.fl (List.replicate 8 0)++(e8.fl (List.replicate 128 0)++[v64 0])))) A3 (by kernel_rfl) a) Z ?_
 rintro _ w ⟨p,rfl,a⟩
 refine bn (eH (m:=146) (xs:=[vI 0]++(U.fl (List.replicate 8 0)++(e64.fl (List.replicate 8 0)++(e8.fl (List.replicate 128 0)++[v64 0])))) (xs':=[vI d]++(U.fl f++(e64.fl j++(e8.fl n++[v64 b])))) (i:=0) Z yv Z Z Z Up.last (ei Z (ei (bc List.length_replicate Z) (ei (bc List.length_replicate Z) (ei (bc List.length_replicate Z) Z Z) Z) Z) Z) (ei Z (ei (bc u Z) (ei (bc x Z) (ei (bc y Z) Z Z) Z) Z) Z) (mj (fE Z) (mj jN (mj jN (mj jN (fE Z))))) a) ?_
 intro w a
 refine I (O (J ?_))
 refine aY (fun w'=>St S B w' [W p ([vI d]++(U.fl f++(e64.fl j++(e8.fl n++[v64 b])))),W q ([vI d]++(U.fl f++(e64.fl j++(e8.fl n++[v64 b]))))]) (fun i=>!([2].contains i)) bQ (fun _ _ _ hf=>hf.2) (fun _ _ hf=>hf) (by kernel_rfl) ?_
 have a:=a.drew
 show lxE _ _ _ _ _ _ _ [0,1,2,3,4,5,6] _ _
 refine al a Z Z (fun w hF=>av (k:=0) u168 Z Z oo Z) Z (al a Z Z (fun w hF=>aC u22 Z Z (hF.s 0 Z (Up.get0 Up.p))) Z ?_)
 obtain ⟨t,bP,h⟩:=aj h
 refine bf a Z Z (by kernel_rfl) Z (mA d bP ) Z ?_
 rintro _ w ⟨rfl,E⟩
 have a:=a.f E
 refine al a Z Z (fun w hF=>av (k:=145) u168 Z Z tJ Z) Z ?_
 refine al a Z Z (fun w hF=>aC u87 Z Z (hF.s 0 Z (Up.get0 (Up.o (k:=1) Z (Up.o (k:=8) (bc u Z) (Up.o (k:=8) (bc x Z) (Up.o (k:=128) (bc y Z) Up.last Z) Z) Z) Z)))) Z ?_
 refine al a Z Z (fun w hF=>aA Z) Z (al a Z Z (fun w hF=>aA Z) Z (bl a ?_))
 refine O (J (H (P 1 Z ?_)))
 refine am (aq Z Z (dI _ t 8 (by decide))) Z ?_
 refine P 1 Z ?_
 refine I (O (J (H ?_)))
 refine aV (cL (e:=e8) (l:=[128]) (vs:=[v8 128]) u24 ti5 Z Z Z Z (by decide) (by decide) a) Z ?_
 rintro bN w a
 refine P 1 Z ?_
 refine I (O (J (aD ?_)))
 refine au [(3,M p 0),(4,vI t),(5,v64 b),(6,vI (wI (Int.tdiv t 8))),(7,bN)] ⟨Z,Z,Z,Z,Z,V⟩ ?_
 refine bj (F.DL b t d f j n) (fun (s:List UInt8) L w=>∃(aT:Value),L=[(3,M p 0),(4,vI t),(5,v64 b),(6,vI (wI (Int.tdiv t 8))),(7,aT)]∧St S B w [N e8 aT s,W p ([vI d]++(U.fl f++(e64.fl j++(e8.fl n++[v64 b])))),W q ([vI d]++(U.fl f++(e64.fl j++(e8.fl n++[v64 b]))))]) ?_ [128] ⟨bN,Z,a⟩ h
 rintro b5 bO L w b6 hI bo h a0
 try dsimp only at hI
 obtain ⟨aT,rfl,a⟩:=hI
 unfold F.DL at h
 refine J (J (H (P 2 Z ?_)))
 refine am (aM Z (eE Tryz.underlying3 u87 t)) Z ?_
 obtain ⟨bp,h⟩:=bX h
 refine am (aq Z Z (ez _ b (UInt64.ofInt t) bp)) Z (am (aM Z (l9 u87 Tryz.underlying3 (b%(UInt64.ofInt t)))) Z (P 1 Z ?_))
 refine am (aN u24 Z (a.ro 0 Z)) Z (P 2 Z ?_)
 obtain ⟨bq,h⟩:=bX h
 refine am (aq Z Z (jO _ (wI ((wI ((b%(UInt64.ofInt t)).toNat:Int))+(bO.length:Int))) t bq)) Z (P 4 Z ?_)
 refine I (O ?_)
 refine aw Z (fun T=>?_) (fun T=>?_)
 ·have h:=aJ h T
  refine az (O (aD ?_))
  refine H (P 1 Z ?_)
  refine aV (cL (e:=e8) (l:=[0]) (vs:=[v8 0]) u24 ti5 Z Z Z Z (by decide) (by decide) a) Z ?_
  rintro b7 w a
  obtain ⟨bR,br,h⟩:=aj h
  refine aV (i3 u24 ti5 Z Z Z a (i:=1) Z (a.ro 0 Z) br) Z ?_
  rintro bS w a
  refine P 1 Z ?_
  refine I (aR ?_)
  exact bv (bz _ (by exact ⟨Z,Z,Z,Z,Z,V⟩) (bo bR _ _ ⟨bS,Z,(a.e [1,2,3] Z Z)⟩ (a8 h a0)))
 have h:=aI h T
 refine bg ?_
 refine aF (aF ?_)
 have h:=aW h a0
 refine bd ?_
 refine O (J (J (H (P 2 Z ?_))))
 obtain ⟨aX,bs,h⟩:=aO h
 refine am (aA (v:=vI aX) (by rw [←bs]; rfl)) Z ?_
 refine I (O (aD ?_))
 refine au [(3,M p 0),(5,v64 b),(7,aT),(8,vI aX)] ⟨Z,Z,Z,Z,V⟩ ?_
 refine bj (F.CC d f j n b) (fun (s:List UInt8×Int) L w=>∃(C:Value),L=[(3,M p 0),(5,v64 b),(7,C),(8,vI s.2)]∧St S B w [N e8 C s.1,W p ([vI d]++(U.fl f++(e64.fl j++(e8.fl n++[v64 b])))),W q ([vI d]++(U.fl f++(e64.fl j++(e8.fl n++[v64 b]))))]) ?_ (bO,aX) ⟨aT,Z,a⟩ h
 rintro b8 ⟨aZ,D⟩ L w bT hI bt h a1
 try dsimp only at hI
 obtain ⟨C,rfl,a⟩:=hI
 unfold F.CC at h
 refine J (J (H (P 2 Z ?_)))
 refine I (O ?_)
 refine aw Z (fun ab=>?_) (fun ab=>?_)
 ·have h:=aJ h ab
  refine az (O (J (aD ?_)))
  refine J (H (P 1 Z ?_))
  refine I (O ?_)
  refine a9 (r:=bT) (fun (g:UInt8) L w=>L=[(3,M p 0),(5,v64 b),(7,C),(8,vI D),(9,v8 g)]∧St S B w [W p ([vI d]++(U.fl f++(e64.fl j++(e8.fl n++[v64 b])))),N e8 C aZ,W q ([vI d]++(U.fl f++(e64.fl j++(e8.fl n++[v64 b]))))]) (F.Dk aZ D) ?_ ?_
  rotate_left
  ·intro ac
   refine aD ?_
   refine J (H (P 3 Z ?_))
   refine I (O ?_)
   refine aw Z (fun ad=>?_) (fun ad=>?_)
   ·have h:=aJ h ad
    refine H (P 1 Z ?_)
    refine am (aq Z Z (c6 _ b 3)) Z (P 1 Z ?_)
    refine am (aq Z Z (fq _ 8 D)) Z ?_
    obtain ⟨bu,h⟩:=bX h
    refine am (aq Z Z (kV _ (bm b 3) (wI (8*D)) bu)) Z (am (aM Z (oR u87 Tryz.underlying5 (aP (bm b 3) (((wI (8*D))).toNat)))) Z ?_)
    obtain ⟨be,bw,h⟩:=aO h
    refine am (aA (v:=v8 be) (by rw [←bw]; rfl)) Z ?_
    refine I (aR ?_)
    refine O ?_
    exact au _ (by exact ⟨Z,Z,Z,Z,Z,V⟩) (ac be _ _ ⟨Z,(a.e [1,0,2] Z Z)⟩ h)
   have h:=aI h ad
   refine J (H (P 3 Z ?_))
   refine I (O ?_)
   refine aw Z (fun ag=>?_) (fun ag=>?_)
   ·have h:=aJ h ag
    refine H (P 1 Z ?_)
    refine am (aq Z Z (cl _ b 61)) Z (am (aM Z (oR u87 Tryz.underlying5 (aP b 61))) Z (P 1 Z ?_))
    refine I (aR ?_)
    refine O ?_
    exact au _ (by exact ⟨Z,Z,Z,Z,Z,V⟩) (ac ((aP b 61).toUInt8) _ _ ⟨Z,(a.e [1,0,2] Z Z)⟩ h)
   have h:=aI h ag
   refine az (aR ?_)
   refine O ?_
   exact au _ (by exact ⟨Z,Z,Z,Z,Z,V⟩) (ac 0 _ _ ⟨Z,(a.e [1,0,2] Z Z)⟩ h)
  rintro bh L w hJ h
  try dsimp only at hJ
  obtain ⟨rfl,a⟩:=hJ
  unfold F.Dk at h
  refine H (P 2 Z ?_)
  refine aV (cL (e:=e8) (l:=[bh]) (vs:=[v8 bh]) u24 ti5 Z Z Z Z (by decide) (by decide) a) Z ?_
  rintro b9 w a
  obtain ⟨bU,bB,h⟩:=aj h
  refine aV (i3 u24 ti5 Z Z Z a (i:=2) Z (a.ro 0 Z) bB) Z ?_
  rintro bV w a
  refine P 1 Z ?_
  refine I (aR ?_)
  refine O (H (P 3 Z ?_))
  refine I ?_
  exact bv (bz _ (by exact ⟨Z,Z,Z,Z,V⟩) (bt (bU,wI (D - 1)) _ _ ⟨bV,Z,(a.e [2,1,3] Z Z)⟩ (a8 h a1)))
 have h:=aI h ab
 refine bg ?_
 refine aF (aF ?_)
 have h:=aW h a1
 refine bd ?_
 refine O (J (H (P 1 Z ?_)))
 have hG:=a.pick (os':=[W p ([vI d]++(U.fl f++(e64.fl j++(e8.fl n++[v64 b]))))]++[N e8 C aZ,W q ([vI d]++(U.fl f++(e64.fl j++(e8.fl n++[v64 b]))))]) [1,0,2] (by decide) Z
 obtain ⟨c,bD,h⟩:=aj h
 refine ao Z (iA d f j n b bD hG.g (hT.g hG) u x y (hG.giveO 0 Z)) Z ?_
 rintro _ w ⟨rfl,ak,a2,b3,E⟩
 have a:=hG.h E
 refine I (O (J (H (P 1 Z ?_))))
 refine I (O (J (J (H (am (av (k:=0) u168 Z Z oo Z) Z (am (aC u22 Z Z (a.s 0 Z (Up.get0 Up.p))) Z (P 1 Z ?_)))))))
 refine I (O ?_)
 refine aw Z (fun an=>?_) (fun an=>?_)
 ·have h:=aJ h an
  refine J (J (H (am (av (k:=1) u168 Z Z fR Z) Z (am (iO (us:=U.fl c.2.1) u165 Z ul (bc ak Z) Z (a.bxgs0 0 Z (Up.o (k:=1) Z Up.p Z))) Z (P 1 Z ?_)))))
  refine I (O (aD ?_))
  refine au [(10,.slice none 0 0),(75,.agg (U.fl c.2.1).toArray),(76,vI 0)] ⟨Z,Z,Z,V⟩ ?_
  refine bj (F.Dr d f j n b c) (fun (s:List UInt8×Int) L w=>∃(ap:Value),L=[(10,ap),(75,.agg (U.fl c.2.1).toArray),(76,vI s.2)]∧St S B w [N e8 ap s.1,W q ([vI d]++(U.fl f++(e64.fl j++(e8.fl n++[v64 b]))))]) ?_ ([],0) ⟨.slice none 0 0,Z,((a.nil e8).e [0,3] Z Z)⟩ h
  rintro ca ⟨cb,bW⟩ L w cc hI bE h a3
  try dsimp only at hI
  obtain ⟨ap,rfl,a⟩:=hI
  unfold F.Dr at h
  refine J (H (P 1 Z ?_))
  refine I (O (J ?_))
  refine aw Z (fun ay=>?_) (fun ay=>?_)
  ·have h:=aJ h ay
   refine az (O (J (aD ?_)))
   refine J (H ?_)
   obtain ⟨o,a4,h⟩:=aj h
   refine am (kA (cs:=(U.fl c.2.1).toArray) u165 u38 Z dZ Z Z (bH a4 ak) (lS a4 Z)) Z (P 1 Z ?_)
   refine I (O (H (P 2 Z ?_)))
   refine am (aq Z Z (dc _ o 24)) Z (am (aM Z (gz u38 Tryz.underlying5 (bA o 24))) Z (P 1 Z ?_))
   refine am (aq Z Z (dc _ o 16)) Z (am (aM Z (gz u38 Tryz.underlying5 (bA o 16))) Z (P 1 Z ?_))
   refine am (aq Z Z (dc _ o 8)) Z (am (aM Z (gz u38 Tryz.underlying5 (bA o 8))) Z (P 1 Z ?_))
   refine am (aM Z (gz u38 Tryz.underlying5 o)) Z ?_
   refine aV (cL (e:=e8) (l:=[(bA o 24).toUInt8,(bA o 16).toUInt8,(bA o 8).toUInt8,o.toUInt8]) (vs:=[v8 ((bA o 24).toUInt8),v8 ((bA o 16).toUInt8),v8 ((bA o 8).toUInt8),v8 o.toUInt8]) u24 ti5 Z Z Z Z (by decide) (by decide) a) Z ?_
   rintro cd w a
   obtain ⟨bY,bF,h⟩:=aj h
   refine aV (i3 u24 ti5 Z Z Z a (i:=1) Z (a.ro 0 Z) bF) Z ?_
   rintro bZ w a
   refine P 1 Z ?_
   refine I (aR ?_)
   refine O (H (P 2 Z ?_))
   refine I ?_
   exact bv (bz _ (by exact ⟨Z,Z,Z,V⟩) (bE (bY,wI (bW+1)) _ _ ⟨bZ,Z,(a.e [1,2] Z Z)⟩ (a8 h a3)))
  have h:=aI h ay
  refine bg ?_
  refine aF (aF ?_)
  have h:=aW h a3
  refine bd ?_
  refine O (J (H (P 2 Z ?_)))
  refine I (O (ax (aE ?_)))
  cases h
  exact aG Z Z ⟨ap,Z,u,x,y,a.e [0,1] Z Z⟩
 have h:=aI h an
 refine az (O (J (J (H (am (av (k:=9) u168 Z Z fv Z) Z (am (iO (us:=e64.fl c.2.2.1) u160 Z nE (bc a2 Z) Z (a.bxgs0 0 Z (Up.o (k:=1) Z (Up.o (k:=8) (bc ak Z) Up.p Z) Z))) Z ?_))))))
 refine P 1 Z ?_
 refine I (O (aD ?_))
 refine au [(3,M p 0),(10,.slice none 0 0),(96,.agg (e64.fl c.2.2.1).toArray),(97,vI 0)] ⟨Z,Z,Z,Z,V⟩ ?_
 refine bj (F.Cz d f j n b c) (fun (s:List UInt8×Int) L w=>∃(z:Value),L=[(3,M p 0),(10,z),(96,.agg (e64.fl c.2.2.1).toArray),(97,vI s.2)]∧St S B w [N e8 z s.1,W p ([vI c.1]++(U.fl c.2.1++(e64.fl c.2.2.1++(e8.fl c.2.2.2.1++[v64 c.2.2.2.2])))),W q ([vI d]++(U.fl f++(e64.fl j++(e8.fl n++[v64 b]))))]) ?_ ([],0) ⟨.slice none 0 0,Z,((a.nil e8).e [0,1,3] Z Z)⟩ h
 rintro ce ⟨bi,aB⟩ L w cf hI bG h a5
 try dsimp only at hI
 obtain ⟨z,rfl,a⟩:=hI
 unfold F.Cz at h
 refine J (H (P 1 Z ?_))
 refine I (O (J ?_))
 refine aw Z (fun aK=>?_) (fun aK=>?_)
 ·have h:=aJ h aK
  refine az (O (J (aD ?_)))
  refine J (H ?_)
  obtain ⟨A,a6,h⟩:=aj h
  refine am (kA (cs:=(e64.fl c.2.2.1).toArray) u160 u87 Z dF Z Z (bH a6 a2) (lS a6 Z)) Z (P 1 Z ?_)
  refine I (O (J (H (P 1 Z ?_))))
  refine I (O (aD ?_))
  refine au [(3,M p 0),(10,z),(14,v64 A),(15,vI 56),(96,.agg (e64.fl c.2.2.1).toArray),(97,vI aB)] ⟨Z,Z,Z,Z,Z,Z,V⟩ ?_
  refine bj (F.Ep aB A) (fun (s:List UInt8×Int) L w=>∃(aQ:Value),L=[(3,M p 0),(10,aQ),(14,v64 A),(15,vI s.2),(96,.agg (e64.fl c.2.2.1).toArray),(97,vI aB)]∧St S B w [N e8 aQ s.1,W p ([vI c.1]++(U.fl c.2.1++(e64.fl c.2.2.1++(e8.fl c.2.2.2.1++[v64 c.2.2.2.2])))),W q ([vI d]++(U.fl f++(e64.fl j++(e8.fl n++[v64 b]))))]) ?_ (bi,56) ⟨z,Z,a⟩ h
  rintro cg ⟨b0,G⟩ L w ch hI bI h a7
  try dsimp only at hI
  obtain ⟨aQ,rfl,a⟩:=hI
  unfold F.Ep at h
  refine J (J (H (P 2 Z ?_)))
  refine I (O ?_)
  refine aw Z (fun aS=>?_) (fun aS=>?_)
  ·have h:=aJ h aS
   refine az (O (J (aD ?_)))
   refine H (P 3 Z ?_)
   obtain ⟨bJ,h⟩:=bX h
   refine am (aq Z Z (kV _ A G bJ)) Z (am (aM Z (oR u87 Tryz.underlying5 (aP A ((G).toNat)))) Z ?_)
   refine aV (cL (e:=e8) (l:=[(aP A ((G).toNat)).toUInt8]) (vs:=[v8 ((aP A ((G).toNat)).toUInt8)]) u24 ti5 Z Z Z Z (by decide) (by decide) a) Z ?_
   rintro ci w a
   obtain ⟨b1,bK,h⟩:=aj h
   refine aV (i3 u24 ti5 Z Z Z a (i:=1) Z (a.ro 0 Z) bK) Z ?_
   rintro b2 w a
   refine P 1 Z ?_
   refine I (aR ?_)
   refine O (H (P 3 Z ?_))
   refine I ?_
   exact bv (bz _ (by exact ⟨Z,Z,Z,Z,Z,Z,V⟩) (bI (b1,wI (G - 8)) _ _ ⟨b2,Z,(a.e [1,2,3] Z Z)⟩ (a8 h a7)))
  have h:=aI h aS
  refine bg ?_
  refine aF (aF ?_)
  have h:=aW h a7
  refine bd ?_
  refine aR ?_
  refine O (H (P 2 Z ?_))
  refine I ?_
  exact bv (bz _ (by exact ⟨Z,Z,Z,Z,V⟩) (bG (b0,wI (aB+1)) _ _ ⟨aQ,Z,a⟩ (a8 h a5)))
 have h:=aI h aK
 refine bg ?_
 refine aF (aF ?_)
 have h:=aW h a5
 refine bd ?_
 refine O (J ?_)
 refine aY (fun w'=>St S B w' [N e8 z bi,W p ([vI c.1]++(U.fl c.2.1++(e64.fl c.2.2.1++(e8.fl c.2.2.2.1++[v64 c.2.2.2.2])))),W q ([vI d]++(U.fl f++(e64.fl j++(e8.fl n++[v64 b]))))]) (fun i=>!([3,6].contains i)) bQ (fun _ _ _ hf=>hf.2) (fun _ _ hf=>hf) (by kernel_rfl) ?_
 have a:=a.drew
 show lxE _ _ _ _ _ _ _ [0,1,2,3,4,5,6,7,8] _ _
 refine al a Z Z (fun w hF=>ar Z) Z (al a Z Z (fun w hF=>av (k:=0) u168 Z Z oo Z) Z (al a Z Z (fun w hF=>aC u22 Z Z (hF.s 1 Z (Up.get0 Up.p))) Z ?_))
 obtain ⟨bk,bL,h⟩:=aj h
 refine bf a Z Z (by kernel_rfl) Z (eQ c.1 bL ) Z ?_
 rintro _ w ⟨rfl,E⟩
 have a:=a.f E
 refine al a Z Z (fun w hF=>av (k:=0) u168 Z Z oo Z) Z (al a Z Z (fun w hF=>aC u22 Z Z (hF.s 1 Z (Up.get0 Up.p))) Z ?_)
 obtain ⟨cj,bM,h⟩:=aj h
 refine bf a Z Z (by kernel_rfl) Z (eQ c.1 bM ) Z ?_
 rintro _ w ⟨rfl,E⟩
 have a:=a.f E
 obtain ⟨bb,h⟩:=bX h
 refine al a Z Z (fun w hF=>qr u24 ti5 Z Z Z (hF.ro 0 Z) bb) Z (al a Z Z (fun w hF=>aA Z) Z (bl a ?_))
 refine O (ax ?_)
 cases h
 replace a:=a.trunc3 (i:=0) rfl bb.2.1
 exact aG Z Z ⟨slV3 z e8.sz 0 ((bk:Int).toNat) ((bk:Int).toNat),Z,u,x,y,a.e [0,2] Z Z⟩
theorem pd {t:World} {a1:List (List UInt8)} {o:Value} {s1:List SV} (a0:Int) {r:List UInt8}
  (h:F.Dv a0 a1=some r) (hT:TB [] t) (B:RP [] t eV o s1) (hl1:gg [] t e8 s1 a1):Calls Tryz.prog 67 #[vI a0,o] t (Ret fun v w=>St [] t w [N e8 v r]):=by
 refine aH 24 Tryz.func67 Z Z Z ?_
 have a:=St.l t
 refine au [(0,vI a0),(1,o)] ⟨Z,Z,V⟩ ?_
 unfold F.Dv at h
 refine J (H (P 1 Z ?_))
 refine I (O (J (H (P 1 Z ?_))))
 obtain ⟨av,ak,h⟩:=aj h
 refine ao Z (vJ a0 ak (hT.d a.fr)) Z ?_
 rintro _ w ⟨aQ,rfl,c,al,b⟩
 cases d:av with
 | none=>
  have h:=fD h d
  rw [d]at c b
  simp only [Option.map_none,xK]at c
  subst c
  simp only [Option.map_none,yf,List.nil_append]at b
  have a:=a.f b
  refine P 1 Z ?_
  refine I (O (J (J (H (P 1 Z ?_)))))
  refine am (aq Z Z (rX Tryz.underlying136)) Z (I (O (dM Z ?_)))
  refine J (H (P 1 Z ?_))
  refine I (O (ax (aE ?_)))
  cases h
  exact aG Z Z ((a.nil e8).e [0] Z Z)
 | some f=>
  have h:=fw h d
  rw [d]at c b
  simp only [Option.map_some,xK]at c
  obtain ⟨g,rfl⟩:=c
  simp only [Option.map_some,yf,List.singleton_append,List.cons_append,List.nil_append]at b
  have a:=a.f b
  obtain ⟨an,ap,D⟩:=al f d
  refine P 1 Z ?_
  refine I (O (J (J (H (P 1 Z ?_)))))
  refine am (aq Z Z (ru Tryz.underlying136 g 0)) Z (I (O (fi Z ?_)))
  refine az (O (J (J (H (P 1 Z ?_)))))
  refine am (t9 u56 Z (B.d a.fr) hl1.len) Z (P 1 Z ?_)
  refine I (O (aD ?_))
  refine au [(5,M g 0),(12,o),(13,vI (a1.length:Int)),(14,vI 0)] ⟨Z,Z,Z,Z,V⟩ ?_
  refine bj (F.Cn a1) (fun (s:Int×Int×List UInt32×List UInt64×List UInt8×UInt64) L w=>L=[(5,M g 0),(12,o),(13,vI (a1.length:Int)),(14,vI s.1)]∧s.2.2.1.length=8∧s.2.2.2.1.length=8∧s.2.2.2.2.1.length=128∧St [] t w [W g ([vI s.2.1]++(U.fl s.2.2.1++(e64.fl s.2.2.2.1++(e8.fl s.2.2.2.2.1++[v64 s.2.2.2.2.2]))))]) ?_ (0,f.1,f.2.1,f.2.2.1,f.2.2.2.1,f.2.2.2.2) ⟨Z,an,ap,D,a⟩ h
  rintro aL ⟨ar,i,j,k,l,m⟩ L w aM hI E h u
  try dsimp only at hI
  obtain ⟨rfl,x,y,z,a⟩:=hI
  unfold F.Cn at h
  refine J (H (P 1 Z ?_))
  refine I (O (J ?_))
  refine aw Z (fun n=>?_) (fun n=>?_)
  ·have h:=aJ h n
   refine az (O (J (aD ?_)))
   refine J (H ?_)
   obtain ⟨aN,G,h⟩:=aj h
   obtain ⟨ay,p,A⟩:=hl1.get G
   refine am (bk u56 wZ Z Z (B.d a.fr) p) Z (am (bb u24 Z Z (B.d a.fr) p Z) Z (P 1 Z ?_))
   refine I (O (H (P 2 Z ?_)))
   have q:=a.pick (os':=[W g ([vI i]++(U.fl j++(e64.fl k++(e8.fl l++[v64 m]))))]++[]) [0] (by decide) Z
   obtain ⟨e,S,h⟩:=aj h
   refine ao Z (iA i j k l m S q.g (hT.g q) x y z (A.g (R Z) q)) Z ?_
   rintro _ w ⟨rfl,T,ab,ac,b⟩
   have a:=q.h b
   refine I (aR ?_)
   refine O (H (P 2 Z ?_))
   refine I ?_
   exact bv (bz _ (by exact ⟨Z,Z,Z,Z,V⟩) (E (wI (ar+1),e.1,e.2.1,e.2.2.1,e.2.2.2.1,e.2.2.2.2) _ _ ⟨Z,T,ab,ac,a⟩ (a8 h u)))
  have h:=aI h n
  refine bg ?_
  refine aF (aF ?_)
  have h:=aW h u
  refine bd ?_
  refine O (J (H (P 1 Z ?_)))
  have q:=a.pick (os':=[W g ([vI i]++(U.fl j++(e64.fl k++(e8.fl l++[v64 m]))))]++[]) [0] (by decide) Z
  obtain ⟨aO,ad,h⟩:=aj h
  refine ao Z (nD i j k l m ad q.g (hT.g q) x y z) Z ?_
  rintro aP w ⟨aA,C,aB,aC,aK,b⟩
  rw [←C]at b
  have a:=q.h b
  refine P 1 Z ?_
  refine I (O (ax ?_))
  cases h
  exact aG Z Z (a.e [0] Z Z)
end Go.Proofs
