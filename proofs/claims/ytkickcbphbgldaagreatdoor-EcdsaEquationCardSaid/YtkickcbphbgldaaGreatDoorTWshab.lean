import Derived.Test.YtkickcbphbgldaaGreatDoorTW0
import Derived.Test.YtkickcbphbgldaaGreatDoorGkFman
import Derived.Test.YtkickcbphbgldaaGreatDoorTWshaa
set_option linter.unusedVariables false
set_option linter.unusedSimpArgs false
set_option linter.unusedSectionVars false
set_option maxRecDepth 4000
namespace Go.Proofs
open Go Go.RowKit Go.Gk
open Go.Gk renaming aa → P, ae → M, ah → I, ai → H, e32 → U, own → K, pB → N
open Nat renaming le_of_ble_eq_true → R
open Go.Gk.OE renaming bx → W
theorem oy {B:World} {q:Nat} {S:List Nat} (d:Int) (f:List UInt32) (j:List UInt64) (n:List UInt8) (b:UInt64) {r:List UInt8×Int×List UInt32×List UInt64×List UInt8×UInt64}
  (h:F.Fh d f j n b=some r) (a:St S B B [W q ([vI d]++(U.fl f++(e64.fl j++(e8.fl n++[v64 b]))))]) (hT:TB S B) (u:f.length=8) (x:j.length=8) (y:n.length=128):Calls Tryz.prog 125 #[N q 0] B (Ret fun v w=>∃u0:Value,v=u0∧r.2.2.1.length=8∧r.2.2.2.1.length=8∧r.2.2.2.2.1.length=128∧St S B w [K e8 u0 r.1,W q ([vI r.2.1]++(U.fl r.2.2.1++(e64.fl r.2.2.2.1++(e8.fl r.2.2.2.2.1++[v64 r.2.2.2.2.2]))))]):=by
 refine aJ 120 Tryz.func125 Z Z Z ?_
 refine au [(0,N q 0)] ⟨Z,V⟩ ?_
 unfold F.Fh at h
 refine I (af (P 1 Z ?_))
 refine H (M (I (af (P 1 Z ?_))))
 refine am (aK Z) Z ?_
 refine am (i2 (us:=[vI d]++(U.fl f++(e64.fl j++(e8.fl n++[v64 b])))) u168 Z yA (eB Z (eB (bd u Z) (eB (bd x Z) (eB (bd y Z) Z Z) Z) Z) Z) Z (a.bxgs0 0 Z Up.last)) Z ?_
 refine aP (aT (cs:=[vI 0]++(U.fl (List.replicate 8 0)++(e64.fl (List.replicate 8 0)++(e8.fl (List.replicate 128 0)++[v64 0])))) Bh (by kernel_rfl) a) Z ?_
 rintro _ w ⟨p,rfl,a⟩
 refine bb (eR (m:=146) (xs:=[vI 0]++(U.fl (List.replicate 8 0)++(e64.fl (List.replicate 8 0)++(e8.fl (List.replicate 128 0)++[v64 0])))) (xs':=[vI d]++(U.fl f++(e64.fl j++(e8.fl n++[v64 b])))) (i:=0) Z yA Z Z Z Up.last (eB Z (eB (bd List.length_replicate Z) (eB (bd List.length_replicate Z) (eB (bd List.length_replicate Z) Z Z) Z) Z) Z) (eB Z (eB (bd u Z) (eB (bd x Z) (eB (bd y Z) Z Z) Z) Z) Z) (mn (fN Z) (mn ka (mn ka (mn ka (fN Z))))) a) ?_
 intro w a
 refine H (M (I ?_))
 refine aZ (fun w'=>St S B w' [W p ([vI d]++(U.fl f++(e64.fl j++(e8.fl n++[v64 b])))),W q ([vI d]++(U.fl f++(e64.fl j++(e8.fl n++[v64 b]))))]) (fun i=>!([2].contains i)) bS (fun _ _ _ hf=>hf.2) (fun _ _ hf=>hf) (by kernel_rfl) ?_
 have a:=a.drew
 show lxE _ _ _ _ _ _ _ [0,1,2,3,4,5,6] _ _
 refine al a Z Z (fun w hF=>av (k:=0) u168 Z Z pf Z) Z (al a Z Z (fun w hF=>aC u22 Z Z (hF.s 0 Z (Up.get0 Up.p))) Z ?_)
 obtain ⟨t,bP,h⟩:=aj h
 refine bj a Z Z (by kernel_rfl) Z (mY d bP ) Z ?_
 rintro _ w ⟨rfl,E⟩
 have a:=a.f E
 refine al a Z Z (fun w hF=>av (k:=145) u168 Z Z uS Z) Z ?_
 refine al a Z Z (fun w hF=>aC u87 Z Z (hF.s 0 Z (Up.get0 (Up.o (k:=1) Z (Up.o (k:=8) (bd u Z) (Up.o (k:=8) (bd x Z) (Up.o (k:=128) (bd y Z) Up.last Z) Z) Z) Z)))) Z ?_
 refine al a Z Z (fun w hF=>aB Z) Z (al a Z Z (fun w hF=>aB Z) Z (bn a ?_))
 refine M (I (af (P 1 Z ?_)))
 refine am (aq Z Z (dT _ t 8 (by decide))) Z ?_
 refine P 1 Z ?_
 refine H (M (I (af ?_)))
 refine aP (cQ (e:=e8) (l:=[128]) (vs:=[v8 128]) u24 ti5 Z Z Z Z (by decide) (by decide) a) Z ?_
 rintro bN w a
 refine P 1 Z ?_
 refine H (M (I (aE ?_)))
 refine au [(3,N p 0),(4,vI t),(5,v64 b),(6,vI (wI (Int.tdiv t 8))),(7,bN)] ⟨Z,Z,Z,Z,Z,V⟩ ?_
 refine bk (F.DU b t d f j n) (fun (s:List UInt8) L w=>∃(aV:Value),L=[(3,N p 0),(4,vI t),(5,v64 b),(6,vI (wI (Int.tdiv t 8))),(7,aV)]∧St S B w [K e8 aV s,W p ([vI d]++(U.fl f++(e64.fl j++(e8.fl n++[v64 b])))),W q ([vI d]++(U.fl f++(e64.fl j++(e8.fl n++[v64 b]))))]) ?_ [128] ⟨bN,Z,a⟩ h
 rintro b5 bO L w b6 hI bm h a1
 try dsimp only at hI
 obtain ⟨aV,rfl,a⟩:=hI
 unfold F.DU at h
 refine I (I (af (P 2 Z ?_)))
 refine am (aM Z (fb Tryz.underlying3 u87 t)) Z ?_
 obtain ⟨bo,h⟩:=bZ h
 refine am (aq Z Z (eW _ b (UInt64.ofInt t) bo)) Z (am (aM Z (mF u87 Tryz.underlying3 (b%(UInt64.ofInt t)))) Z (P 1 Z ?_))
 refine am (aN u24 Z (a.ro 0 Z)) Z (P 2 Z ?_)
 obtain ⟨bq,h⟩:=bZ h
 refine am (aq Z Z (kh _ (wI ((wI ((b%(UInt64.ofInt t)).toNat:Int))+(bO.length:Int))) t bq)) Z (P 4 Z ?_)
 refine H (M ?_)
 refine ax Z (fun T=>?_) (fun T=>?_)
 ·have h:=aG h T
  refine az (M (aE ?_))
  refine af (P 1 Z ?_)
  refine aP (cQ (e:=e8) (l:=[0]) (vs:=[v8 0]) u24 ti5 Z Z Z Z (by decide) (by decide) a) Z ?_
  rintro b7 w a
  obtain ⟨bQ,br,h⟩:=aj h
  refine aP (jg u24 ti5 Z Z Z a (i:=1) Z (a.ro 0 Z) br) Z ?_
  rintro bR w a
  refine P 1 Z ?_
  refine H (aU ?_)
  exact bv (bz _ (by exact ⟨Z,Z,Z,Z,Z,V⟩) (bm bQ _ _ ⟨bR,Z,(a.e [1,2,3] Z Z)⟩ (ba h a1)))
 have h:=aH h T
 refine bh ?_
 refine aI (aI ?_)
 have h:=aX h a1
 refine bg ?_
 refine M (I (I (af (P 2 Z ?_))))
 obtain ⟨aY,bs,h⟩:=aO h
 refine am (aB (v:=vI aY) (by rw [←bs]; rfl)) Z ?_
 refine H (M (aE ?_))
 refine au [(3,N p 0),(5,v64 b),(7,aV),(8,vI aY)] ⟨Z,Z,Z,Z,V⟩ ?_
 refine bk (F.CC d f j n b) (fun (s:List UInt8×Int) L w=>∃(C:Value),L=[(3,N p 0),(5,v64 b),(7,C),(8,vI s.2)]∧St S B w [K e8 C s.1,W p ([vI d]++(U.fl f++(e64.fl j++(e8.fl n++[v64 b])))),W q ([vI d]++(U.fl f++(e64.fl j++(e8.fl n++[v64 b]))))]) ?_ (bO,aY) ⟨aV,Z,a⟩ h
 rintro b8 ⟨a0,D⟩ L w bT hI bt h a2
 try dsimp only at hI
 obtain ⟨C,rfl,a⟩:=hI
 unfold F.CC at h
 refine I (I (af (P 2 Z ?_)))
 refine H (M ?_)
 refine ax Z (fun ab=>?_) (fun ab=>?_)
 ·have h:=aG h ab
  refine az (M (I (aE ?_)))
  refine I (af (P 1 Z ?_))
  refine H (M ?_)
  refine a9 (r:=bT) (fun (g:UInt8) L w=>L=[(3,N p 0),(5,v64 b),(7,C),(8,vI D),(9,v8 g)]∧St S B w [W p ([vI d]++(U.fl f++(e64.fl j++(e8.fl n++[v64 b])))),K e8 C a0,W q ([vI d]++(U.fl f++(e64.fl j++(e8.fl n++[v64 b]))))]) (F.Do a0 D) ?_ ?_
  rotate_left
  ·intro ac
   refine aE ?_
   refine I (af (P 3 Z ?_))
   refine H (M ?_)
   refine ax Z (fun ad=>?_) (fun ad=>?_)
   ·have h:=aG h ad
    refine af (P 1 Z ?_)
    refine am (aq Z Z (dc _ b 3)) Z (P 1 Z ?_)
    refine am (aq Z Z (fj _ 8 D)) Z ?_
    obtain ⟨bu,h⟩:=bZ h
    refine am (aq Z Z (lF _ (bp b 3) (wI (8*D)) bu)) Z (am (aM Z (pg u87 Tryz.underlying5 (aQ (bp b 3) (((wI (8*D))).toNat)))) Z ?_)
    obtain ⟨be,bw,h⟩:=aO h
    refine am (aB (v:=v8 be) (by rw [←bw]; rfl)) Z ?_
    refine H (aU ?_)
    refine M ?_
    exact au _ (by exact ⟨Z,Z,Z,Z,Z,V⟩) (ac be _ _ ⟨Z,(a.e [1,0,2] Z Z)⟩ h)
   have h:=aH h ad
   refine I (af (P 3 Z ?_))
   refine H (M ?_)
   refine ax Z (fun ag=>?_) (fun ag=>?_)
   ·have h:=aG h ag
    refine af (P 1 Z ?_)
    refine am (aq Z Z (cl _ b 61)) Z (am (aM Z (pg u87 Tryz.underlying5 (aQ b 61))) Z (P 1 Z ?_))
    refine H (aU ?_)
    refine M ?_
    exact au _ (by exact ⟨Z,Z,Z,Z,Z,V⟩) (ac ((aQ b 61).toUInt8) _ _ ⟨Z,(a.e [1,0,2] Z Z)⟩ h)
   have h:=aH h ag
   refine az (aU ?_)
   refine M ?_
   exact au _ (by exact ⟨Z,Z,Z,Z,Z,V⟩) (ac 0 _ _ ⟨Z,(a.e [1,0,2] Z Z)⟩ h)
  rintro bf L w hJ h
  try dsimp only at hJ
  obtain ⟨rfl,a⟩:=hJ
  unfold F.Do at h
  refine af (P 2 Z ?_)
  refine aP (cQ (e:=e8) (l:=[bf]) (vs:=[v8 bf]) u24 ti5 Z Z Z Z (by decide) (by decide) a) Z ?_
  rintro b9 w a
  obtain ⟨bU,bA,h⟩:=aj h
  refine aP (jg u24 ti5 Z Z Z a (i:=2) Z (a.ro 0 Z) bA) Z ?_
  rintro bV w a
  refine P 1 Z ?_
  refine H (aU ?_)
  refine M (af (P 3 Z ?_))
  refine H ?_
  exact bv (bz _ (by exact ⟨Z,Z,Z,Z,V⟩) (bt (bU,wI (D - 1)) _ _ ⟨bV,Z,(a.e [2,1,3] Z Z)⟩ (ba h a2)))
 have h:=aH h ab
 refine bh ?_
 refine aI (aI ?_)
 have h:=aX h a2
 refine bg ?_
 refine M (I (af (P 1 Z ?_)))
 have hG:=a.pick (os':=[W p ([vI d]++(U.fl f++(e64.fl j++(e8.fl n++[v64 b]))))]++[K e8 C a0,W q ([vI d]++(U.fl f++(e64.fl j++(e8.fl n++[v64 b]))))]) [1,0,2] (by decide) Z
 obtain ⟨c,bC,h⟩:=aj h
 refine ao Z (iL d f j n b bC hG.g (hT.g hG) u x y (hG.giveO 0 Z)) Z ?_
 rintro _ w ⟨rfl,ak,a3,b3,E⟩
 have a:=hG.h E
 refine H (M (I (af (P 1 Z ?_))))
 refine H (M (I (I (af (am (av (k:=0) u168 Z Z pf Z) Z (am (aC u22 Z Z (a.s 0 Z (Up.get0 Up.p))) Z (P 1 Z ?_)))))))
 refine H (M ?_)
 refine ax Z (fun an=>?_) (fun an=>?_)
 ·have h:=aG h an
  refine I (I (af (am (av (k:=1) u168 Z Z f0 Z) Z (am (i2 (us:=U.fl c.2.1) u165 Z uh (bd ak Z) Z (a.bxgs0 0 Z (Up.o (k:=1) Z Up.p Z))) Z (P 1 Z ?_)))))
  refine H (M (aE ?_))
  refine au [(10,.slice none 0 0),(75,.agg (U.fl c.2.1).toArray),(76,vI 0)] ⟨Z,Z,Z,V⟩ ?_
  refine bk (F.DG d f j n b c) (fun (s:List UInt8×Int) L w=>∃(ap:Value),L=[(10,ap),(75,.agg (U.fl c.2.1).toArray),(76,vI s.2)]∧St S B w [K e8 ap s.1,W q ([vI d]++(U.fl f++(e64.fl j++(e8.fl n++[v64 b]))))]) ?_ ([],0) ⟨.slice none 0 0,Z,((a.nil e8).e [0,3] Z Z)⟩ h
  rintro ca ⟨cb,bW⟩ L w cc hI bE h a4
  try dsimp only at hI
  obtain ⟨ap,rfl,a⟩:=hI
  unfold F.DG at h
  refine I (af (P 1 Z ?_))
  refine H (M (I ?_))
  refine ax Z (fun ay=>?_) (fun ay=>?_)
  ·have h:=aG h ay
   refine az (M (I (aE ?_)))
   refine I (af ?_)
   obtain ⟨o,a5,h⟩:=aj h
   refine am (kD (cs:=(U.fl c.2.1).toArray) u165 u38 Z ej Z Z (bL a5 ak) (mu a5 Z)) Z (P 1 Z ?_)
   refine H (M (af (P 2 Z ?_)))
   refine am (aq Z Z (dl _ o 24)) Z (am (aM Z (gL u38 Tryz.underlying5 (bD o 24))) Z (P 1 Z ?_))
   refine am (aq Z Z (dl _ o 16)) Z (am (aM Z (gL u38 Tryz.underlying5 (bD o 16))) Z (P 1 Z ?_))
   refine am (aq Z Z (dl _ o 8)) Z (am (aM Z (gL u38 Tryz.underlying5 (bD o 8))) Z (P 1 Z ?_))
   refine am (aM Z (gL u38 Tryz.underlying5 o)) Z ?_
   refine aP (cQ (e:=e8) (l:=[(bD o 24).toUInt8,(bD o 16).toUInt8,(bD o 8).toUInt8,o.toUInt8]) (vs:=[v8 ((bD o 24).toUInt8),v8 ((bD o 16).toUInt8),v8 ((bD o 8).toUInt8),v8 o.toUInt8]) u24 ti5 Z Z Z Z (by decide) (by decide) a) Z ?_
   rintro cd w a
   obtain ⟨bX,bF,h⟩:=aj h
   refine aP (jg u24 ti5 Z Z Z a (i:=1) Z (a.ro 0 Z) bF) Z ?_
   rintro bY w a
   refine P 1 Z ?_
   refine H (aU ?_)
   refine M (af (P 2 Z ?_))
   refine H ?_
   exact bv (bz _ (by exact ⟨Z,Z,Z,V⟩) (bE (bX,wI (bW+1)) _ _ ⟨bY,Z,(a.e [1,2] Z Z)⟩ (ba h a4)))
  have h:=aH h ay
  refine bh ?_
  refine aI (aI ?_)
  have h:=aX h a4
  refine bg ?_
  refine M (I (af (P 2 Z ?_)))
  refine H (M (aw (aD ?_)))
  cases h
  exact aF Z Z ⟨ap,Z,u,x,y,a.e [0,1] Z Z⟩
 have h:=aH h an
 refine az (M (I (I (af (am (av (k:=9) u168 Z Z fQ Z) Z (am (i2 (us:=e64.fl c.2.2.1) u160 Z oa (bd a3 Z) Z (a.bxgs0 0 Z (Up.o (k:=1) Z (Up.o (k:=8) (bd ak Z) Up.p Z) Z))) Z ?_))))))
 refine P 1 Z ?_
 refine H (M (aE ?_))
 refine au [(3,N p 0),(10,.slice none 0 0),(96,.agg (e64.fl c.2.2.1).toArray),(97,vI 0)] ⟨Z,Z,Z,Z,V⟩ ?_
 refine bk (F.Cs d f j n b c) (fun (s:List UInt8×Int) L w=>∃(z:Value),L=[(3,N p 0),(10,z),(96,.agg (e64.fl c.2.2.1).toArray),(97,vI s.2)]∧St S B w [K e8 z s.1,W p ([vI c.1]++(U.fl c.2.1++(e64.fl c.2.2.1++(e8.fl c.2.2.2.1++[v64 c.2.2.2.2])))),W q ([vI d]++(U.fl f++(e64.fl j++(e8.fl n++[v64 b]))))]) ?_ ([],0) ⟨.slice none 0 0,Z,((a.nil e8).e [0,1,3] Z Z)⟩ h
 rintro ce ⟨bi,aA⟩ L w cf hI bG h a6
 try dsimp only at hI
 obtain ⟨z,rfl,a⟩:=hI
 unfold F.Cs at h
 refine I (af (P 1 Z ?_))
 refine H (M (I ?_))
 refine ax Z (fun aL=>?_) (fun aL=>?_)
 ·have h:=aG h aL
  refine az (M (I (aE ?_)))
  refine I (af ?_)
  obtain ⟨A,a7,h⟩:=aj h
  refine am (kD (cs:=(e64.fl c.2.2.1).toArray) u160 u87 Z dR Z Z (bL a7 a3) (mu a7 Z)) Z (P 1 Z ?_)
  refine H (M (I (af (P 1 Z ?_))))
  refine H (M (aE ?_))
  refine au [(3,N p 0),(10,z),(14,v64 A),(15,vI 56),(96,.agg (e64.fl c.2.2.1).toArray),(97,vI aA)] ⟨Z,Z,Z,Z,Z,Z,V⟩ ?_
  refine bk (F.Ep aA A) (fun (s:List UInt8×Int) L w=>∃(aR:Value),L=[(3,N p 0),(10,aR),(14,v64 A),(15,vI s.2),(96,.agg (e64.fl c.2.2.1).toArray),(97,vI aA)]∧St S B w [K e8 aR s.1,W p ([vI c.1]++(U.fl c.2.1++(e64.fl c.2.2.1++(e8.fl c.2.2.2.1++[v64 c.2.2.2.2])))),W q ([vI d]++(U.fl f++(e64.fl j++(e8.fl n++[v64 b]))))]) ?_ (bi,56) ⟨z,Z,a⟩ h
  rintro cg ⟨b0,G⟩ L w ch hI bH h a8
  try dsimp only at hI
  obtain ⟨aR,rfl,a⟩:=hI
  unfold F.Ep at h
  refine I (I (af (P 2 Z ?_)))
  refine H (M ?_)
  refine ax Z (fun aS=>?_) (fun aS=>?_)
  ·have h:=aG h aS
   refine az (M (I (aE ?_)))
   refine af (P 3 Z ?_)
   obtain ⟨bI,h⟩:=bZ h
   refine am (aq Z Z (lF _ A G bI)) Z (am (aM Z (pg u87 Tryz.underlying5 (aQ A ((G).toNat)))) Z ?_)
   refine aP (cQ (e:=e8) (l:=[(aQ A ((G).toNat)).toUInt8]) (vs:=[v8 ((aQ A ((G).toNat)).toUInt8)]) u24 ti5 Z Z Z Z (by decide) (by decide) a) Z ?_
   rintro ci w a
   obtain ⟨b1,bJ,h⟩:=aj h
   refine aP (jg u24 ti5 Z Z Z a (i:=1) Z (a.ro 0 Z) bJ) Z ?_
   rintro b2 w a
   refine P 1 Z ?_
   refine H (aU ?_)
   refine M (af (P 3 Z ?_))
   refine H ?_
   exact bv (bz _ (by exact ⟨Z,Z,Z,Z,Z,Z,V⟩) (bH (b1,wI (G - 8)) _ _ ⟨b2,Z,(a.e [1,2,3] Z Z)⟩ (ba h a8)))
  have h:=aH h aS
  refine bh ?_
  refine aI (aI ?_)
  have h:=aX h a8
  refine bg ?_
  refine aU ?_
  refine M (af (P 2 Z ?_))
  refine H ?_
  exact bv (bz _ (by exact ⟨Z,Z,Z,Z,V⟩) (bG (b0,wI (aA+1)) _ _ ⟨aR,Z,a⟩ (ba h a6)))
 have h:=aH h aL
 refine bh ?_
 refine aI (aI ?_)
 have h:=aX h a6
 refine bg ?_
 refine M (I ?_)
 refine aZ (fun w'=>St S B w' [K e8 z bi,W p ([vI c.1]++(U.fl c.2.1++(e64.fl c.2.2.1++(e8.fl c.2.2.2.1++[v64 c.2.2.2.2])))),W q ([vI d]++(U.fl f++(e64.fl j++(e8.fl n++[v64 b]))))]) (fun i=>!([3,6].contains i)) bS (fun _ _ _ hf=>hf.2) (fun _ _ hf=>hf) (by kernel_rfl) ?_
 have a:=a.drew
 show lxE _ _ _ _ _ _ _ [0,1,2,3,4,5,6,7,8] _ _
 refine al a Z Z (fun w hF=>ar Z) Z (al a Z Z (fun w hF=>av (k:=0) u168 Z Z pf Z) Z (al a Z Z (fun w hF=>aC u22 Z Z (hF.s 1 Z (Up.get0 Up.p))) Z ?_))
 obtain ⟨bl,bK,h⟩:=aj h
 refine bj a Z Z (by kernel_rfl) Z (gv c.1 bK ) Z ?_
 rintro _ w ⟨rfl,E⟩
 have a:=a.f E
 refine al a Z Z (fun w hF=>av (k:=0) u168 Z Z pf Z) Z (al a Z Z (fun w hF=>aC u22 Z Z (hF.s 1 Z (Up.get0 Up.p))) Z ?_)
 obtain ⟨cj,bM,h⟩:=aj h
 refine bj a Z Z (by kernel_rfl) Z (gv c.1 bM ) Z ?_
 rintro _ w ⟨rfl,E⟩
 have a:=a.f E
 obtain ⟨bc,h⟩:=bZ h
 refine al a Z Z (fun w hF=>rN u24 ti5 Z Z Z (hF.ro 0 Z) bc) Z (al a Z Z (fun w hF=>aB Z) Z (bn a ?_))
 refine M (aw ?_)
 cases h
 replace a:=a.trunc3 (i:=0) rfl bc.2.1
 exact aF Z Z ⟨slV3 z e8.sz 0 ((bl:Int).toNat) ((bl:Int).toNat),Z,u,x,y,a.e [0,2] Z Z⟩
theorem pS {t:World} {a1:List (List UInt8)} {o:Value} {s1:List SV} (a0:Int) {r:List UInt8}
  (h:F.DA a0 a1=some r) (hT:TB [] t) (B:RP [] t eV o s1) (hl1:gB [] t e8 s1 a1):Calls Tryz.prog 67 #[vI a0,o] t (Ret fun v w=>St [] t w [K e8 v r]):=by
 refine aJ 24 Tryz.func67 Z Z Z ?_
 have a:=St.l t
 refine au [(0,vI a0),(1,o)] ⟨Z,Z,V⟩ ?_
 unfold F.DA at h
 refine I (af (P 1 Z ?_))
 refine H (M (I (af (P 1 Z ?_))))
 obtain ⟨av,ak,h⟩:=aj h
 refine ao Z (vW a0 ak (hT.d a.fr)) Z ?_
 rintro _ w ⟨aQ,rfl,c,al,b⟩
 cases d:av with
 | none=>
  have h:=ea h d
  rw [d]at c b
  simp only [Option.map_none,wR]at c
  subst c
  simp only [Option.map_none,yt,List.nil_append]at b
  have a:=a.f b
  refine P 1 Z ?_
  refine H (M (I (I (af (P 1 Z ?_)))))
  refine am (aq Z Z (qA Tryz.underlying136)) Z (H (M (d7 Z ?_)))
  refine I (af (P 1 Z ?_))
  refine H (M (aw (aD ?_)))
  cases h
  exact aF Z Z ((a.nil e8).e [0] Z Z)
 | some f=>
  have h:=d9 h d
  rw [d]at c b
  simp only [Option.map_some,wR]at c
  obtain ⟨g,rfl⟩:=c
  simp only [Option.map_some,yt,List.singleton_append,List.cons_append,List.nil_append]at b
  have a:=a.f b
  obtain ⟨an,ap,D⟩:=al f d
  refine P 1 Z ?_
  refine H (M (I (I (af (P 1 Z ?_)))))
  refine am (aq Z Z (rx Tryz.underlying136 g 0)) Z (H (M (fF Z ?_)))
  refine az (M (I (I (af (P 1 Z ?_)))))
  refine am (uI u56 Z (B.d a.fr) hl1.len) Z (P 1 Z ?_)
  refine H (M (aE ?_))
  refine au [(5,N g 0),(12,o),(13,vI (a1.length:Int)),(14,vI 0)] ⟨Z,Z,Z,Z,V⟩ ?_
  refine bk (F.CN a1) (fun (s:Int×Int×List UInt32×List UInt64×List UInt8×UInt64) L w=>L=[(5,N g 0),(12,o),(13,vI (a1.length:Int)),(14,vI s.1)]∧s.2.2.1.length=8∧s.2.2.2.1.length=8∧s.2.2.2.2.1.length=128∧St [] t w [W g ([vI s.2.1]++(U.fl s.2.2.1++(e64.fl s.2.2.2.1++(e8.fl s.2.2.2.2.1++[v64 s.2.2.2.2.2]))))]) ?_ (0,f.1,f.2.1,f.2.2.1,f.2.2.2.1,f.2.2.2.2) ⟨Z,an,ap,D,a⟩ h
  rintro aL ⟨ar,i,j,k,l,m⟩ L w aM hI E h u
  try dsimp only at hI
  obtain ⟨rfl,x,y,z,a⟩:=hI
  unfold F.CN at h
  refine I (af (P 1 Z ?_))
  refine H (M (I ?_))
  refine ax Z (fun n=>?_) (fun n=>?_)
  ·have h:=aG h n
   refine az (M (I (aE ?_)))
   refine I (af ?_)
   obtain ⟨aN,G,h⟩:=aj h
   obtain ⟨ay,p,A⟩:=hl1.get G
   refine am (bm u56 xM Z Z (B.d a.fr) p) Z (am (bc u24 Z Z (B.d a.fr) p Z) Z (P 1 Z ?_))
   refine H (M (af (P 2 Z ?_)))
   have q:=a.pick (os':=[W g ([vI i]++(U.fl j++(e64.fl k++(e8.fl l++[v64 m]))))]++[]) [0] (by decide) Z
   obtain ⟨e,S,h⟩:=aj h
   refine ao Z (iL i j k l m S q.g (hT.g q) x y z (A.g (R Z) q)) Z ?_
   rintro _ w ⟨rfl,T,ab,ac,b⟩
   have a:=q.h b
   refine H (aU ?_)
   refine M (af (P 2 Z ?_))
   refine H ?_
   exact bv (bz _ (by exact ⟨Z,Z,Z,Z,V⟩) (E (wI (ar+1),e.1,e.2.1,e.2.2.1,e.2.2.2.1,e.2.2.2.2) _ _ ⟨Z,T,ab,ac,a⟩ (ba h u)))
  have h:=aH h n
  refine bh ?_
  refine aI (aI ?_)
  have h:=aX h u
  refine bg ?_
  refine M (I (af (P 1 Z ?_)))
  have q:=a.pick (os':=[W g ([vI i]++(U.fl j++(e64.fl k++(e8.fl l++[v64 m]))))]++[]) [0] (by decide) Z
  obtain ⟨aO,ad,h⟩:=aj h
  refine ao Z (oy i j k l m ad q.g (hT.g q) x y z) Z ?_
  rintro aP w ⟨aA,C,aB,aC,aK,b⟩
  rw [←C]at b
  have a:=q.h b
  refine P 1 Z ?_
  refine H (M (aw ?_))
  cases h
  exact aF Z Z (a.e [0] Z Z)
end Go.Proofs
