import Derived.Test.YtkickcbphbgldaaGreatDoorTW0
import Derived.Test.YtkickcbphbgldaaGreatDoorGkFman
import Derived.Test.YtkickcbphbgldaaGreatDoorTWshaa
set_option linter.unusedVariables false
set_option linter.unusedSimpArgs false
set_option linter.unusedSectionVars false
set_option maxRecDepth 4000
namespace Go.Proofs
open Go Go.RowKit Go.Gk
open Go.Gk renaming aa → P, ae → O, ah → J, ai → H, e32 → U, own → M, pB → N
open Nat renaming le_of_ble_eq_true → R
open Go.Gk.OE renaming bx → X
theorem oC {B:World} {q:Nat} {S:List Nat} (d:Int) (f:List UInt32) (j:List UInt64) (n:List UInt8) (b:UInt64) {r:List UInt8×Int×List UInt32×List UInt64×List UInt8×UInt64}
  (h:F.Fa d f j n b=some r) (a:St S B B [X q ([vI d]++(U.fl f++(e64.fl j++(e8.fl n++[v64 b]))))]) (hT:TB S B) (u:f.length=8) (x:j.length=8) (y:n.length=128):Calls Tryz.prog 125 #[N q 0] B (Ret fun v w=>∃u0:Value,v=u0∧r.2.2.1.length=8∧r.2.2.2.1.length=8∧r.2.2.2.2.1.length=128∧St S B w [M e8 u0 r.1,X q ([vI r.2.1]++(U.fl r.2.2.1++(e64.fl r.2.2.2.1++(e8.fl r.2.2.2.2.1++[v64 r.2.2.2.2.2]))))]):=by
 refine aJ 120 Tryz.func125 Z Z Z ?_
 refine au [(0,N q 0)] ⟨Z,V⟩ ?_
 unfold F.Fa at h
 refine J (af (P 1 Z ?_))
 refine H (O (J (af (P 1 Z ?_))))
 refine am (aK Z) Z ?_
 refine am (i3 (us:=[vI d]++(U.fl f++(e64.fl j++(e8.fl n++[v64 b])))) u168 Z yF (eI Z (eI (bc u Z) (eI (bc x Z) (eI (bc y Z) Z Z) Z) Z) Z) Z (a.bxgs0 0 Z Up.last)) Z ?_
 refine aT (aY (cs:=[vI 0]++(U.fl (List.replicate 8 0)++(e64.fl (List.replicate 8 0)++(e8.fl (List.replicate 128 0)++[v64 0])))) Bf (by kernel_rfl) a) Z ?_
 rintro _ w ⟨p,rfl,a⟩
 refine bk (eX (m:=146) (xs:=[vI 0]++(U.fl (List.replicate 8 0)++(e64.fl (List.replicate 8 0)++(e8.fl (List.replicate 128 0)++[v64 0])))) (xs':=[vI d]++(U.fl f++(e64.fl j++(e8.fl n++[v64 b])))) (i:=0) Z yF Z Z Z Up.last (eI Z (eI (bc List.length_replicate Z) (eI (bc List.length_replicate Z) (eI (bc List.length_replicate Z) Z Z) Z) Z) Z) (eI Z (eI (bc u Z) (eI (bc x Z) (eI (bc y Z) Z Z) Z) Z) Z) (mF (fV Z) (mF ka (mF ka (mF ka (fV Z))))) a) ?_
 intro w a
 refine H (O (J ?_))
 refine aZ (fun w'=>St S B w' [X p ([vI d]++(U.fl f++(e64.fl j++(e8.fl n++[v64 b])))),X q ([vI d]++(U.fl f++(e64.fl j++(e8.fl n++[v64 b]))))]) (fun i=>!([2].contains i)) bS (fun _ _ _ hf=>hf.2) (fun _ _ hf=>hf) (by kernel_rfl) ?_
 have a:=a.drew
 show lxE _ _ _ _ _ _ _ [0,1,2,3,4,5,6] _ _
 refine al a Z Z (fun w hF=>av (k:=0) u168 Z Z pf Z) Z (al a Z Z (fun w hF=>aC u22 Z Z (hF.s 0 Z (Up.get0 Up.p))) Z ?_)
 obtain ⟨t,bP,h⟩:=aj h
 refine bg a Z Z (by kernel_rfl) Z (m0 d bP ) Z ?_
 rintro _ w ⟨rfl,E⟩
 have a:=a.f E
 refine al a Z Z (fun w hF=>av (k:=145) u168 Z Z ut Z) Z ?_
 refine al a Z Z (fun w hF=>aC u87 Z Z (hF.s 0 Z (Up.get0 (Up.o (k:=1) Z (Up.o (k:=8) (bc u Z) (Up.o (k:=8) (bc x Z) (Up.o (k:=128) (bc y Z) Up.last Z) Z) Z) Z)))) Z ?_
 refine al a Z Z (fun w hF=>aB Z) Z (al a Z Z (fun w hF=>aB Z) Z (bn a ?_))
 refine O (J (af (P 1 Z ?_)))
 refine am (aq Z Z (dS _ t 8 (by decide))) Z ?_
 refine P 1 Z ?_
 refine H (O (J (af ?_)))
 refine aT (cV (e:=e8) (l:=[128]) (vs:=[v8 128]) u24 ti5 Z Z Z Z (by decide) (by decide) a) Z ?_
 rintro bN w a
 refine P 1 Z ?_
 refine H (O (J (aD ?_)))
 refine au [(3,N p 0),(4,vI t),(5,v64 b),(6,vI (wI (Int.tdiv t 8))),(7,bN)] ⟨Z,Z,Z,Z,Z,V⟩ ?_
 refine bj (F.EH b t d f j n) (fun (s:List UInt8) L w=>∃(aU:Value),L=[(3,N p 0),(4,vI t),(5,v64 b),(6,vI (wI (Int.tdiv t 8))),(7,aU)]∧St S B w [M e8 aU s,X p ([vI d]++(U.fl f++(e64.fl j++(e8.fl n++[v64 b])))),X q ([vI d]++(U.fl f++(e64.fl j++(e8.fl n++[v64 b]))))]) ?_ [128] ⟨bN,Z,a⟩ h
 rintro b5 bO L w b6 hI bm h a1
 try dsimp only at hI
 obtain ⟨aU,rfl,a⟩:=hI
 unfold F.EH at h
 refine J (J (af (P 2 Z ?_)))
 refine am (aM Z (ff Tryz.underlying3 u87 t)) Z ?_
 obtain ⟨bp,h⟩:=bZ h
 refine am (aq Z Z (fe _ b (UInt64.ofInt t) bp)) Z (am (aM Z (mi u87 Tryz.underlying3 (b%(UInt64.ofInt t)))) Z (P 1 Z ?_))
 refine am (aN u24 Z (a.ro 0 Z)) Z (P 2 Z ?_)
 obtain ⟨bq,h⟩:=bZ h
 refine am (aq Z Z (km _ (wI ((wI ((b%(UInt64.ofInt t)).toNat:Int))+(bO.length:Int))) t bq)) Z (P 4 Z ?_)
 refine H (O ?_)
 refine ax Z (fun T=>?_) (fun T=>?_)
 ·have h:=aI h T
  refine ay (O (aD ?_))
  refine af (P 1 Z ?_)
  refine aT (cV (e:=e8) (l:=[0]) (vs:=[v8 0]) u24 ti5 Z Z Z Z (by decide) (by decide) a) Z ?_
  rintro b7 w a
  obtain ⟨bQ,br,h⟩:=aj h
  refine aT (jj u24 ti5 Z Z Z a (i:=1) Z (a.ro 0 Z) br) Z ?_
  rintro bR w a
  refine P 1 Z ?_
  refine H (aR ?_)
  exact bA (bz _ (by exact ⟨Z,Z,Z,Z,Z,V⟩) (bm bQ _ _ ⟨bR,Z,(a.e [1,2,3] Z Z)⟩ (a8 h a1)))
 have h:=aH h T
 refine bd ?_
 refine aG (aG ?_)
 have h:=aW h a1
 refine bf ?_
 refine O (J (J (af (P 2 Z ?_))))
 obtain ⟨aX,bs,h⟩:=aO h
 refine am (aB (v:=vI aX) (by rw [←bs]; rfl)) Z ?_
 refine H (O (aD ?_))
 refine au [(3,N p 0),(5,v64 b),(7,aU),(8,vI aX)] ⟨Z,Z,Z,Z,V⟩ ?_
 refine bj (F.CJ d f j n b) (fun (s:List UInt8×Int) L w=>∃(C:Value),L=[(3,N p 0),(5,v64 b),(7,C),(8,vI s.2)]∧St S B w [M e8 C s.1,X p ([vI d]++(U.fl f++(e64.fl j++(e8.fl n++[v64 b])))),X q ([vI d]++(U.fl f++(e64.fl j++(e8.fl n++[v64 b]))))]) ?_ (bO,aX) ⟨aU,Z,a⟩ h
 rintro b8 ⟨a0,D⟩ L w bT hI bt h a2
 try dsimp only at hI
 obtain ⟨C,rfl,a⟩:=hI
 unfold F.CJ at h
 refine J (J (af (P 2 Z ?_)))
 refine H (O ?_)
 refine ax Z (fun ab=>?_) (fun ab=>?_)
 ·have h:=aI h ab
  refine ay (O (J (aD ?_)))
  refine J (af (P 1 Z ?_))
  refine H (O ?_)
  refine a9 (r:=bT) (fun (g:UInt8) L w=>L=[(3,N p 0),(5,v64 b),(7,C),(8,vI D),(9,v8 g)]∧St S B w [X p ([vI d]++(U.fl f++(e64.fl j++(e8.fl n++[v64 b])))),M e8 C a0,X q ([vI d]++(U.fl f++(e64.fl j++(e8.fl n++[v64 b]))))]) (F.C3 a0 D) ?_ ?_
  rotate_left
  ·intro ac
   refine aD ?_
   refine J (af (P 3 Z ?_))
   refine H (O ?_)
   refine ax Z (fun ad=>?_) (fun ad=>?_)
   ·have h:=aI h ad
    refine af (P 1 Z ?_)
    refine am (aq Z Z (c9 _ b 3)) Z (P 1 Z ?_)
    refine am (aq Z Z (fF _ 8 D)) Z ?_
    obtain ⟨bu,h⟩:=bZ h
    refine am (aq Z Z (lH _ (bo b 3) (wI (8*D)) bu)) Z (am (aM Z (pe u87 Tryz.underlying5 (aP (bo b 3) (((wI (8*D))).toNat)))) Z ?_)
    obtain ⟨be,bv,h⟩:=aO h
    refine am (aB (v:=v8 be) (by rw [←bv]; rfl)) Z ?_
    refine H (aR ?_)
    refine O ?_
    exact au _ (by exact ⟨Z,Z,Z,Z,Z,V⟩) (ac be _ _ ⟨Z,(a.e [1,0,2] Z Z)⟩ h)
   have h:=aH h ad
   refine J (af (P 3 Z ?_))
   refine H (O ?_)
   refine ax Z (fun ag=>?_) (fun ag=>?_)
   ·have h:=aI h ag
    refine af (P 1 Z ?_)
    refine am (aq Z Z (cp _ b 61)) Z (am (aM Z (pe u87 Tryz.underlying5 (aP b 61))) Z (P 1 Z ?_))
    refine H (aR ?_)
    refine O ?_
    exact au _ (by exact ⟨Z,Z,Z,Z,Z,V⟩) (ac ((aP b 61).toUInt8) _ _ ⟨Z,(a.e [1,0,2] Z Z)⟩ h)
   have h:=aH h ag
   refine ay (aR ?_)
   refine O ?_
   exact au _ (by exact ⟨Z,Z,Z,Z,Z,V⟩) (ac 0 _ _ ⟨Z,(a.e [1,0,2] Z Z)⟩ h)
  rintro bh L w hJ h
  try dsimp only at hJ
  obtain ⟨rfl,a⟩:=hJ
  unfold F.C3 at h
  refine af (P 2 Z ?_)
  refine aT (cV (e:=e8) (l:=[bh]) (vs:=[v8 bh]) u24 ti5 Z Z Z Z (by decide) (by decide) a) Z ?_
  rintro b9 w a
  obtain ⟨bU,bw,h⟩:=aj h
  refine aT (jj u24 ti5 Z Z Z a (i:=2) Z (a.ro 0 Z) bw) Z ?_
  rintro bV w a
  refine P 1 Z ?_
  refine H (aR ?_)
  refine O (af (P 3 Z ?_))
  refine H ?_
  exact bA (bz _ (by exact ⟨Z,Z,Z,Z,V⟩) (bt (bU,wI (D - 1)) _ _ ⟨bV,Z,(a.e [2,1,3] Z Z)⟩ (a8 h a2)))
 have h:=aH h ab
 refine bd ?_
 refine aG (aG ?_)
 have h:=aW h a2
 refine bf ?_
 refine O (J (af (P 1 Z ?_)))
 have hG:=a.pick (os':=[X p ([vI d]++(U.fl f++(e64.fl j++(e8.fl n++[v64 b]))))]++[M e8 C a0,X q ([vI d]++(U.fl f++(e64.fl j++(e8.fl n++[v64 b]))))]) [1,0,2] (by decide) Z
 obtain ⟨c,bD,h⟩:=aj h
 refine ao Z (iS d f j n b bD hG.g (hT.g hG) u x y (hG.giveO 0 Z)) Z ?_
 rintro _ w ⟨rfl,ak,a3,b3,E⟩
 have a:=hG.h E
 refine H (O (J (af (P 1 Z ?_))))
 refine H (O (J (J (af (am (av (k:=0) u168 Z Z pf Z) Z (am (aC u22 Z Z (a.s 0 Z (Up.get0 Up.p))) Z (P 1 Z ?_)))))))
 refine H (O ?_)
 refine ax Z (fun an=>?_) (fun an=>?_)
 ·have h:=aI h an
  refine J (J (af (am (av (k:=1) u168 Z Z f6 Z) Z (am (i3 (us:=U.fl c.2.1) u165 Z uh (bc ak Z) Z (a.bxgs0 0 Z (Up.o (k:=1) Z Up.p Z))) Z (P 1 Z ?_)))))
  refine H (O (aD ?_))
  refine au [(10,.slice none 0 0),(75,.agg (U.fl c.2.1).toArray),(76,vI 0)] ⟨Z,Z,Z,V⟩ ?_
  refine bj (F.DH d f j n b c) (fun (s:List UInt8×Int) L w=>∃(ap:Value),L=[(10,ap),(75,.agg (U.fl c.2.1).toArray),(76,vI s.2)]∧St S B w [M e8 ap s.1,X q ([vI d]++(U.fl f++(e64.fl j++(e8.fl n++[v64 b]))))]) ?_ ([],0) ⟨.slice none 0 0,Z,((a.nil e8).e [0,3] Z Z)⟩ h
  rintro ca ⟨cb,bW⟩ L w cc hI bE h a4
  try dsimp only at hI
  obtain ⟨ap,rfl,a⟩:=hI
  unfold F.DH at h
  refine J (af (P 1 Z ?_))
  refine H (O (J ?_))
  refine ax Z (fun az=>?_) (fun az=>?_)
  ·have h:=aI h az
   refine ay (O (J (aD ?_)))
   refine J (af ?_)
   obtain ⟨o,a5,h⟩:=aj h
   refine am (kC (cs:=(U.fl c.2.1).toArray) u165 u38 Z em Z Z (bK a5 ak) (mh a5 Z)) Z (P 1 Z ?_)
   refine H (O (af (P 2 Z ?_)))
   refine am (aq Z Z (dk _ o 24)) Z (am (aM Z (ii u38 Tryz.underlying5 (bB o 24))) Z (P 1 Z ?_))
   refine am (aq Z Z (dk _ o 16)) Z (am (aM Z (ii u38 Tryz.underlying5 (bB o 16))) Z (P 1 Z ?_))
   refine am (aq Z Z (dk _ o 8)) Z (am (aM Z (ii u38 Tryz.underlying5 (bB o 8))) Z (P 1 Z ?_))
   refine am (aM Z (ii u38 Tryz.underlying5 o)) Z ?_
   refine aT (cV (e:=e8) (l:=[(bB o 24).toUInt8,(bB o 16).toUInt8,(bB o 8).toUInt8,o.toUInt8]) (vs:=[v8 ((bB o 24).toUInt8),v8 ((bB o 16).toUInt8),v8 ((bB o 8).toUInt8),v8 o.toUInt8]) u24 ti5 Z Z Z Z (by decide) (by decide) a) Z ?_
   rintro cd w a
   obtain ⟨bX,bF,h⟩:=aj h
   refine aT (jj u24 ti5 Z Z Z a (i:=1) Z (a.ro 0 Z) bF) Z ?_
   rintro bY w a
   refine P 1 Z ?_
   refine H (aR ?_)
   refine O (af (P 2 Z ?_))
   refine H ?_
   exact bA (bz _ (by exact ⟨Z,Z,Z,V⟩) (bE (bX,wI (bW+1)) _ _ ⟨bY,Z,(a.e [1,2] Z Z)⟩ (a8 h a4)))
  have h:=aH h az
  refine bd ?_
  refine aG (aG ?_)
  have h:=aW h a4
  refine bf ?_
  refine O (J (af (P 2 Z ?_)))
  refine H (O (aw (aE ?_)))
  cases h
  exact aF Z Z ⟨ap,Z,u,x,y,a.e [0,1] Z Z⟩
 have h:=aH h an
 refine ay (O (J (J (af (am (av (k:=9) u168 Z Z fM Z) Z (am (i3 (us:=e64.fl c.2.2.1) u160 Z oD (bc a3 Z) Z (a.bxgs0 0 Z (Up.o (k:=1) Z (Up.o (k:=8) (bc ak Z) Up.p Z) Z))) Z ?_))))))
 refine P 1 Z ?_
 refine H (O (aD ?_))
 refine au [(3,N p 0),(10,.slice none 0 0),(96,.agg (e64.fl c.2.2.1).toArray),(97,vI 0)] ⟨Z,Z,Z,Z,V⟩ ?_
 refine bj (F.Cy d f j n b c) (fun (s:List UInt8×Int) L w=>∃(z:Value),L=[(3,N p 0),(10,z),(96,.agg (e64.fl c.2.2.1).toArray),(97,vI s.2)]∧St S B w [M e8 z s.1,X p ([vI c.1]++(U.fl c.2.1++(e64.fl c.2.2.1++(e8.fl c.2.2.2.1++[v64 c.2.2.2.2])))),X q ([vI d]++(U.fl f++(e64.fl j++(e8.fl n++[v64 b]))))]) ?_ ([],0) ⟨.slice none 0 0,Z,((a.nil e8).e [0,1,3] Z Z)⟩ h
 rintro ce ⟨bi,aA⟩ L w cf hI bG h a6
 try dsimp only at hI
 obtain ⟨z,rfl,a⟩:=hI
 unfold F.Cy at h
 refine J (af (P 1 Z ?_))
 refine H (O (J ?_))
 refine ax Z (fun aL=>?_) (fun aL=>?_)
 ·have h:=aI h aL
  refine ay (O (J (aD ?_)))
  refine J (af ?_)
  obtain ⟨A,a7,h⟩:=aj h
  refine am (kC (cs:=(e64.fl c.2.2.1).toArray) u160 u87 Z dP Z Z (bK a7 a3) (mh a7 Z)) Z (P 1 Z ?_)
  refine H (O (J (af (P 1 Z ?_))))
  refine H (O (aD ?_))
  refine au [(3,N p 0),(10,z),(14,v64 A),(15,vI 56),(96,.agg (e64.fl c.2.2.1).toArray),(97,vI aA)] ⟨Z,Z,Z,Z,Z,Z,V⟩ ?_
  refine bj (F.Ez aA A) (fun (s:List UInt8×Int) L w=>∃(aQ:Value),L=[(3,N p 0),(10,aQ),(14,v64 A),(15,vI s.2),(96,.agg (e64.fl c.2.2.1).toArray),(97,vI aA)]∧St S B w [M e8 aQ s.1,X p ([vI c.1]++(U.fl c.2.1++(e64.fl c.2.2.1++(e8.fl c.2.2.2.1++[v64 c.2.2.2.2])))),X q ([vI d]++(U.fl f++(e64.fl j++(e8.fl n++[v64 b]))))]) ?_ (bi,56) ⟨z,Z,a⟩ h
  rintro cg ⟨b0,G⟩ L w ch hI bH h ba
  try dsimp only at hI
  obtain ⟨aQ,rfl,a⟩:=hI
  unfold F.Ez at h
  refine J (J (af (P 2 Z ?_)))
  refine H (O ?_)
  refine ax Z (fun aS=>?_) (fun aS=>?_)
  ·have h:=aI h aS
   refine ay (O (J (aD ?_)))
   refine af (P 3 Z ?_)
   obtain ⟨bI,h⟩:=bZ h
   refine am (aq Z Z (lH _ A G bI)) Z (am (aM Z (pe u87 Tryz.underlying5 (aP A ((G).toNat)))) Z ?_)
   refine aT (cV (e:=e8) (l:=[(aP A ((G).toNat)).toUInt8]) (vs:=[v8 ((aP A ((G).toNat)).toUInt8)]) u24 ti5 Z Z Z Z (by decide) (by decide) a) Z ?_
   rintro ci w a
   obtain ⟨b1,bJ,h⟩:=aj h
   refine aT (jj u24 ti5 Z Z Z a (i:=1) Z (a.ro 0 Z) bJ) Z ?_
   rintro b2 w a
   refine P 1 Z ?_
   refine H (aR ?_)
   refine O (af (P 3 Z ?_))
   refine H ?_
   exact bA (bz _ (by exact ⟨Z,Z,Z,Z,Z,Z,V⟩) (bH (b1,wI (G - 8)) _ _ ⟨b2,Z,(a.e [1,2,3] Z Z)⟩ (a8 h ba)))
  have h:=aH h aS
  refine bd ?_
  refine aG (aG ?_)
  have h:=aW h ba
  refine bf ?_
  refine aR ?_
  refine O (af (P 2 Z ?_))
  refine H ?_
  exact bA (bz _ (by exact ⟨Z,Z,Z,Z,V⟩) (bG (b0,wI (aA+1)) _ _ ⟨aQ,Z,a⟩ (a8 h a6)))
 have h:=aH h aL
 refine bd ?_
 refine aG (aG ?_)
 have h:=aW h a6
 refine bf ?_
 refine O (J ?_)
 refine aZ (fun w'=>St S B w' [M e8 z bi,X p ([vI c.1]++(U.fl c.2.1++(e64.fl c.2.2.1++(e8.fl c.2.2.2.1++[v64 c.2.2.2.2])))),X q ([vI d]++(U.fl f++(e64.fl j++(e8.fl n++[v64 b]))))]) (fun i=>!([3,6].contains i)) bS (fun _ _ _ hf=>hf.2) (fun _ _ hf=>hf) (by kernel_rfl) ?_
 have a:=a.drew
 show lxE _ _ _ _ _ _ _ [0,1,2,3,4,5,6,7,8] _ _
 refine al a Z Z (fun w hF=>ar Z) Z (al a Z Z (fun w hF=>av (k:=0) u168 Z Z pf Z) Z (al a Z Z (fun w hF=>aC u22 Z Z (hF.s 1 Z (Up.get0 Up.p))) Z ?_))
 obtain ⟨bl,bL,h⟩:=aj h
 refine bg a Z Z (by kernel_rfl) Z (gw c.1 bL ) Z ?_
 rintro _ w ⟨rfl,E⟩
 have a:=a.f E
 refine al a Z Z (fun w hF=>av (k:=0) u168 Z Z pf Z) Z (al a Z Z (fun w hF=>aC u22 Z Z (hF.s 1 Z (Up.get0 Up.p))) Z ?_)
 obtain ⟨cj,bM,h⟩:=aj h
 refine bg a Z Z (by kernel_rfl) Z (gw c.1 bM ) Z ?_
 rintro _ w ⟨rfl,E⟩
 have a:=a.f E
 obtain ⟨bb,h⟩:=bZ h
 refine al a Z Z (fun w hF=>rc u24 ti5 Z Z Z (hF.ro 0 Z) bb) Z (al a Z Z (fun w hF=>aB Z) Z (bn a ?_))
 refine O (aw ?_)
 cases h
 replace a:=a.trunc3 (i:=0) rfl bb.2.1
 exact aF Z Z ⟨slV3 z e8.sz 0 ((bl:Int).toNat) ((bl:Int).toNat),Z,u,x,y,a.e [0,2] Z Z⟩
theorem pG {t:World} {a1:List (List UInt8)} {o:Value} {s1:List SV} (a0:Int) {r:List UInt8}
  (h:F.Dl a0 a1=some r) (hT:TB [] t) (B:RP [] t eV o s1) (hl1:gA [] t e8 s1 a1):Calls Tryz.prog 67 #[vI a0,o] t (Ret fun v w=>St [] t w [M e8 v r]):=by
 refine aJ 24 Tryz.func67 Z Z Z ?_
 have a:=St.l t
 refine au [(0,vI a0),(1,o)] ⟨Z,Z,V⟩ ?_
 unfold F.Dl at h
 refine J (af (P 1 Z ?_))
 refine H (O (J (af (P 1 Z ?_))))
 obtain ⟨av,ak,h⟩:=aj h
 refine ao Z (vK a0 ak (hT.d a.fr)) Z ?_
 rintro _ w ⟨aQ,rfl,c,al,b⟩
 cases d:av with
 | none=>
  have h:=fx h d
  rw [d]at c b
  simp only [Option.map_none,yr]at c
  subst c
  simp only [Option.map_none,xp,List.nil_append]at b
  have a:=a.f b
  refine P 1 Z ?_
  refine H (O (J (J (af (P 1 Z ?_)))))
  refine am (aq Z Z (sQ Tryz.underlying136)) Z (H (O (dZ Z ?_)))
  refine J (af (P 1 Z ?_))
  refine H (O (aw (aE ?_)))
  cases h
  exact aF Z Z ((a.nil e8).e [0] Z Z)
 | some f=>
  have h:=fv h d
  rw [d]at c b
  simp only [Option.map_some,yr]at c
  obtain ⟨g,rfl⟩:=c
  simp only [Option.map_some,xp,List.singleton_append,List.cons_append,List.nil_append]at b
  have a:=a.f b
  obtain ⟨an,ap,D⟩:=al f d
  refine P 1 Z ?_
  refine H (O (J (J (af (P 1 Z ?_)))))
  refine am (aq Z Z (sM Tryz.underlying136 g 0)) Z (H (O (fE Z ?_)))
  refine ay (O (J (J (af (P 1 Z ?_)))))
  refine am (uM u56 Z (B.d a.fr) hl1.len) Z (P 1 Z ?_)
  refine H (O (aD ?_))
  refine au [(5,N g 0),(12,o),(13,vI (a1.length:Int)),(14,vI 0)] ⟨Z,Z,Z,Z,V⟩ ?_
  refine bj (F.CK a1) (fun (s:Int×Int×List UInt32×List UInt64×List UInt8×UInt64) L w=>L=[(5,N g 0),(12,o),(13,vI (a1.length:Int)),(14,vI s.1)]∧s.2.2.1.length=8∧s.2.2.2.1.length=8∧s.2.2.2.2.1.length=128∧St [] t w [X g ([vI s.2.1]++(U.fl s.2.2.1++(e64.fl s.2.2.2.1++(e8.fl s.2.2.2.2.1++[v64 s.2.2.2.2.2]))))]) ?_ (0,f.1,f.2.1,f.2.2.1,f.2.2.2.1,f.2.2.2.2) ⟨Z,an,ap,D,a⟩ h
  rintro aL ⟨ar,i,j,k,l,m⟩ L w aM hI E h u
  try dsimp only at hI
  obtain ⟨rfl,x,y,z,a⟩:=hI
  unfold F.CK at h
  refine J (af (P 1 Z ?_))
  refine H (O (J ?_))
  refine ax Z (fun n=>?_) (fun n=>?_)
  ·have h:=aI h n
   refine ay (O (J (aD ?_)))
   refine J (af ?_)
   obtain ⟨aN,G,h⟩:=aj h
   obtain ⟨az,p,A⟩:=hl1.get G
   refine am (bm u56 xj Z Z (B.d a.fr) p) Z (am (bb u24 Z Z (B.d a.fr) p Z) Z (P 1 Z ?_))
   refine H (O (af (P 2 Z ?_)))
   have q:=a.pick (os':=[X g ([vI i]++(U.fl j++(e64.fl k++(e8.fl l++[v64 m]))))]++[]) [0] (by decide) Z
   obtain ⟨e,S,h⟩:=aj h
   refine ao Z (iS i j k l m S q.g (hT.g q) x y z (A.g (R Z) q)) Z ?_
   rintro _ w ⟨rfl,T,ab,ac,b⟩
   have a:=q.h b
   refine H (aR ?_)
   refine O (af (P 2 Z ?_))
   refine H ?_
   exact bA (bz _ (by exact ⟨Z,Z,Z,Z,V⟩) (E (wI (ar+1),e.1,e.2.1,e.2.2.1,e.2.2.2.1,e.2.2.2.2) _ _ ⟨Z,T,ab,ac,a⟩ (a8 h u)))
  have h:=aH h n
  refine bd ?_
  refine aG (aG ?_)
  have h:=aW h u
  refine bf ?_
  refine O (J (af (P 1 Z ?_)))
  have q:=a.pick (os':=[X g ([vI i]++(U.fl j++(e64.fl k++(e8.fl l++[v64 m]))))]++[]) [0] (by decide) Z
  obtain ⟨aO,ad,h⟩:=aj h
  refine ao Z (oC i j k l m ad q.g (hT.g q) x y z) Z ?_
  rintro aP w ⟨aA,C,aB,aC,aK,b⟩
  rw [←C]at b
  have a:=q.h b
  refine P 1 Z ?_
  refine H (O (aw ?_))
  cases h
  exact aF Z Z (a.e [0] Z Z)
end Go.Proofs
