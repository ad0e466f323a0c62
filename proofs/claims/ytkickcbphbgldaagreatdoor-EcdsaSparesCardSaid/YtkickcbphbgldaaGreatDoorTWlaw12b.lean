import Derived.Test.YtkickcbphbgldaaGreatDoorTW0
import Derived.Test.YtkickcbphbgldaaGreatDoorGkFman
import Derived.Test.YtkickcbphbgldaaGreatDoorTWcurved
import Derived.Test.YtkickcbphbgldaaGreatDoorTWecdsa
import Derived.Test.YtkickcbphbgldaaGreatDoorTWlaw12a
import Derived.Test.YtkickcbphbgldaaGreatDoorTWnatb
import Derived.Test.YtkickcbphbgldaaGreatDoorTWshab
set_option linter.unusedVariables false
set_option linter.unusedSimpArgs false
set_option linter.unusedSectionVars false
set_option maxRecDepth 4000
namespace Go.Proofs
open Go Go.RowKit Go.Gk
open Go.Gk renaming aa → Q, ae → N, af → H, ah → M, ai → J, e32 → U, own → O, pB → K
open Go.Gk.OE renaming bx → X
set_option maxHeartbeats 8000000 in
theorem c_law12_EcdsaSpares {w0:World} {a2:List UInt8} {a3:List UInt32} {ak am:Value} (a0 a1:Int) {r:Bool}
  (h:F.FR a0 a1 a2 a3=some r) (hT:TB [] w0) (dd:RP [] w0 e8 ak a2) (de:RP [] w0 U am a3):Calls Tryz.prog 7 #[vI a0,vI a1,ak,am] w0 (Ret fun v w=>v=vB r∧St [] w0 w []):=by
 refine aN 248 Tryz.func7 Z Z Z ?_
 have a:=St.l w0
 refine ar [(0,vI a0),(1,vI a1),(2,ak),(3,am)] ⟨Z,Z,Z,Z,V⟩ ?_
 unfold F.FR at h
 refine M (H (Q 1 Z ?_))
 refine J (N (M (M (H ?_))))
 obtain ⟨fo,el,h⟩:=aj h
 refine ao Z (pO  el (hT.d a.fr)) Z ?_
 rintro _ w ⟨rfl,an⟩
 have a:=a.f an
 refine Q 1 Z ?_
 refine J (N ?_)
 refine av Z (fun bW=>?_) (fun bW=>?_)
 ·have h:=aJ h bW
  refine M (H (Q 1 Z ?_))
  refine J (N (ay (aG ?_)))
  cases h
  exact aM Z Z ⟨Z,a⟩
 have h:=aI h bW
 refine aw (N (M (H (Q 1 Z ?_))))
 obtain ⟨q,em,h⟩:=aj h
 refine ao Z (lZ a1 em ) Z ?_
 rintro _ w ⟨G,S,rfl,an⟩
 have a:=a.f an
 refine aU (bg (cs:=[.slice none 0 0,.slice none 0 0,vB false]) kE Z a) Z ?_
 rintro _ w ⟨D,rfl,a⟩
 refine bn (bA (i:=0) (us:=[G,S,vB q.2.2]) Z cx Z Z Z ⟨(a.ro 1 Z).one,(a.ro 2 Z).one,Z,V⟩ Z a) ?_
 intro w a
 refine J (N (M (H (Q 1 Z ?_))))
 obtain ⟨ek,en,h⟩:=aj h
 refine ao Z (fW a1 en ) Z ?_
 rintro df w an
 have a:=a.f an
 refine Q 1 Z ?_
 refine J (N (M ?_))
 refine bf (r:=r) (fun (g:Bool) L w=>L=[(0,vI a0),(1,vI a1),(2,ak),(3,am),(9,K D 0),(10,df),(47,vB g)]∧St [] w0 w [X D [G,S,vB q.2.2],O U G q.1,O U S q.2.1,O U df ek]) (F.Eb a0 a1 a2 a3 q ek) ?_ ?_
 rotate_left
 ·intro cL
  refine H (Q 1 Z ?_)
  obtain ⟨eo,dB,h⟩:=aj h
  refine ao Z (gk a1 dB ) Z ?_
  rintro _ w ⟨rfl,an⟩
  have a:=a.f an
  refine Q 2 Z ?_
  cases bQ:(eo == 0)
  case true=>
   have h:=aJ h bQ
   try simp only [bQ]
   refine Q 4 Z ?_
   refine J (N ?_)
   exact ar _ (by exact ⟨Z,Z,Z,Z,Z,Z,Z,V⟩) (cL true _ _ ⟨Z,(a.e [1,2,3,0] Z Z)⟩ h)
  case false=>
   have h:=aI h bQ
   try simp only [bQ]
   refine Q 1 Z ?_
   obtain ⟨ep,dC,h⟩:=aj h
   refine cr (t:=43) Z Z (by kernel_rfl) Z (gq a0 dC ) Z ?_
   rintro _ w ⟨rfl,an⟩
   have a:=a.f an
   refine Q 2 Z ?_
   refine J (N ?_)
   exact ar _ (by exact ⟨Z,Z,Z,Z,Z,Z,Z,V⟩) (cL (ep == 0) _ _ ⟨Z,(a.e [1,2,3,0] Z Z)⟩ h)
 rintro e7 L w hJ h
 try dsimp only at hJ
 obtain ⟨rfl,a⟩:=hJ
 unfold F.Eb at h
 refine av Z (fun bX=>?_) (fun bX=>?_)
 ·have h:=aJ h bX
  refine M (H (Q 1 Z ?_))
  refine J (N (ay (aG ?_)))
  cases h
  exact aM Z Z ⟨Z,a.e [] Z Z⟩
 have h:=aI h bX
 refine aw (N (M (H (al (ax (k:=0) u33 Z Z rZ Z) Z (al (aH u31 Z Z (a.r 0 Z 0)) Z (Q 1 Z ?_))))))
 obtain ⟨E,dD,h⟩:=aj h
 refine ao Z (gA  dD (a.ro 1 Z).rp (a.ro 3 Z).rp) Z ?_
 rintro _ w ⟨e9,z,rfl,an⟩
 have a:=a.f an
 refine Q 7 Z ?_
 refine J (N (M (H (Q 5 Z ?_))))
 refine al (bO (us:=[G,S,vB q.2.2]) u33 Z cx Z (a.q 2 Z Z)) Z ?_
 obtain ⟨y,dE,h⟩:=aj h
 refine ao Z (fg a0 a1 q.2.2 dE (hT.d a.fr) (dd.d a.fr).rp (a.ro 1 Z).rp (de.d a.fr).rp (a.ro 3 Z).rp (a.ro 4 Z).rp) Z ?_
 rintro _ w ⟨b,c,rfl,an⟩
 have a:=a.f an
 refine Q 7 Z ?_
 refine J (N (M (H (Q 5 Z ?_))))
 refine al (bO (us:=[G,S,vB q.2.2]) u33 Z cx Z (a.q 4 Z Z)) Z ?_
 obtain ⟨aZ,dF,h⟩:=aj h
 refine ao Z (fg a0 a1 q.2.2 dF (hT.d a.fr) (dd.d a.fr).rp (a.ro 3 Z).rp (de.d a.fr).rp (a.ro 5 Z).rp (a.ro 6 Z).rp) Z ?_
 rintro _ w ⟨d,f,rfl,an⟩
 have a:=a.f an
 refine Q 7 Z ?_
 refine J (N (M ?_))
 refine bf (r:=r) (fun (g:Bool) L w=>L=[(0,vI a0),(1,vI a1),(2,ak),(3,am),(9,K D 0),(12,z),(14,b),(15,c),(16,vI y.2.2),(17,d),(18,f),(96,vB g)]∧St [] w0 w [X D [G,S,vB q.2.2],O U G q.1,O U S q.2.1,O U z E.2.1,O e8 b y.1,O e8 c y.2.1,O e8 d aZ.1,O e8 f aZ.2.1]) (F.Dm y aZ a0 a1 a2 a3 q E) ?_ ?_
 rotate_left
 ·intro bR
  refine H (Q 3 Z ?_)
  cases bT:(E.2.2 != 0)
  case true=>
   have h:=aJ h bT
   try simp only [bT]
   refine Q 16 Z ?_
   refine J (N ?_)
   exact ar _ (by exact ⟨Z,Z,Z,Z,Z,Z,Z,Z,Z,Z,Z,Z,V⟩) (bR true _ _ ⟨Z,(a.e [6,7,8,5,2,3,0,1] Z Z)⟩ h)
  case false=>
   have h:=aI h bT
   try simp only [bT]
   refine Q 5 Z ?_
   cases bU:(y.2.2 != aZ.2.2)
   case true=>
    have h:=aJ h bU
    try simp only [bU]
    refine Q 11 Z ?_
    refine J (N ?_)
    exact ar _ (by exact ⟨Z,Z,Z,Z,Z,Z,Z,Z,Z,Z,Z,Z,V⟩) (bR true _ _ ⟨Z,(a.e [6,7,8,5,2,3,0,1] Z Z)⟩ h)
   case false=>
    have h:=aI h bU
    try simp only [bU]
    refine Q 2 Z ?_
    obtain ⟨eq,dH,h⟩:=aj h
    refine cr (t:=85) Z Z (by kernel_rfl) Z (gu  dH (a.ro 2 Z).rp (a.ro 0 Z).rp) Z ?_
    rintro _ w ⟨rfl,an⟩
    have a:=a.f an
    refine Q 3 Z ?_
    cases bV:(!eq)
    case true=>
     have h:=aJ h bV
     try simp only [bV]
     refine Q 5 Z ?_
     refine J (N ?_)
     exact ar _ (by exact ⟨Z,Z,Z,Z,Z,Z,Z,Z,Z,Z,Z,Z,V⟩) (bR true _ _ ⟨Z,(a.e [6,7,8,5,2,3,0,1] Z Z)⟩ h)
    case false=>
     have h:=aI h bV
     try simp only [bV]
     refine Q 2 Z ?_
     obtain ⟨er,dI,h⟩:=aj h
     refine cr (t:=91) Z Z (by kernel_rfl) Z (gu  dI (a.ro 3 Z).rp (a.ro 1 Z).rp) Z ?_
     rintro _ w ⟨rfl,an⟩
     have a:=a.f an
     refine Q 2 Z ?_
     refine J (N ?_)
     exact ar _ (by exact ⟨Z,Z,Z,Z,Z,Z,Z,Z,Z,Z,Z,Z,V⟩) (bR (!er) _ _ ⟨Z,(a.e [6,7,8,5,2,3,0,1] Z Z)⟩ h)
 rintro fa L w hJ h
 try dsimp only at hJ
 obtain ⟨rfl,a⟩:=hJ
 unfold F.Dm at h
 refine av Z (fun bY=>?_) (fun bY=>?_)
 ·have h:=aJ h bY
  refine M (H (Q 1 Z ?_))
  refine J (N (ay (aG ?_)))
  cases h
  exact aM Z Z ⟨Z,a.e [] Z Z⟩
 have h:=aI h bY
 refine aw (N (M (H (Q 1 Z ?_))))
 obtain ⟨u,dK,h⟩:=aj h
 refine ao Z (kU  dK (a.ro 4 Z).rp) Z ?_
 rintro _ w ⟨A,rfl,dL,an⟩
 have a:=a.f an
 refine Q 1 Z ?_
 refine J (N (M (H (Q 1 Z ?_))))
 obtain ⟨x,dM,h⟩:=aj h
 refine ao Z (kU  dM (a.ro 6 Z).rp) Z ?_
 rintro _ w ⟨B,rfl,dN,an⟩
 have a:=a.f an
 refine Q 1 Z ?_
 refine J (N (M (H (Q 4 Z ?_))))
 refine aU (ci (e:=eV) (l:=([SV.of b,SV.of c,SV.of d,SV.of f]:List SV)) (vs:=[b,c,d,f]) u56 cd Z Z Z (dG (a.ro 6 Z).sv (dG (a.ro 7 Z).sv (dG (a.ro 8 Z).sv (dG (a.ro 9 Z).sv Z)))) (by decide) (by decide) a) Z ?_
 rintro C w a
 refine Q 1 Z ?_
 refine J (N (M (M (H (Q 1 Z ?_)))))
 refine J (N (az ?_))
 refine kH 100 ?_
 refine dc ?_
 refine M (M (H (Q 2 Z ?_)))
 refine al (show OpV _ _ _ _ _ (vI 4) _ from aL u56 Z (a.ro 0 Z)) Z (al (aq Z Z (dQ _ 0 4)) Z (J (N (cn Z ?_))))
 refine aw (N (M (az ?_)))
 refine M (H (Q 1 Z ?_))
 refine J (N (az ?_))
 refine ar [(0,vI a0),(1,vI a1),(2,ak),(3,am),(9,K D 0),(12,z),(16,vI y.2.2),(20,slV A e8.sz 0 u.2),(21,slV B e8.sz 0 x.2),(22,C),(23,vI 0),(24,vI 0)] ⟨Z,Z,Z,Z,Z,Z,Z,Z,Z,Z,Z,Z,V⟩ ?_
 refine bd (F.Gf y aZ a0 a1 a2 a3 q E u x) (fun (s:Int×List UInt8) L w=>L=[(0,vI a0),(1,vI a1),(2,ak),(3,am),(9,K D 0),(12,z),(16,vI y.2.2),(20,slV A e8.sz 0 u.2),(21,slV B e8.sz 0 x.2),(22,C),(23,vI 0),(24,vI s.1)]∧St [] w0 w [X D [G,S,vB q.2.2],O U G q.1,O U S q.2.1,O U z E.2.1,O e8 A u.1,O e8 B x.1,O eV C ([SV.of b,SV.of c,SV.of d,SV.of f]:List SV),O e8 b s.2,O e8 c y.2.1,O e8 d aZ.1,O e8 f aZ.2.1]) ?_ (0,y.1) ⟨Z,(a.e [3,4,5,6,2,1,0,7,8,9,10] Z Z)⟩ h
 rintro eE ⟨es,T⟩ L w fb hI dO h cM
 try dsimp only at hI
 obtain ⟨rfl,a⟩:=hI
 unfold F.Gf at h
 refine M (M (H (Q 3 Z ?_)))
 refine al (aW u56 cd Z Z (a.ro 6 Z) (show aB ([SV.of b,SV.of c,SV.of d,SV.of f]:List SV) (0:Int)=some (SV.of b) from Z)) Z ?_
 refine al (aR u24 Z Z (a.ro 6 Z) (show aB ([SV.of b,SV.of c,SV.of d,SV.of f]:List SV) (0:Int)=some (SV.of b) from Z) (eVc (a.ro 7 Z).sv)) Z ?_
 refine al (aL u24 Z (a.ro 7 Z)) Z (Q 1 Z ?_)
 refine J (N ?_)
 refine av Z (fun bZ=>?_) (fun bZ=>?_)
 ·have h:=aJ h bZ
  refine aw (N (M (az ?_)))
  refine H (Q 2 Z ?_)
  refine al (aW u56 cd Z Z (a.ro 6 Z) (show aB ([SV.of b,SV.of c,SV.of d,SV.of f]:List SV) (0:Int)=some (SV.of b) from Z)) Z ?_
  refine al (aR u24 Z Z (a.ro 6 Z) (show aB ([SV.of b,SV.of c,SV.of d,SV.of f]:List SV) (0:Int)=some (SV.of b) from Z) (eVc (a.ro 7 Z).sv)) Z ?_
  refine Q 2 Z ?_
  refine al (aq Z Z (bS _ 70 0)) Z (al (aK Z (cV Tryz.underlying3 Tryz.underlying5 70)) Z ?_)
  obtain ⟨fc,cN,h⟩:=aj h
  refine al (aW u24 ti5 Z Z (a.ro 7 Z) cN) Z (bn (bP (t:=(UInt8.ofInt 70)) ti5 Z Z a (i:=7) Z cN Z) ?_)
  intro w a
  obtain ⟨et,dP,h⟩:=aQ h
  rw [dP]at a
  refine J (aP ?_)
  refine N (H (Q 3 Z ?_))
  refine J ?_
  exact bh (bo _ (by exact ⟨Z,Z,Z,Z,Z,Z,Z,Z,Z,Z,Z,Z,V⟩) (dO (wI (es+1),et) _ _ ⟨Z,a⟩ (aY h cM)))
 have h:=aI h bZ
 refine ba ?_
 refine aC (aC ?_)
 have h:=aT h cM
 refine a9 ?_
 refine aP ?_
 refine N (H (Q 1 Z ?_))
 refine al (aq Z Z (bS _ 0 1)) Z (Q 1 Z ?_)
 refine J (bh ?_)
 refine dc ?_
 refine M (M (H (Q 2 Z ?_)))
 refine al (show OpV _ _ _ _ _ (vI 4) _ from aL u56 Z (a.ro 6 Z)) Z (al (aq Z Z (dQ _ 1 4)) Z (J (N (cn Z ?_))))
 refine aw (N (M (az ?_)))
 refine M (H (Q 1 Z ?_))
 refine J (N (az ?_))
 refine ar [(0,vI a0),(1,vI a1),(2,ak),(3,am),(9,K D 0),(12,z),(16,vI y.2.2),(20,slV A e8.sz 0 u.2),(21,slV B e8.sz 0 x.2),(22,C),(23,vI 1),(24,vI 0)] ⟨Z,Z,Z,Z,Z,Z,Z,Z,Z,Z,Z,Z,V⟩ ?_
 refine bd (F.F8 aZ T a0 a1 a2 a3 q E y u x) (fun (s:Int×List UInt8) L w=>L=[(0,vI a0),(1,vI a1),(2,ak),(3,am),(9,K D 0),(12,z),(16,vI y.2.2),(20,slV A e8.sz 0 u.2),(21,slV B e8.sz 0 x.2),(22,C),(23,vI 1),(24,vI s.1)]∧St [] w0 w [X D [G,S,vB q.2.2],O U G q.1,O U S q.2.1,O U z E.2.1,O e8 A u.1,O e8 B x.1,O eV C ([SV.of b,SV.of c,SV.of d,SV.of f]:List SV),O e8 b T,O e8 c s.2,O e8 d aZ.1,O e8 f aZ.2.1]) ?_ (0,y.2.1) ⟨Z,a⟩ h
 rintro eF ⟨eu,ab⟩ L w fd hI dR h cO
 try dsimp only at hI
 obtain ⟨rfl,a⟩:=hI
 unfold F.F8 at h
 refine M (M (H (Q 3 Z ?_)))
 refine al (aW u56 cd Z Z (a.ro 6 Z) (show aB ([SV.of b,SV.of c,SV.of d,SV.of f]:List SV) (1:Int)=some (SV.of c) from Z)) Z ?_
 refine al (aR u24 Z Z (a.ro 6 Z) (show aB ([SV.of b,SV.of c,SV.of d,SV.of f]:List SV) (1:Int)=some (SV.of c) from Z) (eVc (a.ro 8 Z).sv)) Z ?_
 refine al (aL u24 Z (a.ro 8 Z)) Z (Q 1 Z ?_)
 refine J (N ?_)
 refine av Z (fun b0=>?_) (fun b0=>?_)
 ·have h:=aJ h b0
  refine aw (N (M (az ?_)))
  refine H (Q 2 Z ?_)
  refine al (aW u56 cd Z Z (a.ro 6 Z) (show aB ([SV.of b,SV.of c,SV.of d,SV.of f]:List SV) (1:Int)=some (SV.of c) from Z)) Z ?_
  refine al (aR u24 Z Z (a.ro 6 Z) (show aB ([SV.of b,SV.of c,SV.of d,SV.of f]:List SV) (1:Int)=some (SV.of c) from Z) (eVc (a.ro 8 Z).sv)) Z ?_
  refine Q 2 Z ?_
  refine al (aq Z Z (bS _ 70 1)) Z (al (aK Z (cV Tryz.underlying3 Tryz.underlying5 71)) Z ?_)
  obtain ⟨fe,cP,h⟩:=aj h
  refine al (aW u24 ti5 Z Z (a.ro 8 Z) cP) Z (bn (bP (t:=(UInt8.ofInt 71)) ti5 Z Z a (i:=8) Z cP Z) ?_)
  intro w a
  obtain ⟨ev,dS,h⟩:=aQ h
  rw [dS]at a
  refine J (aP ?_)
  refine N (H (Q 3 Z ?_))
  refine J ?_
  exact bh (bo _ (by exact ⟨Z,Z,Z,Z,Z,Z,Z,Z,Z,Z,Z,Z,V⟩) (dR (wI (eu+1),ev) _ _ ⟨Z,a⟩ (aY h cO)))
 have h:=aI h b0
 refine ba ?_
 refine aC (aC ?_)
 have h:=aT h cO
 refine a9 ?_
 refine aP ?_
 refine N (H (Q 1 Z ?_))
 refine al (aq Z Z (bS _ 1 1)) Z (Q 1 Z ?_)
 refine J (bh ?_)
 refine dc ?_
 refine M (M (H (Q 2 Z ?_)))
 refine al (show OpV _ _ _ _ _ (vI 4) _ from aL u56 Z (a.ro 6 Z)) Z (al (aq Z Z (dQ _ 2 4)) Z (J (N (cn Z ?_))))
 refine aw (N (M (az ?_)))
 refine M (H (Q 1 Z ?_))
 refine J (N (az ?_))
 refine ar [(0,vI a0),(1,vI a1),(2,ak),(3,am),(9,K D 0),(12,z),(16,vI y.2.2),(20,slV A e8.sz 0 u.2),(21,slV B e8.sz 0 x.2),(22,C),(23,vI 2),(24,vI 0)] ⟨Z,Z,Z,Z,Z,Z,Z,Z,Z,Z,Z,Z,V⟩ ?_
 refine bd (F.F4 aZ T ab a0 a1 a2 a3 q E y u x) (fun (s:Int×List UInt8) L w=>L=[(0,vI a0),(1,vI a1),(2,ak),(3,am),(9,K D 0),(12,z),(16,vI y.2.2),(20,slV A e8.sz 0 u.2),(21,slV B e8.sz 0 x.2),(22,C),(23,vI 2),(24,vI s.1)]∧St [] w0 w [X D [G,S,vB q.2.2],O U G q.1,O U S q.2.1,O U z E.2.1,O e8 A u.1,O e8 B x.1,O eV C ([SV.of b,SV.of c,SV.of d,SV.of f]:List SV),O e8 b T,O e8 c ab,O e8 d s.2,O e8 f aZ.2.1]) ?_ (0,aZ.1) ⟨Z,a⟩ h
 rintro eG ⟨ew,ac⟩ L w ff hI dT h cQ
 try dsimp only at hI
 obtain ⟨rfl,a⟩:=hI
 unfold F.F4 at h
 refine M (M (H (Q 3 Z ?_)))
 refine al (aW u56 cd Z Z (a.ro 6 Z) (show aB ([SV.of b,SV.of c,SV.of d,SV.of f]:List SV) (2:Int)=some (SV.of d) from Z)) Z ?_
 refine al (aR u24 Z Z (a.ro 6 Z) (show aB ([SV.of b,SV.of c,SV.of d,SV.of f]:List SV) (2:Int)=some (SV.of d) from Z) (eVc (a.ro 9 Z).sv)) Z ?_
 refine al (aL u24 Z (a.ro 9 Z)) Z (Q 1 Z ?_)
 refine J (N ?_)
 refine av Z (fun b1=>?_) (fun b1=>?_)
 ·have h:=aJ h b1
  refine aw (N (M (az ?_)))
  refine H (Q 2 Z ?_)
  refine al (aW u56 cd Z Z (a.ro 6 Z) (show aB ([SV.of b,SV.of c,SV.of d,SV.of f]:List SV) (2:Int)=some (SV.of d) from Z)) Z ?_
  refine al (aR u24 Z Z (a.ro 6 Z) (show aB ([SV.of b,SV.of c,SV.of d,SV.of f]:List SV) (2:Int)=some (SV.of d) from Z) (eVc (a.ro 9 Z).sv)) Z ?_
  refine Q 2 Z ?_
  refine al (aq Z Z (bS _ 70 2)) Z (al (aK Z (cV Tryz.underlying3 Tryz.underlying5 72)) Z ?_)
  obtain ⟨fh,cR,h⟩:=aj h
  refine al (aW u24 ti5 Z Z (a.ro 9 Z) cR) Z (bn (bP (t:=(UInt8.ofInt 72)) ti5 Z Z a (i:=9) Z cR Z) ?_)
  intro w a
  obtain ⟨ex,dU,h⟩:=aQ h
  rw [dU]at a
  refine J (aP ?_)
  refine N (H (Q 3 Z ?_))
  refine J ?_
  exact bh (bo _ (by exact ⟨Z,Z,Z,Z,Z,Z,Z,Z,Z,Z,Z,Z,V⟩) (dT (wI (ew+1),ex) _ _ ⟨Z,a⟩ (aY h cQ)))
 have h:=aI h b1
 refine ba ?_
 refine aC (aC ?_)
 have h:=aT h cQ
 refine a9 ?_
 refine aP ?_
 refine N (H (Q 1 Z ?_))
 refine al (aq Z Z (bS _ 2 1)) Z (Q 1 Z ?_)
 refine J (bh ?_)
 refine dc ?_
 refine M (M (H (Q 2 Z ?_)))
 refine al (show OpV _ _ _ _ _ (vI 4) _ from aL u56 Z (a.ro 6 Z)) Z (al (aq Z Z (dQ _ 3 4)) Z (J (N (cn Z ?_))))
 refine aw (N (M (az ?_)))
 refine M (H (Q 1 Z ?_))
 refine J (N (az ?_))
 refine ar [(0,vI a0),(1,vI a1),(2,ak),(3,am),(9,K D 0),(12,z),(16,vI y.2.2),(20,slV A e8.sz 0 u.2),(21,slV B e8.sz 0 x.2),(22,C),(23,vI 3),(24,vI 0)] ⟨Z,Z,Z,Z,Z,Z,Z,Z,Z,Z,Z,Z,V⟩ ?_
 refine bd (F.F3 T ab ac a0 a1 a2 a3 q E y u x) (fun (s:Int×List UInt8) L w=>L=[(0,vI a0),(1,vI a1),(2,ak),(3,am),(9,K D 0),(12,z),(16,vI y.2.2),(20,slV A e8.sz 0 u.2),(21,slV B e8.sz 0 x.2),(22,C),(23,vI 3),(24,vI s.1)]∧St [] w0 w [X D [G,S,vB q.2.2],O U G q.1,O U S q.2.1,O U z E.2.1,O e8 A u.1,O e8 B x.1,O eV C ([SV.of b,SV.of c,SV.of d,SV.of f]:List SV),O e8 b T,O e8 c ab,O e8 d ac,O e8 f s.2]) ?_ (0,aZ.2.1) ⟨Z,a⟩ h
 rintro eH ⟨ey,ag⟩ L w fj hI dW h cS
 try dsimp only at hI
 obtain ⟨rfl,a⟩:=hI
 unfold F.F3 at h
 refine M (M (H (Q 3 Z ?_)))
 refine al (aW u56 cd Z Z (a.ro 6 Z) (show aB ([SV.of b,SV.of c,SV.of d,SV.of f]:List SV) (3:Int)=some (SV.of f) from Z)) Z ?_
 refine al (aR u24 Z Z (a.ro 6 Z) (show aB ([SV.of b,SV.of c,SV.of d,SV.of f]:List SV) (3:Int)=some (SV.of f) from Z) (eVc (a.ro 10 Z).sv)) Z ?_
 refine al (aL u24 Z (a.ro 10 Z)) Z (Q 1 Z ?_)
 refine J (N ?_)
 refine av Z (fun b2=>?_) (fun b2=>?_)
 ·have h:=aJ h b2
  refine aw (N (M (az ?_)))
  refine H (Q 2 Z ?_)
  refine al (aW u56 cd Z Z (a.ro 6 Z) (show aB ([SV.of b,SV.of c,SV.of d,SV.of f]:List SV) (3:Int)=some (SV.of f) from Z)) Z ?_
  refine al (aR u24 Z Z (a.ro 6 Z) (show aB ([SV.of b,SV.of c,SV.of d,SV.of f]:List SV) (3:Int)=some (SV.of f) from Z) (eVc (a.ro 10 Z).sv)) Z ?_
  refine Q 2 Z ?_
  refine al (aq Z Z (bS _ 70 3)) Z (al (aK Z (cV Tryz.underlying3 Tryz.underlying5 73)) Z ?_)
  obtain ⟨fk,cT,h⟩:=aj h
  refine al (aW u24 ti5 Z Z (a.ro 10 Z) cT) Z (bn (bP (t:=(UInt8.ofInt 73)) ti5 Z Z a (i:=10) Z cT Z) ?_)
  intro w a
  obtain ⟨ez,dX,h⟩:=aQ h
  rw [dX]at a
  refine J (aP ?_)
  refine N (H (Q 3 Z ?_))
  refine J ?_
  exact bh (bo _ (by exact ⟨Z,Z,Z,Z,Z,Z,Z,Z,Z,Z,Z,Z,V⟩) (dW (wI (ey+1),ez) _ _ ⟨Z,a⟩ (aY h cS)))
 have h:=aI h b2
 refine ba ?_
 refine aC (aC ?_)
 have h:=aT h cS
 refine a9 ?_
 refine aP ?_
 refine N (H (Q 1 Z ?_))
 refine al (aq Z Z (bS _ 3 1)) Z (Q 1 Z ?_)
 refine J (bh ?_)
 refine dc ?_
 refine M (M (H (Q 2 Z ?_)))
 refine al (show OpV _ _ _ _ _ (vI 4) _ from aL u56 Z (a.ro 6 Z)) Z (al (aq Z Z (dQ _ 4 4)) Z (J (N (dV Z ?_))))
 refine ba ?_
 refine aC (aC (a9 ?_))
 refine N (M (H (Q 1 Z ?_)))
 refine J (N (M (M (H (Q 1 Z ?_)))))
 refine J (N (az ?_))
 refine kH 100 ?_
 refine dc ?_
 refine M (M (H (Q 2 Z ?_)))
 refine al (show OpV _ _ _ _ _ (vI 4) _ from aL u56 Z (a.ro 6 Z)) Z (al (aq Z Z (dQ _ 0 4)) Z (J (N (cn Z ?_))))
 refine aw (N (M (az ?_)))
 refine M (H (Q 2 Z ?_))
 refine al (aW u56 cd Z Z (a.ro 6 Z) (show aB ([SV.of b,SV.of c,SV.of d,SV.of f]:List SV) (0:Int)=some (SV.of b) from Z)) Z ?_
 refine al (aR u24 Z Z (a.ro 6 Z) (show aB ([SV.of b,SV.of c,SV.of d,SV.of f]:List SV) (0:Int)=some (SV.of b) from Z) (eVc (a.ro 7 Z).sv)) Z ?_
 refine Q 1 Z ?_
 have dY:=(a.ro 7 Z).tw
 replace a:=a.twin 7 rfl
 refine J (N (M (M (H (Q 1 Z ?_)))))
 refine J (N (az ?_))
 refine ar [(0,vI a0),(1,vI a1),(2,ak),(3,am),(9,K D 0),(12,z),(16,vI y.2.2),(20,slV A e8.sz 0 u.2),(21,slV B e8.sz 0 x.2),(22,C),(25,.slice none 0 0),(26,vI 0),(27,b),(28,vI 0)] ⟨Z,Z,Z,Z,Z,Z,Z,Z,Z,Z,Z,Z,Z,Z,V⟩ ?_
 refine bd (F.Gd ab ac ag T a0 a1 a2 a3 q E y u x) (fun (s:List UInt8×Int) L w=>∃(p:Value) (a4:Nat),L=[(0,vI a0),(1,vI a1),(2,ak),(3,am),(9,K D 0),(12,z),(16,vI y.2.2),(20,slV A e8.sz 0 u.2),(21,slV B e8.sz 0 x.2),(22,C),(25,.slice none 0 0),(26,vI 0),(27,p),(28,vI s.2)]∧Tw b T p s.1 a4∧St [] w0 w [O e8 p s.1,X D [G,S,vB q.2.2],O U G q.1,O U S q.2.1,O U z E.2.1,O e8 A u.1,O e8 B x.1,O eV C ([SV.of b,SV.of c,SV.of d,SV.of f]:List SV),twE e8 b T a4,O e8 c ab,O e8 d ac,O e8 f ag]) ?_ (T,0) ⟨b,0,Z,dY,(a.e [8,1,2,3,4,5,6,7,0,9,10,11] Z Z)⟩ h
 rintro eI ⟨aX,eA⟩ L w fl hI dZ h cU
 try dsimp only at hI
 obtain ⟨p,a4,rfl,a6,a⟩:=hI
 unfold F.Gd at h
 refine M (M (H (Q 2 Z ?_)))
 refine J (N ?_)
 refine av Z (fun b3=>?_) (fun b3=>?_)
 ·have h:=aJ h b3
  refine aw (N (M (az ?_)))
  refine H (Q 2 Z ?_)
  refine al (aq Z Z (bS _ 80 0)) Z (al (aK Z (cV Tryz.underlying3 Tryz.underlying5 80)) Z ?_)
  refine aU (ci (e:=e8) (l:=[UInt8.ofInt 80]) (vs:=[v8 (UInt8.ofInt 80)]) u24 ti5 Z Z Z Z (by decide) (by decide) a) Z ?_
  rintro fm w a
  obtain ⟨eB,d0,h⟩:=aj h
  refine aU (hO u24 ti5 Z Z Z a (i:=1) (j:=9) Z Z a6 (a.ro 0 Z) d0) Z ?_
  rintro eC w ⟨eD,d1,a⟩
  refine Q 1 Z ?_
  refine J (aP ?_)
  refine N (H (Q 3 Z ?_))
  refine J ?_
  exact bh (bo _ (by exact ⟨Z,Z,Z,Z,Z,Z,Z,Z,Z,Z,Z,Z,Z,Z,V⟩) (dZ (eB,wI (eA+1)) _ _ ⟨eC,eD,Z,d1,(a.e [1,2,3,4,5,6,7,8,9,10,11,12] Z Z)⟩ (aY h cU)))
 have h:=aI h b3
 refine ba ?_
 refine aC (aC ?_)
 have h:=aT h cU
 refine a9 ?_
 refine N (H (Q 2 Z ?_))
 refine aU (ci (e:=eV) (l:=([SV.of p]:List SV)) (vs:=[p]) u56 cd Z Z Z (dG (a.ro 0 Z).sv Z) (by decide) (by decide) a) Z ?_
 rintro fn w a
 refine aU (jF u56 cd Z Z Z a (a.ro 0 Z) (p7 Z)) Z ?_
 rintro cK w a
 refine Q 1 Z ?_
 refine J (aP ?_)
 refine N (H (Q 1 Z ?_))
 refine al (aq Z Z (bS _ 0 1)) Z (Q 1 Z ?_)
 refine J (bh ?_)
 refine dc ?_
 refine M (M (H (Q 2 Z ?_)))
 refine al (show OpV _ _ _ _ _ (vI 4) _ from aL u56 Z (a.ro 9 Z)) Z (al (aq Z Z (dQ _ 1 4)) Z (J (N (cn Z ?_))))
 refine aw (N (M (az ?_)))
 refine M (H (Q 2 Z ?_))
 refine al (aW u56 cd Z Z (a.ro 9 Z) (show aB ([SV.of b,SV.of c,SV.of d,SV.of f]:List SV) (1:Int)=some (SV.of c) from Z)) Z ?_
 refine al (aR u24 Z Z (a.ro 9 Z) (show aB ([SV.of b,SV.of c,SV.of d,SV.of f]:List SV) (1:Int)=some (SV.of c) from Z) (eVc (a.ro 11 Z).sv)) Z ?_
 refine Q 1 Z ?_
 have dg:=(a.ro 11 Z).tw
 replace a:=a.twin 11 rfl
 refine J (N (M (M (H (Q 1 Z ?_)))))
 refine J (N (az ?_))
 refine ar [(0,vI a0),(1,vI a1),(2,ak),(3,am),(9,K D 0),(12,z),(16,vI y.2.2),(20,slV A e8.sz 0 u.2),(21,slV B e8.sz 0 x.2),(22,C),(25,cK),(26,vI 1),(27,c),(28,vI 0)] ⟨Z,Z,Z,Z,Z,Z,Z,Z,Z,Z,Z,Z,Z,Z,V⟩ ?_
 refine bd (F.F6 ac ag T aX ab a0 a1 a2 a3 q E y u x) (fun (s:List UInt8×Int) L w=>∃(m:Value) (au:Nat),L=[(0,vI a0),(1,vI a1),(2,ak),(3,am),(9,K D 0),(12,z),(16,vI y.2.2),(20,slV A e8.sz 0 u.2),(21,slV B e8.sz 0 x.2),(22,C),(25,cK),(26,vI 1),(27,m),(28,vI s.2)]∧Tw c ab m s.1 au∧St [] w0 w [O e8 m s.1,X D [G,S,vB q.2.2],O U G q.1,O U S q.2.1,O U z E.2.1,O e8 A u.1,O e8 B x.1,O eV C ([SV.of b,SV.of c,SV.of d,SV.of f]:List SV),twE e8 b T a4,O e8 p aX,twE e8 c ab au,O e8 d ac,O e8 f ag,O eV cK ([SV.of p]:List SV)]) ?_ (ab,0) ⟨c,0,Z,dg,(a.e [12,4,5,6,7,8,9,10,11,3,0,13,14,1] Z Z)⟩ h
 rintro eJ ⟨ap,d2⟩ L w eK hI dh h co
 try dsimp only at hI
 obtain ⟨m,au,rfl,aD,a⟩:=hI
 unfold F.F6 at h
 refine M (M (H (Q 2 Z ?_)))
 refine J (N ?_)
 refine av Z (fun b4=>?_) (fun b4=>?_)
 ·have h:=aJ h b4
  refine aw (N (M (az ?_)))
  refine H (Q 2 Z ?_)
  refine al (aq Z Z (bS _ 80 1)) Z (al (aK Z (cV Tryz.underlying3 Tryz.underlying5 81)) Z ?_)
  refine aU (ci (e:=e8) (l:=[UInt8.ofInt 81]) (vs:=[v8 (UInt8.ofInt 81)]) u24 ti5 Z Z Z Z (by decide) (by decide) a) Z ?_
  rintro eL w a
  obtain ⟨d3,di,h⟩:=aj h
  refine aU (hO u24 ti5 Z Z Z a (i:=1) (j:=11) Z Z aD (a.ro 0 Z) di) Z ?_
  rintro d4 w ⟨d5,dj,a⟩
  refine Q 1 Z ?_
  refine J (aP ?_)
  refine N (H (Q 3 Z ?_))
  refine J ?_
  exact bh (bo _ (by exact ⟨Z,Z,Z,Z,Z,Z,Z,Z,Z,Z,Z,Z,Z,Z,V⟩) (dh (d3,wI (d2+1)) _ _ ⟨d4,d5,Z,dj,(a.e [1,2,3,4,5,6,7,8,9,10,11,12,13,14] Z Z)⟩ (aY h co)))
 have h:=aI h b4
 refine ba ?_
 refine aC (aC ?_)
 have h:=aT h co
 refine a9 ?_
 refine N (H (Q 2 Z ?_))
 refine aU (ci (e:=eV) (l:=([SV.of m]:List SV)) (vs:=[m]) u56 cd Z Z Z (dG (a.ro 0 Z).sv Z) (by decide) (by decide) a) Z ?_
 rintro eM w a
 refine aU (fi u56 cd Z Z Z a (i:=14) Z (a.ro 0 Z) (p7 Z)) Z ?_
 rintro cl w a
 refine Q 1 Z ?_
 refine J (aP ?_)
 refine N (H (Q 1 Z ?_))
 refine al (aq Z Z (bS _ 1 1)) Z (Q 1 Z ?_)
 refine J (bh ?_)
 refine dc ?_
 refine M (M (H (Q 2 Z ?_)))
 refine al (show OpV _ _ _ _ _ (vI 4) _ from aL u56 Z (a.ro 8 Z)) Z (al (aq Z Z (dQ _ 2 4)) Z (J (N (cn Z ?_))))
 refine aw (N (M (az ?_)))
 refine M (H (Q 2 Z ?_))
 refine al (aW u56 cd Z Z (a.ro 8 Z) (show aB ([SV.of b,SV.of c,SV.of d,SV.of f]:List SV) (2:Int)=some (SV.of d) from Z)) Z ?_
 refine al (aR u24 Z Z (a.ro 8 Z) (show aB ([SV.of b,SV.of c,SV.of d,SV.of f]:List SV) (2:Int)=some (SV.of d) from Z) (eVc (a.ro 12 Z).sv)) Z ?_
 refine Q 1 Z ?_
 have dk:=(a.ro 12 Z).tw
 replace a:=a.twin 12 rfl
 refine J (N (M (M (H (Q 1 Z ?_)))))
 refine J (N (az ?_))
 refine ar [(0,vI a0),(1,vI a1),(2,ak),(3,am),(9,K D 0),(12,z),(16,vI y.2.2),(20,slV A e8.sz 0 u.2),(21,slV B e8.sz 0 x.2),(22,C),(25,cl),(26,vI 2),(27,d),(28,vI 0)] ⟨Z,Z,Z,Z,Z,Z,Z,Z,Z,Z,Z,Z,Z,Z,V⟩ ?_
 refine bd (F.F2 ag T aX ab ap ac a0 a1 a2 a3 q E y u x) (fun (s:List UInt8×Int) L w=>∃(n:Value) (aS:Nat),L=[(0,vI a0),(1,vI a1),(2,ak),(3,am),(9,K D 0),(12,z),(16,vI y.2.2),(20,slV A e8.sz 0 u.2),(21,slV B e8.sz 0 x.2),(22,C),(25,cl),(26,vI 2),(27,n),(28,vI s.2)]∧Tw d ac n s.1 aS∧St [] w0 w [O e8 n s.1,X D [G,S,vB q.2.2],O U G q.1,O U S q.2.1,O U z E.2.1,O e8 A u.1,O e8 B x.1,O eV C ([SV.of b,SV.of c,SV.of d,SV.of f]:List SV),twE e8 b T a4,O e8 p aX,twE e8 c ab au,O e8 m ap,twE e8 d ac aS,O e8 f ag,O eV cl ([SV.of p,SV.of m]:List SV)]) ?_ (ac,0) ⟨d,0,Z,dk,(a.e [13,3,4,5,6,7,8,9,10,11,12,2,0,14,15] Z Z)⟩ h
 rintro eN ⟨aA,d6⟩ L w eO hI dl h cp
 try dsimp only at hI
 obtain ⟨n,aS,rfl,aE,a⟩:=hI
 unfold F.F2 at h
 refine M (M (H (Q 2 Z ?_)))
 refine J (N ?_)
 refine av Z (fun b5=>?_) (fun b5=>?_)
 ·have h:=aJ h b5
  refine aw (N (M (az ?_)))
  refine H (Q 2 Z ?_)
  refine al (aq Z Z (bS _ 80 2)) Z (al (aK Z (cV Tryz.underlying3 Tryz.underlying5 82)) Z ?_)
  refine aU (ci (e:=e8) (l:=[UInt8.ofInt 82]) (vs:=[v8 (UInt8.ofInt 82)]) u24 ti5 Z Z Z Z (by decide) (by decide) a) Z ?_
  rintro eP w a
  obtain ⟨d7,dm,h⟩:=aj h
  refine aU (hO u24 ti5 Z Z Z a (i:=1) (j:=13) Z Z aE (a.ro 0 Z) dm) Z ?_
  rintro d8 w ⟨d9,dn,a⟩
  refine Q 1 Z ?_
  refine J (aP ?_)
  refine N (H (Q 3 Z ?_))
  refine J ?_
  exact bh (bo _ (by exact ⟨Z,Z,Z,Z,Z,Z,Z,Z,Z,Z,Z,Z,Z,Z,V⟩) (dl (d7,wI (d6+1)) _ _ ⟨d8,d9,Z,dn,(a.e [1,2,3,4,5,6,7,8,9,10,11,12,13,14,15] Z Z)⟩ (aY h cp)))
 have h:=aI h b5
 refine ba ?_
 refine aC (aC ?_)
 have h:=aT h cp
 refine a9 ?_
 refine N (H (Q 2 Z ?_))
 refine aU (ci (e:=eV) (l:=([SV.of n]:List SV)) (vs:=[n]) u56 cd Z Z Z (dG (a.ro 0 Z).sv Z) (by decide) (by decide) a) Z ?_
 rintro eQ w a
 refine aU (fi u56 cd Z Z Z a (i:=15) Z (a.ro 0 Z) (p7 Z)) Z ?_
 rintro cm w a
 refine Q 1 Z ?_
 refine J (aP ?_)
 refine N (H (Q 1 Z ?_))
 refine al (aq Z Z (bS _ 2 1)) Z (Q 1 Z ?_)
 refine J (bh ?_)
 refine dc ?_
 refine M (M (H (Q 2 Z ?_)))
 refine al (show OpV _ _ _ _ _ (vI 4) _ from aL u56 Z (a.ro 8 Z)) Z (al (aq Z Z (dQ _ 3 4)) Z (J (N (cn Z ?_))))
 refine aw (N (M (az ?_)))
 refine M (H (Q 2 Z ?_))
 refine al (aW u56 cd Z Z (a.ro 8 Z) (show aB ([SV.of b,SV.of c,SV.of d,SV.of f]:List SV) (3:Int)=some (SV.of f) from Z)) Z ?_
 refine al (aR u24 Z Z (a.ro 8 Z) (show aB ([SV.of b,SV.of c,SV.of d,SV.of f]:List SV) (3:Int)=some (SV.of f) from Z) (eVc (a.ro 14 Z).sv)) Z ?_
 refine Q 1 Z ?_
 have dp:=(a.ro 14 Z).tw
 replace a:=a.twin 14 rfl
 refine J (N (M (M (H (Q 1 Z ?_)))))
 refine J (N (az ?_))
 refine ar [(0,vI a0),(1,vI a1),(2,ak),(3,am),(9,K D 0),(12,z),(16,vI y.2.2),(20,slV A e8.sz 0 u.2),(21,slV B e8.sz 0 x.2),(22,C),(25,cm),(26,vI 3),(27,f),(28,vI 0)] ⟨Z,Z,Z,Z,Z,Z,Z,Z,Z,Z,Z,Z,Z,Z,V⟩ ?_
 refine bd (F.F7 T aX ab ap ac aA a0 a1 a2 a3 q E y u x ag) (fun (s:List UInt8×Int) L w=>∃(o:Value) (a5:Nat),L=[(0,vI a0),(1,vI a1),(2,ak),(3,am),(9,K D 0),(12,z),(16,vI y.2.2),(20,slV A e8.sz 0 u.2),(21,slV B e8.sz 0 x.2),(22,C),(25,cm),(26,vI 3),(27,o),(28,vI s.2)]∧Tw f ag o s.1 a5∧St [] w0 w [O e8 o s.1,X D [G,S,vB q.2.2],O U G q.1,O U S q.2.1,O U z E.2.1,O e8 A u.1,O e8 B x.1,O eV C ([SV.of b,SV.of c,SV.of d,SV.of f]:List SV),twE e8 b T a4,O e8 p aX,twE e8 c ab au,O e8 m ap,twE e8 d ac aS,O e8 n aA,twE e8 f ag a5,O eV cm ([SV.of p,SV.of m,SV.of n]:List SV)]) ?_ (ag,0) ⟨f,0,Z,dp,(a.e [15,3,4,5,6,7,8,9,10,11,12,13,14,2,0,16] Z Z)⟩ h
 rintro eR ⟨aV,ea⟩ L w eS hI dq h cq
 try dsimp only at hI
 obtain ⟨o,a5,rfl,aO,a⟩:=hI
 unfold F.F7 at h
 refine M (M (H (Q 2 Z ?_)))
 refine J (N ?_)
 refine av Z (fun b6=>?_) (fun b6=>?_)
 ·have h:=aJ h b6
  refine aw (N (M (az ?_)))
  refine H (Q 2 Z ?_)
  refine al (aq Z Z (bS _ 80 3)) Z (al (aK Z (cV Tryz.underlying3 Tryz.underlying5 83)) Z ?_)
  refine aU (ci (e:=e8) (l:=[UInt8.ofInt 83]) (vs:=[v8 (UInt8.ofInt 83)]) u24 ti5 Z Z Z Z (by decide) (by decide) a) Z ?_
  rintro eT w a
  obtain ⟨eb,dr,h⟩:=aj h
  refine aU (hO u24 ti5 Z Z Z a (i:=1) (j:=15) Z Z aO (a.ro 0 Z) dr) Z ?_
  rintro ec w ⟨ed,ds,a⟩
  refine Q 1 Z ?_
  refine J (aP ?_)
  refine N (H (Q 3 Z ?_))
  refine J ?_
  exact bh (bo _ (by exact ⟨Z,Z,Z,Z,Z,Z,Z,Z,Z,Z,Z,Z,Z,Z,V⟩) (dq (eb,wI (ea+1)) _ _ ⟨ec,ed,Z,ds,(a.e [1,2,3,4,5,6,7,8,9,10,11,12,13,14,15,16] Z Z)⟩ (aY h cq)))
 have h:=aI h b6
 refine ba ?_
 refine aC (aC ?_)
 have h:=aT h cq
 refine a9 ?_
 refine N (H (Q 2 Z ?_))
 refine aU (ci (e:=eV) (l:=([SV.of o]:List SV)) (vs:=[o]) u56 cd Z Z Z (dG (a.ro 0 Z).sv Z) (by decide) (by decide) a) Z ?_
 rintro eU w a
 refine aU (fi u56 cd Z Z Z a (i:=16) Z (a.ro 0 Z) (p7 Z)) Z ?_
 rintro ad w a
 refine Q 1 Z ?_
 refine J (aP ?_)
 refine N (H (Q 1 Z ?_))
 refine al (aq Z Z (bS _ 3 1)) Z (Q 1 Z ?_)
 refine J (bh ?_)
 refine dc ?_
 refine M (M (H (Q 2 Z ?_)))
 refine al (show OpV _ _ _ _ _ (vI 4) _ from aL u56 Z (a.ro 8 Z)) Z (al (aq Z Z (dQ _ 4 4)) Z (J (N (dV Z ?_))))
 refine ba ?_
 refine aC (aC (a9 ?_))
 refine N (M (M (H (Q 1 Z ?_))))
 refine J (N (az ?_))
 refine kH 100 ?_
 refine dc ?_
 refine M (M (H (Q 2 Z ?_)))
 refine al (show OpV _ _ _ _ _ (vI 4) _ from aL u56 Z (a.ro 8 Z)) Z (al (aq Z Z (dQ _ 0 4)) Z (J (N (cn Z ?_))))
 refine aw (N (M (az ?_)))
 refine M (H (Q 1 Z ?_))
 refine J (N (az ?_))
 refine ar [(0,vI a0),(1,vI a1),(2,ak),(3,am),(9,K D 0),(12,z),(16,vI y.2.2),(20,slV A e8.sz 0 u.2),(21,slV B e8.sz 0 x.2),(22,C),(25,ad),(29,vI 0),(30,vI 0)] ⟨Z,Z,Z,Z,Z,Z,Z,Z,Z,Z,Z,Z,Z,V⟩ ?_
 refine bd (F.F9 T aX ab ap ac aA a0 a1 a2 a3 q E y u x ag aV) (fun (s:Int) L w=>L=[(0,vI a0),(1,vI a1),(2,ak),(3,am),(9,K D 0),(12,z),(16,vI y.2.2),(20,slV A e8.sz 0 u.2),(21,slV B e8.sz 0 x.2),(22,C),(25,ad),(29,vI 0),(30,vI s)]∧St [] w0 w [X D [G,S,vB q.2.2],O U G q.1,O U S q.2.1,O U z E.2.1,O e8 A u.1,O e8 B x.1,O eV C ([SV.of b,SV.of c,SV.of d,SV.of f]:List SV),twE e8 b T a4,O e8 p aX,twE e8 c ab au,O e8 m ap,twE e8 d ac aS,O e8 n aA,twE e8 f ag a5,O e8 o aV,O eV ad ([SV.of p,SV.of m,SV.of n,SV.of o]:List SV)]) ?_ 0 ⟨Z,(a.e [2,3,4,5,6,7,8,9,10,11,12,13,14,15,1,16] Z Z)⟩ h
 rintro eW bi L w ee hI dt h b7
 try dsimp only at hI
 obtain ⟨rfl,a⟩:=hI
 unfold F.F9 at h
 refine M (M (H (Q 3 Z ?_)))
 refine al (aW u56 cd Z Z (a.ro 15 Z) (show aB ([SV.of p,SV.of m,SV.of n,SV.of o]:List SV) (0:Int)=some (SV.of p) from Z)) Z ?_
 refine al (aR u24 Z Z (a.ro 15 Z) (show aB ([SV.of p,SV.of m,SV.of n,SV.of o]:List SV) (0:Int)=some (SV.of p) from Z) (eVc (a.ro 8 Z).sv)) Z ?_
 refine al (aL u24 Z (a.ro 8 Z)) Z (Q 1 Z ?_)
 refine J (N ?_)
 refine av Z (fun b8=>?_) (fun b8=>?_)
 ·have h:=aJ h b8
  refine aw (N (M (az ?_)))
  refine bf (r:=ee) (fun (g:Bool) L w=>L=[(0,vI a0),(1,vI a1),(2,ak),(3,am),(9,K D 0),(12,z),(16,vI y.2.2),(20,slV A e8.sz 0 u.2),(21,slV B e8.sz 0 x.2),(22,C),(25,ad),(29,vI 0),(30,vI bi),(223,vB g)]∧St [] w0 w [X D [G,S,vB q.2.2],O U G q.1,O U S q.2.1,O U z E.2.1,O e8 A u.1,O e8 B x.1,O eV C ([SV.of b,SV.of c,SV.of d,SV.of f]:List SV),twE e8 b T a4,O e8 p aX,twE e8 c ab au,O e8 m ap,twE e8 d ac aS,O e8 n aA,twE e8 f ag a5,O e8 o aV,O eV ad ([SV.of p,SV.of m,SV.of n,SV.of o]:List SV)]) (F.Ck bi) ?_ ?_
  rotate_left
  ·intro a8
   refine H (Q 3 Z ?_)
   refine al (aW u56 cd Z Z (a.ro 6 Z) (show aB ([SV.of b,SV.of c,SV.of d,SV.of f]:List SV) (0:Int)=some (SV.of b) from Z)) Z ?_
   refine al (aR u24 Z Z (a.ro 6 Z) (show aB ([SV.of b,SV.of c,SV.of d,SV.of f]:List SV) (0:Int)=some (SV.of b) from Z) (eVc (a.twro a6 8 7 Z Z).sv)) Z ?_
   refine al (aL u24 Z (a.twro a6 8 7 Z Z)) Z (Q 2 Z ?_)
   cases bm:(decide (bi<(T.length:Int)))
   case true=>
    have h:=aJ h bm
    try simp only [bm]
    refine Q 2 Z ?_
    refine aF (t:=176) Z Z (aW u56 cd Z Z (a.ro 6 Z) (show aB ([SV.of b,SV.of c,SV.of d,SV.of f]:List SV) (0:Int)=some (SV.of b) from Z)) Z ?_
    refine aF (t:=176) Z Z (aR u24 Z Z (a.ro 6 Z) (show aB ([SV.of b,SV.of c,SV.of d,SV.of f]:List SV) (0:Int)=some (SV.of b) from Z) (eVc (a.twro a6 8 7 Z Z).sv)) Z ?_
    refine Q 1 Z ?_
    obtain ⟨cW,ct,h⟩:=aj h
    refine aF (t:=176) Z Z (aW u24 ti5 Z Z (a.twro a6 8 7 Z Z) ct) Z (aF (t:=176) Z Z (aR Tryz.underlying5 Z Z (a.twro a6 8 7 Z Z) ct Z) Z (Q 1 Z ?_))
    refine aF (t:=176) Z Z (aq Z Z (bS _ 70 0)) Z (aF (t:=176) Z Z (aK Z (cV Tryz.underlying3 Tryz.underlying5 70)) Z (aF (t:=176) Z Z (aq Z Z (dJ _ cW (UInt8.ofInt 70))) Z (Q 1 Z ?_)))
    cases bp:(cW != (UInt8.ofInt 70))
    case true=>
     have h:=aJ h bp
     try simp only [bp]
     refine Q 35 Z ?_
     refine J (N ?_)
     exact ar _ (by exact ⟨Z,Z,Z,Z,Z,Z,Z,Z,Z,Z,Z,Z,Z,Z,V⟩) (a8 true _ _ ⟨Z,a⟩ h)
    case false=>
     have h:=aI h bp
     try simp only [bp]
     refine Q 2 Z ?_
     refine aF (t:=188) Z Z (aW u56 cd Z Z (a.ro 15 Z) (show aB ([SV.of p,SV.of m,SV.of n,SV.of o]:List SV) (0:Int)=some (SV.of p) from Z)) Z ?_
     refine aF (t:=188) Z Z (aR u24 Z Z (a.ro 15 Z) (show aB ([SV.of p,SV.of m,SV.of n,SV.of o]:List SV) (0:Int)=some (SV.of p) from Z) (eVc (a.ro 8 Z).sv)) Z ?_
     refine Q 1 Z ?_
     obtain ⟨cX,cu,h⟩:=aj h
     refine aF (t:=188) Z Z (aW u24 ti5 Z Z (a.ro 8 Z) cu) Z (aF (t:=188) Z Z (aR Tryz.underlying5 Z Z (a.ro 8 Z) cu Z) Z (Q 1 Z ?_))
     refine aF (t:=188) Z Z (aq Z Z (bS _ 70 0)) Z (aF (t:=188) Z Z (aK Z (cV Tryz.underlying3 Tryz.underlying5 70)) Z (aF (t:=188) Z Z (aq Z Z (dJ _ cX (UInt8.ofInt 70))) Z (Q 3 Z ?_)))
     cases bq:(cX != (UInt8.ofInt 70))
     case true=>
      have h:=aJ h bq
      try simp only [bq]
      refine Q 21 Z ?_
      refine J (N ?_)
      exact ar _ (by exact ⟨Z,Z,Z,Z,Z,Z,Z,Z,Z,Z,Z,Z,Z,Z,V⟩) (a8 true _ _ ⟨Z,a⟩ h)
     case false=>
      have h:=aI h bq
      try simp only [bq]
      refine Q 3 Z ?_
      refine aF (t:=202) Z Z (aW u56 cd Z Z (a.ro 6 Z) (show aB ([SV.of b,SV.of c,SV.of d,SV.of f]:List SV) (0:Int)=some (SV.of b) from Z)) Z ?_
      refine aF (t:=202) Z Z (aR u24 Z Z (a.ro 6 Z) (show aB ([SV.of b,SV.of c,SV.of d,SV.of f]:List SV) (0:Int)=some (SV.of b) from Z) (eVc (a.twro a6 8 7 Z Z).sv)) Z ?_
      refine aF (t:=202) Z Z (aL u24 Z (a.twro a6 8 7 Z Z)) Z (Q 2 Z ?_)
      cases br:(decide ((T.length:Int)≤bi))
      case true=>
       have h:=aJ h br
       try simp only [br]
       refine Q 2 Z ?_
       refine aF (t:=210) Z Z (aW u56 cd Z Z (a.ro 15 Z) (show aB ([SV.of p,SV.of m,SV.of n,SV.of o]:List SV) (0:Int)=some (SV.of p) from Z)) Z ?_
       refine aF (t:=210) Z Z (aR u24 Z Z (a.ro 15 Z) (show aB ([SV.of p,SV.of m,SV.of n,SV.of o]:List SV) (0:Int)=some (SV.of p) from Z) (eVc (a.ro 8 Z).sv)) Z ?_
       refine Q 1 Z ?_
       obtain ⟨cY,cv,h⟩:=aj h
       refine aF (t:=210) Z Z (aW u24 ti5 Z Z (a.ro 8 Z) cv) Z (aF (t:=210) Z Z (aR Tryz.underlying5 Z Z (a.ro 8 Z) cv Z) Z (Q 1 Z ?_))
       refine aF (t:=210) Z Z (aq Z Z (bS _ 80 0)) Z (aF (t:=210) Z Z (aK Z (cV Tryz.underlying3 Tryz.underlying5 80)) Z (aF (t:=210) Z Z (aq Z Z (dJ _ cY (UInt8.ofInt 80))) Z (Q 2 Z ?_)))
       refine J (N ?_)
       exact ar _ (by exact ⟨Z,Z,Z,Z,Z,Z,Z,Z,Z,Z,Z,Z,Z,Z,V⟩) (a8 (cY != (UInt8.ofInt 80)) _ _ ⟨Z,a⟩ h)
      case false=>
       have h:=aI h br
       try simp only [br]
       refine Q 13 Z ?_
       refine J (N ?_)
       exact ar _ (by exact ⟨Z,Z,Z,Z,Z,Z,Z,Z,Z,Z,Z,Z,Z,Z,V⟩) (a8 false _ _ ⟨Z,a⟩ h)
   case false=>
    have h:=aI h bm
    try simp only [bm]
    refine Q 29 Z ?_
    refine aF (t:=202) Z Z (aW u56 cd Z Z (a.ro 6 Z) (show aB ([SV.of b,SV.of c,SV.of d,SV.of f]:List SV) (0:Int)=some (SV.of b) from Z)) Z ?_
    refine aF (t:=202) Z Z (aR u24 Z Z (a.ro 6 Z) (show aB ([SV.of b,SV.of c,SV.of d,SV.of f]:List SV) (0:Int)=some (SV.of b) from Z) (eVc (a.twro a6 8 7 Z Z).sv)) Z ?_
    refine aF (t:=202) Z Z (aL u24 Z (a.twro a6 8 7 Z Z)) Z (Q 2 Z ?_)
    cases bs:(decide ((T.length:Int)≤bi))
    case true=>
     have h:=aJ h bs
     try simp only [bs]
     refine Q 2 Z ?_
     refine aF (t:=210) Z Z (aW u56 cd Z Z (a.ro 15 Z) (show aB ([SV.of p,SV.of m,SV.of n,SV.of o]:List SV) (0:Int)=some (SV.of p) from Z)) Z ?_
     refine aF (t:=210) Z Z (aR u24 Z Z (a.ro 15 Z) (show aB ([SV.of p,SV.of m,SV.of n,SV.of o]:List SV) (0:Int)=some (SV.of p) from Z) (eVc (a.ro 8 Z).sv)) Z ?_
     refine Q 1 Z ?_
     obtain ⟨cZ,cw,h⟩:=aj h
     refine aF (t:=210) Z Z (aW u24 ti5 Z Z (a.ro 8 Z) cw) Z (aF (t:=210) Z Z (aR Tryz.underlying5 Z Z (a.ro 8 Z) cw Z) Z (Q 1 Z ?_))
     refine aF (t:=210) Z Z (aq Z Z (bS _ 80 0)) Z (aF (t:=210) Z Z (aK Z (cV Tryz.underlying3 Tryz.underlying5 80)) Z (aF (t:=210) Z Z (aq Z Z (dJ _ cZ (UInt8.ofInt 80))) Z (Q 2 Z ?_)))
     refine J (N ?_)
     exact ar _ (by exact ⟨Z,Z,Z,Z,Z,Z,Z,Z,Z,Z,Z,Z,Z,Z,V⟩) (a8 (cZ != (UInt8.ofInt 80)) _ _ ⟨Z,a⟩ h)
    case false=>
     have h:=aI h bs
     try simp only [bs]
     refine Q 13 Z ?_
     refine J (N ?_)
     exact ar _ (by exact ⟨Z,Z,Z,Z,Z,Z,Z,Z,Z,Z,Z,Z,Z,Z,V⟩) (a8 false _ _ ⟨Z,a⟩ h)
  rintro eX L w hJ h
  try dsimp only at hJ
  obtain ⟨rfl,a⟩:=hJ
  unfold F.Ck at h
  refine av Z (fun b9=>?_) (fun b9=>?_)
  ·have h:=aJ h b9
   refine M (H (Q 1 Z ?_))
   refine J (N (ay (bz ?_)))
   refine aG (aG ?_)
   have h:=aT h b7
   refine bz ?_
   refine bz ?_
   refine aG (aG (bz ?_))
   refine aG ?_
   cases h
   exact aM Z Z ⟨Z,a.e [] Z Z⟩
  have h:=aI h b9
  refine aw (aP ?_)
  refine N (H (Q 3 Z ?_))
  refine J ?_
  exact bh (bo _ (by exact ⟨Z,Z,Z,Z,Z,Z,Z,Z,Z,Z,Z,Z,Z,V⟩) (dt (wI (bi+1)) _ _ ⟨Z,a⟩ (aY h b7)))
 have h:=aI h b8
 refine ba ?_
 refine aC (aC ?_)
 have h:=aT h b7
 refine a9 ?_
 refine aP ?_
 refine N (H (Q 1 Z ?_))
 refine al (aq Z Z (bS _ 0 1)) Z (Q 1 Z ?_)
 refine J (bh ?_)
 refine dc ?_
 refine M (M (H (Q 2 Z ?_)))
 refine al (show OpV _ _ _ _ _ (vI 4) _ from aL u56 Z (a.ro 6 Z)) Z (al (aq Z Z (dQ _ 1 4)) Z (J (N (cn Z ?_))))
 refine aw (N (M (az ?_)))
 refine M (H (Q 1 Z ?_))
 refine J (N (az ?_))
 refine ar [(0,vI a0),(1,vI a1),(2,ak),(3,am),(9,K D 0),(12,z),(16,vI y.2.2),(20,slV A e8.sz 0 u.2),(21,slV B e8.sz 0 x.2),(22,C),(25,ad),(29,vI 1),(30,vI 0)] ⟨Z,Z,Z,Z,Z,Z,Z,Z,Z,Z,Z,Z,Z,V⟩ ?_
 refine bd (F.Gb ab ap ac aA a0 a1 a2 a3 q E y u x ag aV) (fun (s:Int) L w=>L=[(0,vI a0),(1,vI a1),(2,ak),(3,am),(9,K D 0),(12,z),(16,vI y.2.2),(20,slV A e8.sz 0 u.2),(21,slV B e8.sz 0 x.2),(22,C),(25,ad),(29,vI 1),(30,vI s)]∧St [] w0 w [X D [G,S,vB q.2.2],O U G q.1,O U S q.2.1,O U z E.2.1,O e8 A u.1,O e8 B x.1,O eV C ([SV.of b,SV.of c,SV.of d,SV.of f]:List SV),twE e8 b T a4,O e8 p aX,twE e8 c ab au,O e8 m ap,twE e8 d ac aS,O e8 n aA,twE e8 f ag a5,O e8 o aV,O eV ad ([SV.of p,SV.of m,SV.of n,SV.of o]:List SV)]) ?_ 0 ⟨Z,a⟩ h
 rintro eY bj L w ef hI du h ca
 try dsimp only at hI
 obtain ⟨rfl,a⟩:=hI
 unfold F.Gb at h
 refine M (M (H (Q 3 Z ?_)))
 refine al (aW u56 cd Z Z (a.ro 15 Z) (show aB ([SV.of p,SV.of m,SV.of n,SV.of o]:List SV) (1:Int)=some (SV.of m) from Z)) Z ?_
 refine al (aR u24 Z Z (a.ro 15 Z) (show aB ([SV.of p,SV.of m,SV.of n,SV.of o]:List SV) (1:Int)=some (SV.of m) from Z) (eVc (a.ro 10 Z).sv)) Z ?_
 refine al (aL u24 Z (a.ro 10 Z)) Z (Q 1 Z ?_)
 refine J (N ?_)
 refine av Z (fun cb=>?_) (fun cb=>?_)
 ·have h:=aJ h cb
  refine aw (N (M (az ?_)))
  refine bf (r:=ef) (fun (g:Bool) L w=>L=[(0,vI a0),(1,vI a1),(2,ak),(3,am),(9,K D 0),(12,z),(16,vI y.2.2),(20,slV A e8.sz 0 u.2),(21,slV B e8.sz 0 x.2),(22,C),(25,ad),(29,vI 1),(30,vI bj),(223,vB g)]∧St [] w0 w [X D [G,S,vB q.2.2],O U G q.1,O U S q.2.1,O U z E.2.1,O e8 A u.1,O e8 B x.1,O eV C ([SV.of b,SV.of c,SV.of d,SV.of f]:List SV),twE e8 b T a4,O e8 p aX,twE e8 c ab au,O e8 m ap,twE e8 d ac aS,O e8 n aA,twE e8 f ag a5,O e8 o aV,O eV ad ([SV.of p,SV.of m,SV.of n,SV.of o]:List SV)]) (F.Ci bj) ?_ ?_
  rotate_left
  ·intro bb
   refine H (Q 3 Z ?_)
   refine al (aW u56 cd Z Z (a.ro 6 Z) (show aB ([SV.of b,SV.of c,SV.of d,SV.of f]:List SV) (1:Int)=some (SV.of c) from Z)) Z ?_
   refine al (aR u24 Z Z (a.ro 6 Z) (show aB ([SV.of b,SV.of c,SV.of d,SV.of f]:List SV) (1:Int)=some (SV.of c) from Z) (eVc (a.twro aD 10 9 Z Z).sv)) Z ?_
   refine al (aL u24 Z (a.twro aD 10 9 Z Z)) Z (Q 2 Z ?_)
   cases bt:(decide (bj<(ab.length:Int)))
   case true=>
    have h:=aJ h bt
    try simp only [bt]
    refine Q 2 Z ?_
    refine aF (t:=176) Z Z (aW u56 cd Z Z (a.ro 6 Z) (show aB ([SV.of b,SV.of c,SV.of d,SV.of f]:List SV) (1:Int)=some (SV.of c) from Z)) Z ?_
    refine aF (t:=176) Z Z (aR u24 Z Z (a.ro 6 Z) (show aB ([SV.of b,SV.of c,SV.of d,SV.of f]:List SV) (1:Int)=some (SV.of c) from Z) (eVc (a.twro aD 10 9 Z Z).sv)) Z ?_
    refine Q 1 Z ?_
    obtain ⟨c0,cy,h⟩:=aj h
    refine aF (t:=176) Z Z (aW u24 ti5 Z Z (a.twro aD 10 9 Z Z) cy) Z (aF (t:=176) Z Z (aR Tryz.underlying5 Z Z (a.twro aD 10 9 Z Z) cy Z) Z (Q 1 Z ?_))
    refine aF (t:=176) Z Z (aq Z Z (bS _ 70 1)) Z (aF (t:=176) Z Z (aK Z (cV Tryz.underlying3 Tryz.underlying5 71)) Z (aF (t:=176) Z Z (aq Z Z (dJ _ c0 (UInt8.ofInt 71))) Z (Q 1 Z ?_)))
    cases bu:(c0 != (UInt8.ofInt 71))
    case true=>
     have h:=aJ h bu
     try simp only [bu]
     refine Q 35 Z ?_
     refine J (N ?_)
     exact ar _ (by exact ⟨Z,Z,Z,Z,Z,Z,Z,Z,Z,Z,Z,Z,Z,Z,V⟩) (bb true _ _ ⟨Z,a⟩ h)
    case false=>
     have h:=aI h bu
     try simp only [bu]
     refine Q 2 Z ?_
     refine aF (t:=188) Z Z (aW u56 cd Z Z (a.ro 15 Z) (show aB ([SV.of p,SV.of m,SV.of n,SV.of o]:List SV) (1:Int)=some (SV.of m) from Z)) Z ?_
     refine aF (t:=188) Z Z (aR u24 Z Z (a.ro 15 Z) (show aB ([SV.of p,SV.of m,SV.of n,SV.of o]:List SV) (1:Int)=some (SV.of m) from Z) (eVc (a.ro 10 Z).sv)) Z ?_
     refine Q 1 Z ?_
     obtain ⟨c1,cz,h⟩:=aj h
     refine aF (t:=188) Z Z (aW u24 ti5 Z Z (a.ro 10 Z) cz) Z (aF (t:=188) Z Z (aR Tryz.underlying5 Z Z (a.ro 10 Z) cz Z) Z (Q 1 Z ?_))
     refine aF (t:=188) Z Z (aq Z Z (bS _ 70 1)) Z (aF (t:=188) Z Z (aK Z (cV Tryz.underlying3 Tryz.underlying5 71)) Z (aF (t:=188) Z Z (aq Z Z (dJ _ c1 (UInt8.ofInt 71))) Z (Q 3 Z ?_)))
     cases bv:(c1 != (UInt8.ofInt 71))
     case true=>
      have h:=aJ h bv
      try simp only [bv]
      refine Q 21 Z ?_
      refine J (N ?_)
      exact ar _ (by exact ⟨Z,Z,Z,Z,Z,Z,Z,Z,Z,Z,Z,Z,Z,Z,V⟩) (bb true _ _ ⟨Z,a⟩ h)
     case false=>
      have h:=aI h bv
      try simp only [bv]
      refine Q 3 Z ?_
      refine aF (t:=202) Z Z (aW u56 cd Z Z (a.ro 6 Z) (show aB ([SV.of b,SV.of c,SV.of d,SV.of f]:List SV) (1:Int)=some (SV.of c) from Z)) Z ?_
      refine aF (t:=202) Z Z (aR u24 Z Z (a.ro 6 Z) (show aB ([SV.of b,SV.of c,SV.of d,SV.of f]:List SV) (1:Int)=some (SV.of c) from Z) (eVc (a.twro aD 10 9 Z Z).sv)) Z ?_
      refine aF (t:=202) Z Z (aL u24 Z (a.twro aD 10 9 Z Z)) Z (Q 2 Z ?_)
      cases bw:(decide ((ab.length:Int)≤bj))
      case true=>
       have h:=aJ h bw
       try simp only [bw]
       refine Q 2 Z ?_
       refine aF (t:=210) Z Z (aW u56 cd Z Z (a.ro 15 Z) (show aB ([SV.of p,SV.of m,SV.of n,SV.of o]:List SV) (1:Int)=some (SV.of m) from Z)) Z ?_
       refine aF (t:=210) Z Z (aR u24 Z Z (a.ro 15 Z) (show aB ([SV.of p,SV.of m,SV.of n,SV.of o]:List SV) (1:Int)=some (SV.of m) from Z) (eVc (a.ro 10 Z).sv)) Z ?_
       refine Q 1 Z ?_
       obtain ⟨c2,cA,h⟩:=aj h
       refine aF (t:=210) Z Z (aW u24 ti5 Z Z (a.ro 10 Z) cA) Z (aF (t:=210) Z Z (aR Tryz.underlying5 Z Z (a.ro 10 Z) cA Z) Z (Q 1 Z ?_))
       refine aF (t:=210) Z Z (aq Z Z (bS _ 80 1)) Z (aF (t:=210) Z Z (aK Z (cV Tryz.underlying3 Tryz.underlying5 81)) Z (aF (t:=210) Z Z (aq Z Z (dJ _ c2 (UInt8.ofInt 81))) Z (Q 2 Z ?_)))
       refine J (N ?_)
       exact ar _ (by exact ⟨Z,Z,Z,Z,Z,Z,Z,Z,Z,Z,Z,Z,Z,Z,V⟩) (bb (c2 != (UInt8.ofInt 81)) _ _ ⟨Z,a⟩ h)
      case false=>
       have h:=aI h bw
       try simp only [bw]
       refine Q 13 Z ?_
       refine J (N ?_)
       exact ar _ (by exact ⟨Z,Z,Z,Z,Z,Z,Z,Z,Z,Z,Z,Z,Z,Z,V⟩) (bb false _ _ ⟨Z,a⟩ h)
   case false=>
    have h:=aI h bt
    try simp only [bt]
    refine Q 29 Z ?_
    refine aF (t:=202) Z Z (aW u56 cd Z Z (a.ro 6 Z) (show aB ([SV.of b,SV.of c,SV.of d,SV.of f]:List SV) (1:Int)=some (SV.of c) from Z)) Z ?_
    refine aF (t:=202) Z Z (aR u24 Z Z (a.ro 6 Z) (show aB ([SV.of b,SV.of c,SV.of d,SV.of f]:List SV) (1:Int)=some (SV.of c) from Z) (eVc (a.twro aD 10 9 Z Z).sv)) Z ?_
    refine aF (t:=202) Z Z (aL u24 Z (a.twro aD 10 9 Z Z)) Z (Q 2 Z ?_)
    cases bB:(decide ((ab.length:Int)≤bj))
    case true=>
     have h:=aJ h bB
     try simp only [bB]
     refine Q 2 Z ?_
     refine aF (t:=210) Z Z (aW u56 cd Z Z (a.ro 15 Z) (show aB ([SV.of p,SV.of m,SV.of n,SV.of o]:List SV) (1:Int)=some (SV.of m) from Z)) Z ?_
     refine aF (t:=210) Z Z (aR u24 Z Z (a.ro 15 Z) (show aB ([SV.of p,SV.of m,SV.of n,SV.of o]:List SV) (1:Int)=some (SV.of m) from Z) (eVc (a.ro 10 Z).sv)) Z ?_
     refine Q 1 Z ?_
     obtain ⟨c3,cB,h⟩:=aj h
     refine aF (t:=210) Z Z (aW u24 ti5 Z Z (a.ro 10 Z) cB) Z (aF (t:=210) Z Z (aR Tryz.underlying5 Z Z (a.ro 10 Z) cB Z) Z (Q 1 Z ?_))
     refine aF (t:=210) Z Z (aq Z Z (bS _ 80 1)) Z (aF (t:=210) Z Z (aK Z (cV Tryz.underlying3 Tryz.underlying5 81)) Z (aF (t:=210) Z Z (aq Z Z (dJ _ c3 (UInt8.ofInt 81))) Z (Q 2 Z ?_)))
     refine J (N ?_)
     exact ar _ (by exact ⟨Z,Z,Z,Z,Z,Z,Z,Z,Z,Z,Z,Z,Z,Z,V⟩) (bb (c3 != (UInt8.ofInt 81)) _ _ ⟨Z,a⟩ h)
    case false=>
     have h:=aI h bB
     try simp only [bB]
     refine Q 13 Z ?_
     refine J (N ?_)
     exact ar _ (by exact ⟨Z,Z,Z,Z,Z,Z,Z,Z,Z,Z,Z,Z,Z,Z,V⟩) (bb false _ _ ⟨Z,a⟩ h)
  rintro eZ L w hJ h
  try dsimp only at hJ
  obtain ⟨rfl,a⟩:=hJ
  unfold F.Ci at h
  refine av Z (fun cc=>?_) (fun cc=>?_)
  ·have h:=aJ h cc
   refine M (H (Q 1 Z ?_))
   refine J (N (ay (bz ?_)))
   refine aG (aG ?_)
   have h:=aT h ca
   refine bz ?_
   refine bz ?_
   refine aG (aG (bz ?_))
   refine aG ?_
   cases h
   exact aM Z Z ⟨Z,a.e [] Z Z⟩
  have h:=aI h cc
  refine aw (aP ?_)
  refine N (H (Q 3 Z ?_))
  refine J ?_
  exact bh (bo _ (by exact ⟨Z,Z,Z,Z,Z,Z,Z,Z,Z,Z,Z,Z,Z,V⟩) (du (wI (bj+1)) _ _ ⟨Z,a⟩ (aY h ca)))
 have h:=aI h cb
 refine ba ?_
 refine aC (aC ?_)
 have h:=aT h ca
 refine a9 ?_
 refine aP ?_
 refine N (H (Q 1 Z ?_))
 refine al (aq Z Z (bS _ 1 1)) Z (Q 1 Z ?_)
 refine J (bh ?_)
 refine dc ?_
 refine M (M (H (Q 2 Z ?_)))
 refine al (show OpV _ _ _ _ _ (vI 4) _ from aL u56 Z (a.ro 6 Z)) Z (al (aq Z Z (dQ _ 2 4)) Z (J (N (cn Z ?_))))
 refine aw (N (M (az ?_)))
 refine M (H (Q 1 Z ?_))
 refine J (N (az ?_))
 refine ar [(0,vI a0),(1,vI a1),(2,ak),(3,am),(9,K D 0),(12,z),(16,vI y.2.2),(20,slV A e8.sz 0 u.2),(21,slV B e8.sz 0 x.2),(22,C),(25,ad),(29,vI 2),(30,vI 0)] ⟨Z,Z,Z,Z,Z,Z,Z,Z,Z,Z,Z,Z,Z,V⟩ ?_
 refine bd (F.Ge ac aA a0 a1 a2 a3 q E y u x ag aV) (fun (s:Int) L w=>L=[(0,vI a0),(1,vI a1),(2,ak),(3,am),(9,K D 0),(12,z),(16,vI y.2.2),(20,slV A e8.sz 0 u.2),(21,slV B e8.sz 0 x.2),(22,C),(25,ad),(29,vI 2),(30,vI s)]∧St [] w0 w [X D [G,S,vB q.2.2],O U G q.1,O U S q.2.1,O U z E.2.1,O e8 A u.1,O e8 B x.1,O eV C ([SV.of b,SV.of c,SV.of d,SV.of f]:List SV),twE e8 b T a4,O e8 p aX,twE e8 c ab au,O e8 m ap,twE e8 d ac aS,O e8 n aA,twE e8 f ag a5,O e8 o aV,O eV ad ([SV.of p,SV.of m,SV.of n,SV.of o]:List SV)]) ?_ 0 ⟨Z,a⟩ h
 rintro e0 bk L w eg hI dv h ce
 try dsimp only at hI
 obtain ⟨rfl,a⟩:=hI
 unfold F.Ge at h
 refine M (M (H (Q 3 Z ?_)))
 refine al (aW u56 cd Z Z (a.ro 15 Z) (show aB ([SV.of p,SV.of m,SV.of n,SV.of o]:List SV) (2:Int)=some (SV.of n) from Z)) Z ?_
 refine al (aR u24 Z Z (a.ro 15 Z) (show aB ([SV.of p,SV.of m,SV.of n,SV.of o]:List SV) (2:Int)=some (SV.of n) from Z) (eVc (a.ro 12 Z).sv)) Z ?_
 refine al (aL u24 Z (a.ro 12 Z)) Z (Q 1 Z ?_)
 refine J (N ?_)
 refine av Z (fun cf=>?_) (fun cf=>?_)
 ·have h:=aJ h cf
  refine aw (N (M (az ?_)))
  refine bf (r:=eg) (fun (g:Bool) L w=>L=[(0,vI a0),(1,vI a1),(2,ak),(3,am),(9,K D 0),(12,z),(16,vI y.2.2),(20,slV A e8.sz 0 u.2),(21,slV B e8.sz 0 x.2),(22,C),(25,ad),(29,vI 2),(30,vI bk),(223,vB g)]∧St [] w0 w [X D [G,S,vB q.2.2],O U G q.1,O U S q.2.1,O U z E.2.1,O e8 A u.1,O e8 B x.1,O eV C ([SV.of b,SV.of c,SV.of d,SV.of f]:List SV),twE e8 b T a4,O e8 p aX,twE e8 c ab au,O e8 m ap,twE e8 d ac aS,O e8 n aA,twE e8 f ag a5,O e8 o aV,O eV ad ([SV.of p,SV.of m,SV.of n,SV.of o]:List SV)]) (F.CT bk) ?_ ?_
  rotate_left
  ·intro bc
   refine H (Q 3 Z ?_)
   refine al (aW u56 cd Z Z (a.ro 6 Z) (show aB ([SV.of b,SV.of c,SV.of d,SV.of f]:List SV) (2:Int)=some (SV.of d) from Z)) Z ?_
   refine al (aR u24 Z Z (a.ro 6 Z) (show aB ([SV.of b,SV.of c,SV.of d,SV.of f]:List SV) (2:Int)=some (SV.of d) from Z) (eVc (a.twro aE 12 11 Z Z).sv)) Z ?_
   refine al (aL u24 Z (a.twro aE 12 11 Z Z)) Z (Q 2 Z ?_)
   cases bC:(decide (bk<(ac.length:Int)))
   case true=>
    have h:=aJ h bC
    try simp only [bC]
    refine Q 2 Z ?_
    refine aF (t:=176) Z Z (aW u56 cd Z Z (a.ro 6 Z) (show aB ([SV.of b,SV.of c,SV.of d,SV.of f]:List SV) (2:Int)=some (SV.of d) from Z)) Z ?_
    refine aF (t:=176) Z Z (aR u24 Z Z (a.ro 6 Z) (show aB ([SV.of b,SV.of c,SV.of d,SV.of f]:List SV) (2:Int)=some (SV.of d) from Z) (eVc (a.twro aE 12 11 Z Z).sv)) Z ?_
    refine Q 1 Z ?_
    obtain ⟨c4,cC,h⟩:=aj h
    refine aF (t:=176) Z Z (aW u24 ti5 Z Z (a.twro aE 12 11 Z Z) cC) Z (aF (t:=176) Z Z (aR Tryz.underlying5 Z Z (a.twro aE 12 11 Z Z) cC Z) Z (Q 1 Z ?_))
    refine aF (t:=176) Z Z (aq Z Z (bS _ 70 2)) Z (aF (t:=176) Z Z (aK Z (cV Tryz.underlying3 Tryz.underlying5 72)) Z (aF (t:=176) Z Z (aq Z Z (dJ _ c4 (UInt8.ofInt 72))) Z (Q 1 Z ?_)))
    cases bD:(c4 != (UInt8.ofInt 72))
    case true=>
     have h:=aJ h bD
     try simp only [bD]
     refine Q 35 Z ?_
     refine J (N ?_)
     exact ar _ (by exact ⟨Z,Z,Z,Z,Z,Z,Z,Z,Z,Z,Z,Z,Z,Z,V⟩) (bc true _ _ ⟨Z,a⟩ h)
    case false=>
     have h:=aI h bD
     try simp only [bD]
     refine Q 2 Z ?_
     refine aF (t:=188) Z Z (aW u56 cd Z Z (a.ro 15 Z) (show aB ([SV.of p,SV.of m,SV.of n,SV.of o]:List SV) (2:Int)=some (SV.of n) from Z)) Z ?_
     refine aF (t:=188) Z Z (aR u24 Z Z (a.ro 15 Z) (show aB ([SV.of p,SV.of m,SV.of n,SV.of o]:List SV) (2:Int)=some (SV.of n) from Z) (eVc (a.ro 12 Z).sv)) Z ?_
     refine Q 1 Z ?_
     obtain ⟨c5,cD,h⟩:=aj h
     refine aF (t:=188) Z Z (aW u24 ti5 Z Z (a.ro 12 Z) cD) Z (aF (t:=188) Z Z (aR Tryz.underlying5 Z Z (a.ro 12 Z) cD Z) Z (Q 1 Z ?_))
     refine aF (t:=188) Z Z (aq Z Z (bS _ 70 2)) Z (aF (t:=188) Z Z (aK Z (cV Tryz.underlying3 Tryz.underlying5 72)) Z (aF (t:=188) Z Z (aq Z Z (dJ _ c5 (UInt8.ofInt 72))) Z (Q 3 Z ?_)))
     cases bE:(c5 != (UInt8.ofInt 72))
     case true=>
      have h:=aJ h bE
      try simp only [bE]
      refine Q 21 Z ?_
      refine J (N ?_)
      exact ar _ (by exact ⟨Z,Z,Z,Z,Z,Z,Z,Z,Z,Z,Z,Z,Z,Z,V⟩) (bc true _ _ ⟨Z,a⟩ h)
     case false=>
      have h:=aI h bE
      try simp only [bE]
      refine Q 3 Z ?_
      refine aF (t:=202) Z Z (aW u56 cd Z Z (a.ro 6 Z) (show aB ([SV.of b,SV.of c,SV.of d,SV.of f]:List SV) (2:Int)=some (SV.of d) from Z)) Z ?_
      refine aF (t:=202) Z Z (aR u24 Z Z (a.ro 6 Z) (show aB ([SV.of b,SV.of c,SV.of d,SV.of f]:List SV) (2:Int)=some (SV.of d) from Z) (eVc (a.twro aE 12 11 Z Z).sv)) Z ?_
      refine aF (t:=202) Z Z (aL u24 Z (a.twro aE 12 11 Z Z)) Z (Q 2 Z ?_)
      cases bF:(decide ((ac.length:Int)≤bk))
      case true=>
       have h:=aJ h bF
       try simp only [bF]
       refine Q 2 Z ?_
       refine aF (t:=210) Z Z (aW u56 cd Z Z (a.ro 15 Z) (show aB ([SV.of p,SV.of m,SV.of n,SV.of o]:List SV) (2:Int)=some (SV.of n) from Z)) Z ?_
       refine aF (t:=210) Z Z (aR u24 Z Z (a.ro 15 Z) (show aB ([SV.of p,SV.of m,SV.of n,SV.of o]:List SV) (2:Int)=some (SV.of n) from Z) (eVc (a.ro 12 Z).sv)) Z ?_
       refine Q 1 Z ?_
       obtain ⟨c6,cE,h⟩:=aj h
       refine aF (t:=210) Z Z (aW u24 ti5 Z Z (a.ro 12 Z) cE) Z (aF (t:=210) Z Z (aR Tryz.underlying5 Z Z (a.ro 12 Z) cE Z) Z (Q 1 Z ?_))
       refine aF (t:=210) Z Z (aq Z Z (bS _ 80 2)) Z (aF (t:=210) Z Z (aK Z (cV Tryz.underlying3 Tryz.underlying5 82)) Z (aF (t:=210) Z Z (aq Z Z (dJ _ c6 (UInt8.ofInt 82))) Z (Q 2 Z ?_)))
       refine J (N ?_)
       exact ar _ (by exact ⟨Z,Z,Z,Z,Z,Z,Z,Z,Z,Z,Z,Z,Z,Z,V⟩) (bc (c6 != (UInt8.ofInt 82)) _ _ ⟨Z,a⟩ h)
      case false=>
       have h:=aI h bF
       try simp only [bF]
       refine Q 13 Z ?_
       refine J (N ?_)
       exact ar _ (by exact ⟨Z,Z,Z,Z,Z,Z,Z,Z,Z,Z,Z,Z,Z,Z,V⟩) (bc false _ _ ⟨Z,a⟩ h)
   case false=>
    have h:=aI h bC
    try simp only [bC]
    refine Q 29 Z ?_
    refine aF (t:=202) Z Z (aW u56 cd Z Z (a.ro 6 Z) (show aB ([SV.of b,SV.of c,SV.of d,SV.of f]:List SV) (2:Int)=some (SV.of d) from Z)) Z ?_
    refine aF (t:=202) Z Z (aR u24 Z Z (a.ro 6 Z) (show aB ([SV.of b,SV.of c,SV.of d,SV.of f]:List SV) (2:Int)=some (SV.of d) from Z) (eVc (a.twro aE 12 11 Z Z).sv)) Z ?_
    refine aF (t:=202) Z Z (aL u24 Z (a.twro aE 12 11 Z Z)) Z (Q 2 Z ?_)
    cases bG:(decide ((ac.length:Int)≤bk))
    case true=>
     have h:=aJ h bG
     try simp only [bG]
     refine Q 2 Z ?_
     refine aF (t:=210) Z Z (aW u56 cd Z Z (a.ro 15 Z) (show aB ([SV.of p,SV.of m,SV.of n,SV.of o]:List SV) (2:Int)=some (SV.of n) from Z)) Z ?_
     refine aF (t:=210) Z Z (aR u24 Z Z (a.ro 15 Z) (show aB ([SV.of p,SV.of m,SV.of n,SV.of o]:List SV) (2:Int)=some (SV.of n) from Z) (eVc (a.ro 12 Z).sv)) Z ?_
     refine Q 1 Z ?_
     obtain ⟨c7,cF,h⟩:=aj h
     refine aF (t:=210) Z Z (aW u24 ti5 Z Z (a.ro 12 Z) cF) Z (aF (t:=210) Z Z (aR Tryz.underlying5 Z Z (a.ro 12 Z) cF Z) Z (Q 1 Z ?_))
     refine aF (t:=210) Z Z (aq Z Z (bS _ 80 2)) Z (aF (t:=210) Z Z (aK Z (cV Tryz.underlying3 Tryz.underlying5 82)) Z (aF (t:=210) Z Z (aq Z Z (dJ _ c7 (UInt8.ofInt 82))) Z (Q 2 Z ?_)))
     refine J (N ?_)
     exact ar _ (by exact ⟨Z,Z,Z,Z,Z,Z,Z,Z,Z,Z,Z,Z,Z,Z,V⟩) (bc (c7 != (UInt8.ofInt 82)) _ _ ⟨Z,a⟩ h)
    case false=>
     have h:=aI h bG
     try simp only [bG]
     refine Q 13 Z ?_
     refine J (N ?_)
     exact ar _ (by exact ⟨Z,Z,Z,Z,Z,Z,Z,Z,Z,Z,Z,Z,Z,Z,V⟩) (bc false _ _ ⟨Z,a⟩ h)
  rintro e1 L w hJ h
  try dsimp only at hJ
  obtain ⟨rfl,a⟩:=hJ
  unfold F.CT at h
  refine av Z (fun cg=>?_) (fun cg=>?_)
  ·have h:=aJ h cg
   refine M (H (Q 1 Z ?_))
   refine J (N (ay (bz ?_)))
   refine aG (aG ?_)
   have h:=aT h ce
   refine bz ?_
   refine bz ?_
   refine aG (aG (bz ?_))
   refine aG ?_
   cases h
   exact aM Z Z ⟨Z,a.e [] Z Z⟩
  have h:=aI h cg
  refine aw (aP ?_)
  refine N (H (Q 3 Z ?_))
  refine J ?_
  exact bh (bo _ (by exact ⟨Z,Z,Z,Z,Z,Z,Z,Z,Z,Z,Z,Z,Z,V⟩) (dv (wI (bk+1)) _ _ ⟨Z,a⟩ (aY h ce)))
 have h:=aI h cf
 refine ba ?_
 refine aC (aC ?_)
 have h:=aT h ce
 refine a9 ?_
 refine aP ?_
 refine N (H (Q 1 Z ?_))
 refine al (aq Z Z (bS _ 2 1)) Z (Q 1 Z ?_)
 refine J (bh ?_)
 refine dc ?_
 refine M (M (H (Q 2 Z ?_)))
 refine al (show OpV _ _ _ _ _ (vI 4) _ from aL u56 Z (a.ro 6 Z)) Z (al (aq Z Z (dQ _ 3 4)) Z (J (N (cn Z ?_))))
 refine aw (N (M (az ?_)))
 refine M (H (Q 1 Z ?_))
 refine J (N (az ?_))
 refine ar [(0,vI a0),(1,vI a1),(2,ak),(3,am),(9,K D 0),(12,z),(16,vI y.2.2),(20,slV A e8.sz 0 u.2),(21,slV B e8.sz 0 x.2),(22,C),(25,ad),(29,vI 3),(30,vI 0)] ⟨Z,Z,Z,Z,Z,Z,Z,Z,Z,Z,Z,Z,Z,V⟩ ?_
 refine bd (F.Gc a0 a1 a2 a3 q E y u x ag aV) (fun (s:Int) L w=>L=[(0,vI a0),(1,vI a1),(2,ak),(3,am),(9,K D 0),(12,z),(16,vI y.2.2),(20,slV A e8.sz 0 u.2),(21,slV B e8.sz 0 x.2),(22,C),(25,ad),(29,vI 3),(30,vI s)]∧St [] w0 w [X D [G,S,vB q.2.2],O U G q.1,O U S q.2.1,O U z E.2.1,O e8 A u.1,O e8 B x.1,O eV C ([SV.of b,SV.of c,SV.of d,SV.of f]:List SV),twE e8 b T a4,O e8 p aX,twE e8 c ab au,O e8 m ap,twE e8 d ac aS,O e8 n aA,twE e8 f ag a5,O e8 o aV,O eV ad ([SV.of p,SV.of m,SV.of n,SV.of o]:List SV)]) ?_ 0 ⟨Z,a⟩ h
 rintro e2 bl L w eh hI dw h ch
 try dsimp only at hI
 obtain ⟨rfl,a⟩:=hI
 unfold F.Gc at h
 refine M (M (H (Q 3 Z ?_)))
 refine al (aW u56 cd Z Z (a.ro 15 Z) (show aB ([SV.of p,SV.of m,SV.of n,SV.of o]:List SV) (3:Int)=some (SV.of o) from Z)) Z ?_
 refine al (aR u24 Z Z (a.ro 15 Z) (show aB ([SV.of p,SV.of m,SV.of n,SV.of o]:List SV) (3:Int)=some (SV.of o) from Z) (eVc (a.ro 14 Z).sv)) Z ?_
 refine al (aL u24 Z (a.ro 14 Z)) Z (Q 1 Z ?_)
 refine J (N ?_)
 refine av Z (fun cj=>?_) (fun cj=>?_)
 ·have h:=aJ h cj
  refine aw (N (M (az ?_)))
  refine bf (r:=eh) (fun (g:Bool) L w=>L=[(0,vI a0),(1,vI a1),(2,ak),(3,am),(9,K D 0),(12,z),(16,vI y.2.2),(20,slV A e8.sz 0 u.2),(21,slV B e8.sz 0 x.2),(22,C),(25,ad),(29,vI 3),(30,vI bl),(223,vB g)]∧St [] w0 w [X D [G,S,vB q.2.2],O U G q.1,O U S q.2.1,O U z E.2.1,O e8 A u.1,O e8 B x.1,O eV C ([SV.of b,SV.of c,SV.of d,SV.of f]:List SV),twE e8 b T a4,O e8 p aX,twE e8 c ab au,O e8 m ap,twE e8 d ac aS,O e8 n aA,twE e8 f ag a5,O e8 o aV,O eV ad ([SV.of p,SV.of m,SV.of n,SV.of o]:List SV)]) (F.Cl bl) ?_ ?_
  rotate_left
  ·intro be
   refine H (Q 3 Z ?_)
   refine al (aW u56 cd Z Z (a.ro 6 Z) (show aB ([SV.of b,SV.of c,SV.of d,SV.of f]:List SV) (3:Int)=some (SV.of f) from Z)) Z ?_
   refine al (aR u24 Z Z (a.ro 6 Z) (show aB ([SV.of b,SV.of c,SV.of d,SV.of f]:List SV) (3:Int)=some (SV.of f) from Z) (eVc (a.twro aO 14 13 Z Z).sv)) Z ?_
   refine al (aL u24 Z (a.twro aO 14 13 Z Z)) Z (Q 2 Z ?_)
   cases bH:(decide (bl<(ag.length:Int)))
   case true=>
    have h:=aJ h bH
    try simp only [bH]
    refine Q 2 Z ?_
    refine aF (t:=176) Z Z (aW u56 cd Z Z (a.ro 6 Z) (show aB ([SV.of b,SV.of c,SV.of d,SV.of f]:List SV) (3:Int)=some (SV.of f) from Z)) Z ?_
    refine aF (t:=176) Z Z (aR u24 Z Z (a.ro 6 Z) (show aB ([SV.of b,SV.of c,SV.of d,SV.of f]:List SV) (3:Int)=some (SV.of f) from Z) (eVc (a.twro aO 14 13 Z Z).sv)) Z ?_
    refine Q 1 Z ?_
    obtain ⟨c8,cG,h⟩:=aj h
    refine aF (t:=176) Z Z (aW u24 ti5 Z Z (a.twro aO 14 13 Z Z) cG) Z (aF (t:=176) Z Z (aR Tryz.underlying5 Z Z (a.twro aO 14 13 Z Z) cG Z) Z (Q 1 Z ?_))
    refine aF (t:=176) Z Z (aq Z Z (bS _ 70 3)) Z (aF (t:=176) Z Z (aK Z (cV Tryz.underlying3 Tryz.underlying5 73)) Z (aF (t:=176) Z Z (aq Z Z (dJ _ c8 (UInt8.ofInt 73))) Z (Q 1 Z ?_)))
    cases bI:(c8 != (UInt8.ofInt 73))
    case true=>
     have h:=aJ h bI
     try simp only [bI]
     refine Q 35 Z ?_
     refine J (N ?_)
     exact ar _ (by exact ⟨Z,Z,Z,Z,Z,Z,Z,Z,Z,Z,Z,Z,Z,Z,V⟩) (be true _ _ ⟨Z,a⟩ h)
    case false=>
     have h:=aI h bI
     try simp only [bI]
     refine Q 2 Z ?_
     refine aF (t:=188) Z Z (aW u56 cd Z Z (a.ro 15 Z) (show aB ([SV.of p,SV.of m,SV.of n,SV.of o]:List SV) (3:Int)=some (SV.of o) from Z)) Z ?_
     refine aF (t:=188) Z Z (aR u24 Z Z (a.ro 15 Z) (show aB ([SV.of p,SV.of m,SV.of n,SV.of o]:List SV) (3:Int)=some (SV.of o) from Z) (eVc (a.ro 14 Z).sv)) Z ?_
     refine Q 1 Z ?_
     obtain ⟨c9,cH,h⟩:=aj h
     refine aF (t:=188) Z Z (aW u24 ti5 Z Z (a.ro 14 Z) cH) Z (aF (t:=188) Z Z (aR Tryz.underlying5 Z Z (a.ro 14 Z) cH Z) Z (Q 1 Z ?_))
     refine aF (t:=188) Z Z (aq Z Z (bS _ 70 3)) Z (aF (t:=188) Z Z (aK Z (cV Tryz.underlying3 Tryz.underlying5 73)) Z (aF (t:=188) Z Z (aq Z Z (dJ _ c9 (UInt8.ofInt 73))) Z (Q 3 Z ?_)))
     cases bJ:(c9 != (UInt8.ofInt 73))
     case true=>
      have h:=aJ h bJ
      try simp only [bJ]
      refine Q 21 Z ?_
      refine J (N ?_)
      exact ar _ (by exact ⟨Z,Z,Z,Z,Z,Z,Z,Z,Z,Z,Z,Z,Z,Z,V⟩) (be true _ _ ⟨Z,a⟩ h)
     case false=>
      have h:=aI h bJ
      try simp only [bJ]
      refine Q 3 Z ?_
      refine aF (t:=202) Z Z (aW u56 cd Z Z (a.ro 6 Z) (show aB ([SV.of b,SV.of c,SV.of d,SV.of f]:List SV) (3:Int)=some (SV.of f) from Z)) Z ?_
      refine aF (t:=202) Z Z (aR u24 Z Z (a.ro 6 Z) (show aB ([SV.of b,SV.of c,SV.of d,SV.of f]:List SV) (3:Int)=some (SV.of f) from Z) (eVc (a.twro aO 14 13 Z Z).sv)) Z ?_
      refine aF (t:=202) Z Z (aL u24 Z (a.twro aO 14 13 Z Z)) Z (Q 2 Z ?_)
      cases bK:(decide ((ag.length:Int)≤bl))
      case true=>
       have h:=aJ h bK
       try simp only [bK]
       refine Q 2 Z ?_
       refine aF (t:=210) Z Z (aW u56 cd Z Z (a.ro 15 Z) (show aB ([SV.of p,SV.of m,SV.of n,SV.of o]:List SV) (3:Int)=some (SV.of o) from Z)) Z ?_
       refine aF (t:=210) Z Z (aR u24 Z Z (a.ro 15 Z) (show aB ([SV.of p,SV.of m,SV.of n,SV.of o]:List SV) (3:Int)=some (SV.of o) from Z) (eVc (a.ro 14 Z).sv)) Z ?_
       refine Q 1 Z ?_
       obtain ⟨da,cI,h⟩:=aj h
       refine aF (t:=210) Z Z (aW u24 ti5 Z Z (a.ro 14 Z) cI) Z (aF (t:=210) Z Z (aR Tryz.underlying5 Z Z (a.ro 14 Z) cI Z) Z (Q 1 Z ?_))
       refine aF (t:=210) Z Z (aq Z Z (bS _ 80 3)) Z (aF (t:=210) Z Z (aK Z (cV Tryz.underlying3 Tryz.underlying5 83)) Z (aF (t:=210) Z Z (aq Z Z (dJ _ da (UInt8.ofInt 83))) Z (Q 2 Z ?_)))
       refine J (N ?_)
       exact ar _ (by exact ⟨Z,Z,Z,Z,Z,Z,Z,Z,Z,Z,Z,Z,Z,Z,V⟩) (be (da != (UInt8.ofInt 83)) _ _ ⟨Z,a⟩ h)
      case false=>
       have h:=aI h bK
       try simp only [bK]
       refine Q 13 Z ?_
       refine J (N ?_)
       exact ar _ (by exact ⟨Z,Z,Z,Z,Z,Z,Z,Z,Z,Z,Z,Z,Z,Z,V⟩) (be false _ _ ⟨Z,a⟩ h)
   case false=>
    have h:=aI h bH
    try simp only [bH]
    refine Q 29 Z ?_
    refine aF (t:=202) Z Z (aW u56 cd Z Z (a.ro 6 Z) (show aB ([SV.of b,SV.of c,SV.of d,SV.of f]:List SV) (3:Int)=some (SV.of f) from Z)) Z ?_
    refine aF (t:=202) Z Z (aR u24 Z Z (a.ro 6 Z) (show aB ([SV.of b,SV.of c,SV.of d,SV.of f]:List SV) (3:Int)=some (SV.of f) from Z) (eVc (a.twro aO 14 13 Z Z).sv)) Z ?_
    refine aF (t:=202) Z Z (aL u24 Z (a.twro aO 14 13 Z Z)) Z (Q 2 Z ?_)
    cases bL:(decide ((ag.length:Int)≤bl))
    case true=>
     have h:=aJ h bL
     try simp only [bL]
     refine Q 2 Z ?_
     refine aF (t:=210) Z Z (aW u56 cd Z Z (a.ro 15 Z) (show aB ([SV.of p,SV.of m,SV.of n,SV.of o]:List SV) (3:Int)=some (SV.of o) from Z)) Z ?_
     refine aF (t:=210) Z Z (aR u24 Z Z (a.ro 15 Z) (show aB ([SV.of p,SV.of m,SV.of n,SV.of o]:List SV) (3:Int)=some (SV.of o) from Z) (eVc (a.ro 14 Z).sv)) Z ?_
     refine Q 1 Z ?_
     obtain ⟨db,cJ,h⟩:=aj h
     refine aF (t:=210) Z Z (aW u24 ti5 Z Z (a.ro 14 Z) cJ) Z (aF (t:=210) Z Z (aR Tryz.underlying5 Z Z (a.ro 14 Z) cJ Z) Z (Q 1 Z ?_))
     refine aF (t:=210) Z Z (aq Z Z (bS _ 80 3)) Z (aF (t:=210) Z Z (aK Z (cV Tryz.underlying3 Tryz.underlying5 83)) Z (aF (t:=210) Z Z (aq Z Z (dJ _ db (UInt8.ofInt 83))) Z (Q 2 Z ?_)))
     refine J (N ?_)
     exact ar _ (by exact ⟨Z,Z,Z,Z,Z,Z,Z,Z,Z,Z,Z,Z,Z,Z,V⟩) (be (db != (UInt8.ofInt 83)) _ _ ⟨Z,a⟩ h)
    case false=>
     have h:=aI h bL
     try simp only [bL]
     refine Q 13 Z ?_
     refine J (N ?_)
     exact ar _ (by exact ⟨Z,Z,Z,Z,Z,Z,Z,Z,Z,Z,Z,Z,Z,Z,V⟩) (be false _ _ ⟨Z,a⟩ h)
  rintro e3 L w hJ h
  try dsimp only at hJ
  obtain ⟨rfl,a⟩:=hJ
  unfold F.Cl at h
  refine av Z (fun ck=>?_) (fun ck=>?_)
  ·have h:=aJ h ck
   refine M (H (Q 1 Z ?_))
   refine J (N (ay (bz ?_)))
   refine aG (aG ?_)
   have h:=aT h ch
   refine bz ?_
   refine bz ?_
   refine aG (aG (bz ?_))
   refine aG ?_
   cases h
   exact aM Z Z ⟨Z,a.e [] Z Z⟩
  have h:=aI h ck
  refine aw (aP ?_)
  refine N (H (Q 3 Z ?_))
  refine J ?_
  exact bh (bo _ (by exact ⟨Z,Z,Z,Z,Z,Z,Z,Z,Z,Z,Z,Z,Z,V⟩) (dw (wI (bl+1)) _ _ ⟨Z,a⟩ (aY h ch)))
 have h:=aI h cj
 refine ba ?_
 refine aC (aC ?_)
 have h:=aT h ch
 refine a9 ?_
 refine aP ?_
 refine N (H (Q 1 Z ?_))
 refine al (aq Z Z (bS _ 3 1)) Z (Q 1 Z ?_)
 refine J (bh ?_)
 refine dc ?_
 refine M (M (H (Q 2 Z ?_)))
 refine al (show OpV _ _ _ _ _ (vI 4) _ from aL u56 Z (a.ro 6 Z)) Z (al (aq Z Z (dQ _ 4 4)) Z (J (N (dV Z ?_))))
 refine ba ?_
 refine aC (aC (a9 ?_))
 refine N (M (H (Q 5 Z ?_)))
 refine al (bO (us:=[G,S,vB q.2.2]) u33 Z cx Z (a.q 0 Z Z)) Z ?_
 obtain ⟨ei,dx,h⟩:=aj h
 refine ao Z (fg a0 a1 q.2.2 dx (hT.d a.fr) (dd.d a.fr).rp (a.ro 3 Z).rp (de.d a.fr).rp (a.ro 1 Z).rp (a.ro 2 Z).rp) Z ?_
 rintro _ w ⟨e4,e5,rfl,an⟩
 have a:=a.f an
 refine Q 7 Z ?_
 refine J (N (M (H (Q 4 Z ?_))))
 cases bM:(ei.2.2 == y.2.2)
 case true=>
  have h:=aJ h bM
  try simp only [bM]
  refine Q 2 Z ?_
  obtain ⟨ej,dy,h⟩:=aj h
  refine cr (t:=238) Z Z (by kernel_rfl) Z (gu  dy (a.ro 0 Z).rp ((a.ro 6 Z).tk dL).rp) Z ?_
  rintro _ w ⟨rfl,an⟩
  have a:=a.f an
  refine Q 2 Z ?_
  cases bN:ej
  case true=>
   have h:=aJ h bN
   try simp only [bN]
   refine Q 2 Z ?_
   obtain ⟨e6,dz,h⟩:=aj h
   refine cr (t:=243) Z Z (by kernel_rfl) Z (gu  dz (a.ro 1 Z).rp ((a.ro 7 Z).tk dN).rp) Z ?_
   rintro _ w ⟨rfl,an⟩
   have a:=a.f an
   refine Q 2 Z ?_
   refine J (N (ay ?_))
   cases h
   exact aM Z Z ⟨Z,a.e [] Z Z⟩
  case false=>
   have h:=aI h bN
   try simp only [bN]
   refine Q 5 Z ?_
   refine J (N (ay ?_))
   cases h
   exact aM Z Z ⟨Z,a.e [] Z Z⟩
 case false=>
  have h:=aI h bM
  try simp only [bM]
  refine Q 10 Z ?_
  refine J (N (ay ?_))
  cases h
  exact aM Z Z ⟨Z,a.e [] Z Z⟩
end Go.Proofs
