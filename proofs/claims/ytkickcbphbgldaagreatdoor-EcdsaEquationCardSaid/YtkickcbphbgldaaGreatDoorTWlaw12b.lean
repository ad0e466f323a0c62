import Derived.Test.YtkickcbphbgldaaGreatDoorTW0
import Derived.Test.YtkickcbphbgldaaGreatDoorGkFman
import Derived.Test.YtkickcbphbgldaaGreatDoorTWcurvee
import Derived.Test.YtkickcbphbgldaaGreatDoorTWecdsa
import Derived.Test.YtkickcbphbgldaaGreatDoorTWlaw12a
import Derived.Test.YtkickcbphbgldaaGreatDoorTWmodn
import Derived.Test.YtkickcbphbgldaaGreatDoorTWnatb
import Derived.Test.YtkickcbphbgldaaGreatDoorTWshab
set_option linter.unusedVariables false
set_option linter.unusedSimpArgs false
set_option linter.unusedSectionVars false
set_option maxRecDepth 4000
namespace Go.Proofs
open Go Go.RowKit Go.Gk
open Go.Gk renaming aa → P, ae → M, ah → I, ai → H, e32 → U, own → K, pB → N, vB → J
open Go.Gk.OE renaming bx → W
theorem c_law12_EcdsaEquation {w0:World} {a2 a3 a4 a5:List UInt8} {ba bc aW bd:Value} (a0 a1:Int) {r:Bool}
  (h:F.F5 a0 a1 a2 a3 a4 a5=some r) (hT:TB [] w0) (bU:RP [] w0 e8 ba a2) (bV:RP [] w0 e8 bc a3) (bW:RP [] w0 e8 aW a4) (ay:RP [] w0 e8 bd a5):Calls Tryz.prog 9 #[vI a0,vI a1,ba,bc,aW,bd] w0 (Ret fun v w=>v=J r∧St [] w0 w []):=by
 refine aJ 262 Tryz.func9 Z Z Z ?_
 have a:=St.l w0
 refine au [(0,vI a0),(1,vI a1),(2,ba),(3,bc),(4,aW),(5,bd)] ⟨Z,Z,Z,Z,Z,Z,V⟩ ?_
 unfold F.F5 at h
 refine I (af (P 1 Z ?_))
 refine H (M (I (I (af ?_))))
 obtain ⟨cC,bY,h⟩:=aj h
 refine ao Z (qh  bY (hT.d a.fr)) Z ?_
 rintro _ w ⟨rfl,b⟩
 have a:=a.f b
 refine P 1 Z ?_
 refine H (M ?_)
 refine ax Z (fun G=>?_) (fun G=>?_)
 ·have h:=aG h G
  refine I (af (P 1 Z ?_))
  refine H (M (aw (aD ?_)))
  cases h
  exact aF Z Z ⟨Z,a⟩
 have h:=aH h G
 refine az (M (I (af (P 6 Z ?_))))
 obtain ⟨aV,bZ,h⟩:=aj h
 refine ao Z (hO a0 a1 bZ (hT.d a.fr) (bU.d a.fr).rp (bV.d a.fr).rp (bW.d a.fr).rp (ay.d a.fr).rp) Z ?_
 rintro _ w ⟨rfl,b⟩
 have a:=a.f b
 refine P 1 Z ?_
 refine H (M (I (I (af (P 1 Z ?_)))))
 obtain ⟨cD,b0,h⟩:=aj h
 refine ao Z (gv a0 b0 ) Z ?_
 rintro _ w ⟨rfl,b⟩
 have a:=a.f b
 refine P 1 Z ?_
 refine H (M ?_)
 refine ax Z (fun S=>?_) (fun S=>?_)
 ·have h:=aG h S
  refine I (af (P 3 Z ?_))
  refine H (M (aw (aD ?_)))
  cases h
  exact aF Z Z ⟨Z,a⟩
 have h:=aH h S
 refine az (M (I (af (P 3 Z ?_))))
 obtain ⟨c,b1,h⟩:=aj h
 refine ao Z (ke a1 b1 (bU.d a.fr).rp (bV.d a.fr).rp) Z ?_
 rintro _ w ⟨T,ab,rfl,b⟩
 have a:=a.f b
 refine P 3 Z ?_
 refine aP (aT (cs:=[.slice none 0 0,.slice none 0 0,J false]) fu Z a) Z ?_
 rintro _ w ⟨aX,rfl,a⟩
 refine bb (a7 (i:=0) (us:=[T,ab,J c.2.2.1]) Z bI Z Z Z ⟨(a.ro 1 Z).one,(a.ro 2 Z).one,Z,V⟩ Z a) ?_
 intro w a
 refine P 1 Z ?_
 refine H (M (I (I (af (P 2 Z ?_)))))
 refine H (M ?_)
 refine ax Z (fun ac=>?_) (fun ac=>?_)
 ·have h:=aG h ac
  refine I (af (P 3 Z ?_))
  refine H (M (aw (aD ?_)))
  cases h
  exact aF Z Z ⟨Z,a.e [] Z Z⟩
 have h:=aH h ac
 refine az (M (I (af (P 1 Z ?_))))
 obtain ⟨b2,bt,h⟩:=aj h
 refine ao Z (fc a1 bt ) Z ?_
 rintro _ w ⟨rfl,b⟩
 have a:=a.f b
 refine P 1 Z ?_
 refine H (M (I (af (P 1 Z ?_))))
 obtain ⟨aA,bu,h⟩:=aj h
 refine ao Z (f6 a1 bu ) Z ?_
 rintro aB w b
 have a:=a.f b
 refine P 1 Z ?_
 refine H (M (I (I (af (P 1 Z ?_)))))
 refine am (aN u24 Z (ay.d a.fr)) Z (P 1 Z ?_)
 refine am (aq Z Z (fj _ 2 b2)) Z (P 1 Z ?_)
 refine H (M ?_)
 refine ax Z (fun ad=>?_) (fun ad=>?_)
 ·have h:=aG h ad
  refine I (af (P 3 Z ?_))
  refine H (M (aw (aD ?_)))
  cases h
  exact aF Z Z ⟨Z,a.e [] Z Z⟩
 have h:=aH h ad
 refine az (M (I (af (P 2 Z ?_))))
 obtain ⟨ci,aY,h⟩:=aj h
 refine am (oK u24 ti5 Z Z (ay.d a.fr) aY) Z ?_
 obtain ⟨aE,bv,h⟩:=aj h
 refine ao Z (cV  bv ((ay.g_slh aY).d a.fr).rp) Z ?_
 rintro aI w b
 have a:=a.f b
 refine P 1 Z ?_
 refine H (M (I (af (P 2 Z ?_))))
 obtain ⟨cj,aZ,h⟩:=aj h
 refine am (qk u24 ti5 Z Z (ay.d a.fr) aZ) Z ?_
 obtain ⟨aK,bw,h⟩:=aj h
 refine ao Z (cV  bw ((ay.g_sll aZ).d a.fr).rp) Z ?_
 rintro aL w b
 have a:=a.f b
 refine P 1 Z ?_
 refine H (M (I ?_))
 refine a9 (r:=r) (fun (g:Bool) L w=>L=[(0,vI a0),(1,vI a1),(4,aW),(13,vI aV),(14,N aX 0),(17,aB),(18,aI),(19,aL),(103,J g)]∧St [] w0 w [W aX [T,ab,J c.2.2.1],K U T c.1,K U ab c.2.1,K U aB aA,K U aI aE,K U aL aK]) (F.CF a0 a1 a4 aV c aA aE aK) ?_ ?_
 rotate_left
 ·intro q
  refine af (P 1 Z ?_)
  obtain ⟨b3,bz,h⟩:=aj h
  refine ao Z (dV  bz (a.ro 1 Z).rp) Z ?_
  rintro _ w ⟨rfl,b⟩
  have a:=a.f b
  refine P 2 Z ?_
  cases s:(b3 == 0)
  case true=>
   have h:=aG h s
   try simp only [s]
   refine P 16 Z ?_
   refine H (M ?_)
   exact au _ (by exact ⟨Z,Z,Z,Z,Z,Z,Z,Z,Z,V⟩) (q true _ _ ⟨Z,(a.e [3,4,5,2,1,0] Z Z)⟩ h)
  case false=>
   have h:=aH h s
   try simp only [s]
   refine P 1 Z ?_
   obtain ⟨b4,bA,h⟩:=aj h
   refine cn (t:=87) Z Z (by kernel_rfl) Z (dV  bA (a.ro 0 Z).rp) Z ?_
   rintro _ w ⟨rfl,b⟩
   have a:=a.f b
   refine P 3 Z ?_
   cases u:(b4 == 0)
   case true=>
    have h:=aG h u
    try simp only [u]
    refine P 11 Z ?_
    refine H (M ?_)
    exact au _ (by exact ⟨Z,Z,Z,Z,Z,Z,Z,Z,Z,V⟩) (q true _ _ ⟨Z,(a.e [3,4,5,2,1,0] Z Z)⟩ h)
   case false=>
    have h:=aH h u
    try simp only [u]
    refine P 2 Z ?_
    obtain ⟨b5,bB,h⟩:=aj h
    refine cn (t:=92) Z Z (by kernel_rfl) Z (eI  bB (a.ro 1 Z).rp (a.ro 2 Z).rp) Z ?_
    rintro _ w ⟨rfl,b⟩
    have a:=a.f b
    refine P 3 Z ?_
    cases x:(decide ((0:Int)≤b5))
    case true=>
     have h:=aG h x
     try simp only [x]
     refine P 5 Z ?_
     refine H (M ?_)
     exact au _ (by exact ⟨Z,Z,Z,Z,Z,Z,Z,Z,Z,V⟩) (q true _ _ ⟨Z,(a.e [3,4,5,2,1,0] Z Z)⟩ h)
    case false=>
     have h:=aH h x
     try simp only [x]
     refine P 2 Z ?_
     obtain ⟨b6,bC,h⟩:=aj h
     refine cn (t:=98) Z Z (by kernel_rfl) Z (eI  bC (a.ro 0 Z).rp (a.ro 2 Z).rp) Z ?_
     rintro _ w ⟨rfl,b⟩
     have a:=a.f b
     refine P 2 Z ?_
     refine H (M ?_)
     exact au _ (by exact ⟨Z,Z,Z,Z,Z,Z,Z,Z,Z,V⟩) (q (decide ((0:Int)≤b6)) _ _ ⟨Z,(a.e [3,4,5,2,1,0] Z Z)⟩ h)
 rintro ck L w hJ h
 try dsimp only at hJ
 obtain ⟨rfl,a⟩:=hJ
 unfold F.CF at h
 refine ax Z (fun ag=>?_) (fun ag=>?_)
 ·have h:=aG h ag
  refine I (af (P 3 Z ?_))
  refine H (M (aw (aD ?_)))
  cases h
  exact aF Z Z ⟨Z,a.e [] Z Z⟩
 have h:=aH h ag
 refine az (M (I (af (P 3 Z ?_))))
 obtain ⟨be,bD,h⟩:=aj h
 refine ao Z (pv a0 a1 bD (hT.d a.fr) (bW.d a.fr).rp) Z ?_
 rintro bg w b
 have a:=a.f b
 refine P 1 Z ?_
 refine H (M (I (af (P 2 Z ?_))))
 obtain ⟨b7,bE,h⟩:=aj h
 refine ao Z (kG  bE (a.ro 6 Z).rp (a.ro 4 Z).rp) Z ?_
 rintro _ w ⟨cl,rfl,b⟩
 have a:=a.f b
 refine P 5 Z ?_
 refine H (M (I (af (P 3 Z ?_))))
 obtain ⟨b8,bF,h⟩:=aj h
 refine ao Z (fG  bF (a.ro 1 Z).rp (a.ro 0 Z).rp (a.ro 5 Z).rp) Z ?_
 rintro _ w ⟨cm,rfl,b⟩
 have a:=a.f b
 refine P 5 Z ?_
 refine H (M (I (af (P 3 Z ?_))))
 obtain ⟨b9,bG,h⟩:=aj h
 refine ao Z (fG  bG (a.ro 7 Z).rp (a.ro 1 Z).rp (a.ro 6 Z).rp) Z ?_
 rintro _ w ⟨co,rfl,b⟩
 have a:=a.f b
 refine P 5 Z ?_
 refine H (M (I (af (P 3 Z ?_))))
 obtain ⟨ca,bH,h⟩:=aj h
 refine ao Z (i9 a1 bH ) Z ?_
 rintro _ w ⟨cp,cq,rfl,b⟩
 have a:=a.f b
 obtain ⟨aM,bJ,h⟩:=aj h
 refine ao Z (fW a1 ca.2.2 bJ (a.ro 3 Z).rp (a.ro 0 Z).rp (a.ro 1 Z).rp) Z ?_
 rintro _ w ⟨bh,bi,rfl,b⟩
 have a:=a.f b
 refine P 3 Z ?_
 refine aP (aT (cs:=[.slice none 0 0,.slice none 0 0,J false]) fu Z a) Z ?_
 rintro _ w ⟨cr,rfl,a⟩
 refine bb (a7 (i:=0) (us:=[bh,bi,J aM.2.2.1]) Z bI Z Z Z ⟨(a.ro 1 Z).one,(a.ro 2 Z).one,Z,V⟩ Z a) ?_
 intro w a
 refine P 1 Z ?_
 refine H (M (I (af (P 2 Z ?_))))
 refine am (bo (us:=[T,ab,J c.2.2.1]) u33 Z bI Z (a.q 9 Z Z)) Z ?_
 obtain ⟨aO,bK,h⟩:=aj h
 refine ao Z (fW a1 c.2.2.1 bK (a.ro 5 Z).rp (a.ro 10 Z).rp (a.ro 11 Z).rp) Z ?_
 rintro _ w ⟨bj,bk,rfl,b⟩
 have a:=a.f b
 refine P 3 Z ?_
 refine aP (aT (cs:=[.slice none 0 0,.slice none 0 0,J false]) fu Z a) Z ?_
 rintro _ w ⟨ct,rfl,a⟩
 refine bb (a7 (i:=0) (us:=[bj,bk,J aO.2.2.1]) Z bI Z Z Z ⟨(a.ro 1 Z).one,(a.ro 2 Z).one,Z,V⟩ Z a) ?_
 intro w a
 refine P 1 Z ?_
 refine H (M (I (af (P 1 Z ?_))))
 refine am (bo (us:=[bh,bi,J aM.2.2.1]) u33 Z bI Z (a.q 3 Z Z)) Z (am (bo (us:=[bj,bk,J aO.2.2.1]) u33 Z bI Z (a.q 0 Z Z)) Z ?_)
 obtain ⟨d,bL,h⟩:=aj h
 refine ao Z (mT a1 aM.2.2.1 aO.2.2.1 bL (a.ro 4 Z).rp (a.ro 5 Z).rp (a.ro 1 Z).rp (a.ro 2 Z).rp) Z ?_
 rintro _ w ⟨aQ,aR,rfl,b⟩
 have a:=a.f b
 refine P 3 Z ?_
 refine aP (aT (cs:=[.slice none 0 0,.slice none 0 0,J false]) fu Z a) Z ?_
 rintro _ w ⟨bl,rfl,a⟩
 refine bb (a7 (i:=0) (us:=[aQ,aR,J d.2.2.1]) Z bI Z Z Z ⟨(a.ro 1 Z).one,(a.ro 2 Z).one,Z,V⟩ Z a) ?_
 intro w a
 refine P 1 Z ?_
 refine H (M (I ?_))
 refine a9 (r:=r) (fun (g:Bool) L w=>L=[(1,vI a1),(13,vI aV),(14,N aX 0),(17,aB),(18,aI),(19,aL),(20,bg),(31,N bl 0),(173,J g)]∧St [] w0 w [W aX [T,ab,J c.2.2.1],K U T c.1,K U ab c.2.1,K U aB aA,K U aI aE,K U aL aK,K U bg be,W bl [aQ,aR,J d.2.2.1],K U aQ d.1,K U aR d.2.1]) (F.Ca a1 aV c aA aE aK be d) ?_ ?_
 rotate_left
 ·intro e
  refine af (P 3 Z ?_)
  cases y:(b7.2 != 0)
  case true=>
   have h:=aG h y
   try simp only [y]
   refine P 19 Z ?_
   refine H (M ?_)
   exact au _ (by exact ⟨Z,Z,Z,Z,Z,Z,Z,Z,Z,V⟩) (e true _ _ ⟨Z,(a.e [15,16,17,18,19,20,14,0,1,2] Z Z)⟩ h)
  case false=>
   have h:=aH h y
   try simp only [y]
   refine P 4 Z ?_
   cases z:(b8.2 != 0)
   case true=>
    have h:=aG h z
    try simp only [z]
    refine P 15 Z ?_
    refine H (M ?_)
    exact au _ (by exact ⟨Z,Z,Z,Z,Z,Z,Z,Z,Z,V⟩) (e true _ _ ⟨Z,(a.e [15,16,17,18,19,20,14,0,1,2] Z Z)⟩ h)
   case false=>
    have h:=aH h z
    try simp only [z]
    refine P 4 Z ?_
    cases A:(b9.2 != 0)
    case true=>
     have h:=aG h A
     try simp only [A]
     refine P 11 Z ?_
     refine H (M ?_)
     exact au _ (by exact ⟨Z,Z,Z,Z,Z,Z,Z,Z,Z,V⟩) (e true _ _ ⟨Z,(a.e [15,16,17,18,19,20,14,0,1,2] Z Z)⟩ h)
    case false=>
     have h:=aH h A
     try simp only [A]
     refine P 4 Z ?_
     cases B:(aM.2.2.2 != 0)
     case true=>
      have h:=aG h B
      try simp only [B]
      refine P 7 Z ?_
      refine H (M ?_)
      exact au _ (by exact ⟨Z,Z,Z,Z,Z,Z,Z,Z,Z,V⟩) (e true _ _ ⟨Z,(a.e [15,16,17,18,19,20,14,0,1,2] Z Z)⟩ h)
     case false=>
      have h:=aH h B
      try simp only [B]
      refine P 4 Z ?_
      cases C:(aO.2.2.2 != 0)
      case true=>
       have h:=aG h C
       try simp only [C]
       refine P 3 Z ?_
       refine H (M ?_)
       exact au _ (by exact ⟨Z,Z,Z,Z,Z,Z,Z,Z,Z,V⟩) (e true _ _ ⟨Z,(a.e [15,16,17,18,19,20,14,0,1,2] Z Z)⟩ h)
      case false=>
       have h:=aH h C
       try simp only [C]
       refine P 3 Z ?_
       refine H (M ?_)
       exact au _ (by exact ⟨Z,Z,Z,Z,Z,Z,Z,Z,Z,V⟩) (e (d.2.2.2 != 0) _ _ ⟨Z,(a.e [15,16,17,18,19,20,14,0,1,2] Z Z)⟩ h)
 rintro cu L w hJ h
 try dsimp only at hJ
 obtain ⟨rfl,a⟩:=hJ
 unfold F.Ca at h
 refine ax Z (fun ak=>?_) (fun ak=>?_)
 ·have h:=aG h ak
  refine I (af (P 1 Z ?_))
  refine H (M (aw (aD ?_)))
  cases h
  exact aF Z Z ⟨Z,a.e [] Z Z⟩
 have h:=aH h ak
 refine az (M (I (I (af (am (av (k:=2) u33 Z Z nz4 Z) Z (am (aC Tryz.underlying4 Z Z (a.r 7 Z 2)) Z (H (M ?_))))))))
 refine ax Z (fun al=>?_) (fun al=>?_)
 ·have h:=aG h al
  refine I (af (P 3 Z ?_))
  refine H (M (aw (aD ?_)))
  cases h
  exact aF Z Z ⟨Z,a.e [] Z Z⟩
 have h:=aH h al
 refine az (M (I (af (am (av (k:=0) u33 Z Z kw Z) Z (am (aC u31 Z Z (a.r 7 Z 0)) Z (P 1 Z ?_))))))
 obtain ⟨cv,bM,h⟩:=aj h
 refine ao Z (gu  bM (a.ro 8 Z).rp (a.ro 3 Z).rp) Z ?_
 rintro _ w ⟨cw,cx,rfl,b⟩
 have a:=a.f b
 refine P 7 Z ?_
 refine H (M (I (I (af (P 2 Z ?_)))))
 refine H (M ?_)
 refine ax Z (fun an=>?_) (fun an=>?_)
 ·have h:=aG h an
  refine I (af (P 1 Z ?_))
  refine H (M (aw (aD ?_)))
  cases h
  exact aF Z Z ⟨Z,a.e [] Z Z⟩
 have h:=aH h an
 refine az (M (I (I (af (P 2 Z ?_)))))
 obtain ⟨cy,bN,h⟩:=aj h
 refine ao Z (eI  bN (a.ro 1 Z).rp (a.ro 6 Z).rp) Z ?_
 rintro _ w ⟨rfl,b⟩
 have a:=a.f b
 refine P 1 Z ?_
 refine H (M ?_)
 refine ax Z (fun ap=>?_) (fun ap=>?_)
 ·have h:=aG h ap
  refine I (af (P 3 Z ?_))
  refine H (M (aw (aD ?_)))
  cases h
  exact aF Z Z ⟨Z,a.e [] Z Z⟩
 have h:=aH h ap
 refine az (M (I (af (P 2 Z ?_))))
 refine am (bo (us:=[aQ,aR,J d.2.2.1]) u33 Z bI Z (a.q 9 Z Z)) Z ?_
 obtain ⟨aS,bO,h⟩:=aj h
 refine ao Z (fW a1 d.2.2.1 bO (a.ro 7 Z).rp (a.ro 10 Z).rp (a.ro 11 Z).rp) Z ?_
 rintro _ w ⟨cb,cc,rfl,b⟩
 have a:=a.f b
 refine P 3 Z ?_
 refine aP (aT (cs:=[.slice none 0 0,.slice none 0 0,J false]) fu Z a) Z ?_
 rintro _ w ⟨cz,rfl,a⟩
 refine bb (a7 (i:=0) (us:=[cb,cc,J aS.2.2.1]) Z bI Z Z Z ⟨(a.ro 1 Z).one,(a.ro 2 Z).one,Z,V⟩ Z a) ?_
 intro w a
 refine P 1 Z ?_
 refine H (M (I (af (P 3 Z ?_))))
 obtain ⟨cd,bP,h⟩:=aj h
 refine ao Z (i9 a1 bP ) Z ?_
 rintro _ w ⟨cA,cB,rfl,b⟩
 have a:=a.f b
 obtain ⟨aU,bQ,h⟩:=aj h
 refine ao Z (fW a1 cd.2.2 bQ (a.ro 13 Z).rp (a.ro 0 Z).rp (a.ro 1 Z).rp) Z ?_
 rintro _ w ⟨bm,bn,rfl,b⟩
 have a:=a.f b
 refine P 3 Z ?_
 refine aP (aT (cs:=[.slice none 0 0,.slice none 0 0,J false]) fu Z a) Z ?_
 rintro _ w ⟨ce,rfl,a⟩
 refine bb (a7 (i:=0) (us:=[bm,bn,J aU.2.2.1]) Z bI Z Z Z ⟨(a.ro 1 Z).one,(a.ro 2 Z).one,Z,V⟩ Z a) ?_
 intro w a
 refine P 1 Z ?_
 refine H (M (I (af (P 2 Z ?_))))
 refine am (bo (us:=[T,ab,J c.2.2.1]) u33 Z bI Z (a.q 10 Z Z)) Z ?_
 obtain ⟨D,bp,h⟩:=aj h
 refine ao Z (fW a1 c.2.2.1 bp (a.ro 14 Z).rp (a.ro 11 Z).rp (a.ro 12 Z).rp) Z ?_
 rintro _ w ⟨a6,a8,rfl,b⟩
 have a:=a.f b
 refine P 3 Z ?_
 refine aP (aT (cs:=[.slice none 0 0,.slice none 0 0,J false]) fu Z a) Z ?_
 rintro _ w ⟨cf,rfl,a⟩
 refine bb (a7 (i:=0) (us:=[a6,a8,J D.2.2.1]) Z bI Z Z Z ⟨(a.ro 1 Z).one,(a.ro 2 Z).one,Z,V⟩ Z a) ?_
 intro w a
 refine P 1 Z ?_
 refine H (M (I (af (P 1 Z ?_))))
 refine am (bo (us:=[bm,bn,J aU.2.2.1]) u33 Z bI Z (a.q 3 Z Z)) Z (am (bo (us:=[a6,a8,J D.2.2.1]) u33 Z bI Z (a.q 0 Z Z)) Z ?_)
 obtain ⟨E,bq,h⟩:=aj h
 refine ao Z (mT a1 aU.2.2.1 D.2.2.1 bq (a.ro 4 Z).rp (a.ro 5 Z).rp (a.ro 1 Z).rp (a.ro 2 Z).rp) Z ?_
 rintro _ w ⟨bR,bS,rfl,b⟩
 have a:=a.f b
 refine P 3 Z ?_
 refine aP (aT (cs:=[.slice none 0 0,.slice none 0 0,J false]) fu Z a) Z ?_
 rintro _ w ⟨cg,rfl,a⟩
 refine bb (a7 (i:=0) (us:=[bR,bS,J E.2.2.1]) Z bI Z Z Z ⟨(a.ro 1 Z).one,(a.ro 2 Z).one,Z,V⟩ Z a) ?_
 intro w a
 refine P 1 Z ?_
 refine H (M (I (af (P 3 Z ?_))))
 cases f:(aV == 0)
 case true=>
  have h:=aG h f
  try simp only [f]
  refine P 4 Z ?_
  cases j:(aS.2.2.2 == 0)
  case true=>
   have h:=aG h j
   try simp only [j]
   refine P 4 Z ?_
   cases l:(aU.2.2.2 == 0)
   case true=>
    have h:=aG h l
    try simp only [l]
    refine P 4 Z ?_
    cases m:(D.2.2.2 == 0)
    case true=>
     have h:=aG h m
     try simp only [m]
     refine P 4 Z ?_
     cases n:(E.2.2.2 == 0)
     case true=>
      have h:=aG h n
      try simp only [n]
      refine bf (t:=241) Z Z (av (k:=2) u33 Z Z nz4 Z) Z (bf (t:=241) Z Z (aC Tryz.underlying4 Z Z (a.r 11 Z 2)) Z (bf (t:=241) Z Z (av (k:=2) u33 Z Z nz4 Z) Z (bf (t:=241) Z Z (aC Tryz.underlying4 Z Z (a.r 0 Z 2)) Z (bf (t:=241) Z Z (aq Z Z (vO _ aS.2.2.1 E.2.2.1 Tryz.underlying4 Z)) Z (P 2 Z ?_)))))
      cases o:(aS.2.2.1 == E.2.2.1)
      case true=>
       have h:=aG h o
       try simp only [o]
       refine bf (t:=248) Z Z (av (k:=0) u33 Z Z kw Z) Z (bf (t:=248) Z Z (aC u31 Z Z (a.r 11 Z 0)) Z (bf (t:=248) Z Z (av (k:=0) u33 Z Z kw Z) Z (bf (t:=248) Z Z (aC u31 Z Z (a.r 0 Z 0)) Z ?_)))
       obtain ⟨bT,br,h⟩:=aj h
       refine cn (t:=248) Z Z (by kernel_rfl) Z (jE  br (a.ro 12 Z).rp (a.ro 1 Z).rp) Z ?_
       rintro _ w ⟨rfl,b⟩
       have a:=a.f b
       refine P 2 Z ?_
       cases p:bT
       case true=>
        have h:=aG h p
        try simp only [p]
        refine bf (t:=255) Z Z (av (k:=1) u33 Z Z kw Z) Z (bf (t:=255) Z Z (aC u31 Z Z (a.r 11 Z 1)) Z (bf (t:=255) Z Z (av (k:=1) u33 Z Z kw Z) Z (bf (t:=255) Z Z (aC u31 Z Z (a.r 0 Z 1)) Z ?_)))
        obtain ⟨ch,bs,h⟩:=aj h
        refine cn (t:=255) Z Z (by kernel_rfl) Z (jE  bs (a.ro 13 Z).rp (a.ro 2 Z).rp) Z ?_
        rintro _ w ⟨rfl,b⟩
        have a:=a.f b
        refine P 2 Z ?_
        refine H (M (aw ?_))
        cases h
        exact aF Z Z ⟨Z,a.e [] Z Z⟩
       case false=>
        have h:=aH h p
        try simp only [p]
        refine P 7 Z ?_
        refine H (M (aw ?_))
        cases h
        exact aF Z Z ⟨Z,a.e [] Z Z⟩
      case false=>
       have h:=aH h o
       try simp only [o]
       refine P 14 Z ?_
       refine H (M (aw ?_))
       cases h
       exact aF Z Z ⟨Z,a.e [] Z Z⟩
     case false=>
      have h:=aH h n
      try simp only [n]
      refine P 21 Z ?_
      refine H (M (aw ?_))
      cases h
      exact aF Z Z ⟨Z,a.e [] Z Z⟩
    case false=>
     have h:=aH h m
     try simp only [m]
     refine P 25 Z ?_
     refine H (M (aw ?_))
     cases h
     exact aF Z Z ⟨Z,a.e [] Z Z⟩
   case false=>
    have h:=aH h l
    try simp only [l]
    refine P 29 Z ?_
    refine H (M (aw ?_))
    cases h
    exact aF Z Z ⟨Z,a.e [] Z Z⟩
  case false=>
   have h:=aH h j
   try simp only [j]
   refine P 33 Z ?_
   refine H (M (aw ?_))
   cases h
   exact aF Z Z ⟨Z,a.e [] Z Z⟩
 case false=>
  have h:=aH h f
  try simp only [f]
  refine P 37 Z ?_
  refine H (M (aw ?_))
  cases h
  exact aF Z Z ⟨Z,a.e [] Z Z⟩
end Go.Proofs
