import Derived.Test.YtkickcbphbgldaaGreatDoorTW0
import Derived.Test.YtkickcbphbgldaaGreatDoorGkFman
import Derived.Test.YtkickcbphbgldaaGreatDoorTWcurved
import Derived.Test.YtkickcbphbgldaaGreatDoorTWecdsa
import Derived.Test.YtkickcbphbgldaaGreatDoorTWnatb
set_option linter.unusedVariables false
set_option linter.unusedSimpArgs false
set_option linter.unusedSectionVars false
set_option maxRecDepth 4000
namespace Go.Proofs
open Go Go.RowKit Go.Gk
open Go.Gk renaming aa → Q, ae → N, af → H, ah → M, ai → J, e32 → U, own → O
theorem o0 {c:World} {a0 a1:List UInt32} {d e:Value} (a2:Int) {r:List UInt8×Bool}
  (h:F.EZ a0 a1 a2=some r) (n:RP [] c U d a0) (o:RP [] c U e a1):Calls Tryz.prog 26 #[d,e,vI a2] c (Ret fun v w=>∃u0:Value,v=.tuple #[u0,vB r.2]∧St [] c w [O e8 u0 r.1]):=by
 refine aN 35 Tryz.func26 Z Z Z ?_
 have a:=St.l c
 refine ar [(0,d),(1,e),(2,vI a2)] ⟨Z,Z,Z,V⟩ ?_
 unfold F.EZ at h
 refine M (H (Q 2 Z ?_))
 refine J (N (M (H (Q 2 Z ?_))))
 obtain ⟨p,k,h⟩:=aj h
 refine ao Z (mM a2 k (n.d a.fr).rp) Z ?_
 rintro _ w ⟨s,rfl,f⟩
 have a:=a.f f
 refine Q 5 Z ?_
 refine J (N (M (H (Q 2 Z ?_))))
 obtain ⟨t,l,h⟩:=aj h
 refine ao Z (mM a2 l (o.d a.fr).rp) Z ?_
 rintro _ w ⟨u,rfl,f⟩
 have a:=a.f f
 refine Q 5 Z ?_
 refine J (N (M (H (Q 1 Z ?_))))
 refine J (N (M (H (Q 2 Z ?_))))
 obtain ⟨x,m,h⟩:=aj h
 refine aU (jF u24 ti5 Z Z Z a (a.ro 1 Z) m) Z ?_
 rintro y w a
 refine Q 1 Z ?_
 refine J (N (M (H (Q 2 Z ?_))))
 obtain ⟨q,j,h⟩:=aj h
 refine aU (fi u24 ti5 Z Z Z a (i:=0) Z (a.ro 1 Z) j) Z ?_
 rintro g w a
 refine Q 2 Z ?_
 cases b:p.2
 case true=>
  have h:=aJ h b
  try simp only [b]
  refine Q 4 Z ?_
  refine J (N (ay ?_))
  cases h
  exact bX Z Z Z ⟨g,Z,a.e [0] Z Z⟩
 case false=>
  have h:=aI h b
  try simp only [b]
  refine Q 4 Z ?_
  refine J (N (ay ?_))
  cases h
  exact bX Z Z Z ⟨g,Z,a.e [0] Z Z⟩
theorem pO {s:World}  {r:Bool}
  (h:F.E2 =some r) (T:TB [] s):Calls Tryz.prog 19 #[] s (Ret fun v w=>v=vB r∧St [] s w []):=by
 refine aN 73 Tryz.func19 Z Z Z ?_
 have a:=St.l s
 refine ar [] V ?_
 unfold F.E2 at h
 refine M (H (Q 1 Z ?_))
 refine J (N (M (H ?_)))
 obtain ⟨u,ab,h⟩:=aj h
 refine ao Z (lZ 1 ab ) Z ?_
 rintro _ w ⟨G,S,rfl,b⟩
 have a:=a.f b
 refine aU (bg (cs:=[.slice none 0 0,.slice none 0 0,vB false]) kE Z a) Z ?_
 rintro _ w ⟨aC,rfl,a⟩
 refine bn (bA (i:=0) (us:=[G,S,vB u.2.2]) Z cx Z Z Z ⟨(a.ro 1 Z).one,(a.ro 2 Z).one,Z,V⟩ Z a) ?_
 intro w a
 refine J (N (M (H ?_)))
 obtain ⟨aD,ac,h⟩:=aj h
 refine ao Z (fW 1 ac ) Z ?_
 rintro aE w b
 have a:=a.f b
 refine Q 1 Z ?_
 refine J (N (M (H (al (ax (k:=0) u33 Z Z rZ Z) Z (al (aH u31 Z Z (a.r 1 Z 0)) Z (Q 1 Z ?_))))))
 obtain ⟨ad,A,h⟩:=aj h
 refine ao Z (gA  A (a.ro 2 Z).rp (a.ro 0 Z).rp) Z ?_
 rintro _ w ⟨ak,am,rfl,b⟩
 have a:=a.f b
 refine Q 7 Z ?_
 refine J (N (M (H ?_)))
 refine aU (ci (e:=e8) (l:=[97,98,99]) (vs:=[v8 97,v8 98,v8 99]) u24 ti5 Z Z Z Z (by decide) (by decide) a) Z ?_
 rintro an w a
 refine aU (kC u24 Tryz.underlying5 Z a (i:=0) Z (by simp)) Z ?_
 rintro v_q w ⟨hv_q,a⟩
 subst v_q
 refine Q 1 Z ?_
 refine aU (ci (e:=U) (l:=([1]:List UInt32)) (vs:=[v32 1]) u31 aZ Z Z Z Z (by decide) (by decide) a) Z ?_
 rintro ap w a
 refine al (bO (us:=[G,S,vB u.2.2]) u33 Z cx Z (a.q 5 Z Z)) Z ?_
 obtain ⟨d,B,h⟩:=aj h
 refine ao Z (fg 1 1 u.2.2 B (T.d a.fr) (a.rro 1 Z).rp (a.ro 3 Z).rp (a.ro 0 Z).rp (a.ro 6 Z).rp (a.ro 7 Z).rp) Z ?_
 rintro _ w ⟨x,y,rfl,b⟩
 have a:=a.f b
 refine Q 7 Z ?_
 refine J (N (M (H (Q 1 Z ?_))))
 refine aU (ci (e:=U) (l:=([1]:List UInt32)) (vs:=[v32 1]) u31 aZ Z Z Z Z (by decide) (by decide) a) Z ?_
 rintro aq w a
 obtain ⟨q,C,h⟩:=aj h
 refine ao Z (o0 32 C (a.ro 6 Z).rp (a.ro 0 Z).rp) Z ?_
 rintro _ w ⟨z,rfl,b⟩
 have a:=a.f b
 refine Q 5 Z ?_
 refine J (N (M ?_))
 refine bf (r:=r) (fun (g:Bool) L w=>L=[(6,x),(7,y),(9,z),(56,vB g)]∧St [] s w [O e8 x d.1,O e8 y d.2.1,O e8 z q.1]) (F.Ch d q) ?_ ?_
 rotate_left
 ·intro c
  refine H (Q 3 Z ?_)
  cases f:(ad.2.2 != 0)
  case true=>
   have h:=aJ h f
   try simp only [f]
   refine Q 17 Z ?_
   refine J (N ?_)
   exact ar _ (by exact ⟨Z,Z,Z,Z,V⟩) (c true _ _ ⟨Z,(a.e [2,3,0] Z Z)⟩ h)
  case false=>
   have h:=aI h f
   try simp only [f]
   refine Q 4 Z ?_
   cases j:(d.2.2 != 0)
   case true=>
    have h:=aJ h j
    try simp only [j]
    refine Q 13 Z ?_
    refine J (N ?_)
    exact ar _ (by exact ⟨Z,Z,Z,Z,V⟩) (c true _ _ ⟨Z,(a.e [2,3,0] Z Z)⟩ h)
   case false=>
    have h:=aI h j
    try simp only [j]
    refine Q 4 Z ?_
    cases m:(!q.2)
    case true=>
     have h:=aJ h m
     try simp only [m]
     refine Q 9 Z ?_
     refine J (N ?_)
     exact ar _ (by exact ⟨Z,Z,Z,Z,V⟩) (c true _ _ ⟨Z,(a.e [2,3,0] Z Z)⟩ h)
    case false=>
     have h:=aI h m
     try simp only [m]
     refine Q 1 Z ?_
     refine aF (t:=47) Z Z (aL u24 Z (a.ro 2 Z)) Z (Q 3 Z ?_)
     cases n:((d.1.length:Int) != 32)
     case true=>
      have h:=aJ h n
      try simp only [n]
      refine Q 4 Z ?_
      refine J (N ?_)
      exact ar _ (by exact ⟨Z,Z,Z,Z,V⟩) (c true _ _ ⟨Z,(a.e [2,3,0] Z Z)⟩ h)
     case false=>
      have h:=aI h n
      try simp only [n]
      refine Q 1 Z ?_
      refine aF (t:=52) Z Z (aL u24 Z (a.ro 3 Z)) Z (Q 2 Z ?_)
      refine J (N ?_)
      exact ar _ (by exact ⟨Z,Z,Z,Z,V⟩) (c ((d.2.1.length:Int) != 32) _ _ ⟨Z,(a.e [2,3,0] Z Z)⟩ h)
 rintro au L w hJ h
 try dsimp only at hJ
 obtain ⟨rfl,a⟩:=hJ
 unfold F.Ch at h
 refine av Z (fun p=>?_) (fun p=>?_)
 ·have h:=aJ h p
  refine M (H (Q 1 Z ?_))
  refine J (N (ay (aG ?_)))
  cases h
  exact aM Z Z ⟨Z,a.e [] Z Z⟩
 have h:=aI h p
 refine aw (N (M (H (Q 2 Z ?_))))
 refine aU (ci (e:=e8) (l:=[97,98,99]) (vs:=[v8 97,v8 98,v8 99]) u24 ti5 Z Z Z Z (by decide) (by decide) a) Z ?_
 rintro az w a
 refine aU (kC u24 Tryz.underlying5 Z a (i:=0) Z (by simp)) Z ?_
 rintro v_q w ⟨hv_q,a⟩
 subst v_q
 refine Q 1 Z ?_
 obtain ⟨ag,D,h⟩:=aj h
 refine ao Z (jW 1 1 D (T.d a.fr) (a.ro 1 Z).rp (a.ro 2 Z).rp (a.rro 0 Z).rp (a.ro 3 Z).rp) Z ?_
 rintro _ w ⟨rfl,b⟩
 have a:=a.f b
 refine Q 2 Z ?_
 cases o:(ag == 0)
 case true=>
  have h:=aJ h o
  try simp only [o]
  refine Q 2 Z ?_
  refine nY (t:=64) Z Z (ci (e:=e8) (l:=[97,98,100]) (vs:=[v8 97,v8 98,v8 100]) u24 ti5 Z Z Z Z (by decide) (by decide) a) Z ?_
  rintro aA w a
  refine nY (t:=64) Z Z (kC u24 Tryz.underlying5 Z a (i:=0) Z (by simp)) Z ?_
  rintro v_q w ⟨hv_q,a⟩
  subst v_q
  refine Q 1 Z ?_
  obtain ⟨aB,E,h⟩:=aj h
  refine cr (t:=64) Z Z (by kernel_rfl) Z (jW 1 1 E (T.d a.fr) (a.ro 2 Z).rp (a.ro 3 Z).rp (a.rro 0 Z).rp (a.ro 4 Z).rp) Z ?_
  rintro _ w ⟨rfl,b⟩
  have a:=a.f b
  refine Q 3 Z ?_
  refine J (N (ay ?_))
  cases h
  exact aM Z Z ⟨Z,a.e [] Z Z⟩
 case false=>
  have h:=aI h o
  try simp only [o]
  refine Q 9 Z ?_
  refine J (N (ay ?_))
  cases h
  exact aM Z Z ⟨Z,a.e [] Z Z⟩
theorem gu {e:World} {a0 a1:List UInt8} {c d:Value} {r:Bool}
  (h:F.CN a0 a1=some r) (j:RP [] e e8 c a0) (k:RP [] e e8 d a1):Calls Tryz.prog 17 #[c,d] e (Ret fun v w=>v=vB r∧St [] e w []):=by
 refine aN 26 Tryz.func17 Z Z Z ?_
 have a:=St.l e
 refine ar [(0,c),(1,d)] ⟨Z,Z,V⟩ ?_
 unfold F.CN at h
 refine M (H (Q 1 Z ?_))
 refine J (N (M (M (H (Q 1 Z ?_)))))
 refine al (aL u24 Z (j.d a.fr)) Z (Q 1 Z ?_)
 refine al (aL u24 Z (k.d a.fr)) Z (Q 1 Z ?_)
 refine J (N ?_)
 refine av Z (fun b=>?_) (fun b=>?_)
 ·have h:=aJ h b
  refine M (H (Q 1 Z ?_))
  refine J (N (ay (aG ?_)))
  cases h
  exact aM Z Z ⟨Z,a⟩
 have h:=aI h b
 refine aw (N (M (M (H (Q 1 Z ?_)))))
 refine J (N (az ?_))
 refine ar [(0,c),(1,d),(5,vI 0)] ⟨Z,Z,Z,V⟩ ?_
 refine bd (F.F5 a0 a1) (fun (s:Int) L w=>L=[(0,c),(1,d),(5,vI s)]∧St [] e w []) ?_ 0 ⟨Z,a⟩ h
 rintro u p L w x hI n h f
 try dsimp only at hI
 obtain ⟨rfl,a⟩:=hI
 unfold F.F5 at h
 refine M (M (H (Q 2 Z ?_)))
 refine al (aL u24 Z (j.d a.fr)) Z (Q 1 Z ?_)
 refine J (N ?_)
 refine av Z (fun g=>?_) (fun g=>?_)
 ·have h:=aJ h g
  refine aw (N (M (az ?_)))
  refine M ?_
  refine bb (fun w'=>St [] e w' []) (fun _=>true) bR (fun _ _ _ o=>o.2) (fun _ _ o=>o) (by kernel_rfl) ?_
  have a:=a.drew
  show lxE _ _ _ _ _ _ _ [0,1,2,3,4,5,6,7,8] _ _
  refine am a Z Z (fun w hF=>au Z) Z (am a Z Z (fun w hF=>au Z) Z ?_)
  obtain ⟨q,l,h⟩:=aj h
  refine am a Z Z (fun w hF=>aW u24 ti5 Z Z (j.d hF.fr) l) Z (am a Z Z (fun w hF=>aR Tryz.underlying5 Z Z (j.d hF.fr) l Z) Z (am a Z Z (fun w hF=>au Z) Z (am a Z Z (fun w hF=>au Z) Z ?_)))
  obtain ⟨t,m,h⟩:=aj h
  refine am a Z Z (fun w hF=>aW u24 ti5 Z Z (k.d hF.fr) m) Z (am a Z Z (fun w hF=>aR Tryz.underlying5 Z Z (k.d hF.fr) m Z) Z (am a Z Z (fun w hF=>aq Z Z (dJ _ q t)) Z (bp a ?_)))
  refine N ?_
  refine av Z (fun i=>?_) (fun i=>?_)
  ·have h:=aJ h i
   refine M (H (Q 1 Z ?_))
   refine J (N (ay (bz ?_)))
   refine aG (aG ?_)
   have h:=aT h f
   refine bz ?_
   refine aG ?_
   cases h
   exact aM Z Z ⟨Z,a⟩
  have h:=aI h i
  refine aw (aP ?_)
  refine N (H (Q 3 Z ?_))
  refine J ?_
  exact bh (bo _ (by exact ⟨Z,Z,Z,V⟩) (n (wI (p+1)) _ _ ⟨Z,a⟩ (aY h f)))
 have h:=aI h g
 refine ba ?_
 refine aC (aC ?_)
 have h:=aT h f
 refine a9 ?_
 refine N (M (H (Q 1 Z ?_)))
 refine J (N (ay ?_))
 cases h
 exact aM Z Z ⟨Z,a⟩
theorem kU {k:World} {a0:List UInt8} {c:Value} {r:(List UInt8×Nat)}
  (h:F.D7 a0=some r) (d:RP [] k e8 c a0):Calls Tryz.prog 10 #[c] k (Ret fun v w=>∃u0:Value,v=slV u0 e8.sz 0 r.2∧r.2≤r.1.length∧St [] k w [O e8 u0 r.1]):=by
 refine aN 27 Tryz.func10 Z Z Z ?_
 have a:=St.l k
 refine ar [(0,c)] ⟨Z,V⟩ ?_
 unfold F.D7 at h
 refine M (H (Q 1 Z ?_))
 refine J (N (M (H (Q 1 Z ?_))))
 refine al (aL u24 Z (d.d a.fr)) Z (Q 1 Z ?_)
 obtain ⟨A,n,h⟩:=aj h
 refine aU (cZ (e:=e8) u24 ti5 Z Z Z a n) Z ?_
 rintro f w a
 refine Q 1 Z ?_
 refine J (N (M (H (Q 2 Z ?_))))
 refine aU (rv (e:=e8) u24 ti5 Z Z Z a (i:=0) Z (d.d a.fr)) Z ?_
 rintro v_q w ⟨hv_q,a⟩
 subst v_q
 obtain ⟨u,o,h⟩:=aQ h
 rw [o]at a
 refine J (N (M (M (H (Q 1 Z ?_)))))
 refine al (aL u24 Z (d.d a.fr)) Z (Q 1 Z ?_)
 refine J (N (az ?_))
 refine ar [(0,c),(3,f),(4,vI (a0.length:Int))] ⟨Z,Z,Z,V⟩ ?_
 refine bd (F.FV a0) (fun (s:Int×List UInt8) L w=>L=[(0,c),(3,f),(4,vI s.1)]∧St [] k w [O e8 f s.2]) ?_ ((a0.length:Int),u) ⟨Z,a⟩ h
 rintro y ⟨x,B⟩ L w C hI p h l
 try dsimp only at hI
 obtain ⟨rfl,a⟩:=hI
 unfold F.FV at h
 refine M (M (H (Q 2 Z ?_)))
 refine al (aL u24 Z (a.ro 0 Z)) Z (Q 1 Z ?_)
 refine J (N ?_)
 refine av Z (fun b=>?_) (fun b=>?_)
 ·have h:=aJ h b
  refine aw (N (M (az ?_)))
  refine H (Q 2 Z ?_)
  obtain ⟨z,g,h⟩:=aj h
  refine al (aW u24 ti5 Z Z (a.ro 0 Z) g) Z (bn (bP (t:=165) ti5 Z Z a (i:=0) Z g Z) ?_)
  intro w a
  obtain ⟨q,m,h⟩:=aQ h
  rw [m]at a
  refine J (aP ?_)
  refine N (H (Q 3 Z ?_))
  refine J ?_
  exact bh (bo _ (by exact ⟨Z,Z,Z,V⟩) (p (wI (x+1),q) _ _ ⟨Z,a⟩ (aY h l)))
 have h:=aI h b
 refine ba ?_
 refine aC (aC ?_)
 have h:=aT h l
 refine a9 ?_
 refine N (M (H (Q 2 Z ?_)))
 refine al (aL u24 Z (d.d a.fr)) Z ?_
 obtain ⟨j,h⟩:=bZ h
 refine al (pX u24 ti5 Z Z (a.ro 0 Z) (kY j)) Z (Q 1 Z ?_)
 refine J (N (ay ?_))
 cases h
 exact aM Z Z ⟨f,Z,j.2,a.e [0] Z Z⟩
end Go.Proofs
