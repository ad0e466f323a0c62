import Derived.Test.YtkickcbphbgldaaGreatDoorTW0
import Derived.Test.YtkickcbphbgldaaGreatDoorGkFman
import Derived.Test.YtkickcbphbgldaaGreatDoorTWcurved
import Derived.Test.YtkickcbphbgldaaGreatDoorTWmodn
import Derived.Test.YtkickcbphbgldaaGreatDoorTWnatb
import Derived.Test.YtkickcbphbgldaaGreatDoorTWshab
set_option linter.unusedVariables false
set_option linter.unusedSimpArgs false
set_option linter.unusedSectionVars false
set_option maxRecDepth 4000
namespace Go.Proofs
open Go Go.RowKit Go.Gk
open Go.Gk renaming aa → Q, ae → N, af → H, ah → M, ai → J, e32 → U, own → O, pB → K
open Go.Gk.OE renaming bx → X
theorem fJ {c:World} {a0 a1:List UInt32} {d e:Value} {r:Bool}
  (h:F.CF a0 a1=some r) (g:RP [] c U d a0) (k:RP [] c U e a1):Calls Tryz.prog 38 #[d,e] c (Ret fun v w=>v=vB r∧St [] c w []):=by
 refine aN 14 Tryz.func38 Z Z Z ?_
 have a:=St.l c
 refine ar [(0,d),(1,e)] ⟨Z,Z,V⟩ ?_
 unfold F.CF at h
 refine M (H (Q 1 Z ?_))
 refine J (N (M (H (Q 1 Z ?_))))
 obtain ⟨l,i,h⟩:=aj h
 refine ao Z (eQ  i (g.d a.fr).rp) Z ?_
 rintro _ w ⟨rfl,f⟩
 have a:=a.f f
 refine Q 2 Z ?_
 cases b:(decide ((0:Int)<l))
 case true=>
  have h:=aJ h b
  try simp only [b]
  refine Q 2 Z ?_
  obtain ⟨m,j,h⟩:=aj h
  refine cr (t:=8) Z Z (by kernel_rfl) Z (f9  j (g.d a.fr).rp (k.d a.fr).rp) Z ?_
  rintro _ w ⟨rfl,f⟩
  have a:=a.f f
  refine Q 3 Z ?_
  refine J (N (ay ?_))
  cases h
  exact aM Z Z ⟨Z,a⟩
 case false=>
  have h:=aI h b
  try simp only [b]
  refine Q 6 Z ?_
  refine J (N (ay ?_))
  cases h
  exact aM Z Z ⟨Z,a⟩
theorem lN {e:World} {g i a1 a2:List UInt32} {b c j l:Value} (d:Bool) {r:Bool}
  (h:F.CV g i d a1 a2=some r) (n:RP [] e U b g) (t:RP [] e U c i) (q:RP [] e U j a1) (s:RP [] e U l a2):Calls Tryz.prog 41 #[.agg #[b,c,vB d],j,l] e (Ret fun v w=>v=vB r∧St [] e w []):=by
 refine aN 24 Tryz.func41 Z Z Z ?_
 have a:=St.l e
 refine ar [(0,.agg #[b,c,vB d]),(1,j),(2,l)] ⟨Z,Z,Z,V⟩ ?_
 unfold F.CV at h
 refine M (H (aU (dy (cs:=[b,c,vB d]) Z Z a) Z ?_))
 rintro _ w ⟨u,rfl,a⟩
 refine Q 1 Z ?_
 refine J (N (M (M (H (al (ax (k:=2) u33 Z Z nz4 Z) Z (al (aH Tryz.underlying4 Z Z (a.r 0 Z 2)) Z (J (N ?_))))))))
 refine av Z (fun f=>?_) (fun f=>?_)
 ·have h:=aJ h f
  refine M (H (Q 1 Z ?_))
  refine J (N (ay (aG ?_)))
  cases h
  exact aM Z Z ⟨Z,a.e [] Z Z⟩
 have h:=aI h f
 refine aw (N (M (H (al (ax (k:=0) u33 Z Z rZ Z) Z (al (aH u31 Z Z (a.r 0 Z 0)) Z (Q 1 Z ?_))))))
 obtain ⟨x,o,h⟩:=aj h
 refine ao Z (gA  o (n.d a.fr).rp (s.d a.fr).rp) Z ?_
 rintro _ w ⟨y,z,rfl,m⟩
 have a:=a.f m
 refine Q 7 Z ?_
 refine J (N (M (H (Q 2 Z ?_))))
 obtain ⟨A,p,h⟩:=aj h
 refine ao Z (f9  p (a.ro 1 Z).rp (q.d a.fr).rp) Z ?_
 rintro _ w ⟨rfl,m⟩
 have a:=a.f m
 refine Q 2 Z ?_
 refine J (N (ay ?_))
 cases h
 exact aM Z Z ⟨Z,a.e [] Z Z⟩
theorem j8 {d:World} {a2:List UInt8} {b:Value} (a0 a1:Int) {r:List UInt32}
  (h:F.D3 a0 a1 a2=some r) (m:TB [] d) (g:RP [] d e8 b a2):Calls Tryz.prog 39 #[vI a0,vI a1,b] d (Ret fun v w=>St [] d w [O U v r]):=by
 refine aN 20 Tryz.func39 Z Z Z ?_
 have a:=St.l d
 refine ar [(0,vI a0),(1,vI a1),(2,b)] ⟨Z,Z,Z,V⟩ ?_
 unfold F.D3 at h
 refine M (H (Q 1 Z ?_))
 refine J (N (M (H (Q 2 Z ?_))))
 refine aU (ci (e:=eV) (l:=([SV.of b]:List SV)) (vs:=[b]) u56 cd Z Z Z (dG (g.d a.fr).sv Z) (by decide) (by decide) a) Z ?_
 rintro n w a
 obtain ⟨o,i,h⟩:=aj h
 refine ao Z (wg a0 i (m.d a.fr) (a.ro 0 Z).rp ⟨(g.d a.fr).svrp,V⟩) Z ?_
 rintro p w c
 have a:=a.f c
 refine Q 1 Z ?_
 refine J (N (M (H (Q 2 Z ?_))))
 refine al (aL u24 Z (a.ro 0 Z)) Z (Q 1 Z ?_)
 obtain ⟨q,j,h⟩:=aj h
 refine ao Z (gk a1 j ) Z ?_
 rintro _ w ⟨rfl,c⟩
 have a:=a.f c
 refine al (y4 Z Z) Z ?_
 obtain ⟨f,h⟩:=bZ h
 refine al (pX u24 ti5 Z Z (a.ro 0 Z) (kY f)) Z ?_
 obtain ⟨s,k,h⟩:=aj h
 refine ao Z (dL  k ((a.ro 0 Z).tk f.2).rp) Z ?_
 rintro t w c
 have a:=a.f c
 refine Q 1 Z ?_
 refine J (N (ay ?_))
 cases h
 exact aM Z Z (a.e [0] Z Z)
theorem fg {j:World} {a2:List UInt8} {a3 a4 o p:List UInt32} {G S T d e:Value} (a0 a1:Int) (c:Bool) {r:List UInt8×List UInt8×Int}
  (h:F.CB a0 a1 a2 a3 a4 o p c=some r) (hT:TB [] j) (aX:RP [] j e8 G a2) (ad:RP [] j U S a3) (aK:RP [] j U T a4) (q:RP [] j U d o) (s:RP [] j U e p):Calls Tryz.prog 15 #[vI a0,vI a1,G,S,T,.agg #[d,e,vB c]] j (Ret fun v w=>∃u0 u1:Value,v=.tuple #[u0,u1,vI r.2.2]∧St [] j w [O e8 u0 r.1,O e8 u1 r.2.1]):=by
 refine aN 105 Tryz.func15 Z Z Z ?_
 have a:=St.l j
 refine ar [(0,vI a0),(1,vI a1),(2,G),(3,S),(4,T),(5,.agg #[d,e,vB c])] ⟨Z,Z,Z,Z,Z,Z,V⟩ ?_
 unfold F.CB at h
 refine M (H (aU (dy (cs:=[d,e,vB c]) Z Z a) Z ?_))
 rintro _ w ⟨ab,rfl,a⟩
 refine Q 3 Z ?_
 refine J (N (M (M (H (Q 1 Z ?_)))))
 obtain ⟨bk,aM,h⟩:=aj h
 refine ao Z (gq a0 aM ) Z ?_
 rintro _ w ⟨rfl,b⟩
 have a:=a.f b
 refine Q 1 Z ?_
 refine J (N ?_)
 refine av Z (fun u=>?_) (fun u=>?_)
 ·have h:=aJ h u
  refine M (H (Q 3 Z ?_))
  refine J (N (ay (aG ?_)))
  cases h
  exact dZ Z Z Z Z ⟨.slice none 0 0,.slice none 0 0,Z,((a.nil e8).nil e8).e [1,0] Z Z⟩
 have h:=aI h u
 refine aw (N (M (M (H (Q 1 Z ?_)))))
 obtain ⟨bl,aO,h⟩:=aj h
 refine ao Z (gk a1 aO ) Z ?_
 rintro _ w ⟨rfl,b⟩
 have a:=a.f b
 refine Q 1 Z ?_
 refine J (N ?_)
 refine av Z (fun x=>?_) (fun x=>?_)
 ·have h:=aJ h x
  refine M (H (Q 3 Z ?_))
  refine J (N (ay (aG ?_)))
  cases h
  exact dZ Z Z Z Z ⟨.slice none 0 0,.slice none 0 0,Z,((a.nil e8).nil e8).e [1,0] Z Z⟩
 have h:=aI h x
 refine aw (N (M ?_))
 refine bf (r:=r) (fun (g:Bool) L w=>L=[(0,vI a0),(1,vI a1),(2,G),(3,S),(4,T),(11,K ab 0),(36,vB g)]∧St [] j w [X ab [d,e,vB c]]) (F.Fk a1 a3 a4 o p c a0 a2) ?_ ?_
 rotate_left
 ·intro ag
  refine H (al (ax (k:=2) u33 Z Z nz4 Z) Z (al (aH Tryz.underlying4 Z Z (a.r 0 Z 2)) Z (Q 1 Z ?_)))
  cases y:c
  case true=>
   have h:=aJ h y
   try simp only [y]
   refine Q 5 Z ?_
   refine J (N ?_)
   exact ar _ (by exact ⟨Z,Z,Z,Z,Z,Z,Z,V⟩) (ag true _ _ ⟨Z,a⟩ h)
  case false=>
   have h:=aI h y
   try simp only [y]
   refine Q 1 Z ?_
   refine aF (t:=31) Z Z (bO (us:=[d,e,vB c]) u33 Z cx Z (a.q 0 Z Z)) Z ?_
   obtain ⟨aY,aP,h⟩:=aj h
   refine cr (t:=31) Z Z (by kernel_rfl) Z (ui a1 c aP (q.d a.fr).rp (s.d a.fr).rp) Z ?_
   rintro _ w ⟨rfl,b⟩
   have a:=a.f b
   refine Q 2 Z ?_
   refine J (N ?_)
   exact ar _ (by exact ⟨Z,Z,Z,Z,Z,Z,Z,V⟩) (ag (!aY) _ _ ⟨Z,a⟩ h)
 rintro bm L w hJ h
 try dsimp only at hJ
 obtain ⟨rfl,a⟩:=hJ
 unfold F.Fk at h
 refine av Z (fun z=>?_) (fun z=>?_)
 ·have h:=aJ h z
  refine M (H (Q 3 Z ?_))
  refine J (N (ay (aG ?_)))
  cases h
  exact dZ Z Z Z Z ⟨.slice none 0 0,.slice none 0 0,Z,((a.nil e8).nil e8).e [1,0] Z Z⟩
 have h:=aI h z
 refine aw (N (M (H (Q 1 Z ?_))))
 obtain ⟨aL,aQ,h⟩:=aj h
 refine ao Z (fW a1 aQ ) Z ?_
 rintro ak w b
 have a:=a.f b
 refine Q 1 Z ?_
 refine J (N (M ?_))
 refine bf (r:=r) (fun (g:Bool) L w=>L=[(0,vI a0),(1,vI a1),(2,G),(3,S),(4,T),(11,K ab 0),(15,ak),(55,vB g)]∧St [] j w [X ab [d,e,vB c],O U ak aL]) (F.DI a0 a1 a2 a3 a4 o p c aL) ?_ ?_
 rotate_left
 ·intro A
  refine H (Q 2 Z ?_)
  obtain ⟨aR,an,h⟩:=aj h
  refine ao Z (fJ  an (ad.d a.fr).rp (a.ro 0 Z).rp) Z ?_
  rintro _ w ⟨rfl,b⟩
  have a:=a.f b
  refine Q 2 Z ?_
  cases l:(!aR)
  case true=>
   have h:=aJ h l
   try simp only [l]
   refine Q 12 Z ?_
   refine J (N ?_)
   exact ar _ (by exact ⟨Z,Z,Z,Z,Z,Z,Z,Z,V⟩) (A true _ _ ⟨Z,(a.e [1,0] Z Z)⟩ h)
  case false=>
   have h:=aI h l
   try simp only [l]
   refine Q 2 Z ?_
   obtain ⟨aS,ap,h⟩:=aj h
   refine cr (t:=43) Z Z (by kernel_rfl) Z (fJ  ap (aK.d a.fr).rp (a.ro 0 Z).rp) Z ?_
   rintro _ w ⟨rfl,b⟩
   have a:=a.f b
   refine Q 3 Z ?_
   cases m:(!aS)
   case true=>
    have h:=aJ h m
    try simp only [m]
    refine Q 6 Z ?_
    refine J (N ?_)
    exact ar _ (by exact ⟨Z,Z,Z,Z,Z,Z,Z,Z,V⟩) (A true _ _ ⟨Z,(a.e [1,0] Z Z)⟩ h)
   case false=>
    have h:=aI h m
    try simp only [m]
    refine aF (t:=49) Z Z (bO (us:=[d,e,vB c]) u33 Z cx Z (a.q 1 Z Z)) Z (Q 2 Z ?_)
    obtain ⟨aT,aq,h⟩:=aj h
    refine cr (t:=49) Z Z (by kernel_rfl) Z (lN c aq (q.d a.fr).rp (s.d a.fr).rp (ad.d a.fr).rp (a.ro 0 Z).rp) Z ?_
    rintro _ w ⟨rfl,b⟩
    have a:=a.f b
    refine Q 2 Z ?_
    refine J (N ?_)
    exact ar _ (by exact ⟨Z,Z,Z,Z,Z,Z,Z,Z,V⟩) (A (!aT) _ _ ⟨Z,(a.e [1,0] Z Z)⟩ h)
 rintro a5 L w hJ h
 try dsimp only at hJ
 obtain ⟨rfl,a⟩:=hJ
 unfold F.DI at h
 refine av Z (fun B=>?_) (fun B=>?_)
 ·have h:=aJ h B
  refine M (H (Q 3 Z ?_))
  refine J (N (ay (aG ?_)))
  cases h
  exact dZ Z Z Z Z ⟨.slice none 0 0,.slice none 0 0,Z,((a.nil e8).nil e8).e [1,0] Z Z⟩
 have h:=aI h B
 refine aw (N (M (H (Q 2 Z ?_))))
 obtain ⟨a6,au,h⟩:=aj h
 refine ao Z (nX  au (ad.d a.fr).rp (a.ro 1 Z).rp) Z ?_
 rintro _ w ⟨a7,rfl,b⟩
 have a:=a.f b
 refine Q 5 Z ?_
 refine J (N (M (H (Q 3 Z ?_))))
 obtain ⟨a8,az,h⟩:=aj h
 refine ao Z (iO  az (aK.d a.fr).rp (a.ro 0 Z).rp (a.ro 2 Z).rp) Z ?_
 rintro _ w ⟨a9,rfl,b⟩
 have a:=a.f b
 refine Q 5 Z ?_
 refine J (N (M (H (Q 3 Z ?_))))
 obtain ⟨ba,aA,h⟩:=aj h
 refine ao Z (j8 a0 a1 aA (hT.d a.fr) (aX.d a.fr).rp) Z ?_
 rintro bb w b
 have a:=a.f b
 refine Q 2 Z ?_
 obtain ⟨bc,aB,h⟩:=aj h
 refine ao Z (iO  aB (a.ro 0 Z).rp (a.ro 2 Z).rp (a.ro 4 Z).rp) Z ?_
 rintro _ w ⟨bd,rfl,b⟩
 have a:=a.f b
 refine Q 5 Z ?_
 refine J (N (M (H (Q 2 Z ?_))))
 obtain ⟨be,aC,h⟩:=aj h
 refine ao Z (ub  aC (RO.nil _ U).rp (a.ro 0 Z).rp (a.ro 5 Z).rp) Z ?_
 rintro _ w ⟨bh,rfl,b⟩
 have a:=a.f b
 refine Q 4 Z ?_
 refine J (N (M (H (Q 3 Z ?_))))
 refine al (bO (us:=[d,e,vB c]) u33 Z cx Z (a.q 5 Z Z)) Z ?_
 obtain ⟨f,aD,h⟩:=aj h
 refine ao Z (kQ a1 c aD (a.ro 0 Z).rp (a.ro 3 Z).rp (q.d a.fr).rp (s.d a.fr).rp) Z ?_
 rintro _ w ⟨C,D,rfl,b⟩
 have a:=a.f b
 refine Q 3 Z ?_
 refine aU (bg (cs:=[.slice none 0 0,.slice none 0 0,vB false]) kE Z a) Z ?_
 rintro _ w ⟨am,rfl,a⟩
 refine bn (bA (i:=0) (us:=[C,D,vB f.2.2.1]) Z cx Z Z Z ⟨(a.ro 1 Z).one,(a.ro 2 Z).one,Z,V⟩ Z a) ?_
 intro w a
 refine Q 1 Z ?_
 refine J (N (M ?_))
 refine bf (r:=r) (fun (g:Bool) L w=>L=[(1,vI a1),(22,K am 0),(98,vB g)]∧St [] j w [X am [C,D,vB f.2.2.1],O U C f.1,O U D f.2.1]) (F.C7 a1 f) ?_ ?_
 rotate_left
 ·intro ac
  refine H (Q 3 Z ?_)
  cases n:(f.2.2.2 != 0)
  case true=>
   have h:=aJ h n
   try simp only [n]
   refine Q 3 Z ?_
   refine J (N ?_)
   exact ar _ (by exact ⟨Z,Z,Z,V⟩) (ac true _ _ ⟨Z,(a.e [0,1,2] Z Z)⟩ h)
  case false=>
   have h:=aI h n
   try simp only [n]
   refine aF (t:=95) Z Z (ax (k:=2) u33 Z Z nz4 Z) Z (aF (t:=95) Z Z (aH Tryz.underlying4 Z Z (a.r 0 Z 2)) Z (Q 1 Z ?_))
   refine J (N ?_)
   exact ar _ (by exact ⟨Z,Z,Z,V⟩) (ac f.2.2.1 _ _ ⟨Z,(a.e [0,1,2] Z Z)⟩ h)
 rintro bi L w hJ h
 try dsimp only at hJ
 obtain ⟨rfl,a⟩:=hJ
 unfold F.C7 at h
 refine av Z (fun E=>?_) (fun E=>?_)
 ·have h:=aJ h E
  refine M (H (Q 3 Z ?_))
  refine J (N (ay (aG ?_)))
  cases h
  exact dZ Z Z Z Z ⟨.slice none 0 0,.slice none 0 0,Z,((a.nil e8).nil e8).e [1,0] Z Z⟩
 have h:=aI h E
 refine aw (N (M (H (Q 1 Z ?_))))
 refine al (bO (us:=[C,D,vB f.2.2.1]) u33 Z cx Z (a.q 0 Z Z)) Z ?_
 obtain ⟨bj,aE,h⟩:=aj h
 refine ao Z (ox a1 f.2.2.1 aE (a.ro 1 Z).rp (a.ro 2 Z).rp) Z ?_
 rintro _ w ⟨aV,aW,rfl,b⟩
 have a:=a.f b
 refine Q 6 Z ?_
 refine J (N (ay ?_))
 cases h
 exact dZ Z Z Z Z ⟨aV,aW,Z,a.e [0,1] Z Z⟩
theorem jW {f:World} {a2 a3 a4 a5:List UInt8} {D E y G:Value} (a0 a1:Int) {r:Int}
  (h:F.Eg a0 a1 a2 a3 a4 a5=some r) (hT:TB [] f) (aY:RP [] f e8 D a2) (aZ:RP [] f e8 E a3) (a6:RP [] f e8 y a4) (s:RP [] f e8 G a5):Calls Tryz.prog 11 #[vI a0,vI a1,D,E,y,G] f (Ret fun v w=>v=vI r∧St [] f w []):=by
 refine aN 114 Tryz.func11 Z Z Z ?_
 have a:=St.l f
 refine ar [(0,vI a0),(1,vI a1),(2,D),(3,E),(4,y),(5,G)] ⟨Z,Z,Z,Z,Z,Z,V⟩ ?_
 unfold F.Eg at h
 refine M (H (Q 1 Z ?_))
 refine J (N (M (M (H (Q 1 Z ?_)))))
 obtain ⟨bo,aQ,h⟩:=aj h
 refine ao Z (gq a0 aQ ) Z ?_
 rintro _ w ⟨rfl,b⟩
 have a:=a.f b
 refine Q 1 Z ?_
 refine J (N ?_)
 refine av Z (fun l=>?_) (fun l=>?_)
 ·have h:=aJ h l
  refine M (H (Q 1 Z ?_))
  refine J (N (ay (aG ?_)))
  cases h
  exact aM Z Z ⟨Z,a⟩
 have h:=aI h l
 refine aw (N (M (H (Q 3 Z ?_))))
 obtain ⟨c,aR,h⟩:=aj h
 refine ao Z (oN a1 aR (aY.d a.fr).rp (aZ.d a.fr).rp) Z ?_
 rintro _ w ⟨j,k,rfl,b⟩
 have a:=a.f b
 refine Q 3 Z ?_
 refine aU (bg (cs:=[.slice none 0 0,.slice none 0 0,vB false]) kE Z a) Z ?_
 rintro _ w ⟨S,rfl,a⟩
 refine bn (bA (i:=0) (us:=[j,k,vB c.2.2.1]) Z cx Z Z Z ⟨(a.ro 1 Z).one,(a.ro 2 Z).one,Z,V⟩ Z a) ?_
 intro w a
 refine Q 1 Z ?_
 refine J (N (M (M (H (Q 2 Z ?_)))))
 refine J (N ?_)
 refine av Z (fun m=>?_) (fun m=>?_)
 ·have h:=aJ h m
  refine M (H (Q 1 Z ?_))
  refine J (N (ay (aG ?_)))
  cases h
  exact aM Z Z ⟨Z,a.e [] Z Z⟩
 have h:=aI h m
 refine aw (N (M (H (Q 1 Z ?_))))
 obtain ⟨T,aS,h⟩:=aj h
 refine ao Z (gk a1 aS ) Z ?_
 rintro _ w ⟨rfl,b⟩
 have a:=a.f b
 refine Q 1 Z ?_
 obtain ⟨u,ap,h⟩:=aj h
 refine ao Z (fW a1 ap ) Z ?_
 rintro x w b
 have a:=a.f b
 refine Q 2 Z ?_
 refine J (N (M (M (H (Q 1 Z ?_)))))
 refine al (aL u24 Z (s.d a.fr)) Z (Q 1 Z ?_)
 refine al (aq Z Z (fj _ 2 T)) Z (Q 1 Z ?_)
 refine J (N ?_)
 refine av Z (fun n=>?_) (fun n=>?_)
 ·have h:=aJ h n
  refine M (H (Q 1 Z ?_))
  refine J (N (ay (aG ?_)))
  cases h
  exact aM Z Z ⟨Z,a.e [] Z Z⟩
 have h:=aI h n
 refine aw (N (M ?_))
 refine bb (fun w'=>St [] f w' [O U x u,X S [j,k,vB c.2.2.1],O U j c.1,O U k c.2.1]) (fun _=>true) bR (fun _ _ _ hf=>hf.2) (fun _ _ hf=>hf) (by kernel_rfl) ?_
 have a:=a.drew
 show lxE _ _ _ _ _ _ _ [0,1,2,3,4,5,6,7,8,9,10,11,12] _ _
 refine am a Z Z (fun w hF=>au Z) Z (am a Z Z (fun w hF=>au Z) Z (am a Z Z (fun w hF=>au Z) Z ?_))
 obtain ⟨z,h⟩:=bZ h
 refine am a Z Z (fun w hF=>rK u24 ti5 Z Z Z (s.d hF.fr) z) Z (am a Z Z (fun w hF=>au Z) Z (am a Z Z (fun w hF=>au Z) Z (am a Z Z (fun w hF=>au Z) Z (am a Z Z (fun w hF=>aq Z Z (fj _ 2 T)) Z (am a Z Z (fun w hF=>au Z) Z (am a Z Z (fun w hF=>aq Z Z (fj _ 2 T)) Z ?_))))))
 obtain ⟨a8,A,h⟩:=aj h
 refine am a Z Z (fun w hF=>Bl u24 ti5 Z Z Z Z (s.d hF.fr) A) Z (am a Z Z (fun w hF=>aD Z) Z (am a Z Z (fun w hF=>aD Z) Z (bp a ?_)))
 refine N (M (H (Q 1 Z ?_)))
 obtain ⟨ab,ax,h⟩:=aj h
 refine ao Z (dL  ax ((s.d a.fr).tk3 z.2.1).rp) Z ?_
 rintro ac w b
 have a:=a.f b
 refine Q 1 Z ?_
 obtain ⟨ad,az,h⟩:=aj h
 refine ao Z (dL  az ((s.g_sl3 A).d a.fr).rp) Z ?_
 rintro ag w b
 have a:=a.f b
 refine Q 2 Z ?_
 refine J (N (M ?_))
 refine bf (r:=r) (fun (g:Bool) L w=>L=[(0,vI a0),(1,vI a1),(4,y),(13,K S 0),(16,x),(19,ac),(20,ag),(73,vB g)]∧St [] f w [X S [j,k,vB c.2.2.1],O U j c.1,O U k c.2.1,O U x u,O U ac ab,O U ag ad]) (F.Em a0 a1 a4 c u ab ad) ?_ ?_
 rotate_left
 ·intro B
  refine H (Q 2 Z ?_)
  obtain ⟨aV,aA,h⟩:=aj h
  refine ao Z (fJ  aA (a.ro 1 Z).rp (a.ro 2 Z).rp) Z ?_
  rintro _ w ⟨rfl,b⟩
  have a:=a.f b
  refine Q 2 Z ?_
  cases d:(!aV)
  case true=>
   have h:=aJ h d
   try simp only [d]
   refine Q 5 Z ?_
   refine J (N ?_)
   exact ar _ (by exact ⟨Z,Z,Z,Z,Z,Z,Z,Z,V⟩) (B true _ _ ⟨Z,(a.e [3,4,5,2,1,0] Z Z)⟩ h)
  case false=>
   have h:=aI h d
   try simp only [d]
   refine Q 2 Z ?_
   obtain ⟨aW,aB,h⟩:=aj h
   refine cr (t:=68) Z Z (by kernel_rfl) Z (fJ  aB (a.ro 0 Z).rp (a.ro 2 Z).rp) Z ?_
   rintro _ w ⟨rfl,b⟩
   have a:=a.f b
   refine Q 2 Z ?_
   refine J (N ?_)
   exact ar _ (by exact ⟨Z,Z,Z,Z,Z,Z,Z,Z,V⟩) (B (!aW) _ _ ⟨Z,(a.e [3,4,5,2,1,0] Z Z)⟩ h)
 rintro a9 L w hJ h
 try dsimp only at hJ
 obtain ⟨rfl,a⟩:=hJ
 unfold F.Em at h
 refine av Z (fun o=>?_) (fun o=>?_)
 ·have h:=aJ h o
  refine M (H (Q 1 Z ?_))
  refine J (N (ay (aG ?_)))
  cases h
  exact aM Z Z ⟨Z,a.e [] Z Z⟩
 have h:=aI h o
 refine aw (N (M (H (Q 2 Z ?_))))
 obtain ⟨ba,aC,h⟩:=aj h
 refine ao Z (nX  aC (a.ro 5 Z).rp (a.ro 3 Z).rp) Z ?_
 rintro _ w ⟨bc,rfl,b⟩
 have a:=a.f b
 refine Q 5 Z ?_
 refine J (N (M (H (Q 3 Z ?_))))
 obtain ⟨bd,aE,h⟩:=aj h
 refine ao Z (j8 a0 a1 aE (hT.d a.fr) (a6.d a.fr).rp) Z ?_
 rintro be w b
 have a:=a.f b
 refine Q 2 Z ?_
 obtain ⟨bh,aH,h⟩:=aj h
 refine ao Z (iO  aH (a.ro 0 Z).rp (a.ro 1 Z).rp (a.ro 5 Z).rp) Z ?_
 rintro _ w ⟨bi,rfl,b⟩
 have a:=a.f b
 refine Q 5 Z ?_
 refine J (N (M (H (Q 3 Z ?_))))
 obtain ⟨bj,aK,h⟩:=aj h
 refine ao Z (iO  aK (a.ro 7 Z).rp (a.ro 2 Z).rp (a.ro 6 Z).rp) Z ?_
 rintro _ w ⟨bk,rfl,b⟩
 have a:=a.f b
 refine Q 5 Z ?_
 refine J (N (M (H (Q 3 Z ?_))))
 refine al (bO (us:=[j,k,vB c.2.2.1]) u33 Z cx Z (a.q 4 Z Z)) Z ?_
 obtain ⟨p,aO,h⟩:=aj h
 refine ao Z (kQ a1 c.2.2.1 aO (a.ro 1 Z).rp (a.ro 0 Z).rp (a.ro 5 Z).rp (a.ro 6 Z).rp) Z ?_
 rintro _ w ⟨ak,an,rfl,b⟩
 have a:=a.f b
 refine Q 3 Z ?_
 refine aU (bg (cs:=[.slice none 0 0,.slice none 0 0,vB false]) kE Z a) Z ?_
 rintro _ w ⟨bl,rfl,a⟩
 refine bn (bA (i:=0) (us:=[ak,an,vB p.2.2.1]) Z cx Z Z Z ⟨(a.ro 1 Z).one,(a.ro 2 Z).one,Z,V⟩ Z a) ?_
 intro w a
 refine Q 1 Z ?_
 refine J (N (M ?_))
 refine bf (r:=r) (fun (g:Bool) L w=>L=[(113,vB g)]∧St [] f w []) (F.Fd) ?_ ?_
 rotate_left
 ·intro C
  refine H (Q 3 Z ?_)
  cases e:(p.2.2.2 != 0)
  case true=>
   have h:=aJ h e
   try simp only [e]
   refine Q 6 Z ?_
   refine J (N ?_)
   exact ar _ (by exact ⟨Z,V⟩) (C true _ _ ⟨Z,(a.e [] Z Z)⟩ h)
  case false=>
   have h:=aI h e
   try simp only [e]
   refine aF (t:=107) Z Z (bO (us:=[ak,an,vB p.2.2.1]) u33 Z cx Z (a.q 0 Z Z)) Z (Q 2 Z ?_)
   obtain ⟨aX,aP,h⟩:=aj h
   refine cr (t:=107) Z Z (by kernel_rfl) Z (lN p.2.2.1 aP (a.ro 1 Z).rp (a.ro 2 Z).rp (a.ro 11 Z).rp (a.ro 10 Z).rp) Z ?_
   rintro _ w ⟨rfl,b⟩
   have a:=a.f b
   refine Q 2 Z ?_
   refine J (N ?_)
   exact ar _ (by exact ⟨Z,V⟩) (C (!aX) _ _ ⟨Z,(a.e [] Z Z)⟩ h)
 rintro bm L w hJ h
 try dsimp only at hJ
 obtain ⟨rfl,a⟩:=hJ
 unfold F.Fd at h
 refine av Z (fun q=>?_) (fun q=>?_)
 ·have h:=aJ h q
  refine M (H (Q 1 Z ?_))
  refine J (N (ay (aG ?_)))
  cases h
  exact aM Z Z ⟨Z,a⟩
 have h:=aI h q
 refine aw (N (M (H (Q 1 Z ?_))))
 refine J (N (ay ?_))
 cases h
 exact aM Z Z ⟨Z,a⟩
end Go.Proofs
