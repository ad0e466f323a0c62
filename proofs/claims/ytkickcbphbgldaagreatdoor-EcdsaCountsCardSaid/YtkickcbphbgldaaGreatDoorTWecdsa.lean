import Derived.Test.YtkickcbphbgldaaGreatDoorTW0
import Derived.Test.YtkickcbphbgldaaGreatDoorGkFman
import Derived.Test.YtkickcbphbgldaaGreatDoorTWcurvee
import Derived.Test.YtkickcbphbgldaaGreatDoorTWmodn
import Derived.Test.YtkickcbphbgldaaGreatDoorTWnatb
import Derived.Test.YtkickcbphbgldaaGreatDoorTWshab
set_option linter.unusedVariables false
set_option linter.unusedSimpArgs false
set_option linter.unusedSectionVars false
set_option maxRecDepth 4000
namespace Go.Proofs
open Go Go.RowKit Go.Gk
open Go.Gk renaming aa → P, ae → O, af → H, ah → J, ai → I, e32 → U, own → N, pB → M
open Go.Gk.OE renaming bx → W
theorem ft {c:World} {a0 a1:List UInt32} {d e:Value} {r:Bool}
  (h:F.Ch a0 a1=some r) (g:RP [] c U d a0) (k:RP [] c U e a1):Calls Tryz.prog 38 #[d,e] c (Ret fun v w=>v=vB r∧St [] c w []):=by
 refine aH 14 Tryz.func38 Z Z Z ?_
 have a:=St.l c
 refine au [(0,d),(1,e)] ⟨Z,Z,V⟩ ?_
 unfold F.Ch at h
 refine J (H (P 1 Z ?_))
 refine I (O (J (H (P 1 Z ?_))))
 obtain ⟨l,i,h⟩:=aj h
 refine ao Z (eR  i (g.d a.fr).rp) Z ?_
 rintro _ w ⟨rfl,f⟩
 have a:=a.f f
 refine P 2 Z ?_
 cases b:(decide ((0:Int)<l))
 case true=>
  have h:=aJ h b
  try simp only [b]
  refine P 2 Z ?_
  obtain ⟨m,j,h⟩:=aj h
  refine cr (t:=8) Z Z (by kernel_rfl) Z (f3  j (g.d a.fr).rp (k.d a.fr).rp) Z ?_
  rintro _ w ⟨rfl,f⟩
  have a:=a.f f
  refine P 3 Z ?_
  refine I (O (ax ?_))
  cases h
  exact aG Z Z ⟨Z,a⟩
 case false=>
  have h:=aI h b
  try simp only [b]
  refine P 6 Z ?_
  refine I (O (ax ?_))
  cases h
  exact aG Z Z ⟨Z,a⟩
theorem lP {e:World} {g i a1 a2:List UInt32} {b c j l:Value} (d:Bool) {r:Bool}
  (h:F.CH g i d a1 a2=some r) (n:RP [] e U b g) (t:RP [] e U c i) (q:RP [] e U j a1) (s:RP [] e U l a2):Calls Tryz.prog 41 #[.agg #[b,c,vB d],j,l] e (Ret fun v w=>v=vB r∧St [] e w []):=by
 refine aH 24 Tryz.func41 Z Z Z ?_
 have a:=St.l e
 refine au [(0,.agg #[b,c,vB d]),(1,j),(2,l)] ⟨Z,Z,Z,V⟩ ?_
 unfold F.CH at h
 refine J (H (aV (dv (cs:=[b,c,vB d]) Z Z a) Z ?_))
 rintro _ w ⟨u,rfl,a⟩
 refine P 1 Z ?_
 refine I (O (J (J (H (am (av (k:=2) u33 Z Z nz4 Z) Z (am (aC Tryz.underlying4 Z Z (a.r 0 Z 2)) Z (I (O ?_))))))))
 refine aw Z (fun f=>?_) (fun f=>?_)
 ·have h:=aJ h f
  refine J (H (P 1 Z ?_))
  refine I (O (ax (aE ?_)))
  cases h
  exact aG Z Z ⟨Z,a.e [] Z Z⟩
 have h:=aI h f
 refine az (O (J (H (am (av (k:=0) u33 Z Z uH Z) Z (am (aC u31 Z Z (a.r 0 Z 0)) Z (P 1 Z ?_))))))
 obtain ⟨x,o,h⟩:=aj h
 refine ao Z (iW  o (n.d a.fr).rp (s.d a.fr).rp) Z ?_
 rintro _ w ⟨y,z,rfl,m⟩
 have a:=a.f m
 refine P 7 Z ?_
 refine I (O (J (H (P 2 Z ?_))))
 obtain ⟨A,p,h⟩:=aj h
 refine ao Z (f3  p (a.ro 1 Z).rp (q.d a.fr).rp) Z ?_
 rintro _ w ⟨rfl,m⟩
 have a:=a.f m
 refine P 2 Z ?_
 refine I (O (ax ?_))
 cases h
 exact aG Z Z ⟨Z,a.e [] Z Z⟩
theorem jQ {d:World} {a2:List UInt8} {b:Value} (a0 a1:Int) {r:List UInt32}
  (h:F.Et a0 a1 a2=some r) (m:TB [] d) (g:RP [] d e8 b a2):Calls Tryz.prog 39 #[vI a0,vI a1,b] d (Ret fun v w=>St [] d w [N U v r]):=by
 refine aH 20 Tryz.func39 Z Z Z ?_
 have a:=St.l d
 refine au [(0,vI a0),(1,vI a1),(2,b)] ⟨Z,Z,Z,V⟩ ?_
 unfold F.Et at h
 refine J (H (P 1 Z ?_))
 refine I (O (J (H (P 2 Z ?_))))
 refine aV (cL (e:=eV) (l:=([SV.of b]:List SV)) (vs:=[b]) u56 wZ Z Z Z (fN (g.d a.fr).sv Z) (by decide) (by decide) a) Z ?_
 rintro n w a
 obtain ⟨o,i,h⟩:=aj h
 refine ao Z (pd a0 i (m.d a.fr) (a.ro 0 Z).rp ⟨(g.d a.fr).svrp,V⟩) Z ?_
 rintro p w c
 have a:=a.f c
 refine P 1 Z ?_
 refine I (O (J (H (P 2 Z ?_))))
 refine am (aN u24 Z (a.ro 0 Z)) Z (P 1 Z ?_)
 obtain ⟨q,j,h⟩:=aj h
 refine ao Z (dY a1 j ) Z ?_
 rintro _ w ⟨rfl,c⟩
 have a:=a.f c
 refine am (yU Z Z) Z ?_
 obtain ⟨f,h⟩:=bX h
 refine am (pH u24 ti5 Z Z (a.ro 0 Z) (k5 f)) Z ?_
 obtain ⟨s,k,h⟩:=aj h
 refine ao Z (dk  k ((a.ro 0 Z).tk f.2).rp) Z ?_
 rintro t w c
 have a:=a.f c
 refine P 1 Z ?_
 refine I (O (ax ?_))
 cases h
 exact aG Z Z (a.e [0] Z Z)
theorem nM {j:World} {a2:List UInt8} {a3 a4 o p:List UInt32} {G S T d e:Value} (a0 a1:Int) (c:Bool) {r:List UInt8×List UInt8×Int}
  (h:F.EH a0 a1 a2 a3 a4 o p c=some r) (hT:TB [] j) (aW:RP [] j e8 G a2) (ad:RP [] j U S a3) (aK:RP [] j U T a4) (q:RP [] j U d o) (s:RP [] j U e p):Calls Tryz.prog 15 #[vI a0,vI a1,G,S,T,.agg #[d,e,vB c]] j (Ret fun v w=>∃u0 u1:Value,v=.tuple #[u0,u1,vI r.2.2]∧St [] j w [N e8 u0 r.1,N e8 u1 r.2.1]):=by
 refine aH 105 Tryz.func15 Z Z Z ?_
 have a:=St.l j
 refine au [(0,vI a0),(1,vI a1),(2,G),(3,S),(4,T),(5,.agg #[d,e,vB c])] ⟨Z,Z,Z,Z,Z,Z,V⟩ ?_
 unfold F.EH at h
 refine J (H (aV (dv (cs:=[d,e,vB c]) Z Z a) Z ?_))
 rintro _ w ⟨ab,rfl,a⟩
 refine P 3 Z ?_
 refine I (O (J (J (H (P 1 Z ?_)))))
 obtain ⟨bj,aM,h⟩:=aj h
 refine ao Z (eQ a0 aM ) Z ?_
 rintro _ w ⟨rfl,b⟩
 have a:=a.f b
 refine P 1 Z ?_
 refine I (O ?_)
 refine aw Z (fun u=>?_) (fun u=>?_)
 ·have h:=aJ h u
  refine J (H (P 3 Z ?_))
  refine I (O (ax (aE ?_)))
  cases h
  exact dS Z Z Z Z ⟨.slice none 0 0,.slice none 0 0,Z,((a.nil e8).nil e8).e [1,0] Z Z⟩
 have h:=aI h u
 refine az (O (J (J (H (P 1 Z ?_)))))
 obtain ⟨bk,aN,h⟩:=aj h
 refine ao Z (dY a1 aN ) Z ?_
 rintro _ w ⟨rfl,b⟩
 have a:=a.f b
 refine P 1 Z ?_
 refine I (O ?_)
 refine aw Z (fun x=>?_) (fun x=>?_)
 ·have h:=aJ h x
  refine J (H (P 3 Z ?_))
  refine I (O (ax (aE ?_)))
  cases h
  exact dS Z Z Z Z ⟨.slice none 0 0,.slice none 0 0,Z,((a.nil e8).nil e8).e [1,0] Z Z⟩
 have h:=aI h x
 refine az (O (J ?_))
 refine a9 (r:=r) (fun (g:Bool) L w=>L=[(0,vI a0),(1,vI a1),(2,G),(3,S),(4,T),(11,M ab 0),(36,vB g)]∧St [] j w [W ab [d,e,vB c]]) (F.Fj a1 a3 a4 o p c a0 a2) ?_ ?_
 rotate_left
 ·intro ag
  refine H (am (av (k:=2) u33 Z Z nz4 Z) Z (am (aC Tryz.underlying4 Z Z (a.r 0 Z 2)) Z (P 1 Z ?_)))
  cases y:c
  case true=>
   have h:=aJ h y
   try simp only [y]
   refine P 5 Z ?_
   refine I (O ?_)
   exact au _ (by exact ⟨Z,Z,Z,Z,Z,Z,Z,V⟩) (ag true _ _ ⟨Z,a⟩ h)
  case false=>
   have h:=aI h y
   try simp only [y]
   refine P 1 Z ?_
   refine bo (t:=31) Z Z (bY (us:=[d,e,vB c]) u33 Z cI Z (a.q 0 Z Z)) Z ?_
   obtain ⟨aX,aO,h⟩:=aj h
   refine cr (t:=31) Z Z (by kernel_rfl) Z (uD a1 c aO (q.d a.fr).rp (s.d a.fr).rp) Z ?_
   rintro _ w ⟨rfl,b⟩
   have a:=a.f b
   refine P 2 Z ?_
   refine I (O ?_)
   exact au _ (by exact ⟨Z,Z,Z,Z,Z,Z,Z,V⟩) (ag (!aX) _ _ ⟨Z,a⟩ h)
 rintro bl L w hJ h
 try dsimp only at hJ
 obtain ⟨rfl,a⟩:=hJ
 unfold F.Fj at h
 refine aw Z (fun z=>?_) (fun z=>?_)
 ·have h:=aJ h z
  refine J (H (P 3 Z ?_))
  refine I (O (ax (aE ?_)))
  cases h
  exact dS Z Z Z Z ⟨.slice none 0 0,.slice none 0 0,Z,((a.nil e8).nil e8).e [1,0] Z Z⟩
 have h:=aI h z
 refine az (O (J (H (P 1 Z ?_))))
 obtain ⟨aL,aP,h⟩:=aj h
 refine ao Z (ir a1 aP ) Z ?_
 rintro ak w b
 have a:=a.f b
 refine P 1 Z ?_
 refine I (O (J ?_))
 refine a9 (r:=r) (fun (g:Bool) L w=>L=[(0,vI a0),(1,vI a1),(2,G),(3,S),(4,T),(11,M ab 0),(15,ak),(55,vB g)]∧St [] j w [W ab [d,e,vB c],N U ak aL]) (F.C6 a0 a1 a2 a3 a4 o p c aL) ?_ ?_
 rotate_left
 ·intro A
  refine H (P 2 Z ?_)
  obtain ⟨aQ,an,h⟩:=aj h
  refine ao Z (ft  an (ad.d a.fr).rp (a.ro 0 Z).rp) Z ?_
  rintro _ w ⟨rfl,b⟩
  have a:=a.f b
  refine P 2 Z ?_
  cases l:(!aQ)
  case true=>
   have h:=aJ h l
   try simp only [l]
   refine P 12 Z ?_
   refine I (O ?_)
   exact au _ (by exact ⟨Z,Z,Z,Z,Z,Z,Z,Z,V⟩) (A true _ _ ⟨Z,(a.e [1,0] Z Z)⟩ h)
  case false=>
   have h:=aI h l
   try simp only [l]
   refine P 2 Z ?_
   obtain ⟨aR,ap,h⟩:=aj h
   refine cr (t:=43) Z Z (by kernel_rfl) Z (ft  ap (aK.d a.fr).rp (a.ro 0 Z).rp) Z ?_
   rintro _ w ⟨rfl,b⟩
   have a:=a.f b
   refine P 3 Z ?_
   cases m:(!aR)
   case true=>
    have h:=aJ h m
    try simp only [m]
    refine P 6 Z ?_
    refine I (O ?_)
    exact au _ (by exact ⟨Z,Z,Z,Z,Z,Z,Z,Z,V⟩) (A true _ _ ⟨Z,(a.e [1,0] Z Z)⟩ h)
   case false=>
    have h:=aI h m
    try simp only [m]
    refine bo (t:=49) Z Z (bY (us:=[d,e,vB c]) u33 Z cI Z (a.q 1 Z Z)) Z (P 2 Z ?_)
    obtain ⟨aS,aq,h⟩:=aj h
    refine cr (t:=49) Z Z (by kernel_rfl) Z (lP c aq (q.d a.fr).rp (s.d a.fr).rp (ad.d a.fr).rp (a.ro 0 Z).rp) Z ?_
    rintro _ w ⟨rfl,b⟩
    have a:=a.f b
    refine P 2 Z ?_
    refine I (O ?_)
    exact au _ (by exact ⟨Z,Z,Z,Z,Z,Z,Z,Z,V⟩) (A (!aS) _ _ ⟨Z,(a.e [1,0] Z Z)⟩ h)
 rintro aZ L w hJ h
 try dsimp only at hJ
 obtain ⟨rfl,a⟩:=hJ
 unfold F.C6 at h
 refine aw Z (fun B=>?_) (fun B=>?_)
 ·have h:=aJ h B
  refine J (H (P 3 Z ?_))
  refine I (O (ax (aE ?_)))
  cases h
  exact dS Z Z Z Z ⟨.slice none 0 0,.slice none 0 0,Z,((a.nil e8).nil e8).e [1,0] Z Z⟩
 have h:=aI h B
 refine az (O (J (H (P 2 Z ?_))))
 obtain ⟨a5,ar,h⟩:=aj h
 refine ao Z (nC  ar (ad.d a.fr).rp (a.ro 1 Z).rp) Z ?_
 rintro _ w ⟨a6,rfl,b⟩
 have a:=a.f b
 refine P 5 Z ?_
 refine I (O (J (H (P 3 Z ?_))))
 obtain ⟨a7,ay,h⟩:=aj h
 refine ao Z (iF  ay (aK.d a.fr).rp (a.ro 0 Z).rp (a.ro 2 Z).rp) Z ?_
 rintro _ w ⟨a8,rfl,b⟩
 have a:=a.f b
 refine P 5 Z ?_
 refine I (O (J (H (P 3 Z ?_))))
 obtain ⟨bb,aA,h⟩:=aj h
 refine ao Z (jQ a0 a1 aA (hT.d a.fr) (aW.d a.fr).rp) Z ?_
 rintro bc w b
 have a:=a.f b
 refine P 2 Z ?_
 obtain ⟨bd,aB,h⟩:=aj h
 refine ao Z (iF  aB (a.ro 0 Z).rp (a.ro 2 Z).rp (a.ro 4 Z).rp) Z ?_
 rintro _ w ⟨be,rfl,b⟩
 have a:=a.f b
 refine P 5 Z ?_
 refine I (O (J (H (P 2 Z ?_))))
 obtain ⟨bf,aD,h⟩:=aj h
 refine ao Z (un  aD (RO.nil _ U).rp (a.ro 0 Z).rp (a.ro 5 Z).rp) Z ?_
 rintro _ w ⟨bg,rfl,b⟩
 have a:=a.f b
 refine P 4 Z ?_
 refine I (O (J (H (P 3 Z ?_))))
 refine am (bY (us:=[d,e,vB c]) u33 Z cI Z (a.q 5 Z Z)) Z ?_
 obtain ⟨f,aF,h⟩:=aj h
 refine ao Z (kI a1 c aF (a.ro 0 Z).rp (a.ro 3 Z).rp (q.d a.fr).rp (s.d a.fr).rp) Z ?_
 rintro _ w ⟨C,D,rfl,b⟩
 have a:=a.f b
 refine P 3 Z ?_
 refine aV (ba (cs:=[.slice none 0 0,.slice none 0 0,vB false]) lj Z a) Z ?_
 rintro _ w ⟨al,rfl,a⟩
 refine bn (br (i:=0) (us:=[C,D,vB f.2.2.1]) Z cI Z Z Z ⟨(a.ro 1 Z).one,(a.ro 2 Z).one,Z,V⟩ Z a) ?_
 intro w a
 refine P 1 Z ?_
 refine I (O (J ?_))
 refine a9 (r:=r) (fun (g:Bool) L w=>L=[(1,vI a1),(22,M al 0),(98,vB g)]∧St [] j w [W al [C,D,vB f.2.2.1],N U C f.1,N U D f.2.1]) (F.C7 a1 f) ?_ ?_
 rotate_left
 ·intro ac
  refine H (P 3 Z ?_)
  cases n:(f.2.2.2 != 0)
  case true=>
   have h:=aJ h n
   try simp only [n]
   refine P 3 Z ?_
   refine I (O ?_)
   exact au _ (by exact ⟨Z,Z,Z,V⟩) (ac true _ _ ⟨Z,(a.e [0,1,2] Z Z)⟩ h)
  case false=>
   have h:=aI h n
   try simp only [n]
   refine bo (t:=95) Z Z (av (k:=2) u33 Z Z nz4 Z) Z (bo (t:=95) Z Z (aC Tryz.underlying4 Z Z (a.r 0 Z 2)) Z (P 1 Z ?_))
   refine I (O ?_)
   exact au _ (by exact ⟨Z,Z,Z,V⟩) (ac f.2.2.1 _ _ ⟨Z,(a.e [0,1,2] Z Z)⟩ h)
 rintro bh L w hJ h
 try dsimp only at hJ
 obtain ⟨rfl,a⟩:=hJ
 unfold F.C7 at h
 refine aw Z (fun E=>?_) (fun E=>?_)
 ·have h:=aJ h E
  refine J (H (P 3 Z ?_))
  refine I (O (ax (aE ?_)))
  cases h
  exact dS Z Z Z Z ⟨.slice none 0 0,.slice none 0 0,Z,((a.nil e8).nil e8).e [1,0] Z Z⟩
 have h:=aI h E
 refine az (O (J (H (P 1 Z ?_))))
 refine am (bY (us:=[C,D,vB f.2.2.1]) u33 Z cI Z (a.q 0 Z Z)) Z ?_
 obtain ⟨bi,aG,h⟩:=aj h
 refine ao Z (oy a1 f.2.2.1 aG (a.ro 1 Z).rp (a.ro 2 Z).rp) Z ?_
 rintro _ w ⟨aT,aU,rfl,b⟩
 have a:=a.f b
 refine P 6 Z ?_
 refine I (O (ax ?_))
 cases h
 exact dS Z Z Z Z ⟨aT,aU,Z,a.e [0,1] Z Z⟩
theorem eD {f:World} {a2 a3 a4 a5:List UInt8} {D E y G:Value} (a0 a1:Int) {r:Int}
  (h:F.Ca a0 a1 a2 a3 a4 a5=some r) (hT:TB [] f) (aX:RP [] f e8 D a2) (aZ:RP [] f e8 E a3) (a6:RP [] f e8 y a4) (s:RP [] f e8 G a5):Calls Tryz.prog 11 #[vI a0,vI a1,D,E,y,G] f (Ret fun v w=>v=vI r∧St [] f w []):=by
 refine aH 114 Tryz.func11 Z Z Z ?_
 have a:=St.l f
 refine au [(0,vI a0),(1,vI a1),(2,D),(3,E),(4,y),(5,G)] ⟨Z,Z,Z,Z,Z,Z,V⟩ ?_
 unfold F.Ca at h
 refine J (H (P 1 Z ?_))
 refine I (O (J (J (H (P 1 Z ?_)))))
 obtain ⟨bp,aP,h⟩:=aj h
 refine ao Z (eQ a0 aP ) Z ?_
 rintro _ w ⟨rfl,b⟩
 have a:=a.f b
 refine P 1 Z ?_
 refine I (O ?_)
 refine aw Z (fun l=>?_) (fun l=>?_)
 ·have h:=aJ h l
  refine J (H (P 1 Z ?_))
  refine I (O (ax (aE ?_)))
  cases h
  exact aG Z Z ⟨Z,a⟩
 have h:=aI h l
 refine az (O (J (H (P 3 Z ?_))))
 obtain ⟨c,aQ,h⟩:=aj h
 refine ao Z (oq a1 aQ (aX.d a.fr).rp (aZ.d a.fr).rp) Z ?_
 rintro _ w ⟨j,k,rfl,b⟩
 have a:=a.f b
 refine P 3 Z ?_
 refine aV (ba (cs:=[.slice none 0 0,.slice none 0 0,vB false]) lj Z a) Z ?_
 rintro _ w ⟨S,rfl,a⟩
 refine bn (br (i:=0) (us:=[j,k,vB c.2.2.1]) Z cI Z Z Z ⟨(a.ro 1 Z).one,(a.ro 2 Z).one,Z,V⟩ Z a) ?_
 intro w a
 refine P 1 Z ?_
 refine I (O (J (J (H (P 2 Z ?_)))))
 refine I (O ?_)
 refine aw Z (fun m=>?_) (fun m=>?_)
 ·have h:=aJ h m
  refine J (H (P 1 Z ?_))
  refine I (O (ax (aE ?_)))
  cases h
  exact aG Z Z ⟨Z,a.e [] Z Z⟩
 have h:=aI h m
 refine az (O (J (H (P 1 Z ?_))))
 obtain ⟨T,aR,h⟩:=aj h
 refine ao Z (dY a1 aR ) Z ?_
 rintro _ w ⟨rfl,b⟩
 have a:=a.f b
 refine P 1 Z ?_
 obtain ⟨u,ap,h⟩:=aj h
 refine ao Z (ir a1 ap ) Z ?_
 rintro x w b
 have a:=a.f b
 refine P 2 Z ?_
 refine I (O (J (J (H (P 1 Z ?_)))))
 refine am (aN u24 Z (s.d a.fr)) Z (P 1 Z ?_)
 refine am (aq Z Z (fq _ 2 T)) Z (P 1 Z ?_)
 refine I (O ?_)
 refine aw Z (fun n=>?_) (fun n=>?_)
 ·have h:=aJ h n
  refine J (H (P 1 Z ?_))
  refine I (O (ax (aE ?_)))
  cases h
  exact aG Z Z ⟨Z,a.e [] Z Z⟩
 have h:=aI h n
 refine az (O (J ?_))
 refine aY (fun w'=>St [] f w' [N U x u,W S [j,k,vB c.2.2.1],N U j c.1,N U k c.2.1]) (fun _=>true) bQ (fun _ _ _ hf=>hf.2) (fun _ _ hf=>hf) (by kernel_rfl) ?_
 have a:=a.drew
 show lxE _ _ _ _ _ _ _ [0,1,2,3,4,5,6,7,8,9,10,11,12] _ _
 refine al a Z Z (fun w hF=>ar Z) Z (al a Z Z (fun w hF=>ar Z) Z (al a Z Z (fun w hF=>ar Z) Z ?_))
 obtain ⟨z,h⟩:=bX h
 refine al a Z Z (fun w hF=>qr u24 ti5 Z Z Z (s.d hF.fr) z) Z (al a Z Z (fun w hF=>ar Z) Z (al a Z Z (fun w hF=>ar Z) Z (al a Z Z (fun w hF=>ar Z) Z (al a Z Z (fun w hF=>aq Z Z (fq _ 2 T)) Z (al a Z Z (fun w hF=>ar Z) Z (al a Z Z (fun w hF=>aq Z Z (fq _ 2 T)) Z ?_))))))
 obtain ⟨a8,A,h⟩:=aj h
 refine al a Z Z (fun w hF=>AT u24 ti5 Z Z Z Z (s.d hF.fr) A) Z (al a Z Z (fun w hF=>aA Z) Z (al a Z Z (fun w hF=>aA Z) Z (bl a ?_)))
 refine O (J (H (P 1 Z ?_)))
 obtain ⟨ab,av,h⟩:=aj h
 refine ao Z (dk  av ((s.d a.fr).tk3 z.2.1).rp) Z ?_
 rintro ac w b
 have a:=a.f b
 refine P 1 Z ?_
 obtain ⟨ad,ay,h⟩:=aj h
 refine ao Z (dk  ay ((s.g_sl3 A).d a.fr).rp) Z ?_
 rintro ag w b
 have a:=a.f b
 refine P 2 Z ?_
 refine I (O (J ?_))
 refine a9 (r:=r) (fun (g:Bool) L w=>L=[(0,vI a0),(1,vI a1),(4,y),(13,M S 0),(16,x),(19,ac),(20,ag),(73,vB g)]∧St [] f w [W S [j,k,vB c.2.2.1],N U j c.1,N U k c.2.1,N U x u,N U ac ab,N U ag ad]) (F.Ex a0 a1 a4 c u ab ad) ?_ ?_
 rotate_left
 ·intro B
  refine H (P 2 Z ?_)
  obtain ⟨aT,aB,h⟩:=aj h
  refine ao Z (ft  aB (a.ro 1 Z).rp (a.ro 2 Z).rp) Z ?_
  rintro _ w ⟨rfl,b⟩
  have a:=a.f b
  refine P 2 Z ?_
  cases d:(!aT)
  case true=>
   have h:=aJ h d
   try simp only [d]
   refine P 5 Z ?_
   refine I (O ?_)
   exact au _ (by exact ⟨Z,Z,Z,Z,Z,Z,Z,Z,V⟩) (B true _ _ ⟨Z,(a.e [3,4,5,2,1,0] Z Z)⟩ h)
  case false=>
   have h:=aI h d
   try simp only [d]
   refine P 2 Z ?_
   obtain ⟨aU,aC,h⟩:=aj h
   refine cr (t:=68) Z Z (by kernel_rfl) Z (ft  aC (a.ro 0 Z).rp (a.ro 2 Z).rp) Z ?_
   rintro _ w ⟨rfl,b⟩
   have a:=a.f b
   refine P 2 Z ?_
   refine I (O ?_)
   exact au _ (by exact ⟨Z,Z,Z,Z,Z,Z,Z,Z,V⟩) (B (!aU) _ _ ⟨Z,(a.e [3,4,5,2,1,0] Z Z)⟩ h)
 rintro bb L w hJ h
 try dsimp only at hJ
 obtain ⟨rfl,a⟩:=hJ
 unfold F.Ex at h
 refine aw Z (fun o=>?_) (fun o=>?_)
 ·have h:=aJ h o
  refine J (H (P 1 Z ?_))
  refine I (O (ax (aE ?_)))
  cases h
  exact aG Z Z ⟨Z,a.e [] Z Z⟩
 have h:=aI h o
 refine az (O (J (H (P 2 Z ?_))))
 obtain ⟨bc,aD,h⟩:=aj h
 refine ao Z (nC  aD (a.ro 5 Z).rp (a.ro 3 Z).rp) Z ?_
 rintro _ w ⟨bd,rfl,b⟩
 have a:=a.f b
 refine P 5 Z ?_
 refine I (O (J (H (P 3 Z ?_))))
 obtain ⟨be,aF,h⟩:=aj h
 refine ao Z (jQ a0 a1 aF (hT.d a.fr) (a6.d a.fr).rp) Z ?_
 rintro bf w b
 have a:=a.f b
 refine P 2 Z ?_
 obtain ⟨bg,aK,h⟩:=aj h
 refine ao Z (iF  aK (a.ro 0 Z).rp (a.ro 1 Z).rp (a.ro 5 Z).rp) Z ?_
 rintro _ w ⟨bh,rfl,b⟩
 have a:=a.f b
 refine P 5 Z ?_
 refine I (O (J (H (P 3 Z ?_))))
 obtain ⟨bi,aL,h⟩:=aj h
 refine ao Z (iF  aL (a.ro 7 Z).rp (a.ro 2 Z).rp (a.ro 6 Z).rp) Z ?_
 rintro _ w ⟨bj,rfl,b⟩
 have a:=a.f b
 refine P 5 Z ?_
 refine I (O (J (H (P 3 Z ?_))))
 refine am (bY (us:=[j,k,vB c.2.2.1]) u33 Z cI Z (a.q 4 Z Z)) Z ?_
 obtain ⟨p,aM,h⟩:=aj h
 refine ao Z (kI a1 c.2.2.1 aM (a.ro 1 Z).rp (a.ro 0 Z).rp (a.ro 5 Z).rp (a.ro 6 Z).rp) Z ?_
 rintro _ w ⟨ak,an,rfl,b⟩
 have a:=a.f b
 refine P 3 Z ?_
 refine aV (ba (cs:=[.slice none 0 0,.slice none 0 0,vB false]) lj Z a) Z ?_
 rintro _ w ⟨bk,rfl,a⟩
 refine bn (br (i:=0) (us:=[ak,an,vB p.2.2.1]) Z cI Z Z Z ⟨(a.ro 1 Z).one,(a.ro 2 Z).one,Z,V⟩ Z a) ?_
 intro w a
 refine P 1 Z ?_
 refine I (O (J ?_))
 refine a9 (r:=r) (fun (g:Bool) L w=>L=[(113,vB g)]∧St [] f w []) (F.EZ) ?_ ?_
 rotate_left
 ·intro C
  refine H (P 3 Z ?_)
  cases e:(p.2.2.2 != 0)
  case true=>
   have h:=aJ h e
   try simp only [e]
   refine P 6 Z ?_
   refine I (O ?_)
   exact au _ (by exact ⟨Z,V⟩) (C true _ _ ⟨Z,(a.e [] Z Z)⟩ h)
  case false=>
   have h:=aI h e
   try simp only [e]
   refine bo (t:=107) Z Z (bY (us:=[ak,an,vB p.2.2.1]) u33 Z cI Z (a.q 0 Z Z)) Z (P 2 Z ?_)
   obtain ⟨aW,aO,h⟩:=aj h
   refine cr (t:=107) Z Z (by kernel_rfl) Z (lP p.2.2.1 aO (a.ro 1 Z).rp (a.ro 2 Z).rp (a.ro 11 Z).rp (a.ro 10 Z).rp) Z ?_
   rintro _ w ⟨rfl,b⟩
   have a:=a.f b
   refine P 2 Z ?_
   refine I (O ?_)
   exact au _ (by exact ⟨Z,V⟩) (C (!aW) _ _ ⟨Z,(a.e [] Z Z)⟩ h)
 rintro bm L w hJ h
 try dsimp only at hJ
 obtain ⟨rfl,a⟩:=hJ
 unfold F.EZ at h
 refine aw Z (fun q=>?_) (fun q=>?_)
 ·have h:=aJ h q
  refine J (H (P 1 Z ?_))
  refine I (O (ax (aE ?_)))
  cases h
  exact aG Z Z ⟨Z,a⟩
 have h:=aI h q
 refine az (O (J (H (P 1 Z ?_))))
 refine I (O (ax ?_))
 cases h
 exact aG Z Z ⟨Z,a⟩
end Go.Proofs
