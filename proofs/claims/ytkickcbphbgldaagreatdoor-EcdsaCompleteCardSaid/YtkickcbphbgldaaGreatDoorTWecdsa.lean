import Derived.Test.YtkickcbphbgldaaGreatDoorTW0
import Derived.Test.YtkickcbphbgldaaGreatDoorGkFman
import Derived.Test.YtkickcbphbgldaaGreatDoorTWcurvee
import Derived.Test.YtkickcbphbgldaaGreatDoorTWmodn
import Derived.Test.YtkickcbphbgldaaGreatDoorTWnatb
import Derived.Test.YtkickcbphbgldaaGreatDoorTWshab
set_option linter.unusedVariables false
set_option linter.unusedSimpArgs false
set_option linter.unusedSectionVars false
set_option maxRecDepth 4000
namespace Go.Proofs
open Go Go.RowKit Go.Gk
open Go.Gk renaming aa → P, ae → O, ah → J, ai → H, e32 → U, own → M, pB → N, vB → I
open Go.Gk.OE renaming bx → X
theorem fT {c:World} {a0 a1:List UInt32} {d e:Value} {r:Bool}
  (h:F.CF a0 a1=some r) (g:RP [] c U d a0) (k:RP [] c U e a1):Calls Tryz.prog 38 #[d,e] c (Ret fun v w=>v=I r∧St [] c w []):=by
 refine aJ 14 Tryz.func38 Z Z Z ?_
 have a:=St.l c
 refine au [(0,d),(1,e)] ⟨Z,Z,V⟩ ?_
 unfold F.CF at h
 refine J (af (P 1 Z ?_))
 refine H (O (J (af (P 1 Z ?_))))
 obtain ⟨l,i,h⟩:=aj h
 refine ao Z (dU  i (g.d a.fr).rp) Z ?_
 rintro _ w ⟨rfl,f⟩
 have a:=a.f f
 refine P 2 Z ?_
 cases b:(decide ((0:Int)<l))
 case true=>
  have h:=aI h b
  try simp only [b]
  refine P 2 Z ?_
  obtain ⟨m,j,h⟩:=aj h
  refine cc (t:=8) Z Z (by kernel_rfl) Z (eK  j (g.d a.fr).rp (k.d a.fr).rp) Z ?_
  rintro _ w ⟨rfl,f⟩
  have a:=a.f f
  refine P 3 Z ?_
  refine H (O (aw ?_))
  cases h
  exact aF Z Z ⟨Z,a⟩
 case false=>
  have h:=aH h b
  try simp only [b]
  refine P 6 Z ?_
  refine H (O (aw ?_))
  cases h
  exact aF Z Z ⟨Z,a⟩
theorem l9 {e:World} {g i a1 a2:List UInt32} {b c j l:Value} (d:Bool) {r:Bool}
  (h:F.Cz g i d a1 a2=some r) (n:RP [] e U b g) (t:RP [] e U c i) (q:RP [] e U j a1) (s:RP [] e U l a2):Calls Tryz.prog 41 #[.agg #[b,c,I d],j,l] e (Ret fun v w=>v=I r∧St [] e w []):=by
 refine aJ 24 Tryz.func41 Z Z Z ?_
 have a:=St.l e
 refine au [(0,.agg #[b,c,I d]),(1,j),(2,l)] ⟨Z,Z,Z,V⟩ ?_
 unfold F.Cz at h
 refine J (af (aT (da (cs:=[b,c,I d]) Z Z a) Z ?_))
 rintro _ w ⟨u,rfl,a⟩
 refine P 1 Z ?_
 refine H (O (J (J (af (am (av (k:=2) u33 Z Z nz4 Z) Z (am (aC Tryz.underlying4 Z Z (a.r 0 Z 2)) Z (H (O ?_))))))))
 refine ax Z (fun f=>?_) (fun f=>?_)
 ·have h:=aI h f
  refine J (af (P 1 Z ?_))
  refine H (O (aw (aE ?_)))
  cases h
  exact aF Z Z ⟨Z,a.e [] Z Z⟩
 have h:=aH h f
 refine ay (O (J (af (am (av (k:=0) u33 Z Z kT Z) Z (am (aC u31 Z Z (a.r 0 Z 0)) Z (P 1 Z ?_))))))
 obtain ⟨x,o,h⟩:=aj h
 refine ao Z (gG  o (n.d a.fr).rp (s.d a.fr).rp) Z ?_
 rintro _ w ⟨y,z,rfl,m⟩
 have a:=a.f m
 refine P 7 Z ?_
 refine H (O (J (af (P 2 Z ?_))))
 obtain ⟨A,p,h⟩:=aj h
 refine ao Z (eK  p (a.ro 1 Z).rp (q.d a.fr).rp) Z ?_
 rintro _ w ⟨rfl,m⟩
 have a:=a.f m
 refine P 2 Z ?_
 refine H (O (aw ?_))
 cases h
 exact aF Z Z ⟨Z,a.e [] Z Z⟩
theorem j8 {d:World} {a2:List UInt8} {b:Value} (a0 a1:Int) {r:List UInt32}
  (h:F.EJ a0 a1 a2=some r) (m:TB [] d) (g:RP [] d e8 b a2):Calls Tryz.prog 39 #[vI a0,vI a1,b] d (Ret fun v w=>St [] d w [M U v r]):=by
 refine aJ 20 Tryz.func39 Z Z Z ?_
 have a:=St.l d
 refine au [(0,vI a0),(1,vI a1),(2,b)] ⟨Z,Z,Z,V⟩ ?_
 unfold F.EJ at h
 refine J (af (P 1 Z ?_))
 refine H (O (J (af (P 2 Z ?_))))
 refine aT (cV (e:=eV) (l:=([SV.of b]:List SV)) (vs:=[b]) u56 xj Z Z Z (f4 (g.d a.fr).sv Z) (by decide) (by decide) a) Z ?_
 rintro n w a
 obtain ⟨o,i,h⟩:=aj h
 refine ao Z (pG a0 i (m.d a.fr) (a.ro 0 Z).rp ⟨(g.d a.fr).svrp,V⟩) Z ?_
 rintro p w c
 have a:=a.f c
 refine P 1 Z ?_
 refine H (O (J (af (P 2 Z ?_))))
 refine am (aN u24 Z (a.ro 0 Z)) Z (P 1 Z ?_)
 obtain ⟨q,j,h⟩:=aj h
 refine ao Z (el a1 j ) Z ?_
 rintro _ w ⟨rfl,c⟩
 have a:=a.f c
 refine am (yV Z Z) Z ?_
 obtain ⟨f,h⟩:=bZ h
 refine am (ql u24 ti5 Z Z (a.ro 0 Z) (l8 f)) Z ?_
 obtain ⟨s,k,h⟩:=aj h
 refine ao Z (dq  k ((a.ro 0 Z).tk f.2).rp) Z ?_
 rintro t w c
 have a:=a.f c
 refine P 1 Z ?_
 refine H (O (aw ?_))
 cases h
 exact aF Z Z (a.e [0] Z Z)
theorem jQ {j:World} {a2:List UInt8} {a3 a4 o p:List UInt32} {G S T d e:Value} (a0 a1:Int) (c:Bool) {r:List UInt8×List UInt8×Int}
  (h:F.D4 a0 a1 a2 a3 a4 o p c=some r) (hT:TB [] j) (aW:RP [] j e8 G a2) (ad:RP [] j U S a3) (aK:RP [] j U T a4) (q:RP [] j U d o) (s:RP [] j U e p):Calls Tryz.prog 15 #[vI a0,vI a1,G,S,T,.agg #[d,e,I c]] j (Ret fun v w=>∃u0 u1:Value,v=.tuple #[u0,u1,vI r.2.2]∧St [] j w [M e8 u0 r.1,M e8 u1 r.2.1]):=by
 refine aJ 105 Tryz.func15 Z Z Z ?_
 have a:=St.l j
 refine au [(0,vI a0),(1,vI a1),(2,G),(3,S),(4,T),(5,.agg #[d,e,I c])] ⟨Z,Z,Z,Z,Z,Z,V⟩ ?_
 unfold F.D4 at h
 refine J (af (aT (da (cs:=[d,e,I c]) Z Z a) Z ?_))
 rintro _ w ⟨ab,rfl,a⟩
 refine P 3 Z ?_
 refine H (O (J (J (af (P 1 Z ?_)))))
 obtain ⟨bm,aM,h⟩:=aj h
 refine ao Z (gw a0 aM ) Z ?_
 rintro _ w ⟨rfl,b⟩
 have a:=a.f b
 refine P 1 Z ?_
 refine H (O ?_)
 refine ax Z (fun u=>?_) (fun u=>?_)
 ·have h:=aI h u
  refine J (af (P 3 Z ?_))
  refine H (O (aw (aE ?_)))
  cases h
  exact d9 Z Z Z Z ⟨.slice none 0 0,.slice none 0 0,Z,((a.nil e8).nil e8).e [1,0] Z Z⟩
 have h:=aH h u
 refine ay (O (J (J (af (P 1 Z ?_)))))
 obtain ⟨bn,aN,h⟩:=aj h
 refine ao Z (el a1 aN ) Z ?_
 rintro _ w ⟨rfl,b⟩
 have a:=a.f b
 refine P 1 Z ?_
 refine H (O ?_)
 refine ax Z (fun x=>?_) (fun x=>?_)
 ·have h:=aI h x
  refine J (af (P 3 Z ?_))
  refine H (O (aw (aE ?_)))
  cases h
  exact d9 Z Z Z Z ⟨.slice none 0 0,.slice none 0 0,Z,((a.nil e8).nil e8).e [1,0] Z Z⟩
 have h:=aH h x
 refine ay (O (J ?_))
 refine a9 (r:=r) (fun (g:Bool) L w=>L=[(0,vI a0),(1,vI a1),(2,G),(3,S),(4,T),(11,N ab 0),(36,I g)]∧St [] j w [X ab [d,e,I c]]) (F.FA a1 a3 a4 o p c a0 a2) ?_ ?_
 rotate_left
 ·intro ag
  refine af (am (av (k:=2) u33 Z Z nz4 Z) Z (am (aC Tryz.underlying4 Z Z (a.r 0 Z 2)) Z (P 1 Z ?_)))
  cases y:c
  case true=>
   have h:=aI h y
   try simp only [y]
   refine P 5 Z ?_
   refine H (O ?_)
   exact au _ (by exact ⟨Z,Z,Z,Z,Z,Z,Z,V⟩) (ag true _ _ ⟨Z,a⟩ h)
  case false=>
   have h:=aH h y
   try simp only [y]
   refine P 1 Z ?_
   refine ba (t:=31) Z Z (bI (us:=[d,e,I c]) u33 Z ce Z (a.q 0 Z Z)) Z ?_
   obtain ⟨aX,aO,h⟩:=aj h
   refine cc (t:=31) Z Z (by kernel_rfl) Z (nU a1 c aO (q.d a.fr).rp (s.d a.fr).rp) Z ?_
   rintro _ w ⟨rfl,b⟩
   have a:=a.f b
   refine P 2 Z ?_
   refine H (O ?_)
   exact au _ (by exact ⟨Z,Z,Z,Z,Z,Z,Z,V⟩) (ag (!aX) _ _ ⟨Z,a⟩ h)
 rintro bo L w hJ h
 try dsimp only at hJ
 obtain ⟨rfl,a⟩:=hJ
 unfold F.FA at h
 refine ax Z (fun z=>?_) (fun z=>?_)
 ·have h:=aI h z
  refine J (af (P 3 Z ?_))
  refine H (O (aw (aE ?_)))
  cases h
  exact d9 Z Z Z Z ⟨.slice none 0 0,.slice none 0 0,Z,((a.nil e8).nil e8).e [1,0] Z Z⟩
 have h:=aH h z
 refine ay (O (J (af (P 1 Z ?_))))
 obtain ⟨aL,aP,h⟩:=aj h
 refine ao Z (gc a1 aP ) Z ?_
 rintro ak w b
 have a:=a.f b
 refine P 1 Z ?_
 refine H (O (J ?_))
 refine a9 (r:=r) (fun (g:Bool) L w=>L=[(0,vI a0),(1,vI a1),(2,G),(3,S),(4,T),(11,N ab 0),(15,ak),(55,I g)]∧St [] j w [X ab [d,e,I c],M U ak aL]) (F.Da a0 a1 a2 a3 a4 o p c aL) ?_ ?_
 rotate_left
 ·intro A
  refine af (P 2 Z ?_)
  obtain ⟨aQ,an,h⟩:=aj h
  refine ao Z (fT  an (ad.d a.fr).rp (a.ro 0 Z).rp) Z ?_
  rintro _ w ⟨rfl,b⟩
  have a:=a.f b
  refine P 2 Z ?_
  cases l:(!aQ)
  case true=>
   have h:=aI h l
   try simp only [l]
   refine P 12 Z ?_
   refine H (O ?_)
   exact au _ (by exact ⟨Z,Z,Z,Z,Z,Z,Z,Z,V⟩) (A true _ _ ⟨Z,(a.e [1,0] Z Z)⟩ h)
  case false=>
   have h:=aH h l
   try simp only [l]
   refine P 2 Z ?_
   obtain ⟨aR,ap,h⟩:=aj h
   refine cc (t:=43) Z Z (by kernel_rfl) Z (fT  ap (aK.d a.fr).rp (a.ro 0 Z).rp) Z ?_
   rintro _ w ⟨rfl,b⟩
   have a:=a.f b
   refine P 3 Z ?_
   cases m:(!aR)
   case true=>
    have h:=aI h m
    try simp only [m]
    refine P 6 Z ?_
    refine H (O ?_)
    exact au _ (by exact ⟨Z,Z,Z,Z,Z,Z,Z,Z,V⟩) (A true _ _ ⟨Z,(a.e [1,0] Z Z)⟩ h)
   case false=>
    have h:=aH h m
    try simp only [m]
    refine ba (t:=49) Z Z (bI (us:=[d,e,I c]) u33 Z ce Z (a.q 1 Z Z)) Z (P 2 Z ?_)
    obtain ⟨aS,aq,h⟩:=aj h
    refine cc (t:=49) Z Z (by kernel_rfl) Z (l9 c aq (q.d a.fr).rp (s.d a.fr).rp (ad.d a.fr).rp (a.ro 0 Z).rp) Z ?_
    rintro _ w ⟨rfl,b⟩
    have a:=a.f b
    refine P 2 Z ?_
    refine H (O ?_)
    exact au _ (by exact ⟨Z,Z,Z,Z,Z,Z,Z,Z,V⟩) (A (!aS) _ _ ⟨Z,(a.e [1,0] Z Z)⟩ h)
 rintro a5 L w hJ h
 try dsimp only at hJ
 obtain ⟨rfl,a⟩:=hJ
 unfold F.Da at h
 refine ax Z (fun B=>?_) (fun B=>?_)
 ·have h:=aI h B
  refine J (af (P 3 Z ?_))
  refine H (O (aw (aE ?_)))
  cases h
  exact d9 Z Z Z Z ⟨.slice none 0 0,.slice none 0 0,Z,((a.nil e8).nil e8).e [1,0] Z Z⟩
 have h:=aH h B
 refine ay (O (J (af (P 2 Z ?_))))
 obtain ⟨a6,ar,h⟩:=aj h
 refine ao Z (nQ  ar (ad.d a.fr).rp (a.ro 1 Z).rp) Z ?_
 rintro _ w ⟨a7,rfl,b⟩
 have a:=a.f b
 refine P 5 Z ?_
 refine H (O (J (af (P 3 Z ?_))))
 obtain ⟨a8,az,h⟩:=aj h
 refine ao Z (iX  az (aK.d a.fr).rp (a.ro 0 Z).rp (a.ro 2 Z).rp) Z ?_
 rintro _ w ⟨bb,rfl,b⟩
 have a:=a.f b
 refine P 5 Z ?_
 refine H (O (J (af (P 3 Z ?_))))
 obtain ⟨bc,aA,h⟩:=aj h
 refine ao Z (j8 a0 a1 aA (hT.d a.fr) (aW.d a.fr).rp) Z ?_
 rintro bd w b
 have a:=a.f b
 refine P 2 Z ?_
 obtain ⟨be,aB,h⟩:=aj h
 refine ao Z (iX  aB (a.ro 0 Z).rp (a.ro 2 Z).rp (a.ro 4 Z).rp) Z ?_
 rintro _ w ⟨bf,rfl,b⟩
 have a:=a.f b
 refine P 5 Z ?_
 refine H (O (J (af (P 2 Z ?_))))
 obtain ⟨bg,aD,h⟩:=aj h
 refine ao Z (vc  aD (RO.nil _ U).rp (a.ro 0 Z).rp (a.ro 5 Z).rp) Z ?_
 rintro _ w ⟨bh,rfl,b⟩
 have a:=a.f b
 refine P 4 Z ?_
 refine H (O (J (af (P 3 Z ?_))))
 refine am (bI (us:=[d,e,I c]) u33 Z ce Z (a.q 5 Z Z)) Z ?_
 obtain ⟨f,aF,h⟩:=aj h
 refine ao Z (kX a1 c aF (a.ro 0 Z).rp (a.ro 3 Z).rp (q.d a.fr).rp (s.d a.fr).rp) Z ?_
 rintro _ w ⟨C,D,rfl,b⟩
 have a:=a.f b
 refine P 3 Z ?_
 refine aT (aY (cs:=[.slice none 0 0,.slice none 0 0,I false]) jc Z a) Z ?_
 rintro _ w ⟨al,rfl,a⟩
 refine bk (bl (i:=0) (us:=[C,D,I f.2.2.1]) Z ce Z Z Z ⟨(a.ro 1 Z).one,(a.ro 2 Z).one,Z,V⟩ Z a) ?_
 intro w a
 refine P 1 Z ?_
 refine H (O (J ?_))
 refine a9 (r:=r) (fun (g:Bool) L w=>L=[(1,vI a1),(22,N al 0),(98,I g)]∧St [] j w [X al [C,D,I f.2.2.1],M U C f.1,M U D f.2.1]) (F.Dy a1 f) ?_ ?_
 rotate_left
 ·intro ac
  refine af (P 3 Z ?_)
  cases n:(f.2.2.2 != 0)
  case true=>
   have h:=aI h n
   try simp only [n]
   refine P 3 Z ?_
   refine H (O ?_)
   exact au _ (by exact ⟨Z,Z,Z,V⟩) (ac true _ _ ⟨Z,(a.e [0,1,2] Z Z)⟩ h)
  case false=>
   have h:=aH h n
   try simp only [n]
   refine ba (t:=95) Z Z (av (k:=2) u33 Z Z nz4 Z) Z (ba (t:=95) Z Z (aC Tryz.underlying4 Z Z (a.r 0 Z 2)) Z (P 1 Z ?_))
   refine H (O ?_)
   exact au _ (by exact ⟨Z,Z,Z,V⟩) (ac f.2.2.1 _ _ ⟨Z,(a.e [0,1,2] Z Z)⟩ h)
 rintro bi L w hJ h
 try dsimp only at hJ
 obtain ⟨rfl,a⟩:=hJ
 unfold F.Dy at h
 refine ax Z (fun E=>?_) (fun E=>?_)
 ·have h:=aI h E
  refine J (af (P 3 Z ?_))
  refine H (O (aw (aE ?_)))
  cases h
  exact d9 Z Z Z Z ⟨.slice none 0 0,.slice none 0 0,Z,((a.nil e8).nil e8).e [1,0] Z Z⟩
 have h:=aH h E
 refine ay (O (J (af (P 1 Z ?_))))
 refine am (bI (us:=[C,D,I f.2.2.1]) u33 Z ce Z (a.q 0 Z Z)) Z ?_
 obtain ⟨bj,aG,h⟩:=aj h
 refine ao Z (pc a1 f.2.2.1 aG (a.ro 1 Z).rp (a.ro 2 Z).rp) Z ?_
 rintro _ w ⟨aU,aV,rfl,b⟩
 have a:=a.f b
 refine P 6 Z ?_
 refine H (O (aw ?_))
 cases h
 exact d9 Z Z Z Z ⟨aU,aV,Z,a.e [0,1] Z Z⟩
theorem gW {f:World} {a2 a3 a4 a5:List UInt8} {D E y G:Value} (a0 a1:Int) {r:Int}
  (h:F.Cr a0 a1 a2 a3 a4 a5=some r) (hT:TB [] f) (aX:RP [] f e8 D a2) (a6:RP [] f e8 E a3) (a7:RP [] f e8 y a4) (s:RP [] f e8 G a5):Calls Tryz.prog 11 #[vI a0,vI a1,D,E,y,G] f (Ret fun v w=>v=vI r∧St [] f w []):=by
 refine aJ 114 Tryz.func11 Z Z Z ?_
 have a:=St.l f
 refine au [(0,vI a0),(1,vI a1),(2,D),(3,E),(4,y),(5,G)] ⟨Z,Z,Z,Z,Z,Z,V⟩ ?_
 unfold F.Cr at h
 refine J (af (P 1 Z ?_))
 refine H (O (J (J (af (P 1 Z ?_)))))
 obtain ⟨bq,aP,h⟩:=aj h
 refine ao Z (gw a0 aP ) Z ?_
 rintro _ w ⟨rfl,b⟩
 have a:=a.f b
 refine P 1 Z ?_
 refine H (O ?_)
 refine ax Z (fun l=>?_) (fun l=>?_)
 ·have h:=aI h l
  refine J (af (P 1 Z ?_))
  refine H (O (aw (aE ?_)))
  cases h
  exact aF Z Z ⟨Z,a⟩
 have h:=aH h l
 refine ay (O (J (af (P 3 Z ?_))))
 obtain ⟨c,aQ,h⟩:=aj h
 refine ao Z (pm a1 aQ (aX.d a.fr).rp (a6.d a.fr).rp) Z ?_
 rintro _ w ⟨j,k,rfl,b⟩
 have a:=a.f b
 refine P 3 Z ?_
 refine aT (aY (cs:=[.slice none 0 0,.slice none 0 0,I false]) jc Z a) Z ?_
 rintro _ w ⟨S,rfl,a⟩
 refine bk (bl (i:=0) (us:=[j,k,I c.2.2.1]) Z ce Z Z Z ⟨(a.ro 1 Z).one,(a.ro 2 Z).one,Z,V⟩ Z a) ?_
 intro w a
 refine P 1 Z ?_
 refine H (O (J (J (af (P 2 Z ?_)))))
 refine H (O ?_)
 refine ax Z (fun m=>?_) (fun m=>?_)
 ·have h:=aI h m
  refine J (af (P 1 Z ?_))
  refine H (O (aw (aE ?_)))
  cases h
  exact aF Z Z ⟨Z,a.e [] Z Z⟩
 have h:=aH h m
 refine ay (O (J (af (P 1 Z ?_))))
 obtain ⟨T,aR,h⟩:=aj h
 refine ao Z (el a1 aR ) Z ?_
 rintro _ w ⟨rfl,b⟩
 have a:=a.f b
 refine P 1 Z ?_
 obtain ⟨u,ap,h⟩:=aj h
 refine ao Z (gc a1 ap ) Z ?_
 rintro x w b
 have a:=a.f b
 refine P 2 Z ?_
 refine H (O (J (J (af (P 1 Z ?_)))))
 refine am (aN u24 Z (s.d a.fr)) Z (P 1 Z ?_)
 refine am (aq Z Z (fF _ 2 T)) Z (P 1 Z ?_)
 refine H (O ?_)
 refine ax Z (fun n=>?_) (fun n=>?_)
 ·have h:=aI h n
  refine J (af (P 1 Z ?_))
  refine H (O (aw (aE ?_)))
  cases h
  exact aF Z Z ⟨Z,a.e [] Z Z⟩
 have h:=aH h n
 refine ay (O (J ?_))
 refine aZ (fun w'=>St [] f w' [M U x u,X S [j,k,I c.2.2.1],M U j c.1,M U k c.2.1]) (fun _=>true) bS (fun _ _ _ hf=>hf.2) (fun _ _ hf=>hf) (by kernel_rfl) ?_
 have a:=a.drew
 show lxE _ _ _ _ _ _ _ [0,1,2,3,4,5,6,7,8,9,10,11,12] _ _
 refine al a Z Z (fun w hF=>ar Z) Z (al a Z Z (fun w hF=>ar Z) Z (al a Z Z (fun w hF=>ar Z) Z ?_))
 obtain ⟨z,h⟩:=bZ h
 refine al a Z Z (fun w hF=>rc u24 ti5 Z Z Z (s.d hF.fr) z) Z (al a Z Z (fun w hF=>ar Z) Z (al a Z Z (fun w hF=>ar Z) Z (al a Z Z (fun w hF=>ar Z) Z (al a Z Z (fun w hF=>aq Z Z (fF _ 2 T)) Z (al a Z Z (fun w hF=>ar Z) Z (al a Z Z (fun w hF=>aq Z Z (fF _ 2 T)) Z ?_))))))
 obtain ⟨bb,A,h⟩:=aj h
 refine al a Z Z (fun w hF=>A7 u24 ti5 Z Z Z Z (s.d hF.fr) A) Z (al a Z Z (fun w hF=>aB Z) Z (al a Z Z (fun w hF=>aB Z) Z (bn a ?_)))
 refine O (J (af (P 1 Z ?_)))
 obtain ⟨ab,av,h⟩:=aj h
 refine ao Z (dq  av ((s.d a.fr).tk3 z.2.1).rp) Z ?_
 rintro ac w b
 have a:=a.f b
 refine P 1 Z ?_
 obtain ⟨ad,az,h⟩:=aj h
 refine ao Z (dq  az ((s.g_sl3 A).d a.fr).rp) Z ?_
 rintro ag w b
 have a:=a.f b
 refine P 2 Z ?_
 refine H (O (J ?_))
 refine a9 (r:=r) (fun (g:Bool) L w=>L=[(0,vI a0),(1,vI a1),(4,y),(13,N S 0),(16,x),(19,ac),(20,ag),(73,I g)]∧St [] f w [X S [j,k,I c.2.2.1],M U j c.1,M U k c.2.1,M U x u,M U ac ab,M U ag ad]) (F.ET a0 a1 a4 c u ab ad) ?_ ?_
 rotate_left
 ·intro B
  refine af (P 2 Z ?_)
  obtain ⟨aU,aA,h⟩:=aj h
  refine ao Z (fT  aA (a.ro 1 Z).rp (a.ro 2 Z).rp) Z ?_
  rintro _ w ⟨rfl,b⟩
  have a:=a.f b
  refine P 2 Z ?_
  cases d:(!aU)
  case true=>
   have h:=aI h d
   try simp only [d]
   refine P 5 Z ?_
   refine H (O ?_)
   exact au _ (by exact ⟨Z,Z,Z,Z,Z,Z,Z,Z,V⟩) (B true _ _ ⟨Z,(a.e [3,4,5,2,1,0] Z Z)⟩ h)
  case false=>
   have h:=aH h d
   try simp only [d]
   refine P 2 Z ?_
   obtain ⟨aV,aC,h⟩:=aj h
   refine cc (t:=68) Z Z (by kernel_rfl) Z (fT  aC (a.ro 0 Z).rp (a.ro 2 Z).rp) Z ?_
   rintro _ w ⟨rfl,b⟩
   have a:=a.f b
   refine P 2 Z ?_
   refine H (O ?_)
   exact au _ (by exact ⟨Z,Z,Z,Z,Z,Z,Z,Z,V⟩) (B (!aV) _ _ ⟨Z,(a.e [3,4,5,2,1,0] Z Z)⟩ h)
 rintro bc L w hJ h
 try dsimp only at hJ
 obtain ⟨rfl,a⟩:=hJ
 unfold F.ET at h
 refine ax Z (fun o=>?_) (fun o=>?_)
 ·have h:=aI h o
  refine J (af (P 1 Z ?_))
  refine H (O (aw (aE ?_)))
  cases h
  exact aF Z Z ⟨Z,a.e [] Z Z⟩
 have h:=aH h o
 refine ay (O (J (af (P 2 Z ?_))))
 obtain ⟨bd,aD,h⟩:=aj h
 refine ao Z (nQ  aD (a.ro 5 Z).rp (a.ro 3 Z).rp) Z ?_
 rintro _ w ⟨be,rfl,b⟩
 have a:=a.f b
 refine P 5 Z ?_
 refine H (O (J (af (P 3 Z ?_))))
 obtain ⟨bf,aG,h⟩:=aj h
 refine ao Z (j8 a0 a1 aG (hT.d a.fr) (a7.d a.fr).rp) Z ?_
 rintro bg w b
 have a:=a.f b
 refine P 2 Z ?_
 obtain ⟨bh,aK,h⟩:=aj h
 refine ao Z (iX  aK (a.ro 0 Z).rp (a.ro 1 Z).rp (a.ro 5 Z).rp) Z ?_
 rintro _ w ⟨bi,rfl,b⟩
 have a:=a.f b
 refine P 5 Z ?_
 refine H (O (J (af (P 3 Z ?_))))
 obtain ⟨bj,aL,h⟩:=aj h
 refine ao Z (iX  aL (a.ro 7 Z).rp (a.ro 2 Z).rp (a.ro 6 Z).rp) Z ?_
 rintro _ w ⟨bm,rfl,b⟩
 have a:=a.f b
 refine P 5 Z ?_
 refine H (O (J (af (P 3 Z ?_))))
 refine am (bI (us:=[j,k,I c.2.2.1]) u33 Z ce Z (a.q 4 Z Z)) Z ?_
 obtain ⟨p,aM,h⟩:=aj h
 refine ao Z (kX a1 c.2.2.1 aM (a.ro 1 Z).rp (a.ro 0 Z).rp (a.ro 5 Z).rp (a.ro 6 Z).rp) Z ?_
 rintro _ w ⟨ak,an,rfl,b⟩
 have a:=a.f b
 refine P 3 Z ?_
 refine aT (aY (cs:=[.slice none 0 0,.slice none 0 0,I false]) jc Z a) Z ?_
 rintro _ w ⟨bo,rfl,a⟩
 refine bk (bl (i:=0) (us:=[ak,an,I p.2.2.1]) Z ce Z Z Z ⟨(a.ro 1 Z).one,(a.ro 2 Z).one,Z,V⟩ Z a) ?_
 intro w a
 refine P 1 Z ?_
 refine H (O (J ?_))
 refine a9 (r:=r) (fun (g:Bool) L w=>L=[(113,I g)]∧St [] f w []) (F.E2) ?_ ?_
 rotate_left
 ·intro C
  refine af (P 3 Z ?_)
  cases e:(p.2.2.2 != 0)
  case true=>
   have h:=aI h e
   try simp only [e]
   refine P 6 Z ?_
   refine H (O ?_)
   exact au _ (by exact ⟨Z,V⟩) (C true _ _ ⟨Z,(a.e [] Z Z)⟩ h)
  case false=>
   have h:=aH h e
   try simp only [e]
   refine ba (t:=107) Z Z (bI (us:=[ak,an,I p.2.2.1]) u33 Z ce Z (a.q 0 Z Z)) Z (P 2 Z ?_)
   obtain ⟨aW,aO,h⟩:=aj h
   refine cc (t:=107) Z Z (by kernel_rfl) Z (l9 p.2.2.1 aO (a.ro 1 Z).rp (a.ro 2 Z).rp (a.ro 11 Z).rp (a.ro 10 Z).rp) Z ?_
   rintro _ w ⟨rfl,b⟩
   have a:=a.f b
   refine P 2 Z ?_
   refine H (O ?_)
   exact au _ (by exact ⟨Z,V⟩) (C (!aW) _ _ ⟨Z,(a.e [] Z Z)⟩ h)
 rintro bp L w hJ h
 try dsimp only at hJ
 obtain ⟨rfl,a⟩:=hJ
 unfold F.E2 at h
 refine ax Z (fun q=>?_) (fun q=>?_)
 ·have h:=aI h q
  refine J (af (P 1 Z ?_))
  refine H (O (aw (aE ?_)))
  cases h
  exact aF Z Z ⟨Z,a⟩
 have h:=aH h q
 refine ay (O (J (af (P 1 Z ?_))))
 refine H (O (aw ?_))
 cases h
 exact aF Z Z ⟨Z,a⟩
end Go.Proofs
