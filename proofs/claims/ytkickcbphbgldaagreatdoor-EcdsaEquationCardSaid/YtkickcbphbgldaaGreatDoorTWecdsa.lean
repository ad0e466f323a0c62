import Derived.Test.YtkickcbphbgldaaGreatDoorTW0
import Derived.Test.YtkickcbphbgldaaGreatDoorGkFman
import Derived.Test.YtkickcbphbgldaaGreatDoorTWcurvee
import Derived.Test.YtkickcbphbgldaaGreatDoorTWmodn
import Derived.Test.YtkickcbphbgldaaGreatDoorTWnatb
import Derived.Test.YtkickcbphbgldaaGreatDoorTWshab
set_option linter.unusedVariables false
set_option linter.unusedSimpArgs false
set_option linter.unusedSectionVars false
set_option maxRecDepth 4000
namespace Go.Proofs
open Go Go.RowKit Go.Gk
open Go.Gk renaming aa → P, ae → M, ah → I, ai → H, e32 → U, own → K, pB → N, vB → J
open Go.Gk.OE renaming bx → W
theorem fI {c:World} {a0 a1:List UInt32} {d e:Value} {r:Bool}
  (h:F.CQ a0 a1=some r) (g:RP [] c U d a0) (k:RP [] c U e a1):Calls Tryz.prog 38 #[d,e] c (Ret fun v w=>v=J r∧St [] c w []):=by
 refine aJ 14 Tryz.func38 Z Z Z ?_
 have a:=St.l c
 refine au [(0,d),(1,e)] ⟨Z,Z,V⟩ ?_
 unfold F.CQ at h
 refine I (af (P 1 Z ?_))
 refine H (M (I (af (P 1 Z ?_))))
 obtain ⟨l,i,h⟩:=aj h
 refine ao Z (dV  i (g.d a.fr).rp) Z ?_
 rintro _ w ⟨rfl,f⟩
 have a:=a.f f
 refine P 2 Z ?_
 cases b:(decide ((0:Int)<l))
 case true=>
  have h:=aG h b
  try simp only [b]
  refine P 2 Z ?_
  obtain ⟨m,j,h⟩:=aj h
  refine cn (t:=8) Z Z (by kernel_rfl) Z (eI  j (g.d a.fr).rp (k.d a.fr).rp) Z ?_
  rintro _ w ⟨rfl,f⟩
  have a:=a.f f
  refine P 3 Z ?_
  refine H (M (aw ?_))
  cases h
  exact aF Z Z ⟨Z,a⟩
 case false=>
  have h:=aH h b
  try simp only [b]
  refine P 6 Z ?_
  refine H (M (aw ?_))
  cases h
  exact aF Z Z ⟨Z,a⟩
theorem k6 {e:World} {g i a1 a2:List UInt32} {b c j l:Value} (d:Bool) {r:Bool}
  (h:F.CE g i d a1 a2=some r) (n:RP [] e U b g) (t:RP [] e U c i) (q:RP [] e U j a1) (s:RP [] e U l a2):Calls Tryz.prog 41 #[.agg #[b,c,J d],j,l] e (Ret fun v w=>v=J r∧St [] e w []):=by
 refine aJ 24 Tryz.func41 Z Z Z ?_
 have a:=St.l e
 refine au [(0,.agg #[b,c,J d]),(1,j),(2,l)] ⟨Z,Z,Z,V⟩ ?_
 unfold F.CE at h
 refine I (af (aP (cZ (cs:=[b,c,J d]) Z Z a) Z ?_))
 rintro _ w ⟨u,rfl,a⟩
 refine P 1 Z ?_
 refine H (M (I (I (af (am (av (k:=2) u33 Z Z nz4 Z) Z (am (aC Tryz.underlying4 Z Z (a.r 0 Z 2)) Z (H (M ?_))))))))
 refine ax Z (fun f=>?_) (fun f=>?_)
 ·have h:=aG h f
  refine I (af (P 1 Z ?_))
  refine H (M (aw (aD ?_)))
  cases h
  exact aF Z Z ⟨Z,a.e [] Z Z⟩
 have h:=aH h f
 refine az (M (I (af (am (av (k:=0) u33 Z Z kw Z) Z (am (aC u31 Z Z (a.r 0 Z 0)) Z (P 1 Z ?_))))))
 obtain ⟨x,o,h⟩:=aj h
 refine ao Z (gu  o (n.d a.fr).rp (s.d a.fr).rp) Z ?_
 rintro _ w ⟨y,z,rfl,m⟩
 have a:=a.f m
 refine P 7 Z ?_
 refine H (M (I (af (P 2 Z ?_))))
 obtain ⟨A,p,h⟩:=aj h
 refine ao Z (eI  p (a.ro 1 Z).rp (q.d a.fr).rp) Z ?_
 rintro _ w ⟨rfl,m⟩
 have a:=a.f m
 refine P 2 Z ?_
 refine H (M (aw ?_))
 cases h
 exact aF Z Z ⟨Z,a.e [] Z Z⟩
theorem j9 {d:World} {a2:List UInt8} {b:Value} (a0 a1:Int) {r:List UInt32}
  (h:F.Es a0 a1 a2=some r) (m:TB [] d) (g:RP [] d e8 b a2):Calls Tryz.prog 39 #[vI a0,vI a1,b] d (Ret fun v w=>St [] d w [K U v r]):=by
 refine aJ 20 Tryz.func39 Z Z Z ?_
 have a:=St.l d
 refine au [(0,vI a0),(1,vI a1),(2,b)] ⟨Z,Z,Z,V⟩ ?_
 unfold F.Es at h
 refine I (af (P 1 Z ?_))
 refine H (M (I (af (P 2 Z ?_))))
 refine aP (cQ (e:=eV) (l:=([SV.of b]:List SV)) (vs:=[b]) u56 xM Z Z Z (fT (g.d a.fr).sv Z) (by decide) (by decide) a) Z ?_
 rintro n w a
 obtain ⟨o,i,h⟩:=aj h
 refine ao Z (pS a0 i (m.d a.fr) (a.ro 0 Z).rp ⟨(g.d a.fr).svrp,V⟩) Z ?_
 rintro p w c
 have a:=a.f c
 refine P 1 Z ?_
 refine H (M (I (af (P 2 Z ?_))))
 refine am (aN u24 Z (a.ro 0 Z)) Z (P 1 Z ?_)
 obtain ⟨q,j,h⟩:=aj h
 refine ao Z (fc a1 j ) Z ?_
 rintro _ w ⟨rfl,c⟩
 have a:=a.f c
 refine am (zI Z Z) Z ?_
 obtain ⟨f,h⟩:=bZ h
 refine am (oK u24 ti5 Z Z (a.ro 0 Z) (ma f)) Z ?_
 obtain ⟨s,k,h⟩:=aj h
 refine ao Z (cV  k ((a.ro 0 Z).tk f.2).rp) Z ?_
 rintro t w c
 have a:=a.f c
 refine P 1 Z ?_
 refine H (M (aw ?_))
 cases h
 exact aF Z Z (a.e [0] Z Z)
theorem nW {j:World} {a2:List UInt8} {a3 a4 o p:List UInt32} {G S T d e:Value} (a0 a1:Int) (c:Bool) {r:List UInt8×List UInt8×Int}
  (h:F.FG a0 a1 a2 a3 a4 o p c=some r) (hT:TB [] j) (aX:RP [] j e8 G a2) (ad:RP [] j U S a3) (aK:RP [] j U T a4) (q:RP [] j U d o) (s:RP [] j U e p):Calls Tryz.prog 15 #[vI a0,vI a1,G,S,T,.agg #[d,e,J c]] j (Ret fun v w=>∃u0 u1:Value,v=.tuple #[u0,u1,vI r.2.2]∧St [] j w [K e8 u0 r.1,K e8 u1 r.2.1]):=by
 refine aJ 105 Tryz.func15 Z Z Z ?_
 have a:=St.l j
 refine au [(0,vI a0),(1,vI a1),(2,G),(3,S),(4,T),(5,.agg #[d,e,J c])] ⟨Z,Z,Z,Z,Z,Z,V⟩ ?_
 unfold F.FG at h
 refine I (af (aP (cZ (cs:=[d,e,J c]) Z Z a) Z ?_))
 rintro _ w ⟨ab,rfl,a⟩
 refine P 3 Z ?_
 refine H (M (I (I (af (P 1 Z ?_)))))
 obtain ⟨bm,aM,h⟩:=aj h
 refine ao Z (gv a0 aM ) Z ?_
 rintro _ w ⟨rfl,b⟩
 have a:=a.f b
 refine P 1 Z ?_
 refine H (M ?_)
 refine ax Z (fun u=>?_) (fun u=>?_)
 ·have h:=aG h u
  refine I (af (P 3 Z ?_))
  refine H (M (aw (aD ?_)))
  cases h
  exact ef Z Z Z Z ⟨.slice none 0 0,.slice none 0 0,Z,((a.nil e8).nil e8).e [1,0] Z Z⟩
 have h:=aH h u
 refine az (M (I (I (af (P 1 Z ?_)))))
 obtain ⟨bn,aN,h⟩:=aj h
 refine ao Z (fc a1 aN ) Z ?_
 rintro _ w ⟨rfl,b⟩
 have a:=a.f b
 refine P 1 Z ?_
 refine H (M ?_)
 refine ax Z (fun x=>?_) (fun x=>?_)
 ·have h:=aG h x
  refine I (af (P 3 Z ?_))
  refine H (M (aw (aD ?_)))
  cases h
  exact ef Z Z Z Z ⟨.slice none 0 0,.slice none 0 0,Z,((a.nil e8).nil e8).e [1,0] Z Z⟩
 have h:=aH h x
 refine az (M (I ?_))
 refine a9 (r:=r) (fun (g:Bool) L w=>L=[(0,vI a0),(1,vI a1),(2,G),(3,S),(4,T),(11,N ab 0),(36,J g)]∧St [] j w [W ab [d,e,J c]]) (F.E5 a1 a3 a4 o p c a0 a2) ?_ ?_
 rotate_left
 ·intro ag
  refine af (am (av (k:=2) u33 Z Z nz4 Z) Z (am (aC Tryz.underlying4 Z Z (a.r 0 Z 2)) Z (P 1 Z ?_)))
  cases y:c
  case true=>
   have h:=aG h y
   try simp only [y]
   refine P 5 Z ?_
   refine H (M ?_)
   exact au _ (by exact ⟨Z,Z,Z,Z,Z,Z,Z,V⟩) (ag true _ _ ⟨Z,a⟩ h)
  case false=>
   have h:=aH h y
   try simp only [y]
   refine P 1 Z ?_
   refine bf (t:=31) Z Z (bo (us:=[d,e,J c]) u33 Z bI Z (a.q 0 Z Z)) Z ?_
   obtain ⟨aY,aO,h⟩:=aj h
   refine cn (t:=31) Z Z (by kernel_rfl) Z (uO a1 c aO (q.d a.fr).rp (s.d a.fr).rp) Z ?_
   rintro _ w ⟨rfl,b⟩
   have a:=a.f b
   refine P 2 Z ?_
   refine H (M ?_)
   exact au _ (by exact ⟨Z,Z,Z,Z,Z,Z,Z,V⟩) (ag (!aY) _ _ ⟨Z,a⟩ h)
 rintro bp L w hJ h
 try dsimp only at hJ
 obtain ⟨rfl,a⟩:=hJ
 unfold F.E5 at h
 refine ax Z (fun z=>?_) (fun z=>?_)
 ·have h:=aG h z
  refine I (af (P 3 Z ?_))
  refine H (M (aw (aD ?_)))
  cases h
  exact ef Z Z Z Z ⟨.slice none 0 0,.slice none 0 0,Z,((a.nil e8).nil e8).e [1,0] Z Z⟩
 have h:=aH h z
 refine az (M (I (af (P 1 Z ?_))))
 obtain ⟨aL,aQ,h⟩:=aj h
 refine ao Z (f6 a1 aQ ) Z ?_
 rintro ak w b
 have a:=a.f b
 refine P 1 Z ?_
 refine H (M (I ?_))
 refine a9 (r:=r) (fun (g:Bool) L w=>L=[(0,vI a0),(1,vI a1),(2,G),(3,S),(4,T),(11,N ab 0),(15,ak),(55,J g)]∧St [] j w [W ab [d,e,J c],K U ak aL]) (F.C3 a0 a1 a2 a3 a4 o p c aL) ?_ ?_
 rotate_left
 ·intro A
  refine af (P 2 Z ?_)
  obtain ⟨aR,an,h⟩:=aj h
  refine ao Z (fI  an (ad.d a.fr).rp (a.ro 0 Z).rp) Z ?_
  rintro _ w ⟨rfl,b⟩
  have a:=a.f b
  refine P 2 Z ?_
  cases l:(!aR)
  case true=>
   have h:=aG h l
   try simp only [l]
   refine P 12 Z ?_
   refine H (M ?_)
   exact au _ (by exact ⟨Z,Z,Z,Z,Z,Z,Z,Z,V⟩) (A true _ _ ⟨Z,(a.e [1,0] Z Z)⟩ h)
  case false=>
   have h:=aH h l
   try simp only [l]
   refine P 2 Z ?_
   obtain ⟨aS,ap,h⟩:=aj h
   refine cn (t:=43) Z Z (by kernel_rfl) Z (fI  ap (aK.d a.fr).rp (a.ro 0 Z).rp) Z ?_
   rintro _ w ⟨rfl,b⟩
   have a:=a.f b
   refine P 3 Z ?_
   cases m:(!aS)
   case true=>
    have h:=aG h m
    try simp only [m]
    refine P 6 Z ?_
    refine H (M ?_)
    exact au _ (by exact ⟨Z,Z,Z,Z,Z,Z,Z,Z,V⟩) (A true _ _ ⟨Z,(a.e [1,0] Z Z)⟩ h)
   case false=>
    have h:=aH h m
    try simp only [m]
    refine bf (t:=49) Z Z (bo (us:=[d,e,J c]) u33 Z bI Z (a.q 1 Z Z)) Z (P 2 Z ?_)
    obtain ⟨aU,aq,h⟩:=aj h
    refine cn (t:=49) Z Z (by kernel_rfl) Z (k6 c aq (q.d a.fr).rp (s.d a.fr).rp (ad.d a.fr).rp (a.ro 0 Z).rp) Z ?_
    rintro _ w ⟨rfl,b⟩
    have a:=a.f b
    refine P 2 Z ?_
    refine H (M ?_)
    exact au _ (by exact ⟨Z,Z,Z,Z,Z,Z,Z,Z,V⟩) (A (!aU) _ _ ⟨Z,(a.e [1,0] Z Z)⟩ h)
 rintro a5 L w hJ h
 try dsimp only at hJ
 obtain ⟨rfl,a⟩:=hJ
 unfold F.C3 at h
 refine ax Z (fun B=>?_) (fun B=>?_)
 ·have h:=aG h B
  refine I (af (P 3 Z ?_))
  refine H (M (aw (aD ?_)))
  cases h
  exact ef Z Z Z Z ⟨.slice none 0 0,.slice none 0 0,Z,((a.nil e8).nil e8).e [1,0] Z Z⟩
 have h:=aH h B
 refine az (M (I (af (P 2 Z ?_))))
 obtain ⟨a6,ar,h⟩:=aj h
 refine ao Z (kG  ar (ad.d a.fr).rp (a.ro 1 Z).rp) Z ?_
 rintro _ w ⟨a8,rfl,b⟩
 have a:=a.f b
 refine P 5 Z ?_
 refine H (M (I (af (P 3 Z ?_))))
 obtain ⟨ba,ay,h⟩:=aj h
 refine ao Z (fG  ay (aK.d a.fr).rp (a.ro 0 Z).rp (a.ro 2 Z).rp) Z ?_
 rintro _ w ⟨bc,rfl,b⟩
 have a:=a.f b
 refine P 5 Z ?_
 refine H (M (I (af (P 3 Z ?_))))
 obtain ⟨bd,aA,h⟩:=aj h
 refine ao Z (j9 a0 a1 aA (hT.d a.fr) (aX.d a.fr).rp) Z ?_
 rintro be w b
 have a:=a.f b
 refine P 2 Z ?_
 obtain ⟨bg,aB,h⟩:=aj h
 refine ao Z (fG  aB (a.ro 0 Z).rp (a.ro 2 Z).rp (a.ro 4 Z).rp) Z ?_
 rintro _ w ⟨bh,rfl,b⟩
 have a:=a.f b
 refine P 5 Z ?_
 refine H (M (I (af (P 2 Z ?_))))
 obtain ⟨bi,aE,h⟩:=aj h
 refine ao Z (up  aE (RO.nil _ U).rp (a.ro 0 Z).rp (a.ro 5 Z).rp) Z ?_
 rintro _ w ⟨bj,rfl,b⟩
 have a:=a.f b
 refine P 4 Z ?_
 refine H (M (I (af (P 3 Z ?_))))
 refine am (bo (us:=[d,e,J c]) u33 Z bI Z (a.q 5 Z Z)) Z ?_
 obtain ⟨f,aF,h⟩:=aj h
 refine ao Z (kW a1 c aF (a.ro 0 Z).rp (a.ro 3 Z).rp (q.d a.fr).rp (s.d a.fr).rp) Z ?_
 rintro _ w ⟨C,D,rfl,b⟩
 have a:=a.f b
 refine P 3 Z ?_
 refine aP (aT (cs:=[.slice none 0 0,.slice none 0 0,J false]) fu Z a) Z ?_
 rintro _ w ⟨al,rfl,a⟩
 refine bb (a7 (i:=0) (us:=[C,D,J f.2.2.1]) Z bI Z Z Z ⟨(a.ro 1 Z).one,(a.ro 2 Z).one,Z,V⟩ Z a) ?_
 intro w a
 refine P 1 Z ?_
 refine H (M (I ?_))
 refine a9 (r:=r) (fun (g:Bool) L w=>L=[(1,vI a1),(22,N al 0),(98,J g)]∧St [] j w [W al [C,D,J f.2.2.1],K U C f.1,K U D f.2.1]) (F.Dw a1 f) ?_ ?_
 rotate_left
 ·intro ac
  refine af (P 3 Z ?_)
  cases n:(f.2.2.2 != 0)
  case true=>
   have h:=aG h n
   try simp only [n]
   refine P 3 Z ?_
   refine H (M ?_)
   exact au _ (by exact ⟨Z,Z,Z,V⟩) (ac true _ _ ⟨Z,(a.e [0,1,2] Z Z)⟩ h)
  case false=>
   have h:=aH h n
   try simp only [n]
   refine bf (t:=95) Z Z (av (k:=2) u33 Z Z nz4 Z) Z (bf (t:=95) Z Z (aC Tryz.underlying4 Z Z (a.r 0 Z 2)) Z (P 1 Z ?_))
   refine H (M ?_)
   exact au _ (by exact ⟨Z,Z,Z,V⟩) (ac f.2.2.1 _ _ ⟨Z,(a.e [0,1,2] Z Z)⟩ h)
 rintro bk L w hJ h
 try dsimp only at hJ
 obtain ⟨rfl,a⟩:=hJ
 unfold F.Dw at h
 refine ax Z (fun E=>?_) (fun E=>?_)
 ·have h:=aG h E
  refine I (af (P 3 Z ?_))
  refine H (M (aw (aD ?_)))
  cases h
  exact ef Z Z Z Z ⟨.slice none 0 0,.slice none 0 0,Z,((a.nil e8).nil e8).e [1,0] Z Z⟩
 have h:=aH h E
 refine az (M (I (af (P 1 Z ?_))))
 refine am (bo (us:=[C,D,J f.2.2.1]) u33 Z bI Z (a.q 0 Z Z)) Z ?_
 obtain ⟨bl,aI,h⟩:=aj h
 refine ao Z (oP a1 f.2.2.1 aI (a.ro 1 Z).rp (a.ro 2 Z).rp) Z ?_
 rintro _ w ⟨aV,aW,rfl,b⟩
 have a:=a.f b
 refine P 6 Z ?_
 refine H (M (aw ?_))
 cases h
 exact ef Z Z Z Z ⟨aV,aW,Z,a.e [0,1] Z Z⟩
theorem hO {f:World} {a2 a3 a4 a5:List UInt8} {D E y G:Value} (a0 a1:Int) {r:Int}
  (h:F.Df a0 a1 a2 a3 a4 a5=some r) (hT:TB [] f) (aY:RP [] f e8 D a2) (a6:RP [] f e8 E a3) (a8:RP [] f e8 y a4) (s:RP [] f e8 G a5):Calls Tryz.prog 11 #[vI a0,vI a1,D,E,y,G] f (Ret fun v w=>v=vI r∧St [] f w []):=by
 refine aJ 114 Tryz.func11 Z Z Z ?_
 have a:=St.l f
 refine au [(0,vI a0),(1,vI a1),(2,D),(3,E),(4,y),(5,G)] ⟨Z,Z,Z,Z,Z,Z,V⟩ ?_
 unfold F.Df at h
 refine I (af (P 1 Z ?_))
 refine H (M (I (I (af (P 1 Z ?_)))))
 obtain ⟨br,aQ,h⟩:=aj h
 refine ao Z (gv a0 aQ ) Z ?_
 rintro _ w ⟨rfl,b⟩
 have a:=a.f b
 refine P 1 Z ?_
 refine H (M ?_)
 refine ax Z (fun l=>?_) (fun l=>?_)
 ·have h:=aG h l
  refine I (af (P 1 Z ?_))
  refine H (M (aw (aD ?_)))
  cases h
  exact aF Z Z ⟨Z,a⟩
 have h:=aH h l
 refine az (M (I (af (P 3 Z ?_))))
 obtain ⟨c,aR,h⟩:=aj h
 refine ao Z (ke a1 aR (aY.d a.fr).rp (a6.d a.fr).rp) Z ?_
 rintro _ w ⟨j,k,rfl,b⟩
 have a:=a.f b
 refine P 3 Z ?_
 refine aP (aT (cs:=[.slice none 0 0,.slice none 0 0,J false]) fu Z a) Z ?_
 rintro _ w ⟨S,rfl,a⟩
 refine bb (a7 (i:=0) (us:=[j,k,J c.2.2.1]) Z bI Z Z Z ⟨(a.ro 1 Z).one,(a.ro 2 Z).one,Z,V⟩ Z a) ?_
 intro w a
 refine P 1 Z ?_
 refine H (M (I (I (af (P 2 Z ?_)))))
 refine H (M ?_)
 refine ax Z (fun m=>?_) (fun m=>?_)
 ·have h:=aG h m
  refine I (af (P 1 Z ?_))
  refine H (M (aw (aD ?_)))
  cases h
  exact aF Z Z ⟨Z,a.e [] Z Z⟩
 have h:=aH h m
 refine az (M (I (af (P 1 Z ?_))))
 obtain ⟨T,aS,h⟩:=aj h
 refine ao Z (fc a1 aS ) Z ?_
 rintro _ w ⟨rfl,b⟩
 have a:=a.f b
 refine P 1 Z ?_
 obtain ⟨u,ap,h⟩:=aj h
 refine ao Z (f6 a1 ap ) Z ?_
 rintro x w b
 have a:=a.f b
 refine P 2 Z ?_
 refine H (M (I (I (af (P 1 Z ?_)))))
 refine am (aN u24 Z (s.d a.fr)) Z (P 1 Z ?_)
 refine am (aq Z Z (fj _ 2 T)) Z (P 1 Z ?_)
 refine H (M ?_)
 refine ax Z (fun n=>?_) (fun n=>?_)
 ·have h:=aG h n
  refine I (af (P 1 Z ?_))
  refine H (M (aw (aD ?_)))
  cases h
  exact aF Z Z ⟨Z,a.e [] Z Z⟩
 have h:=aH h n
 refine az (M (I ?_))
 refine aZ (fun w'=>St [] f w' [K U x u,W S [j,k,J c.2.2.1],K U j c.1,K U k c.2.1]) (fun _=>true) bS (fun _ _ _ hf=>hf.2) (fun _ _ hf=>hf) (by kernel_rfl) ?_
 have a:=a.drew
 show lxE _ _ _ _ _ _ _ [0,1,2,3,4,5,6,7,8,9,10,11,12] _ _
 refine al a Z Z (fun w hF=>ar Z) Z (al a Z Z (fun w hF=>ar Z) Z (al a Z Z (fun w hF=>ar Z) Z ?_))
 obtain ⟨z,h⟩:=bZ h
 refine al a Z Z (fun w hF=>rN u24 ti5 Z Z Z (s.d hF.fr) z) Z (al a Z Z (fun w hF=>ar Z) Z (al a Z Z (fun w hF=>ar Z) Z (al a Z Z (fun w hF=>ar Z) Z (al a Z Z (fun w hF=>aq Z Z (fj _ 2 T)) Z (al a Z Z (fun w hF=>ar Z) Z (al a Z Z (fun w hF=>aq Z Z (fj _ 2 T)) Z ?_))))))
 obtain ⟨bc,A,h⟩:=aj h
 refine al a Z Z (fun w hF=>Bq u24 ti5 Z Z Z Z (s.d hF.fr) A) Z (al a Z Z (fun w hF=>aB Z) Z (al a Z Z (fun w hF=>aB Z) Z (bn a ?_)))
 refine M (I (af (P 1 Z ?_)))
 obtain ⟨ab,av,h⟩:=aj h
 refine ao Z (cV  av ((s.d a.fr).tk3 z.2.1).rp) Z ?_
 rintro ac w b
 have a:=a.f b
 refine P 1 Z ?_
 obtain ⟨ad,ay,h⟩:=aj h
 refine ao Z (cV  ay ((s.g_sl3 A).d a.fr).rp) Z ?_
 rintro ag w b
 have a:=a.f b
 refine P 2 Z ?_
 refine H (M (I ?_))
 refine a9 (r:=r) (fun (g:Bool) L w=>L=[(0,vI a0),(1,vI a1),(4,y),(13,N S 0),(16,x),(19,ac),(20,ag),(73,J g)]∧St [] f w [W S [j,k,J c.2.2.1],K U j c.1,K U k c.2.1,K U x u,K U ac ab,K U ag ad]) (F.Ex a0 a1 a4 c u ab ad) ?_ ?_
 rotate_left
 ·intro B
  refine af (P 2 Z ?_)
  obtain ⟨aV,aA,h⟩:=aj h
  refine ao Z (fI  aA (a.ro 1 Z).rp (a.ro 2 Z).rp) Z ?_
  rintro _ w ⟨rfl,b⟩
  have a:=a.f b
  refine P 2 Z ?_
  cases d:(!aV)
  case true=>
   have h:=aG h d
   try simp only [d]
   refine P 5 Z ?_
   refine H (M ?_)
   exact au _ (by exact ⟨Z,Z,Z,Z,Z,Z,Z,Z,V⟩) (B true _ _ ⟨Z,(a.e [3,4,5,2,1,0] Z Z)⟩ h)
  case false=>
   have h:=aH h d
   try simp only [d]
   refine P 2 Z ?_
   obtain ⟨aW,aC,h⟩:=aj h
   refine cn (t:=68) Z Z (by kernel_rfl) Z (fI  aC (a.ro 0 Z).rp (a.ro 2 Z).rp) Z ?_
   rintro _ w ⟨rfl,b⟩
   have a:=a.f b
   refine P 2 Z ?_
   refine H (M ?_)
   exact au _ (by exact ⟨Z,Z,Z,Z,Z,Z,Z,Z,V⟩) (B (!aW) _ _ ⟨Z,(a.e [3,4,5,2,1,0] Z Z)⟩ h)
 rintro bd L w hJ h
 try dsimp only at hJ
 obtain ⟨rfl,a⟩:=hJ
 unfold F.Ex at h
 refine ax Z (fun o=>?_) (fun o=>?_)
 ·have h:=aG h o
  refine I (af (P 1 Z ?_))
  refine H (M (aw (aD ?_)))
  cases h
  exact aF Z Z ⟨Z,a.e [] Z Z⟩
 have h:=aH h o
 refine az (M (I (af (P 2 Z ?_))))
 obtain ⟨be,aE,h⟩:=aj h
 refine ao Z (kG  aE (a.ro 5 Z).rp (a.ro 3 Z).rp) Z ?_
 rintro _ w ⟨bg,rfl,b⟩
 have a:=a.f b
 refine P 5 Z ?_
 refine H (M (I (af (P 3 Z ?_))))
 obtain ⟨bh,aI,h⟩:=aj h
 refine ao Z (j9 a0 a1 aI (hT.d a.fr) (a8.d a.fr).rp) Z ?_
 rintro bi w b
 have a:=a.f b
 refine P 2 Z ?_
 obtain ⟨bj,aK,h⟩:=aj h
 refine ao Z (fG  aK (a.ro 0 Z).rp (a.ro 1 Z).rp (a.ro 5 Z).rp) Z ?_
 rintro _ w ⟨bk,rfl,b⟩
 have a:=a.f b
 refine P 5 Z ?_
 refine H (M (I (af (P 3 Z ?_))))
 obtain ⟨bl,aL,h⟩:=aj h
 refine ao Z (fG  aL (a.ro 7 Z).rp (a.ro 2 Z).rp (a.ro 6 Z).rp) Z ?_
 rintro _ w ⟨bm,rfl,b⟩
 have a:=a.f b
 refine P 5 Z ?_
 refine H (M (I (af (P 3 Z ?_))))
 refine am (bo (us:=[j,k,J c.2.2.1]) u33 Z bI Z (a.q 4 Z Z)) Z ?_
 obtain ⟨p,aM,h⟩:=aj h
 refine ao Z (kW a1 c.2.2.1 aM (a.ro 1 Z).rp (a.ro 0 Z).rp (a.ro 5 Z).rp (a.ro 6 Z).rp) Z ?_
 rintro _ w ⟨ak,an,rfl,b⟩
 have a:=a.f b
 refine P 3 Z ?_
 refine aP (aT (cs:=[.slice none 0 0,.slice none 0 0,J false]) fu Z a) Z ?_
 rintro _ w ⟨bp,rfl,a⟩
 refine bb (a7 (i:=0) (us:=[ak,an,J p.2.2.1]) Z bI Z Z Z ⟨(a.ro 1 Z).one,(a.ro 2 Z).one,Z,V⟩ Z a) ?_
 intro w a
 refine P 1 Z ?_
 refine H (M (I ?_))
 refine a9 (r:=r) (fun (g:Bool) L w=>L=[(113,J g)]∧St [] f w []) (F.E0) ?_ ?_
 rotate_left
 ·intro C
  refine af (P 3 Z ?_)
  cases e:(p.2.2.2 != 0)
  case true=>
   have h:=aG h e
   try simp only [e]
   refine P 6 Z ?_
   refine H (M ?_)
   exact au _ (by exact ⟨Z,V⟩) (C true _ _ ⟨Z,(a.e [] Z Z)⟩ h)
  case false=>
   have h:=aH h e
   try simp only [e]
   refine bf (t:=107) Z Z (bo (us:=[ak,an,J p.2.2.1]) u33 Z bI Z (a.q 0 Z Z)) Z (P 2 Z ?_)
   obtain ⟨aX,aO,h⟩:=aj h
   refine cn (t:=107) Z Z (by kernel_rfl) Z (k6 p.2.2.1 aO (a.ro 1 Z).rp (a.ro 2 Z).rp (a.ro 11 Z).rp (a.ro 10 Z).rp) Z ?_
   rintro _ w ⟨rfl,b⟩
   have a:=a.f b
   refine P 2 Z ?_
   refine H (M ?_)
   exact au _ (by exact ⟨Z,V⟩) (C (!aX) _ _ ⟨Z,(a.e [] Z Z)⟩ h)
 rintro bq L w hJ h
 try dsimp only at hJ
 obtain ⟨rfl,a⟩:=hJ
 unfold F.E0 at h
 refine ax Z (fun q=>?_) (fun q=>?_)
 ·have h:=aG h q
  refine I (af (P 1 Z ?_))
  refine H (M (aw (aD ?_)))
  cases h
  exact aF Z Z ⟨Z,a⟩
 have h:=aH h q
 refine az (M (I (af (P 1 Z ?_))))
 refine H (M (aw ?_))
 cases h
 exact aF Z Z ⟨Z,a⟩
end Go.Proofs
