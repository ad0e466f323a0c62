import Derived.Test.YtkickcbphbgldaaGreatDoorTW0
import Derived.Test.YtkickcbphbgldaaGreatDoorGkFman
import Derived.Test.YtkickcbphbgldaaGreatDoorTWnatb
set_option linter.unusedVariables false
set_option linter.unusedSimpArgs false
set_option linter.unusedSectionVars false
set_option maxRecDepth 4000
namespace Go.Proofs
open Go Go.RowKit Go.Gk
open Go.Gk renaming Off → I, Rds → P, aa → Q, ae → N, af → H, ah → M, ai → J, e32 → U, own → O
open Nat renaming le_of_ble_eq_true → R
open Go.Gk.Off renaming cons → W
open Go.Gk.Rds renaming cons → Y
theorem sL {b:World} {a0:List UInt32} {a:Value} {r:Int}
  (h:F.Fj a0=some r) (e:RP [] b U a a0):Calls Tryz.prog 146 #[a] b (Ret fun v w=>v=vI r∧St [] b w []):=by
 refine aN 7 Tryz.func146 Z Z Z ?_
 have c:=St.l b
 refine ar [(0,a)] ⟨Z,V⟩ ?_
 unfold F.Fj at h
 refine M (H (Q 1 Z ?_))
 refine J (N (M (H (Q 1 Z ?_))))
 obtain ⟨f,d,h⟩:=aj h
 refine ao Z (eQ  d (e.d c.fr).rp) Z ?_
 rintro _ w ⟨rfl,g⟩
 have c:=c.f g
 refine Q 1 Z ?_
 refine al (aq Z Z (dR _ (wI (f+31)) 32 (by decide))) Z ?_
 refine Q 1 Z ?_
 refine J (N (ay ?_))
 cases h
 exact aM Z Z ⟨Z,c⟩
theorem jo {k:World} {a0:List (List UInt32)} {b:Value} {s0:List SV} {r:Int}
  (h:F.Cj a0=some r) (c:RP [] k eV b s0) (hl0:gC [] k U s0 a0):Calls Tryz.prog 78 #[b] k (Ret fun v w=>v=vI r∧St [] k w []):=by
 refine aN 23 Tryz.func78 Z Z Z ?_
 have a:=St.l k
 refine ar [(0,b)] ⟨Z,V⟩ ?_
 unfold F.Cj at h
 refine M (H (Q 1 Z ?_))
 refine J (N (M (M (H (Q 1 Z ?_)))))
 refine al (uj u120 Z (c.d a.fr) hl0.len) Z (Q 1 Z ?_)
 refine J (N (az ?_))
 refine ar [(0,b),(5,b),(6,vI (a0.length:Int)),(7,vI 0)] ⟨Z,Z,Z,Z,V⟩ ?_
 refine bd (F.Cx a0) (fun (s:Int) L w=>L=[(0,b),(5,b),(6,vI (a0.length:Int)),(7,vI s)]∧St [] k w []) ?_ 0 ⟨Z,a⟩ h
 rintro z x L w C hI p h g
 try dsimp only at hI
 obtain ⟨rfl,a⟩:=hI
 unfold F.Cx at h
 refine M (H (Q 1 Z ?_))
 refine J (N (M ?_))
 refine av Z (fun d=>?_) (fun d=>?_)
 ·have h:=aJ h d
  refine aw (N (M (az ?_)))
  refine M (H ?_)
  obtain ⟨D,q,h⟩:=aj h
  obtain ⟨A,j,m⟩:=hl0.get q
  refine al (aW u120 qE Z Z (c.d a.fr) j) Z (al (aR u31 Z Z (c.d a.fr) j Z) Z (Q 1 Z ?_))
  refine J (N (M (H (Q 1 Z ?_))))
  obtain ⟨E,t,h⟩:=aj h
  refine ao Z (sL  t (m.d a.fr).rp) Z ?_
  rintro _ w ⟨rfl,n⟩
  have a:=a.f n
  refine Q 1 Z ?_
  refine J (N ?_)
  refine av Z (fun i=>?_) (fun i=>?_)
  ·have h:=aJ h i
   refine M (H (Q 1 Z ?_))
   refine J (N (ay (bz ?_)))
   refine aG (aG ?_)
   have h:=aT h g
   refine bz ?_
   refine aG ?_
   cases h
   exact aM Z Z ⟨Z,a⟩
  have h:=aI h i
  refine aw (aP ?_)
  refine N (H (Q 2 Z ?_))
  refine J ?_
  exact bh (bo _ (by exact ⟨Z,Z,Z,Z,V⟩) (p (wI (x+1)) _ _ ⟨Z,a⟩ (aY h g)))
 have h:=aI h d
 refine ba ?_
 refine aC (aC ?_)
 have h:=aT h g
 refine a9 ?_
 refine N (M (M (H (Q 2 Z ?_))))
 refine al (uj u120 Z (c.d a.fr) hl0.len) Z (Q 1 Z ?_)
 obtain ⟨G,u,h⟩:=aj h
 obtain ⟨y,f,l⟩:=hl0.get u
 refine al (aW u120 qE Z Z (c.d a.fr) f) Z (al (aR u31 Z Z (c.d a.fr) f Z) Z ?_)
 obtain ⟨B,o,h⟩:=aj h
 refine ao Z (eQ  o (l.d a.fr).rp) Z ?_
 rintro _ w ⟨rfl,n⟩
 have a:=a.f n
 refine Q 1 Z ?_
 refine J (N ?_)
 refine av Z (fun e=>?_) (fun e=>?_)
 ·have h:=aJ h e
  refine M (H (Q 1 Z ?_))
  refine J (N (ay (aG ?_)))
  cases h
  exact aM Z Z ⟨Z,a⟩
 have h:=aI h e
 refine aw (N (M (H (Q 1 Z ?_))))
 refine J (N (ay ?_))
 cases h
 exact aM Z Z ⟨Z,a⟩
theorem fN {a:World} {a0 a1:List UInt32} {b c:Value} {r:List UInt32}
  (h:F.Cg a0 a1=some r) (f:RP [] a U b a0) (g:RP [] a U c a1):Calls Tryz.prog 79 #[b,c] a (Ret fun v w=>St [] a w [O U v r]):=by
 refine aN 16 Tryz.func79 Z Z Z ?_
 have d:=St.l a
 refine ar [(0,b),(1,c)] ⟨Z,Z,V⟩ ?_
 unfold F.Cg at h
 refine M (H (Q 1 Z ?_))
 refine J (N (M (H (Q 2 Z ?_))))
 obtain ⟨j,e,h⟩:=aj h
 refine ao Z (gA  e (f.d d.fr).rp (g.d d.fr).rp) Z ?_
 rintro _ w ⟨k,l,rfl,i⟩
 have d:=d.f i
 refine Q 7 Z ?_
 refine J (N (M (H (Q 2 Z ?_))))
 refine J (N (ay ?_))
 cases h
 exact aM Z Z (d.e [1] Z Z)
theorem mI {d:World} {a0 a1:List UInt32} {e f:Value} {r:List UInt32}
  (h:F.Ee a0 a1=some r) (g:RP [] d U e a0) (m:RP [] d U f a1):Calls Tryz.prog 148 #[e,f] d (Ret fun v w=>St [] d w [O U v r]):=by
 refine aN 12 Tryz.func148 Z Z Z ?_
 have a:=St.l d
 refine ar [(0,e),(1,f)] ⟨Z,Z,V⟩ ?_
 unfold F.Ee at h
 refine M (H (Q 1 Z ?_))
 refine J (N (M (M (H (Q 1 Z ?_)))))
 obtain ⟨s,k,h⟩:=aj h
 refine ao Z (jw 0 k (g.d a.fr).rp) Z ?_
 rintro _ w ⟨rfl,b⟩
 have a:=a.f b
 refine J (N ?_)
 refine av Z (fun c=>?_) (fun c=>?_)
 ·have h:=aJ h c
  refine H (Q 2 Z ?_)
  obtain ⟨t,l,h⟩:=aj h
  refine ao Z (pG  l (g.d a.fr).rp (m.d a.fr).rp) Z ?_
  rintro u w b
  have a:=a.f b
  refine Q 1 Z ?_
  refine J (N (M (H (Q 1 Z ?_))))
  obtain ⟨n,i,h⟩:=aj h
  refine ao Z (jH 1 i (a.ro 0 Z).rp) Z ?_
  rintro o w b
  have a:=a.f b
  refine Q 1 Z ?_
  refine J (N (ay ?_))
  cases h
  exact aM Z Z (a.e [0] Z Z)
 have h:=aI h c
 refine aw (N (M (H (Q 1 Z ?_))))
 obtain ⟨p,j,h⟩:=aj h
 refine ao Z (jH 1 j (g.d a.fr).rp) Z ?_
 rintro q w b
 have a:=a.f b
 refine Q 1 Z ?_
 refine J (N (ay ?_))
 cases h
 exact aM Z Z (a.e [0] Z Z)
theorem jp {d:World} {a0 a1 a2:List UInt32} {i j k:Value} {r:List UInt32}
  (h:F.Dq a0 a1 a2=some r) (l:RP [] d U i a0) (m:RP [] d U j a1) (q:RP [] d U k a2):Calls Tryz.prog 92 #[i,j,k] d (Ret fun v w=>St [] d w [O U v r]):=by
 refine aN 26 Tryz.func92 Z Z Z ?_
 have a:=St.l d
 refine ar [(0,i),(1,j),(2,k)] ⟨Z,Z,Z,V⟩ ?_
 unfold F.Dq at h
 refine M (H (Q 1 Z ?_))
 refine J (N (M (H (Q 2 Z ?_))))
 obtain ⟨s,n,h⟩:=aj h
 refine ao Z (jz  n (l.d a.fr).rp (m.d a.fr).rp) Z ?_
 rintro _ w ⟨t,rfl,c⟩
 have a:=a.f c
 refine Q 5 Z ?_
 refine J (N ?_)
 refine bf (r:=r) (fun (g:List UInt32) L w=>∃(e:Value),L=[(7,e)]∧St [] d w [O U e g]) (F.FH) ?_ ?_
 rotate_left
 ·intro f
  refine M (H (Q 2 Z ?_))
  refine J (N ?_)
  refine av Z (fun b=>?_) (fun b=>?_)
  ·have h:=aJ h b
   refine H (Q 2 Z ?_)
   obtain ⟨z,o,h⟩:=aj h
   refine ao Z (pG  o (l.d a.fr).rp (q.d a.fr).rp) Z ?_
   rintro A w c
   have a:=a.f c
   refine Q 1 Z ?_
   obtain ⟨u,p,h⟩:=aj h
   refine ao Z (jz  p (a.ro 0 Z).rp (m.d a.fr).rp) Z ?_
   rintro _ w ⟨x,rfl,c⟩
   have a:=a.f c
   refine Q 4 Z ?_
   refine J (N ?_)
   exact ar _ (by exact ⟨Z,V⟩) (f u.1 _ _ ⟨x,Z,(a.e [0] Z Z)⟩ h)
  have h:=aI h b
  refine aw (N ?_)
  exact ar _ (by exact ⟨Z,V⟩) (f s.1 _ _ ⟨t,Z,a⟩ h)
 rintro y L w hJ h
 try dsimp only at hJ
 obtain ⟨e,rfl,a⟩:=hJ
 unfold F.FH at h
 refine M (H (Q 2 Z ?_))
 refine J (N (ay ?_))
 cases h
 exact aM Z Z (a.e [0] Z Z)
theorem tY {m:World} {a0 a1:List UInt32} {p f:Value} {T:List Nat} {r:List UInt32×List UInt32}
  (h:F.EW a0 a1=some r) (hTT:TOk [] T m) (bc:RP T m U p a0) (be:RP T m U f a1):Calls Tryz.prog 81 #[p,f] m (Ret fun v w=>∃u0:Value,∃u1:Value,v=.tuple #[u0,u1]∧St [] m w []∧P T w [red U u1 r.2,red U u0 r.1]):=by
 refine aN 59 Tryz.func81 Z Z Z ?_
 have a:=St.l m
 have hZ:=Fz.l (S:=[]) (w0:=m)
 have hA0:P T m [red U f a1,red U p a0]:=Y (RP.i (R Z) be) (Y (RP.i (R Z) bc) (P.nil))
 have b:=hA0.all
 have c:=hA0.off Z
 refine ar [(0,p),(1,f)] ⟨Z,Z,V⟩ ?_
 unfold F.EW at h
 refine M (H (Q 2 Z ?_))
 refine J (N (M (H (Q 4 Z ?_))))
 refine J (N (M (H ?_)))
 refine aU (ci (e:=U) (l:=([1]:List UInt32)) (vs:=[v32 1]) u31 aZ Z Z Z Z (by decide) (by decide) a) Z ?_
 rintro ad w a
 refine aU (xn (e:=U) u31 aZ a) Z ?_
 rintro ag w a
 refine Q 2 Z ?_
 refine J (N (M (az ?_)))
 replace a:=a.pick (os':=[O U ag [],O U ad ([1]:List UInt32)]++[]) [0,1] (by decide) rfl
 obtain ⟨bH,bn,hZ,b,c,a⟩:=hZ.frzT hTT b c a
 refine ar [(1,f),(6,p),(7,f),(8,ad),(9,ag)] ⟨Z,Z,Z,Z,Z,V⟩ ?_
 refine bd (F.Dp a1) (fun (s:List UInt32×List UInt32×List UInt32×List UInt32) L w=>∃(n:Value) (g:Value) (o:Value) (i:Value),L=[(1,f),(6,n),(7,g),(8,o),(9,i)]∧SfT [] T m w [red U i s.2.2.2,red U o s.2.2.1,red U g s.2.1,red U n s.1,red U f a1] []) ?_ (a0,a1,([1]:List UInt32),[]) ⟨p,f,ad,ag,Z,(SfT.mk' hZ (Y (b.b 3 Z) (Y (b.b 2 Z) (Y (b.b 1 Z) (Y (b.b 0 Z) (Y (b.b 1 Z) P.nil))))) (W (c.b 3 Z) (W (c.b 2 Z) (W (c.b 1 Z) (W (c.b 0 Z) (W (c.b 1 Z) I.nil))))) a)⟩ h
 rintro bp ⟨bf,B,a7,C⟩ L w bq hI G h q
 try dsimp only at hI
 obtain ⟨n,g,o,i,rfl,⟨bI,br,hZ,b,c,a⟩⟩:=hI
 unfold F.Dp at h
 refine M (M (H (Q 1 Z ?_)))
 obtain ⟨bs,aL,h⟩:=aj h
 refine ao Z (eQ  aL ((b.rp 1 Z).d a.fr).rp) Z ?_
 rintro _ w ⟨rfl,d⟩
 have a:=a.f d
 refine Q 1 Z ?_
 refine J (N ?_)
 refine av Z (fun t=>?_) (fun t=>?_)
 ·have h:=aJ h t
  refine aw (N (az ?_))
  refine M (az ?_)
  refine ar [(1,f),(6,n),(7,g),(8,o),(9,i)] ⟨Z,Z,Z,Z,Z,V⟩ ?_
  refine bd (F.EE a1 B C) (fun (s:List UInt32×List UInt32) L w=>∃(j:Value) (k:Value),L=[(1,f),(6,j),(7,g),(8,k),(9,i)]∧SfT [] T m w [red U i C,red U k s.2,red U g B,red U j s.1,red U f a1] []) ?_ (bf,a7) ⟨n,o,Z,(SfT.mk' hZ (Y (b.b 4 Z) (Y (b.b 3 Z) (Y (b.b 2 Z) (Y (b.b 1 Z) (Y (b.b 0 Z) P.nil))))) (W (c.b 4 Z) (W (c.b 3 Z) (W (c.b 2 Z) (W (c.b 1 Z) (W (c.b 0 Z) I.nil))))) a)⟩ h
  rintro bt ⟨D,E⟩ L w bu hI aM h ab
  try dsimp only at hI
  obtain ⟨j,k,rfl,⟨bv,bg,hZ,b,c,a⟩⟩:=hI
  unfold F.EE at h
  refine M (M (H (Q 1 Z ?_)))
  obtain ⟨bw,aO,h⟩:=aj h
  refine ao Z (jw 0 aO ((b.rp 1 Z).d a.fr).rp) Z ?_
  rintro _ w ⟨rfl,d⟩
  have a:=a.f d
  refine Q 1 Z ?_
  refine J (N ?_)
  refine av Z (fun u=>?_) (fun u=>?_)
  ·have h:=aJ h u
   refine aw (N (az ?_))
   refine H (Q 1 Z ?_)
   obtain ⟨ak,aQ,h⟩:=aj h
   refine ao Z (jH 1 aQ ((b.rp 1 Z).d a.fr).rp) Z ?_
   rintro al w d
   have a:=a.f d
   refine Q 2 Z ?_
   obtain ⟨am,aR,h⟩:=aj h
   refine ao Z (mI  aR ((b.rp 3 Z).d a.fr).rp ((b.rp 0 Z).d a.fr).rp) Z ?_
   rintro an w d
   have a:=a.f d
   refine Q 2 Z ?_
   refine J (aP ?_)
   replace a:=a.pick (os':=[O U an am,O U al ak]++[]) [0,1] (by decide) rfl
   obtain ⟨bx,bi,hZ,b,c,a⟩:=hZ.frzT hTT b c a
   exact bh (bo _ (by exact ⟨Z,Z,Z,Z,Z,V⟩) (aM (ak,am) _ _ ⟨al,an,Z,(SfT.mk' hZ (Y (b.b 4 Z) (Y (b.b 6 Z) (Y (b.b 2 Z) (Y (b.b 5 Z) (Y (b.b 0 Z) P.nil))))) (W (c.b 4 Z) (W (c.b 6 Z) (W (c.b 2 Z) (W (c.b 5 Z) (W (c.b 0 Z) I.nil))))) a)⟩ (aY h ab)))
  have h:=aI h u
  refine ba ?_
  refine aC (aC ?_)
  have h:=aT h ab
  refine a9 ?_
  refine N (M (az ?_))
  refine ar [(1,f),(6,j),(7,g),(8,k),(9,i)] ⟨Z,Z,Z,Z,Z,V⟩ ?_
  refine bd (F.Ev a1 D E) (fun (s:List UInt32×List UInt32) L w=>∃(x:Value) (y:Value),L=[(1,f),(6,j),(7,x),(8,k),(9,y)]∧SfT [] T m w [red U y s.2,red U k E,red U x s.1,red U j D,red U f a1] []) ?_ (B,C) ⟨g,i,Z,(SfT.mk' hZ (Y (b.b 4 Z) (Y (b.b 3 Z) (Y (b.b 2 Z) (Y (b.b 1 Z) (Y (b.b 0 Z) P.nil))))) (W (c.b 4 Z) (W (c.b 3 Z) (W (c.b 2 Z) (W (c.b 1 Z) (W (c.b 0 Z) I.nil))))) a)⟩ h
  rintro bz ⟨a8,bb⟩ L w bA hI aS h ac
  try dsimp only at hI
  obtain ⟨x,y,rfl,⟨bB,bj,hZ,b,c,a⟩⟩:=hI
  unfold F.Ev at h
  refine M (M (H (Q 1 Z ?_)))
  obtain ⟨bC,aV,h⟩:=aj h
  refine ao Z (jw 0 aV ((b.rp 2 Z).d a.fr).rp) Z ?_
  rintro _ w ⟨rfl,d⟩
  have a:=a.f d
  refine Q 1 Z ?_
  refine J (N ?_)
  refine av Z (fun z=>?_) (fun z=>?_)
  ·have h:=aJ h z
   refine aw (N (az ?_))
   refine H (Q 1 Z ?_)
   obtain ⟨ap,aW,h⟩:=aj h
   refine ao Z (jH 1 aW ((b.rp 2 Z).d a.fr).rp) Z ?_
   rintro aq w d
   have a:=a.f d
   refine Q 2 Z ?_
   obtain ⟨au,aX,h⟩:=aj h
   refine ao Z (mI  aX ((b.rp 4 Z).d a.fr).rp ((b.rp 0 Z).d a.fr).rp) Z ?_
   rintro ax w d
   have a:=a.f d
   refine Q 2 Z ?_
   refine J (aP ?_)
   replace a:=a.pick (os':=[O U ax au,O U aq ap]++[]) [0,1] (by decide) rfl
   obtain ⟨bD,bk,hZ,b,c,a⟩:=hZ.frzT hTT b c a
   exact bh (bo _ (by exact ⟨Z,Z,Z,Z,Z,V⟩) (aS (ap,au) _ _ ⟨aq,ax,Z,(SfT.mk' hZ (Y (b.b 6 Z) (Y (b.b 3 Z) (Y (b.b 5 Z) (Y (b.b 1 Z) (Y (b.b 0 Z) P.nil))))) (W (c.b 6 Z) (W (c.b 3 Z) (W (c.b 5 Z) (W (c.b 1 Z) (W (c.b 0 Z) I.nil))))) a)⟩ (aY h ac)))
  have h:=aI h z
  refine ba ?_
  refine aC (aC ?_)
  have h:=aT h ac
  refine a9 ?_
  refine N (M (H (Q 2 Z ?_)))
  obtain ⟨bE,a2,h⟩:=aj h
  refine ao Z (f9  a2 ((b.rp 1 Z).d a.fr).rp ((b.rp 2 Z).d a.fr).rp) Z ?_
  rintro _ w ⟨rfl,d⟩
  have a:=a.f d
  refine Q 1 Z ?_
  refine J (N ?_)
  refine av Z (fun A=>?_) (fun A=>?_)
  ·have h:=aJ h A
   refine M (H (Q 2 Z ?_))
   obtain ⟨aA,a3,h⟩:=aj h
   refine ao Z (jz  a3 ((b.rp 1 Z).d a.fr).rp ((b.rp 2 Z).d a.fr).rp) Z ?_
   rintro _ w ⟨aB,rfl,d⟩
   have a:=a.f d
   refine Q 4 Z ?_
   refine J (N (H (Q 3 Z ?_)))
   obtain ⟨aD,a4,h⟩:=aj h
   refine ao Z (jp  a4 ((b.rp 3 Z).d a.fr).rp ((b.rp 4 Z).d a.fr).rp ((b.rp 0 Z).d a.fr).rp) Z ?_
   rintro aE w d
   have a:=a.f d
   refine Q 1 Z ?_
   refine J (aP ?_)
   replace a:=a.pick (os':=[O U aE aD,O U aB aA.1]++[]) [0,1] (by decide) rfl
   obtain ⟨bF,bl,hZ,b,c,a⟩:=hZ.frzT hTT b c a
   exact bh (bo _ (by exact ⟨Z,Z,Z,Z,Z,V⟩) (G (aA.1,a8,aD,bb) _ _ ⟨aB,x,aE,y,Z,(SfT.mk' hZ (Y (b.b 4 Z) (Y (b.b 6 Z) (Y (b.b 2 Z) (Y (b.b 5 Z) (Y (b.b 0 Z) P.nil))))) (W (c.b 4 Z) (W (c.b 6 Z) (W (c.b 2 Z) (W (c.b 5 Z) (W (c.b 0 Z) I.nil))))) a)⟩ (aY h q)))
  have h:=aI h A
  refine M (H (Q 2 Z ?_))
  obtain ⟨aF,a5,h⟩:=aj h
  refine ao Z (jz  a5 ((b.rp 2 Z).d a.fr).rp ((b.rp 1 Z).d a.fr).rp) Z ?_
  rintro _ w ⟨aG,rfl,d⟩
  have a:=a.f d
  refine Q 4 Z ?_
  refine J (N (H (Q 3 Z ?_)))
  obtain ⟨aH,a6,h⟩:=aj h
  refine ao Z (jp  a6 ((b.rp 4 Z).d a.fr).rp ((b.rp 3 Z).d a.fr).rp ((b.rp 0 Z).d a.fr).rp) Z ?_
  rintro aK w d
  have a:=a.f d
  refine Q 1 Z ?_
  refine J (aP ?_)
  replace a:=a.pick (os':=[O U aK aH,O U aG aF.1]++[]) [0,1] (by decide) rfl
  obtain ⟨bG,bm,hZ,b,c,a⟩:=hZ.frzT hTT b c a
  exact bh (bo _ (by exact ⟨Z,Z,Z,Z,Z,V⟩) (G (D,aF.1,E,aH) _ _ ⟨j,aG,k,aK,Z,(SfT.mk' hZ (Y (b.b 6 Z) (Y (b.b 3 Z) (Y (b.b 5 Z) (Y (b.b 1 Z) (Y (b.b 0 Z) P.nil))))) (W (c.b 6 Z) (W (c.b 3 Z) (W (c.b 5 Z) (W (c.b 1 Z) (W (c.b 0 Z) I.nil))))) a)⟩ (aY h q)))
 have h:=aI h t
 refine ba ?_
 refine aC (aC ?_)
 have h:=aT h q
 refine a9 ?_
 refine N (M (H (Q 4 Z ?_)))
 refine J (N (ay ?_))
 cases h
 obtain ⟨hS0,hR⟩:=hZ.outT hTT b c a
 exact bX Z Z Z ⟨g,i,Z,hS0,(Y (hR.b 4 Z) (Y (hR.b 2 Z) P.nil))⟩
theorem nX {g:World} {a0 a1:List UInt32} {d f:Value} {r:List UInt32×Int}
  (h:F.DJ a0 a1=some r) (x:RP [] g U d a0) (y:RP [] g U f a1):Calls Tryz.prog 35 #[d,f] g (Ret fun v w=>∃u0:Value,v=.tuple #[u0,vI r.2]∧St [] g w [O U u0 r.1]):=by
 refine aN 40 Tryz.func35 Z Z Z ?_
 have a:=St.l g
 have hZ:=Fz.l (S:=[]) (w0:=g)
 have hTT:TOk [] [] g:=TOk.nil
 have c:P [] g [red U f a1,red U d a0]:=Y (RP.i (R Z) y) (Y (RP.i (R Z) x) (P.nil))
 have m:I [] [red U f a1,red U d a0]:=I.emp
 refine ar [(0,d),(1,f)] ⟨Z,Z,V⟩ ?_
 unfold F.DJ at h
 refine M (H (Q 2 Z ?_))
 refine J (N (uu 0 Z ?_))
 refine M (H (Q 2 Z ?_))
 refine J (N (M (M (H (Q 2 Z ?_)))))
 refine aU (ci (e:=eV) (l:=([SV.of d,SV.of f]:List SV)) (vs:=[d,f]) u120 qE Z Z Z (dG ((c.rp 0 Z).d a.fr).sv (dG ((c.rp 1 Z).d a.fr).sv Z)) (by decide) (by decide) a) Z ?_
 rintro z w a
 obtain ⟨ad,p,h⟩:=aj h
 refine ao Z (jo  p (a.ro 0 Z).rp ⟨((c.rp 0 Z).d a.fr).svrp,((c.rp 1 Z).d a.fr).svrp,V⟩) Z ?_
 rintro _ w ⟨rfl,b⟩
 have a:=a.f b
 refine Q 1 Z ?_
 refine J (N (M (H (Q 2 Z ?_))))
 refine J (N ?_)
 refine av Z (fun i=>?_) (fun i=>?_)
 ·have h:=aJ h i
  refine M (H (Q 3 Z ?_))
  refine J (N (ay (aG (xY ?_))))
  cases h
  replace a:=hZ.st a
  exact bX Z Z Z ⟨.slice none 0 0,Z,(a.nil U).e [0] Z Z⟩
 have h:=aI h i
 refine aw (N (M (H (Q 2 Z ?_))))
 obtain ⟨A,q,h⟩:=aj h
 refine ao Z (fN  q ((c.rp 0 Z).d a.fr).rp ((c.rp 1 Z).d a.fr).rp) Z ?_
 rintro B w b
 have a:=a.f b
 refine Q 1 Z ?_
 refine J (N (M (M (H (Q 1 Z ?_)))))
 obtain ⟨ag,s,h⟩:=aj h
 refine ao Z (jw 0 s ((c.rp 1 Z).d a.fr).rp) Z ?_
 rintro _ w ⟨rfl,b⟩
 have a:=a.f b
 refine J (N ?_)
 refine av Z (fun j=>?_) (fun j=>?_)
 ·have h:=aJ h j
  refine M (H (Q 2 Z ?_))
  replace a:=a.pick (os':=[O U B A,O eV z ([SV.of d,SV.of f]:List SV)]++[]) [0,1] (by decide) rfl
  obtain ⟨hZ,c,m,a⟩:=hZ.frzK hTT c m a
  obtain ⟨ak,t,h⟩:=aj h
  refine ao Z (tY  t (hZ.okT hTT a) (c.j m 3 Z) (c.j m 1 Z)) Z ?_
  rintro _ w ⟨E,G,rfl,b,C⟩
  obtain ⟨L,D,hZ,c,m,a⟩:=hZ.m c m a b C rfl
  refine Q 5 Z ?_
  refine J (N (wR ?_))
  refine we ?_
  refine xR ?_
  refine M (aw (N (M (M (H (Q 1 Z ?_))))))
  refine aU (ci (e:=U) (l:=([1]:List UInt32)) (vs:=[v32 1]) u31 aZ Z Z Z Z (by decide) (by decide) a) Z ?_
  rintro T w a
  obtain ⟨ab,n,h⟩:=aj h
  refine ao Z (f9  n ((c.rp 4 Z).d a.fr).rp (a.ro 0 Z).rp) Z ?_
  rintro _ w ⟨rfl,b⟩
  have a:=a.f b
  refine Q 1 Z ?_
  refine J (N ?_)
  refine av Z (fun k=>?_) (fun k=>?_)
  ·have h:=aJ h k
   refine M (H (Q 2 Z ?_))
   refine J (N (ay (aG (qr ?_))))
   cases h
   replace a:=hZ.st a
   exact bX Z Z Z ⟨.slice none 0 0,Z,(a.nil U).e [0] Z Z⟩
  have h:=aI h k
  refine aw (N (M (H (Q 2 Z ?_))))
  obtain ⟨ac,o,h⟩:=aj h
  refine ao Z (fN  o ((c.rp 5 Z).d a.fr).rp ((c.rp 1 Z).d a.fr).rp) Z ?_
  rintro u w b
  have a:=a.f b
  refine Q 2 Z ?_
  refine J (N (ay (qr ?_)))
  cases h
  replace a:=hZ.st a
  exact bX Z Z Z ⟨u,Z,a.e [0] Z Z⟩
 have h:=aI h j
 refine aw (N (M (H (Q 2 Z ?_))))
 cases h
theorem iO {i:World} {a0 a1 a2:List UInt32} {c d f:Value} {r:List UInt32×Int}
  (h:F.CM a0 a1 a2=some r) (j:RP [] i U c a0) (k:RP [] i U d a1) (m:RP [] i U f a2):Calls Tryz.prog 36 #[c,d,f] i (Ret fun v w=>∃u0:Value,v=.tuple #[u0,vI r.2]∧St [] i w [O U u0 r.1]):=by
 refine aN 22 Tryz.func36 Z Z Z ?_
 have a:=St.l i
 refine ar [(0,c),(1,d),(2,f)] ⟨Z,Z,Z,V⟩ ?_
 unfold F.CM at h
 refine M (H (Q 2 Z ?_))
 refine J (N (M (M (H (Q 3 Z ?_)))))
 refine aU (ci (e:=eV) (l:=([SV.of c,SV.of d,SV.of f]:List SV)) (vs:=[c,d,f]) u120 qE Z Z Z (dG (j.d a.fr).sv (dG (k.d a.fr).sv (dG (m.d a.fr).sv Z))) (by decide) (by decide) a) Z ?_
 rintro s w a
 obtain ⟨t,n,h⟩:=aj h
 refine ao Z (jo  n (a.ro 0 Z).rp ⟨(j.d a.fr).svrp,(k.d a.fr).svrp,(m.d a.fr).svrp,V⟩) Z ?_
 rintro _ w ⟨rfl,g⟩
 have a:=a.f g
 refine Q 1 Z ?_
 refine J (N (M (H (Q 2 Z ?_))))
 refine J (N ?_)
 refine av Z (fun b=>?_) (fun b=>?_)
 ·have h:=aJ h b
  refine M (H (Q 3 Z ?_))
  refine J (N (ay (aG ?_)))
  cases h
  exact bX Z Z Z ⟨.slice none 0 0,Z,(a.nil U).e [0] Z Z⟩
 have h:=aI h b
 refine aw (N (M (H (Q 2 Z ?_))))
 obtain ⟨u,o,h⟩:=aj h
 refine ao Z (vF  o (j.d a.fr).rp (k.d a.fr).rp) Z ?_
 rintro x w g
 have a:=a.f g
 refine Q 1 Z ?_
 obtain ⟨y,p,h⟩:=aj h
 refine ao Z (fN  p (a.ro 0 Z).rp (m.d a.fr).rp) Z ?_
 rintro q w g
 have a:=a.f g
 refine Q 2 Z ?_
 refine J (N (ay ?_))
 cases h
 exact bX Z Z Z ⟨q,Z,a.e [0] Z Z⟩
theorem ub {j:World} {a0 a1 a2:List UInt32} {d f g:Value} {r:List UInt32×Int}
  (h:F.E6 a0 a1 a2=some r) (k:RP [] j U d a0) (m:RP [] j U f a1) (i:RP [] j U g a2):Calls Tryz.prog 48 #[d,f,g] j (Ret fun v w=>∃u0:Value,v=.tuple #[u0,vI r.2]∧St [] j w [O U u0 r.1]):=by
 refine aN 25 Tryz.func48 Z Z Z ?_
 have a:=St.l j
 refine ar [(0,d),(1,f),(2,g)] ⟨Z,Z,Z,V⟩ ?_
 unfold F.E6 at h
 refine M (H (Q 2 Z ?_))
 refine J (N (M (M (H (Q 3 Z ?_)))))
 refine aU (ci (e:=eV) (l:=([SV.of d,SV.of f,SV.of g]:List SV)) (vs:=[d,f,g]) u120 qE Z Z Z (dG (k.d a.fr).sv (dG (m.d a.fr).sv (dG (i.d a.fr).sv Z))) (by decide) (by decide) a) Z ?_
 rintro u w a
 obtain ⟨x,o,h⟩:=aj h
 refine ao Z (jo  o (a.ro 0 Z).rp ⟨(k.d a.fr).svrp,(m.d a.fr).svrp,(i.d a.fr).svrp,V⟩) Z ?_
 rintro _ w ⟨rfl,b⟩
 have a:=a.f b
 refine Q 1 Z ?_
 refine J (N (M (H (Q 2 Z ?_))))
 refine J (N ?_)
 refine av Z (fun c=>?_) (fun c=>?_)
 ·have h:=aJ h c
  refine M (H (Q 3 Z ?_))
  refine J (N (ay (aG ?_)))
  cases h
  exact bX Z Z Z ⟨.slice none 0 0,Z,(a.nil U).e [0] Z Z⟩
 have h:=aI h c
 refine aw (N (M (H (Q 2 Z ?_))))
 obtain ⟨y,p,h⟩:=aj h
 refine ao Z (fN  p (k.d a.fr).rp (i.d a.fr).rp) Z ?_
 rintro z w b
 have a:=a.f b
 refine Q 2 Z ?_
 obtain ⟨A,q,h⟩:=aj h
 refine ao Z (fN  q (m.d a.fr).rp (i.d a.fr).rp) Z ?_
 rintro B w b
 have a:=a.f b
 refine Q 1 Z ?_
 obtain ⟨t,n,h⟩:=aj h
 refine ao Z (jp  n (a.ro 1 Z).rp (a.ro 0 Z).rp (i.d a.fr).rp) Z ?_
 rintro s w b
 have a:=a.f b
 refine Q 2 Z ?_
 refine J (N (ay ?_))
 cases h
 exact bX Z Z Z ⟨s,Z,a.e [0] Z Z⟩
end Go.Proofs
