import Derived.Test.YtkickcbphbgldaaGreatDoorTW0
import Derived.Test.YtkickcbphbgldaaGreatDoorGkFman
import Derived.Test.YtkickcbphbgldaaGreatDoorTWnatb
set_option linter.unusedVariables false
set_option linter.unusedSimpArgs false
set_option linter.unusedSectionVars false
set_option maxRecDepth 4000
namespace Go.Proofs
open Go Go.RowKit Go.Gk
open Go.Gk renaming Off → K, Rds → Q, aa → P, ae → O, af → H, ah → J, ai → I, e32 → U, own → N
open Nat renaming le_of_ble_eq_true → R
open Go.Gk.Off renaming cons → X
open Go.Gk.Rds renaming cons → Y
theorem sm {b:World} {a0:List UInt32} {a:Value} {r:Int}
  (h:F.EI a0=some r) (e:RP [] b U a a0):Calls Tryz.prog 146 #[a] b (Ret fun v w=>v=vI r∧St [] b w []):=by
 refine aH 7 Tryz.func146 Z Z Z ?_
 have c:=St.l b
 refine au [(0,a)] ⟨Z,V⟩ ?_
 unfold F.EI at h
 refine J (H (P 1 Z ?_))
 refine I (O (J (H (P 1 Z ?_))))
 obtain ⟨f,d,h⟩:=aj h
 refine ao Z (eR  d (e.d c.fr).rp) Z ?_
 rintro _ w ⟨rfl,g⟩
 have c:=c.f g
 refine P 1 Z ?_
 refine am (aq Z Z (dI _ (wI (f+31)) 32 (by decide))) Z ?_
 refine P 1 Z ?_
 refine I (O (ax ?_))
 cases h
 exact aG Z Z ⟨Z,c⟩
theorem jd {k:World} {a0:List (List UInt32)} {b:Value} {s0:List SV} {r:Int}
  (h:F.Cx a0=some r) (c:RP [] k eV b s0) (hl0:gg [] k U s0 a0):Calls Tryz.prog 78 #[b] k (Ret fun v w=>v=vI r∧St [] k w []):=by
 refine aH 23 Tryz.func78 Z Z Z ?_
 have a:=St.l k
 refine au [(0,b)] ⟨Z,V⟩ ?_
 unfold F.Cx at h
 refine J (H (P 1 Z ?_))
 refine I (O (J (J (H (P 1 Z ?_)))))
 refine am (t9 u120 Z (c.d a.fr) hl0.len) Z (P 1 Z ?_)
 refine I (O (aD ?_))
 refine au [(0,b),(5,b),(6,vI (a0.length:Int)),(7,vI 0)] ⟨Z,Z,Z,Z,V⟩ ?_
 refine bj (F.Cb a0) (fun (s:Int) L w=>L=[(0,b),(5,b),(6,vI (a0.length:Int)),(7,vI s)]∧St [] k w []) ?_ 0 ⟨Z,a⟩ h
 rintro z x L w C hI p h g
 try dsimp only at hI
 obtain ⟨rfl,a⟩:=hI
 unfold F.Cb at h
 refine J (H (P 1 Z ?_))
 refine I (O (J ?_))
 refine aw Z (fun d=>?_) (fun d=>?_)
 ·have h:=aJ h d
  refine az (O (J (aD ?_)))
  refine J (H ?_)
  obtain ⟨D,q,h⟩:=aj h
  obtain ⟨A,j,m⟩:=hl0.get q
  refine am (bk u120 qJ Z Z (c.d a.fr) j) Z (am (bb u31 Z Z (c.d a.fr) j Z) Z (P 1 Z ?_))
  refine I (O (J (H (P 1 Z ?_))))
  obtain ⟨E,t,h⟩:=aj h
  refine ao Z (sm  t (m.d a.fr).rp) Z ?_
  rintro _ w ⟨rfl,n⟩
  have a:=a.f n
  refine P 1 Z ?_
  refine I (O ?_)
  refine aw Z (fun i=>?_) (fun i=>?_)
  ·have h:=aJ h i
   refine J (H (P 1 Z ?_))
   refine I (O (ax (bP ?_)))
   refine aE (aE ?_)
   have h:=aW h g
   refine bP ?_
   refine aE ?_
   cases h
   exact aG Z Z ⟨Z,a⟩
  have h:=aI h i
  refine az (aR ?_)
  refine O (H (P 2 Z ?_))
  refine I ?_
  exact bv (bz _ (by exact ⟨Z,Z,Z,Z,V⟩) (p (wI (x+1)) _ _ ⟨Z,a⟩ (a8 h g)))
 have h:=aI h d
 refine bg ?_
 refine aF (aF ?_)
 have h:=aW h g
 refine bd ?_
 refine O (J (J (H (P 2 Z ?_))))
 refine am (t9 u120 Z (c.d a.fr) hl0.len) Z (P 1 Z ?_)
 obtain ⟨G,u,h⟩:=aj h
 obtain ⟨y,f,l⟩:=hl0.get u
 refine am (bk u120 qJ Z Z (c.d a.fr) f) Z (am (bb u31 Z Z (c.d a.fr) f Z) Z ?_)
 obtain ⟨B,o,h⟩:=aj h
 refine ao Z (eR  o (l.d a.fr).rp) Z ?_
 rintro _ w ⟨rfl,n⟩
 have a:=a.f n
 refine P 1 Z ?_
 refine I (O ?_)
 refine aw Z (fun e=>?_) (fun e=>?_)
 ·have h:=aJ h e
  refine J (H (P 1 Z ?_))
  refine I (O (ax (aE ?_)))
  cases h
  exact aG Z Z ⟨Z,a⟩
 have h:=aI h e
 refine az (O (J (H (P 1 Z ?_))))
 refine I (O (ax ?_))
 cases h
 exact aG Z Z ⟨Z,a⟩
theorem fO {a:World} {a0 a1:List UInt32} {b c:Value} {r:List UInt32}
  (h:F.B7 a0 a1=some r) (f:RP [] a U b a0) (g:RP [] a U c a1):Calls Tryz.prog 79 #[b,c] a (Ret fun v w=>St [] a w [N U v r]):=by
 refine aH 16 Tryz.func79 Z Z Z ?_
 have d:=St.l a
 refine au [(0,b),(1,c)] ⟨Z,Z,V⟩ ?_
 unfold F.B7 at h
 refine J (H (P 1 Z ?_))
 refine I (O (J (H (P 2 Z ?_))))
 obtain ⟨j,e,h⟩:=aj h
 refine ao Z (iW  e (f.d d.fr).rp (g.d d.fr).rp) Z ?_
 rintro _ w ⟨k,l,rfl,i⟩
 have d:=d.f i
 refine P 7 Z ?_
 refine I (O (J (H (P 2 Z ?_))))
 refine I (O (ax ?_))
 cases h
 exact aG Z Z (d.e [1] Z Z)
theorem mH {d:World} {a0 a1:List UInt32} {e f:Value} {r:List UInt32}
  (h:F.ED a0 a1=some r) (g:RP [] d U e a0) (m:RP [] d U f a1):Calls Tryz.prog 148 #[e,f] d (Ret fun v w=>St [] d w [N U v r]):=by
 refine aH 12 Tryz.func148 Z Z Z ?_
 have a:=St.l d
 refine au [(0,e),(1,f)] ⟨Z,Z,V⟩ ?_
 unfold F.ED at h
 refine J (H (P 1 Z ?_))
 refine I (O (J (J (H (P 1 Z ?_)))))
 obtain ⟨s,k,h⟩:=aj h
 refine ao Z (ju 0 k (g.d a.fr).rp) Z ?_
 rintro _ w ⟨rfl,b⟩
 have a:=a.f b
 refine I (O ?_)
 refine aw Z (fun c=>?_) (fun c=>?_)
 ·have h:=aJ h c
  refine H (P 2 Z ?_)
  obtain ⟨t,l,h⟩:=aj h
  refine ao Z (pa  l (g.d a.fr).rp (m.d a.fr).rp) Z ?_
  rintro u w b
  have a:=a.f b
  refine P 1 Z ?_
  refine I (O (J (H (P 1 Z ?_))))
  obtain ⟨n,i,h⟩:=aj h
  refine ao Z (jo 1 i (a.ro 0 Z).rp) Z ?_
  rintro o w b
  have a:=a.f b
  refine P 1 Z ?_
  refine I (O (ax ?_))
  cases h
  exact aG Z Z (a.e [0] Z Z)
 have h:=aI h c
 refine az (O (J (H (P 1 Z ?_))))
 obtain ⟨p,j,h⟩:=aj h
 refine ao Z (jo 1 j (g.d a.fr).rp) Z ?_
 rintro q w b
 have a:=a.f b
 refine P 1 Z ?_
 refine I (O (ax ?_))
 cases h
 exact aG Z Z (a.e [0] Z Z)
theorem i6 {d:World} {a0 a1 a2:List UInt32} {i j k:Value} {r:List UInt32}
  (h:F.Dq a0 a1 a2=some r) (l:RP [] d U i a0) (m:RP [] d U j a1) (q:RP [] d U k a2):Calls Tryz.prog 92 #[i,j,k] d (Ret fun v w=>St [] d w [N U v r]):=by
 refine aH 26 Tryz.func92 Z Z Z ?_
 have a:=St.l d
 refine au [(0,i),(1,j),(2,k)] ⟨Z,Z,Z,V⟩ ?_
 unfold F.Dq at h
 refine J (H (P 1 Z ?_))
 refine I (O (J (H (P 2 Z ?_))))
 obtain ⟨s,n,h⟩:=aj h
 refine ao Z (jA  n (l.d a.fr).rp (m.d a.fr).rp) Z ?_
 rintro _ w ⟨t,rfl,c⟩
 have a:=a.f c
 refine P 5 Z ?_
 refine I (O ?_)
 refine a9 (r:=r) (fun (g:List UInt32) L w=>∃(e:Value),L=[(7,e)]∧St [] d w [N U e g]) (F.EJ) ?_ ?_
 rotate_left
 ·intro f
  refine J (H (P 2 Z ?_))
  refine I (O ?_)
  refine aw Z (fun b=>?_) (fun b=>?_)
  ·have h:=aJ h b
   refine H (P 2 Z ?_)
   obtain ⟨z,o,h⟩:=aj h
   refine ao Z (pa  o (l.d a.fr).rp (q.d a.fr).rp) Z ?_
   rintro A w c
   have a:=a.f c
   refine P 1 Z ?_
   obtain ⟨u,p,h⟩:=aj h
   refine ao Z (jA  p (a.ro 0 Z).rp (m.d a.fr).rp) Z ?_
   rintro _ w ⟨x,rfl,c⟩
   have a:=a.f c
   refine P 4 Z ?_
   refine I (O ?_)
   exact au _ (by exact ⟨Z,V⟩) (f u.1 _ _ ⟨x,Z,(a.e [0] Z Z)⟩ h)
  have h:=aI h b
  refine az (O ?_)
  exact au _ (by exact ⟨Z,V⟩) (f s.1 _ _ ⟨t,Z,a⟩ h)
 rintro y L w hJ h
 try dsimp only at hJ
 obtain ⟨e,rfl,a⟩:=hJ
 unfold F.EJ at h
 refine J (H (P 2 Z ?_))
 refine I (O (ax ?_))
 cases h
 exact aG Z Z (a.e [0] Z Z)
theorem ur {m:World} {a0 a1:List UInt32} {p f:Value} {T:List Nat} {r:List UInt32×List UInt32}
  (h:F.EK a0 a1=some r) (hTT:TOk [] T m) (ba:RP T m U p a0) (bb:RP T m U f a1):Calls Tryz.prog 81 #[p,f] m (Ret fun v w=>∃u0:Value,∃u1:Value,v=.tuple #[u0,u1]∧St [] m w []∧Q T w [red U u1 r.2,red U u0 r.1]):=by
 refine aH 59 Tryz.func81 Z Z Z ?_
 have a:=St.l m
 have hZ:=Fz.l (S:=[]) (w0:=m)
 have hA0:Q T m [red U f a1,red U p a0]:=Y (RP.i (R Z) bb) (Y (RP.i (R Z) ba) (Q.nil))
 have b:=hA0.all
 have c:=hA0.off Z
 refine au [(0,p),(1,f)] ⟨Z,Z,V⟩ ?_
 unfold F.EK at h
 refine J (H (P 2 Z ?_))
 refine I (O (J (H (P 4 Z ?_))))
 refine I (O (J (H ?_)))
 refine aV (cL (e:=U) (l:=([1]:List UInt32)) (vs:=[v32 1]) u31 aU Z Z Z Z (by decide) (by decide) a) Z ?_
 rintro ad w a
 refine aV (wS (e:=U) u31 aU a) Z ?_
 rintro ag w a
 refine P 2 Z ?_
 refine I (O (J (aD ?_)))
 replace a:=a.pick (os':=[N U ag [],N U ad ([1]:List UInt32)]++[]) [0,1] (by decide) rfl
 obtain ⟨bH,bm,hZ,b,c,a⟩:=hZ.frzT hTT b c a
 refine au [(1,f),(6,p),(7,f),(8,ad),(9,ag)] ⟨Z,Z,Z,Z,Z,V⟩ ?_
 refine bj (F.CZ a1) (fun (s:List UInt32×List UInt32×List UInt32×List UInt32) L w=>∃(n:Value) (g:Value) (o:Value) (i:Value),L=[(1,f),(6,n),(7,g),(8,o),(9,i)]∧SfT [] T m w [red U i s.2.2.2,red U o s.2.2.1,red U g s.2.1,red U n s.1,red U f a1] []) ?_ (a0,a1,([1]:List UInt32),[]) ⟨p,f,ad,ag,Z,(SfT.mk' hZ (Y (b.b 3 Z) (Y (b.b 2 Z) (Y (b.b 1 Z) (Y (b.b 0 Z) (Y (b.b 1 Z) Q.nil))))) (X (c.b 3 Z) (X (c.b 2 Z) (X (c.b 1 Z) (X (c.b 0 Z) (X (c.b 1 Z) K.nil))))) a)⟩ h
 rintro bn ⟨bc,B,a6,C⟩ L w bo hI G h q
 try dsimp only at hI
 obtain ⟨n,g,o,i,rfl,⟨bI,bp,hZ,b,c,a⟩⟩:=hI
 unfold F.CZ at h
 refine J (J (H (P 1 Z ?_)))
 obtain ⟨bq,aM,h⟩:=aj h
 refine ao Z (eR  aM ((b.rp 1 Z).d a.fr).rp) Z ?_
 rintro _ w ⟨rfl,d⟩
 have a:=a.f d
 refine P 1 Z ?_
 refine I (O ?_)
 refine aw Z (fun t=>?_) (fun t=>?_)
 ·have h:=aJ h t
  refine az (O (aD ?_))
  refine J (aD ?_)
  refine au [(1,f),(6,n),(7,g),(8,o),(9,i)] ⟨Z,Z,Z,Z,Z,V⟩ ?_
  refine bj (F.Ea a1 B C) (fun (s:List UInt32×List UInt32) L w=>∃(j:Value) (k:Value),L=[(1,f),(6,j),(7,g),(8,k),(9,i)]∧SfT [] T m w [red U i C,red U k s.2,red U g B,red U j s.1,red U f a1] []) ?_ (bc,a6) ⟨n,o,Z,(SfT.mk' hZ (Y (b.b 4 Z) (Y (b.b 3 Z) (Y (b.b 2 Z) (Y (b.b 1 Z) (Y (b.b 0 Z) Q.nil))))) (X (c.b 4 Z) (X (c.b 3 Z) (X (c.b 2 Z) (X (c.b 1 Z) (X (c.b 0 Z) K.nil))))) a)⟩ h
  rintro br ⟨D,E⟩ L w bs hI aN h ab
  try dsimp only at hI
  obtain ⟨j,k,rfl,⟨bt,be,hZ,b,c,a⟩⟩:=hI
  unfold F.Ea at h
  refine J (J (H (P 1 Z ?_)))
  obtain ⟨bu,aO,h⟩:=aj h
  refine ao Z (ju 0 aO ((b.rp 1 Z).d a.fr).rp) Z ?_
  rintro _ w ⟨rfl,d⟩
  have a:=a.f d
  refine P 1 Z ?_
  refine I (O ?_)
  refine aw Z (fun u=>?_) (fun u=>?_)
  ·have h:=aJ h u
   refine az (O (aD ?_))
   refine H (P 1 Z ?_)
   obtain ⟨ak,aP,h⟩:=aj h
   refine ao Z (jo 1 aP ((b.rp 1 Z).d a.fr).rp) Z ?_
   rintro al w d
   have a:=a.f d
   refine P 2 Z ?_
   obtain ⟨am,aQ,h⟩:=aj h
   refine ao Z (mH  aQ ((b.rp 3 Z).d a.fr).rp ((b.rp 0 Z).d a.fr).rp) Z ?_
   rintro an w d
   have a:=a.f d
   refine P 2 Z ?_
   refine I (aR ?_)
   replace a:=a.pick (os':=[N U an am,N U al ak]++[]) [0,1] (by decide) rfl
   obtain ⟨bw,bf,hZ,b,c,a⟩:=hZ.frzT hTT b c a
   exact bv (bz _ (by exact ⟨Z,Z,Z,Z,Z,V⟩) (aN (ak,am) _ _ ⟨al,an,Z,(SfT.mk' hZ (Y (b.b 4 Z) (Y (b.b 6 Z) (Y (b.b 2 Z) (Y (b.b 5 Z) (Y (b.b 0 Z) Q.nil))))) (X (c.b 4 Z) (X (c.b 6 Z) (X (c.b 2 Z) (X (c.b 5 Z) (X (c.b 0 Z) K.nil))))) a)⟩ (a8 h ab)))
  have h:=aI h u
  refine bg ?_
  refine aF (aF ?_)
  have h:=aW h ab
  refine bd ?_
  refine O (J (aD ?_))
  refine au [(1,f),(6,j),(7,g),(8,k),(9,i)] ⟨Z,Z,Z,Z,Z,V⟩ ?_
  refine bj (F.D8 a1 D E) (fun (s:List UInt32×List UInt32) L w=>∃(x:Value) (y:Value),L=[(1,f),(6,j),(7,x),(8,k),(9,y)]∧SfT [] T m w [red U y s.2,red U k E,red U x s.1,red U j D,red U f a1] []) ?_ (B,C) ⟨g,i,Z,(SfT.mk' hZ (Y (b.b 4 Z) (Y (b.b 3 Z) (Y (b.b 2 Z) (Y (b.b 1 Z) (Y (b.b 0 Z) Q.nil))))) (X (c.b 4 Z) (X (c.b 3 Z) (X (c.b 2 Z) (X (c.b 1 Z) (X (c.b 0 Z) K.nil))))) a)⟩ h
  rintro bx ⟨a7,a9⟩ L w bA hI aS h ac
  try dsimp only at hI
  obtain ⟨x,y,rfl,⟨bB,bh,hZ,b,c,a⟩⟩:=hI
  unfold F.D8 at h
  refine J (J (H (P 1 Z ?_)))
  obtain ⟨bC,aT,h⟩:=aj h
  refine ao Z (ju 0 aT ((b.rp 2 Z).d a.fr).rp) Z ?_
  rintro _ w ⟨rfl,d⟩
  have a:=a.f d
  refine P 1 Z ?_
  refine I (O ?_)
  refine aw Z (fun z=>?_) (fun z=>?_)
  ·have h:=aJ h z
   refine az (O (aD ?_))
   refine H (P 1 Z ?_)
   obtain ⟨ap,aX,h⟩:=aj h
   refine ao Z (jo 1 aX ((b.rp 2 Z).d a.fr).rp) Z ?_
   rintro aq w d
   have a:=a.f d
   refine P 2 Z ?_
   obtain ⟨ar,aY,h⟩:=aj h
   refine ao Z (mH  aY ((b.rp 4 Z).d a.fr).rp ((b.rp 0 Z).d a.fr).rp) Z ?_
   rintro av w d
   have a:=a.f d
   refine P 2 Z ?_
   refine I (aR ?_)
   replace a:=a.pick (os':=[N U av ar,N U aq ap]++[]) [0,1] (by decide) rfl
   obtain ⟨bD,bi,hZ,b,c,a⟩:=hZ.frzT hTT b c a
   exact bv (bz _ (by exact ⟨Z,Z,Z,Z,Z,V⟩) (aS (ap,ar) _ _ ⟨aq,av,Z,(SfT.mk' hZ (Y (b.b 6 Z) (Y (b.b 3 Z) (Y (b.b 5 Z) (Y (b.b 1 Z) (Y (b.b 0 Z) Q.nil))))) (X (c.b 6 Z) (X (c.b 3 Z) (X (c.b 5 Z) (X (c.b 1 Z) (X (c.b 0 Z) K.nil))))) a)⟩ (a8 h ac)))
  have h:=aI h z
  refine bg ?_
  refine aF (aF ?_)
  have h:=aW h ac
  refine bd ?_
  refine O (J (H (P 2 Z ?_)))
  obtain ⟨bE,aZ,h⟩:=aj h
  refine ao Z (f3  aZ ((b.rp 1 Z).d a.fr).rp ((b.rp 2 Z).d a.fr).rp) Z ?_
  rintro _ w ⟨rfl,d⟩
  have a:=a.f d
  refine P 1 Z ?_
  refine I (O ?_)
  refine aw Z (fun A=>?_) (fun A=>?_)
  ·have h:=aJ h A
   refine J (H (P 2 Z ?_))
   obtain ⟨ay,a2,h⟩:=aj h
   refine ao Z (jA  a2 ((b.rp 1 Z).d a.fr).rp ((b.rp 2 Z).d a.fr).rp) Z ?_
   rintro _ w ⟨aA,rfl,d⟩
   have a:=a.f d
   refine P 4 Z ?_
   refine I (O (H (P 3 Z ?_)))
   obtain ⟨aB,a3,h⟩:=aj h
   refine ao Z (i6  a3 ((b.rp 3 Z).d a.fr).rp ((b.rp 4 Z).d a.fr).rp ((b.rp 0 Z).d a.fr).rp) Z ?_
   rintro aC w d
   have a:=a.f d
   refine P 1 Z ?_
   refine I (aR ?_)
   replace a:=a.pick (os':=[N U aC aB,N U aA ay.1]++[]) [0,1] (by decide) rfl
   obtain ⟨bF,bk,hZ,b,c,a⟩:=hZ.frzT hTT b c a
   exact bv (bz _ (by exact ⟨Z,Z,Z,Z,Z,V⟩) (G (ay.1,a7,aB,a9) _ _ ⟨aA,x,aC,y,Z,(SfT.mk' hZ (Y (b.b 4 Z) (Y (b.b 6 Z) (Y (b.b 2 Z) (Y (b.b 5 Z) (Y (b.b 0 Z) Q.nil))))) (X (c.b 4 Z) (X (c.b 6 Z) (X (c.b 2 Z) (X (c.b 5 Z) (X (c.b 0 Z) K.nil))))) a)⟩ (a8 h q)))
  have h:=aI h A
  refine J (H (P 2 Z ?_))
  obtain ⟨aE,a4,h⟩:=aj h
  refine ao Z (jA  a4 ((b.rp 2 Z).d a.fr).rp ((b.rp 1 Z).d a.fr).rp) Z ?_
  rintro _ w ⟨aG,rfl,d⟩
  have a:=a.f d
  refine P 4 Z ?_
  refine I (O (H (P 3 Z ?_)))
  obtain ⟨aK,a5,h⟩:=aj h
  refine ao Z (i6  a5 ((b.rp 4 Z).d a.fr).rp ((b.rp 3 Z).d a.fr).rp ((b.rp 0 Z).d a.fr).rp) Z ?_
  rintro aL w d
  have a:=a.f d
  refine P 1 Z ?_
  refine I (aR ?_)
  replace a:=a.pick (os':=[N U aL aK,N U aG aE.1]++[]) [0,1] (by decide) rfl
  obtain ⟨bG,bl,hZ,b,c,a⟩:=hZ.frzT hTT b c a
  exact bv (bz _ (by exact ⟨Z,Z,Z,Z,Z,V⟩) (G (D,aE.1,E,aK) _ _ ⟨j,aG,k,aL,Z,(SfT.mk' hZ (Y (b.b 6 Z) (Y (b.b 3 Z) (Y (b.b 5 Z) (Y (b.b 1 Z) (Y (b.b 0 Z) Q.nil))))) (X (c.b 6 Z) (X (c.b 3 Z) (X (c.b 5 Z) (X (c.b 1 Z) (X (c.b 0 Z) K.nil))))) a)⟩ (a8 h q)))
 have h:=aI h t
 refine bg ?_
 refine aF (aF ?_)
 have h:=aW h q
 refine bd ?_
 refine O (J (H (P 4 Z ?_)))
 refine I (O (ax ?_))
 cases h
 obtain ⟨hS0,hR⟩:=hZ.outT hTT b c a
 exact bU Z Z Z ⟨g,i,Z,hS0,(Y (hR.b 4 Z) (Y (hR.b 2 Z) Q.nil))⟩
theorem nC {g:World} {a0 a1:List UInt32} {d f:Value} {r:List UInt32×Int}
  (h:F.CI a0 a1=some r) (x:RP [] g U d a0) (y:RP [] g U f a1):Calls Tryz.prog 35 #[d,f] g (Ret fun v w=>∃u0:Value,v=.tuple #[u0,vI r.2]∧St [] g w [N U u0 r.1]):=by
 refine aH 40 Tryz.func35 Z Z Z ?_
 have a:=St.l g
 have hZ:=Fz.l (S:=[]) (w0:=g)
 have hTT:TOk [] [] g:=TOk.nil
 have c:Q [] g [red U f a1,red U d a0]:=Y (RP.i (R Z) y) (Y (RP.i (R Z) x) (Q.nil))
 have m:K [] [red U f a1,red U d a0]:=K.emp
 refine au [(0,d),(1,f)] ⟨Z,Z,V⟩ ?_
 unfold F.CI at h
 refine J (H (P 2 Z ?_))
 refine I (O (up 0 Z ?_))
 refine J (H (P 2 Z ?_))
 refine I (O (J (J (H (P 2 Z ?_)))))
 refine aV (cL (e:=eV) (l:=([SV.of d,SV.of f]:List SV)) (vs:=[d,f]) u120 qJ Z Z Z (fN ((c.rp 0 Z).d a.fr).sv (fN ((c.rp 1 Z).d a.fr).sv Z)) (by decide) (by decide) a) Z ?_
 rintro z w a
 obtain ⟨ad,p,h⟩:=aj h
 refine ao Z (jd  p (a.ro 0 Z).rp ⟨((c.rp 0 Z).d a.fr).svrp,((c.rp 1 Z).d a.fr).svrp,V⟩) Z ?_
 rintro _ w ⟨rfl,b⟩
 have a:=a.f b
 refine P 1 Z ?_
 refine I (O (J (H (P 2 Z ?_))))
 refine I (O ?_)
 refine aw Z (fun i=>?_) (fun i=>?_)
 ·have h:=aJ h i
  refine J (H (P 3 Z ?_))
  refine I (O (ax (aE (xj ?_))))
  cases h
  replace a:=hZ.st a
  exact bU Z Z Z ⟨.slice none 0 0,Z,(a.nil U).e [0] Z Z⟩
 have h:=aI h i
 refine az (O (J (H (P 2 Z ?_))))
 obtain ⟨A,q,h⟩:=aj h
 refine ao Z (fO  q ((c.rp 0 Z).d a.fr).rp ((c.rp 1 Z).d a.fr).rp) Z ?_
 rintro B w b
 have a:=a.f b
 refine P 1 Z ?_
 refine I (O (J (J (H (P 1 Z ?_)))))
 obtain ⟨ag,s,h⟩:=aj h
 refine ao Z (ju 0 s ((c.rp 1 Z).d a.fr).rp) Z ?_
 rintro _ w ⟨rfl,b⟩
 have a:=a.f b
 refine I (O ?_)
 refine aw Z (fun j=>?_) (fun j=>?_)
 ·have h:=aJ h j
  refine J (H (P 2 Z ?_))
  replace a:=a.pick (os':=[N U B A,N eV z ([SV.of d,SV.of f]:List SV)]++[]) [0,1] (by decide) rfl
  obtain ⟨hZ,c,m,a⟩:=hZ.frzK hTT c m a
  obtain ⟨ak,t,h⟩:=aj h
  refine ao Z (ur  t (hZ.okT hTT a) (c.j m 3 Z) (c.j m 1 Z)) Z ?_
  rintro _ w ⟨E,G,rfl,b,C⟩
  obtain ⟨L,D,hZ,c,m,a⟩:=hZ.m c m a b C rfl
  refine P 5 Z ?_
  refine I (O (yg ?_))
  refine wo ?_
  refine xX ?_
  refine J (az (O (J (J (H (P 1 Z ?_))))))
  refine aV (cL (e:=U) (l:=([1]:List UInt32)) (vs:=[v32 1]) u31 aU Z Z Z Z (by decide) (by decide) a) Z ?_
  rintro T w a
  obtain ⟨ab,n,h⟩:=aj h
  refine ao Z (f3  n ((c.rp 4 Z).d a.fr).rp (a.ro 0 Z).rp) Z ?_
  rintro _ w ⟨rfl,b⟩
  have a:=a.f b
  refine P 1 Z ?_
  refine I (O ?_)
  refine aw Z (fun k=>?_) (fun k=>?_)
  ·have h:=aJ h k
   refine J (H (P 2 Z ?_))
   refine I (O (ax (aE (rT ?_))))
   cases h
   replace a:=hZ.st a
   exact bU Z Z Z ⟨.slice none 0 0,Z,(a.nil U).e [0] Z Z⟩
  have h:=aI h k
  refine az (O (J (H (P 2 Z ?_))))
  obtain ⟨ac,o,h⟩:=aj h
  refine ao Z (fO  o ((c.rp 5 Z).d a.fr).rp ((c.rp 1 Z).d a.fr).rp) Z ?_
  rintro u w b
  have a:=a.f b
  refine P 2 Z ?_
  refine I (O (ax (rT ?_)))
  cases h
  replace a:=hZ.st a
  exact bU Z Z Z ⟨u,Z,a.e [0] Z Z⟩
 have h:=aI h j
 refine az (O (J (H (P 2 Z ?_))))
 cases h
theorem iF {i:World} {a0 a1 a2:List UInt32} {c d f:Value} {r:List UInt32×Int}
  (h:F.Cs a0 a1 a2=some r) (j:RP [] i U c a0) (k:RP [] i U d a1) (m:RP [] i U f a2):Calls Tryz.prog 36 #[c,d,f] i (Ret fun v w=>∃u0:Value,v=.tuple #[u0,vI r.2]∧St [] i w [N U u0 r.1]):=by
 refine aH 22 Tryz.func36 Z Z Z ?_
 have a:=St.l i
 refine au [(0,c),(1,d),(2,f)] ⟨Z,Z,Z,V⟩ ?_
 unfold F.Cs at h
 refine J (H (P 2 Z ?_))
 refine I (O (J (J (H (P 3 Z ?_)))))
 refine aV (cL (e:=eV) (l:=([SV.of c,SV.of d,SV.of f]:List SV)) (vs:=[c,d,f]) u120 qJ Z Z Z (fN (j.d a.fr).sv (fN (k.d a.fr).sv (fN (m.d a.fr).sv Z))) (by decide) (by decide) a) Z ?_
 rintro s w a
 obtain ⟨t,n,h⟩:=aj h
 refine ao Z (jd  n (a.ro 0 Z).rp ⟨(j.d a.fr).svrp,(k.d a.fr).svrp,(m.d a.fr).svrp,V⟩) Z ?_
 rintro _ w ⟨rfl,g⟩
 have a:=a.f g
 refine P 1 Z ?_
 refine I (O (J (H (P 2 Z ?_))))
 refine I (O ?_)
 refine aw Z (fun b=>?_) (fun b=>?_)
 ·have h:=aJ h b
  refine J (H (P 3 Z ?_))
  refine I (O (ax (aE ?_)))
  cases h
  exact bU Z Z Z ⟨.slice none 0 0,Z,(a.nil U).e [0] Z Z⟩
 have h:=aI h b
 refine az (O (J (H (P 2 Z ?_))))
 obtain ⟨u,o,h⟩:=aj h
 refine ao Z (u9  o (j.d a.fr).rp (k.d a.fr).rp) Z ?_
 rintro x w g
 have a:=a.f g
 refine P 1 Z ?_
 obtain ⟨y,p,h⟩:=aj h
 refine ao Z (fO  p (a.ro 0 Z).rp (m.d a.fr).rp) Z ?_
 rintro q w g
 have a:=a.f g
 refine P 2 Z ?_
 refine I (O (ax ?_))
 cases h
 exact bU Z Z Z ⟨q,Z,a.e [0] Z Z⟩
theorem un {j:World} {a0 a1 a2:List UInt32} {d f g:Value} {r:List UInt32×Int}
  (h:F.Fs a0 a1 a2=some r) (k:RP [] j U d a0) (m:RP [] j U f a1) (i:RP [] j U g a2):Calls Tryz.prog 48 #[d,f,g] j (Ret fun v w=>∃u0:Value,v=.tuple #[u0,vI r.2]∧St [] j w [N U u0 r.1]):=by
 refine aH 25 Tryz.func48 Z Z Z ?_
 have a:=St.l j
 refine au [(0,d),(1,f),(2,g)] ⟨Z,Z,Z,V⟩ ?_
 unfold F.Fs at h
 refine J (H (P 2 Z ?_))
 refine I (O (J (J (H (P 3 Z ?_)))))
 refine aV (cL (e:=eV) (l:=([SV.of d,SV.of f,SV.of g]:List SV)) (vs:=[d,f,g]) u120 qJ Z Z Z (fN (k.d a.fr).sv (fN (m.d a.fr).sv (fN (i.d a.fr).sv Z))) (by decide) (by decide) a) Z ?_
 rintro u w a
 obtain ⟨x,o,h⟩:=aj h
 refine ao Z (jd  o (a.ro 0 Z).rp ⟨(k.d a.fr).svrp,(m.d a.fr).svrp,(i.d a.fr).svrp,V⟩) Z ?_
 rintro _ w ⟨rfl,b⟩
 have a:=a.f b
 refine P 1 Z ?_
 refine I (O (J (H (P 2 Z ?_))))
 refine I (O ?_)
 refine aw Z (fun c=>?_) (fun c=>?_)
 ·have h:=aJ h c
  refine J (H (P 3 Z ?_))
  refine I (O (ax (aE ?_)))
  cases h
  exact bU Z Z Z ⟨.slice none 0 0,Z,(a.nil U).e [0] Z Z⟩
 have h:=aI h c
 refine az (O (J (H (P 2 Z ?_))))
 obtain ⟨y,p,h⟩:=aj h
 refine ao Z (fO  p (k.d a.fr).rp (i.d a.fr).rp) Z ?_
 rintro z w b
 have a:=a.f b
 refine P 2 Z ?_
 obtain ⟨A,q,h⟩:=aj h
 refine ao Z (fO  q (m.d a.fr).rp (i.d a.fr).rp) Z ?_
 rintro B w b
 have a:=a.f b
 refine P 1 Z ?_
 obtain ⟨t,n,h⟩:=aj h
 refine ao Z (i6  n (a.ro 1 Z).rp (a.ro 0 Z).rp (i.d a.fr).rp) Z ?_
 rintro s w b
 have a:=a.f b
 refine P 2 Z ?_
 refine I (O (ax ?_))
 cases h
 exact bU Z Z Z ⟨s,Z,a.e [0] Z Z⟩
end Go.Proofs
