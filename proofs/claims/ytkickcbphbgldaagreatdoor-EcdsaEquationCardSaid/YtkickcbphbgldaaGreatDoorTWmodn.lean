import Derived.Test.YtkickcbphbgldaaGreatDoorTW0
import Derived.Test.YtkickcbphbgldaaGreatDoorGkFman
import Derived.Test.YtkickcbphbgldaaGreatDoorTWnatb
set_option linter.unusedVariables false
set_option linter.unusedSimpArgs false
set_option linter.unusedSectionVars false
set_option maxRecDepth 4000
namespace Go.Proofs
open Go Go.RowKit Go.Gk
open Go.Gk renaming Off → O, Rds → Q, aa → P, ae → M, ah → I, ai → H, e32 → U, own → K
open Nat renaming le_of_ble_eq_true → R
open Go.Gk.Off renaming cons → X
open Go.Gk.Rds renaming cons → Y
theorem s8 {b:World} {a0:List UInt32} {a:Value} {r:Int}
  (h:F.FF a0=some r) (e:RP [] b U a a0):Calls Tryz.prog 146 #[a] b (Ret fun v w=>v=vI r∧St [] b w []):=by
 refine aJ 7 Tryz.func146 Z Z Z ?_
 have c:=St.l b
 refine au [(0,a)] ⟨Z,V⟩ ?_
 unfold F.FF at h
 refine I (af (P 1 Z ?_))
 refine H (M (I (af (P 1 Z ?_))))
 obtain ⟨f,d,h⟩:=aj h
 refine ao Z (dV  d (e.d c.fr).rp) Z ?_
 rintro _ w ⟨rfl,g⟩
 have c:=c.f g
 refine P 1 Z ?_
 refine am (aq Z Z (dT _ (wI (f+31)) 32 (by decide))) Z ?_
 refine P 1 Z ?_
 refine H (M (aw ?_))
 cases h
 exact aF Z Z ⟨Z,c⟩
theorem jm {k:World} {a0:List (List UInt32)} {b:Value} {s0:List SV} {r:Int}
  (h:F.CT a0=some r) (c:RP [] k eV b s0) (hl0:gB [] k U s0 a0):Calls Tryz.prog 78 #[b] k (Ret fun v w=>v=vI r∧St [] k w []):=by
 refine aJ 23 Tryz.func78 Z Z Z ?_
 have a:=St.l k
 refine au [(0,b)] ⟨Z,V⟩ ?_
 unfold F.CT at h
 refine I (af (P 1 Z ?_))
 refine H (M (I (I (af (P 1 Z ?_)))))
 refine am (uI u120 Z (c.d a.fr) hl0.len) Z (P 1 Z ?_)
 refine H (M (aE ?_))
 refine au [(0,b),(5,b),(6,vI (a0.length:Int)),(7,vI 0)] ⟨Z,Z,Z,Z,V⟩ ?_
 refine bk (F.CL a0) (fun (s:Int) L w=>L=[(0,b),(5,b),(6,vI (a0.length:Int)),(7,vI s)]∧St [] k w []) ?_ 0 ⟨Z,a⟩ h
 rintro z x L w C hI p h g
 try dsimp only at hI
 obtain ⟨rfl,a⟩:=hI
 unfold F.CL at h
 refine I (af (P 1 Z ?_))
 refine H (M (I ?_))
 refine ax Z (fun d=>?_) (fun d=>?_)
 ·have h:=aG h d
  refine az (M (I (aE ?_)))
  refine I (af ?_)
  obtain ⟨D,q,h⟩:=aj h
  obtain ⟨A,j,m⟩:=hl0.get q
  refine am (bm u120 q8 Z Z (c.d a.fr) j) Z (am (bc u31 Z Z (c.d a.fr) j Z) Z (P 1 Z ?_))
  refine H (M (I (af (P 1 Z ?_))))
  obtain ⟨E,t,h⟩:=aj h
  refine ao Z (s8  t (m.d a.fr).rp) Z ?_
  rintro _ w ⟨rfl,n⟩
  have a:=a.f n
  refine P 1 Z ?_
  refine H (M ?_)
  refine ax Z (fun i=>?_) (fun i=>?_)
  ·have h:=aG h i
   refine I (af (P 1 Z ?_))
   refine H (M (aw (bV ?_)))
   refine aD (aD ?_)
   have h:=aX h g
   refine bV ?_
   refine aD ?_
   cases h
   exact aF Z Z ⟨Z,a⟩
  have h:=aH h i
  refine az (aU ?_)
  refine M (af (P 2 Z ?_))
  refine H ?_
  exact bv (bz _ (by exact ⟨Z,Z,Z,Z,V⟩) (p (wI (x+1)) _ _ ⟨Z,a⟩ (ba h g)))
 have h:=aH h d
 refine bh ?_
 refine aI (aI ?_)
 have h:=aX h g
 refine bg ?_
 refine M (I (I (af (P 2 Z ?_))))
 refine am (uI u120 Z (c.d a.fr) hl0.len) Z (P 1 Z ?_)
 obtain ⟨G,u,h⟩:=aj h
 obtain ⟨y,f,l⟩:=hl0.get u
 refine am (bm u120 q8 Z Z (c.d a.fr) f) Z (am (bc u31 Z Z (c.d a.fr) f Z) Z ?_)
 obtain ⟨B,o,h⟩:=aj h
 refine ao Z (dV  o (l.d a.fr).rp) Z ?_
 rintro _ w ⟨rfl,n⟩
 have a:=a.f n
 refine P 1 Z ?_
 refine H (M ?_)
 refine ax Z (fun e=>?_) (fun e=>?_)
 ·have h:=aG h e
  refine I (af (P 1 Z ?_))
  refine H (M (aw (aD ?_)))
  cases h
  exact aF Z Z ⟨Z,a⟩
 have h:=aH h e
 refine az (M (I (af (P 1 Z ?_))))
 refine H (M (aw ?_))
 cases h
 exact aF Z Z ⟨Z,a⟩
theorem fV {a:World} {a0 a1:List UInt32} {b c:Value} {r:List UInt32}
  (h:F.Cj a0 a1=some r) (f:RP [] a U b a0) (g:RP [] a U c a1):Calls Tryz.prog 79 #[b,c] a (Ret fun v w=>St [] a w [K U v r]):=by
 refine aJ 16 Tryz.func79 Z Z Z ?_
 have d:=St.l a
 refine au [(0,b),(1,c)] ⟨Z,Z,V⟩ ?_
 unfold F.Cj at h
 refine I (af (P 1 Z ?_))
 refine H (M (I (af (P 2 Z ?_))))
 obtain ⟨j,e,h⟩:=aj h
 refine ao Z (gu  e (f.d d.fr).rp (g.d d.fr).rp) Z ?_
 rintro _ w ⟨k,l,rfl,i⟩
 have d:=d.f i
 refine P 7 Z ?_
 refine H (M (I (af (P 2 Z ?_))))
 refine H (M (aw ?_))
 cases h
 exact aF Z Z (d.e [1] Z Z)
theorem mU {d:World} {a0 a1:List UInt32} {e f:Value} {r:List UInt32}
  (h:F.Eh a0 a1=some r) (g:RP [] d U e a0) (m:RP [] d U f a1):Calls Tryz.prog 148 #[e,f] d (Ret fun v w=>St [] d w [K U v r]):=by
 refine aJ 12 Tryz.func148 Z Z Z ?_
 have a:=St.l d
 refine au [(0,e),(1,f)] ⟨Z,Z,V⟩ ?_
 unfold F.Eh at h
 refine I (af (P 1 Z ?_))
 refine H (M (I (I (af (P 1 Z ?_)))))
 obtain ⟨s,k,h⟩:=aj h
 refine ao Z (jK 0 k (g.d a.fr).rp) Z ?_
 rintro _ w ⟨rfl,b⟩
 have a:=a.f b
 refine H (M ?_)
 refine ax Z (fun c=>?_) (fun c=>?_)
 ·have h:=aG h c
  refine af (P 2 Z ?_)
  obtain ⟨t,l,h⟩:=aj h
  refine ao Z (pU  l (g.d a.fr).rp (m.d a.fr).rp) Z ?_
  rintro u w b
  have a:=a.f b
  refine P 1 Z ?_
  refine H (M (I (af (P 1 Z ?_))))
  obtain ⟨n,i,h⟩:=aj h
  refine ao Z (jz 1 i (a.ro 0 Z).rp) Z ?_
  rintro o w b
  have a:=a.f b
  refine P 1 Z ?_
  refine H (M (aw ?_))
  cases h
  exact aF Z Z (a.e [0] Z Z)
 have h:=aH h c
 refine az (M (I (af (P 1 Z ?_))))
 obtain ⟨p,j,h⟩:=aj h
 refine ao Z (jz 1 j (g.d a.fr).rp) Z ?_
 rintro q w b
 have a:=a.f b
 refine P 1 Z ?_
 refine H (M (aw ?_))
 cases h
 exact aF Z Z (a.e [0] Z Z)
theorem jh {d:World} {a0 a1 a2:List UInt32} {i j k:Value} {r:List UInt32}
  (h:F.Dx a0 a1 a2=some r) (l:RP [] d U i a0) (m:RP [] d U j a1) (q:RP [] d U k a2):Calls Tryz.prog 92 #[i,j,k] d (Ret fun v w=>St [] d w [K U v r]):=by
 refine aJ 26 Tryz.func92 Z Z Z ?_
 have a:=St.l d
 refine au [(0,i),(1,j),(2,k)] ⟨Z,Z,Z,V⟩ ?_
 unfold F.Dx at h
 refine I (af (P 1 Z ?_))
 refine H (M (I (af (P 2 Z ?_))))
 obtain ⟨s,n,h⟩:=aj h
 refine ao Z (jB  n (l.d a.fr).rp (m.d a.fr).rp) Z ?_
 rintro _ w ⟨t,rfl,c⟩
 have a:=a.f c
 refine P 5 Z ?_
 refine H (M ?_)
 refine a9 (r:=r) (fun (g:List UInt32) L w=>∃(e:Value),L=[(7,e)]∧St [] d w [K U e g]) (F.E4) ?_ ?_
 rotate_left
 ·intro f
  refine I (af (P 2 Z ?_))
  refine H (M ?_)
  refine ax Z (fun b=>?_) (fun b=>?_)
  ·have h:=aG h b
   refine af (P 2 Z ?_)
   obtain ⟨z,o,h⟩:=aj h
   refine ao Z (pU  o (l.d a.fr).rp (q.d a.fr).rp) Z ?_
   rintro A w c
   have a:=a.f c
   refine P 1 Z ?_
   obtain ⟨u,p,h⟩:=aj h
   refine ao Z (jB  p (a.ro 0 Z).rp (m.d a.fr).rp) Z ?_
   rintro _ w ⟨x,rfl,c⟩
   have a:=a.f c
   refine P 4 Z ?_
   refine H (M ?_)
   exact au _ (by exact ⟨Z,V⟩) (f u.1 _ _ ⟨x,Z,(a.e [0] Z Z)⟩ h)
  have h:=aH h b
  refine az (M ?_)
  exact au _ (by exact ⟨Z,V⟩) (f s.1 _ _ ⟨t,Z,a⟩ h)
 rintro y L w hJ h
 try dsimp only at hJ
 obtain ⟨e,rfl,a⟩:=hJ
 unfold F.E4 at h
 refine I (af (P 2 Z ?_))
 refine H (M (aw ?_))
 cases h
 exact aF Z Z (a.e [0] Z Z)
theorem uy {m:World} {a0 a1:List UInt32} {p f:Value} {T:List Nat} {r:List UInt32×List UInt32}
  (h:F.Fm a0 a1=some r) (hTT:TOk [] T m) (a9:RP T m U p a0) (bb:RP T m U f a1):Calls Tryz.prog 81 #[p,f] m (Ret fun v w=>∃u0:Value,∃u1:Value,v=.tuple #[u0,u1]∧St [] m w []∧Q T w [red U u1 r.2,red U u0 r.1]):=by
 refine aJ 59 Tryz.func81 Z Z Z ?_
 have a:=St.l m
 have hZ:=Fz.l (S:=[]) (w0:=m)
 have hA0:Q T m [red U f a1,red U p a0]:=Y (RP.i (R Z) bb) (Y (RP.i (R Z) a9) (Q.nil))
 have b:=hA0.all
 have c:=hA0.off Z
 refine au [(0,p),(1,f)] ⟨Z,Z,V⟩ ?_
 unfold F.Fm at h
 refine I (af (P 2 Z ?_))
 refine H (M (I (af (P 4 Z ?_))))
 refine H (M (I (af ?_)))
 refine aP (cQ (e:=U) (l:=([1]:List UInt32)) (vs:=[v32 1]) u31 aW Z Z Z Z (by decide) (by decide) a) Z ?_
 rintro ad w a
 refine aP (xx (e:=U) u31 aW a) Z ?_
 rintro ag w a
 refine P 2 Z ?_
 refine H (M (I (aE ?_)))
 replace a:=a.pick (os':=[K U ag [],K U ad ([1]:List UInt32)]++[]) [0,1] (by decide) rfl
 obtain ⟨bH,bm,hZ,b,c,a⟩:=hZ.frzT hTT b c a
 refine au [(1,f),(6,p),(7,f),(8,ad),(9,ag)] ⟨Z,Z,Z,Z,Z,V⟩ ?_
 refine bk (F.C7 a1) (fun (s:List UInt32×List UInt32×List UInt32×List UInt32) L w=>∃(n:Value) (g:Value) (o:Value) (i:Value),L=[(1,f),(6,n),(7,g),(8,o),(9,i)]∧SfT [] T m w [red U i s.2.2.2,red U o s.2.2.1,red U g s.2.1,red U n s.1,red U f a1] []) ?_ (a0,a1,([1]:List UInt32),[]) ⟨p,f,ad,ag,Z,(SfT.mk' hZ (Y (b.b 3 Z) (Y (b.b 2 Z) (Y (b.b 1 Z) (Y (b.b 0 Z) (Y (b.b 1 Z) Q.nil))))) (X (c.b 3 Z) (X (c.b 2 Z) (X (c.b 1 Z) (X (c.b 0 Z) (X (c.b 1 Z) O.nil))))) a)⟩ h
 rintro bn ⟨bc,B,a6,C⟩ L w bo hI G h q
 try dsimp only at hI
 obtain ⟨n,g,o,i,rfl,⟨bI,bp,hZ,b,c,a⟩⟩:=hI
 unfold F.C7 at h
 refine I (I (af (P 1 Z ?_)))
 obtain ⟨bq,aM,h⟩:=aj h
 refine ao Z (dV  aM ((b.rp 1 Z).d a.fr).rp) Z ?_
 rintro _ w ⟨rfl,d⟩
 have a:=a.f d
 refine P 1 Z ?_
 refine H (M ?_)
 refine ax Z (fun t=>?_) (fun t=>?_)
 ·have h:=aG h t
  refine az (M (aE ?_))
  refine I (aE ?_)
  refine au [(1,f),(6,n),(7,g),(8,o),(9,i)] ⟨Z,Z,Z,Z,Z,V⟩ ?_
  refine bk (F.EN a1 B C) (fun (s:List UInt32×List UInt32) L w=>∃(j:Value) (k:Value),L=[(1,f),(6,j),(7,g),(8,k),(9,i)]∧SfT [] T m w [red U i C,red U k s.2,red U g B,red U j s.1,red U f a1] []) ?_ (bc,a6) ⟨n,o,Z,(SfT.mk' hZ (Y (b.b 4 Z) (Y (b.b 3 Z) (Y (b.b 2 Z) (Y (b.b 1 Z) (Y (b.b 0 Z) Q.nil))))) (X (c.b 4 Z) (X (c.b 3 Z) (X (c.b 2 Z) (X (c.b 1 Z) (X (c.b 0 Z) O.nil))))) a)⟩ h
  rintro br ⟨D,E⟩ L w bs hI aN h ab
  try dsimp only at hI
  obtain ⟨j,k,rfl,⟨bt,bd,hZ,b,c,a⟩⟩:=hI
  unfold F.EN at h
  refine I (I (af (P 1 Z ?_)))
  obtain ⟨bu,aO,h⟩:=aj h
  refine ao Z (jK 0 aO ((b.rp 1 Z).d a.fr).rp) Z ?_
  rintro _ w ⟨rfl,d⟩
  have a:=a.f d
  refine P 1 Z ?_
  refine H (M ?_)
  refine ax Z (fun u=>?_) (fun u=>?_)
  ·have h:=aG h u
   refine az (M (aE ?_))
   refine af (P 1 Z ?_)
   obtain ⟨ak,aQ,h⟩:=aj h
   refine ao Z (jz 1 aQ ((b.rp 1 Z).d a.fr).rp) Z ?_
   rintro al w d
   have a:=a.f d
   refine P 2 Z ?_
   obtain ⟨am,aR,h⟩:=aj h
   refine ao Z (mU  aR ((b.rp 3 Z).d a.fr).rp ((b.rp 0 Z).d a.fr).rp) Z ?_
   rintro an w d
   have a:=a.f d
   refine P 2 Z ?_
   refine H (aU ?_)
   replace a:=a.pick (os':=[K U an am,K U al ak]++[]) [0,1] (by decide) rfl
   obtain ⟨bw,be,hZ,b,c,a⟩:=hZ.frzT hTT b c a
   exact bv (bz _ (by exact ⟨Z,Z,Z,Z,Z,V⟩) (aN (ak,am) _ _ ⟨al,an,Z,(SfT.mk' hZ (Y (b.b 4 Z) (Y (b.b 6 Z) (Y (b.b 2 Z) (Y (b.b 5 Z) (Y (b.b 0 Z) Q.nil))))) (X (c.b 4 Z) (X (c.b 6 Z) (X (c.b 2 Z) (X (c.b 5 Z) (X (c.b 0 Z) O.nil))))) a)⟩ (ba h ab)))
  have h:=aH h u
  refine bh ?_
  refine aI (aI ?_)
  have h:=aX h ab
  refine bg ?_
  refine M (I (aE ?_))
  refine au [(1,f),(6,j),(7,g),(8,k),(9,i)] ⟨Z,Z,Z,Z,Z,V⟩ ?_
  refine bk (F.Ey a1 D E) (fun (s:List UInt32×List UInt32) L w=>∃(x:Value) (y:Value),L=[(1,f),(6,j),(7,x),(8,k),(9,y)]∧SfT [] T m w [red U y s.2,red U k E,red U x s.1,red U j D,red U f a1] []) ?_ (B,C) ⟨g,i,Z,(SfT.mk' hZ (Y (b.b 4 Z) (Y (b.b 3 Z) (Y (b.b 2 Z) (Y (b.b 1 Z) (Y (b.b 0 Z) Q.nil))))) (X (c.b 4 Z) (X (c.b 3 Z) (X (c.b 2 Z) (X (c.b 1 Z) (X (c.b 0 Z) O.nil))))) a)⟩ h
  rintro bx ⟨a7,a8⟩ L w bA hI aS h ac
  try dsimp only at hI
  obtain ⟨x,y,rfl,⟨bB,bf,hZ,b,c,a⟩⟩:=hI
  unfold F.Ey at h
  refine I (I (af (P 1 Z ?_)))
  obtain ⟨bC,aT,h⟩:=aj h
  refine ao Z (jK 0 aT ((b.rp 2 Z).d a.fr).rp) Z ?_
  rintro _ w ⟨rfl,d⟩
  have a:=a.f d
  refine P 1 Z ?_
  refine H (M ?_)
  refine ax Z (fun z=>?_) (fun z=>?_)
  ·have h:=aG h z
   refine az (M (aE ?_))
   refine af (P 1 Z ?_)
   obtain ⟨ap,aV,h⟩:=aj h
   refine ao Z (jz 1 aV ((b.rp 2 Z).d a.fr).rp) Z ?_
   rintro aq w d
   have a:=a.f d
   refine P 2 Z ?_
   obtain ⟨ar,aY,h⟩:=aj h
   refine ao Z (mU  aY ((b.rp 4 Z).d a.fr).rp ((b.rp 0 Z).d a.fr).rp) Z ?_
   rintro av w d
   have a:=a.f d
   refine P 2 Z ?_
   refine H (aU ?_)
   replace a:=a.pick (os':=[K U av ar,K U aq ap]++[]) [0,1] (by decide) rfl
   obtain ⟨bD,bi,hZ,b,c,a⟩:=hZ.frzT hTT b c a
   exact bv (bz _ (by exact ⟨Z,Z,Z,Z,Z,V⟩) (aS (ap,ar) _ _ ⟨aq,av,Z,(SfT.mk' hZ (Y (b.b 6 Z) (Y (b.b 3 Z) (Y (b.b 5 Z) (Y (b.b 1 Z) (Y (b.b 0 Z) Q.nil))))) (X (c.b 6 Z) (X (c.b 3 Z) (X (c.b 5 Z) (X (c.b 1 Z) (X (c.b 0 Z) O.nil))))) a)⟩ (ba h ac)))
  have h:=aH h z
  refine bh ?_
  refine aI (aI ?_)
  have h:=aX h ac
  refine bg ?_
  refine M (I (af (P 2 Z ?_)))
  obtain ⟨bE,aZ,h⟩:=aj h
  refine ao Z (eI  aZ ((b.rp 1 Z).d a.fr).rp ((b.rp 2 Z).d a.fr).rp) Z ?_
  rintro _ w ⟨rfl,d⟩
  have a:=a.f d
  refine P 1 Z ?_
  refine H (M ?_)
  refine ax Z (fun A=>?_) (fun A=>?_)
  ·have h:=aG h A
   refine I (af (P 2 Z ?_))
   obtain ⟨ay,a2,h⟩:=aj h
   refine ao Z (jB  a2 ((b.rp 1 Z).d a.fr).rp ((b.rp 2 Z).d a.fr).rp) Z ?_
   rintro _ w ⟨aA,rfl,d⟩
   have a:=a.f d
   refine P 4 Z ?_
   refine H (M (af (P 3 Z ?_)))
   obtain ⟨aB,a3,h⟩:=aj h
   refine ao Z (jh  a3 ((b.rp 3 Z).d a.fr).rp ((b.rp 4 Z).d a.fr).rp ((b.rp 0 Z).d a.fr).rp) Z ?_
   rintro aC w d
   have a:=a.f d
   refine P 1 Z ?_
   refine H (aU ?_)
   replace a:=a.pick (os':=[K U aC aB,K U aA ay.1]++[]) [0,1] (by decide) rfl
   obtain ⟨bF,bj,hZ,b,c,a⟩:=hZ.frzT hTT b c a
   exact bv (bz _ (by exact ⟨Z,Z,Z,Z,Z,V⟩) (G (ay.1,a7,aB,a8) _ _ ⟨aA,x,aC,y,Z,(SfT.mk' hZ (Y (b.b 4 Z) (Y (b.b 6 Z) (Y (b.b 2 Z) (Y (b.b 5 Z) (Y (b.b 0 Z) Q.nil))))) (X (c.b 4 Z) (X (c.b 6 Z) (X (c.b 2 Z) (X (c.b 5 Z) (X (c.b 0 Z) O.nil))))) a)⟩ (ba h q)))
  have h:=aH h A
  refine I (af (P 2 Z ?_))
  obtain ⟨aD,a4,h⟩:=aj h
  refine ao Z (jB  a4 ((b.rp 2 Z).d a.fr).rp ((b.rp 1 Z).d a.fr).rp) Z ?_
  rintro _ w ⟨aF,rfl,d⟩
  have a:=a.f d
  refine P 4 Z ?_
  refine H (M (af (P 3 Z ?_)))
  obtain ⟨aK,a5,h⟩:=aj h
  refine ao Z (jh  a5 ((b.rp 4 Z).d a.fr).rp ((b.rp 3 Z).d a.fr).rp ((b.rp 0 Z).d a.fr).rp) Z ?_
  rintro aL w d
  have a:=a.f d
  refine P 1 Z ?_
  refine H (aU ?_)
  replace a:=a.pick (os':=[K U aL aK,K U aF aD.1]++[]) [0,1] (by decide) rfl
  obtain ⟨bG,bl,hZ,b,c,a⟩:=hZ.frzT hTT b c a
  exact bv (bz _ (by exact ⟨Z,Z,Z,Z,Z,V⟩) (G (D,aD.1,E,aK) _ _ ⟨j,aF,k,aL,Z,(SfT.mk' hZ (Y (b.b 6 Z) (Y (b.b 3 Z) (Y (b.b 5 Z) (Y (b.b 1 Z) (Y (b.b 0 Z) Q.nil))))) (X (c.b 6 Z) (X (c.b 3 Z) (X (c.b 5 Z) (X (c.b 1 Z) (X (c.b 0 Z) O.nil))))) a)⟩ (ba h q)))
 have h:=aH h t
 refine bh ?_
 refine aI (aI ?_)
 have h:=aX h q
 refine bg ?_
 refine M (I (af (P 4 Z ?_)))
 refine H (M (aw ?_))
 cases h
 obtain ⟨hS0,hR⟩:=hZ.outT hTT b c a
 exact bX Z Z Z ⟨g,i,Z,hS0,(Y (hR.b 4 Z) (Y (hR.b 2 Z) Q.nil))⟩
theorem kG {g:World} {a0 a1:List UInt32} {d f:Value} {r:List UInt32×Int}
  (h:F.CJ a0 a1=some r) (x:RP [] g U d a0) (y:RP [] g U f a1):Calls Tryz.prog 35 #[d,f] g (Ret fun v w=>∃u0:Value,v=.tuple #[u0,vI r.2]∧St [] g w [K U u0 r.1]):=by
 refine aJ 40 Tryz.func35 Z Z Z ?_
 have a:=St.l g
 have hZ:=Fz.l (S:=[]) (w0:=g)
 have hTT:TOk [] [] g:=TOk.nil
 have c:Q [] g [red U f a1,red U d a0]:=Y (RP.i (R Z) y) (Y (RP.i (R Z) x) (Q.nil))
 have m:O [] [red U f a1,red U d a0]:=O.emp
 refine au [(0,d),(1,f)] ⟨Z,Z,V⟩ ?_
 unfold F.CJ at h
 refine I (af (P 2 Z ?_))
 refine H (M (uu 0 Z ?_))
 refine I (af (P 2 Z ?_))
 refine H (M (I (I (af (P 2 Z ?_)))))
 refine aP (cQ (e:=eV) (l:=([SV.of d,SV.of f]:List SV)) (vs:=[d,f]) u120 q8 Z Z Z (fT ((c.rp 0 Z).d a.fr).sv (fT ((c.rp 1 Z).d a.fr).sv Z)) (by decide) (by decide) a) Z ?_
 rintro z w a
 obtain ⟨ad,p,h⟩:=aj h
 refine ao Z (jm  p (a.ro 0 Z).rp ⟨((c.rp 0 Z).d a.fr).svrp,((c.rp 1 Z).d a.fr).svrp,V⟩) Z ?_
 rintro _ w ⟨rfl,b⟩
 have a:=a.f b
 refine P 1 Z ?_
 refine H (M (I (af (P 2 Z ?_))))
 refine H (M ?_)
 refine ax Z (fun i=>?_) (fun i=>?_)
 ·have h:=aG h i
  refine I (af (P 3 Z ?_))
  refine H (M (aw (aD (yi ?_))))
  cases h
  replace a:=hZ.st a
  exact bX Z Z Z ⟨.slice none 0 0,Z,(a.nil U).e [0] Z Z⟩
 have h:=aH h i
 refine az (M (I (af (P 2 Z ?_))))
 obtain ⟨A,q,h⟩:=aj h
 refine ao Z (fV  q ((c.rp 0 Z).d a.fr).rp ((c.rp 1 Z).d a.fr).rp) Z ?_
 rintro B w b
 have a:=a.f b
 refine P 1 Z ?_
 refine H (M (I (I (af (P 1 Z ?_)))))
 obtain ⟨ag,s,h⟩:=aj h
 refine ao Z (jK 0 s ((c.rp 1 Z).d a.fr).rp) Z ?_
 rintro _ w ⟨rfl,b⟩
 have a:=a.f b
 refine H (M ?_)
 refine ax Z (fun j=>?_) (fun j=>?_)
 ·have h:=aG h j
  refine I (af (P 2 Z ?_))
  replace a:=a.pick (os':=[K U B A,K eV z ([SV.of d,SV.of f]:List SV)]++[]) [0,1] (by decide) rfl
  obtain ⟨hZ,c,m,a⟩:=hZ.frzK hTT c m a
  obtain ⟨ak,t,h⟩:=aj h
  refine ao Z (uy  t (hZ.okT hTT a) (c.j m 3 Z) (c.j m 1 Z)) Z ?_
  rintro _ w ⟨E,G,rfl,b,C⟩
  obtain ⟨L,D,hZ,c,m,a⟩:=hZ.m c m a b C rfl
  refine P 5 Z ?_
  refine H (M (xw ?_))
  refine wK ?_
  refine xZ ?_
  refine I (az (M (I (I (af (P 1 Z ?_))))))
  refine aP (cQ (e:=U) (l:=([1]:List UInt32)) (vs:=[v32 1]) u31 aW Z Z Z Z (by decide) (by decide) a) Z ?_
  rintro T w a
  obtain ⟨ab,n,h⟩:=aj h
  refine ao Z (eI  n ((c.rp 4 Z).d a.fr).rp (a.ro 0 Z).rp) Z ?_
  rintro _ w ⟨rfl,b⟩
  have a:=a.f b
  refine P 1 Z ?_
  refine H (M ?_)
  refine ax Z (fun k=>?_) (fun k=>?_)
  ·have h:=aG h k
   refine I (af (P 2 Z ?_))
   refine H (M (aw (aD (rZ ?_))))
   cases h
   replace a:=hZ.st a
   exact bX Z Z Z ⟨.slice none 0 0,Z,(a.nil U).e [0] Z Z⟩
  have h:=aH h k
  refine az (M (I (af (P 2 Z ?_))))
  obtain ⟨ac,o,h⟩:=aj h
  refine ao Z (fV  o ((c.rp 5 Z).d a.fr).rp ((c.rp 1 Z).d a.fr).rp) Z ?_
  rintro u w b
  have a:=a.f b
  refine P 2 Z ?_
  refine H (M (aw (rZ ?_)))
  cases h
  replace a:=hZ.st a
  exact bX Z Z Z ⟨u,Z,a.e [0] Z Z⟩
 have h:=aH h j
 refine az (M (I (af (P 2 Z ?_))))
 cases h
theorem fG {i:World} {a0 a1 a2:List UInt32} {c d f:Value} {r:List UInt32×Int}
  (h:F.B9 a0 a1 a2=some r) (j:RP [] i U c a0) (k:RP [] i U d a1) (m:RP [] i U f a2):Calls Tryz.prog 36 #[c,d,f] i (Ret fun v w=>∃u0:Value,v=.tuple #[u0,vI r.2]∧St [] i w [K U u0 r.1]):=by
 refine aJ 22 Tryz.func36 Z Z Z ?_
 have a:=St.l i
 refine au [(0,c),(1,d),(2,f)] ⟨Z,Z,Z,V⟩ ?_
 unfold F.B9 at h
 refine I (af (P 2 Z ?_))
 refine H (M (I (I (af (P 3 Z ?_)))))
 refine aP (cQ (e:=eV) (l:=([SV.of c,SV.of d,SV.of f]:List SV)) (vs:=[c,d,f]) u120 q8 Z Z Z (fT (j.d a.fr).sv (fT (k.d a.fr).sv (fT (m.d a.fr).sv Z))) (by decide) (by decide) a) Z ?_
 rintro s w a
 obtain ⟨t,n,h⟩:=aj h
 refine ao Z (jm  n (a.ro 0 Z).rp ⟨(j.d a.fr).svrp,(k.d a.fr).svrp,(m.d a.fr).svrp,V⟩) Z ?_
 rintro _ w ⟨rfl,g⟩
 have a:=a.f g
 refine P 1 Z ?_
 refine H (M (I (af (P 2 Z ?_))))
 refine H (M ?_)
 refine ax Z (fun b=>?_) (fun b=>?_)
 ·have h:=aG h b
  refine I (af (P 3 Z ?_))
  refine H (M (aw (aD ?_)))
  cases h
  exact bX Z Z Z ⟨.slice none 0 0,Z,(a.nil U).e [0] Z Z⟩
 have h:=aH h b
 refine az (M (I (af (P 2 Z ?_))))
 obtain ⟨u,o,h⟩:=aj h
 refine ao Z (wn  o (j.d a.fr).rp (k.d a.fr).rp) Z ?_
 rintro x w g
 have a:=a.f g
 refine P 1 Z ?_
 obtain ⟨y,p,h⟩:=aj h
 refine ao Z (fV  p (a.ro 0 Z).rp (m.d a.fr).rp) Z ?_
 rintro q w g
 have a:=a.f g
 refine P 2 Z ?_
 refine H (M (aw ?_))
 cases h
 exact bX Z Z Z ⟨q,Z,a.e [0] Z Z⟩
theorem up {j:World} {a0 a1 a2:List UInt32} {d f g:Value} {r:List UInt32×Int}
  (h:F.FD a0 a1 a2=some r) (k:RP [] j U d a0) (m:RP [] j U f a1) (i:RP [] j U g a2):Calls Tryz.prog 48 #[d,f,g] j (Ret fun v w=>∃u0:Value,v=.tuple #[u0,vI r.2]∧St [] j w [K U u0 r.1]):=by
 refine aJ 25 Tryz.func48 Z Z Z ?_
 have a:=St.l j
 refine au [(0,d),(1,f),(2,g)] ⟨Z,Z,Z,V⟩ ?_
 unfold F.FD at h
 refine I (af (P 2 Z ?_))
 refine H (M (I (I (af (P 3 Z ?_)))))
 refine aP (cQ (e:=eV) (l:=([SV.of d,SV.of f,SV.of g]:List SV)) (vs:=[d,f,g]) u120 q8 Z Z Z (fT (k.d a.fr).sv (fT (m.d a.fr).sv (fT (i.d a.fr).sv Z))) (by decide) (by decide) a) Z ?_
 rintro u w a
 obtain ⟨x,o,h⟩:=aj h
 refine ao Z (jm  o (a.ro 0 Z).rp ⟨(k.d a.fr).svrp,(m.d a.fr).svrp,(i.d a.fr).svrp,V⟩) Z ?_
 rintro _ w ⟨rfl,b⟩
 have a:=a.f b
 refine P 1 Z ?_
 refine H (M (I (af (P 2 Z ?_))))
 refine H (M ?_)
 refine ax Z (fun c=>?_) (fun c=>?_)
 ·have h:=aG h c
  refine I (af (P 3 Z ?_))
  refine H (M (aw (aD ?_)))
  cases h
  exact bX Z Z Z ⟨.slice none 0 0,Z,(a.nil U).e [0] Z Z⟩
 have h:=aH h c
 refine az (M (I (af (P 2 Z ?_))))
 obtain ⟨y,p,h⟩:=aj h
 refine ao Z (fV  p (k.d a.fr).rp (i.d a.fr).rp) Z ?_
 rintro z w b
 have a:=a.f b
 refine P 2 Z ?_
 obtain ⟨A,q,h⟩:=aj h
 refine ao Z (fV  q (m.d a.fr).rp (i.d a.fr).rp) Z ?_
 rintro B w b
 have a:=a.f b
 refine P 1 Z ?_
 obtain ⟨t,n,h⟩:=aj h
 refine ao Z (jh  n (a.ro 1 Z).rp (a.ro 0 Z).rp (i.d a.fr).rp) Z ?_
 rintro s w b
 have a:=a.f b
 refine P 2 Z ?_
 refine H (M (aw ?_))
 cases h
 exact bX Z Z Z ⟨s,Z,a.e [0] Z Z⟩
end Go.Proofs
