import Derived.Test.YtahgjafdhjbkeaaGreatDoorRW0
import Derived.Test.YtahgjafdhjbkeaaGreatDoorGkFman
import Derived.Test.YtahgjafdhjbkeaaGreatDoorRWnata
set_option linter.unusedVariables false
set_option linter.unusedSimpArgs false
set_option linter.unusedSectionVars false
set_option maxRecDepth 4000
namespace Go.Proofs
open Go Go.RowKit Go.Gk
open Go.Gk renaming aa → V, af → J, ag → N, e32 → X, gl3 → Q, gl4 → R, own → U, vI → H
open Nat renaming le_of_ble_eq_true → W
theorem wO {u:World} {a0 a1:List UInt32} {g f:Value} {r:List UInt32}
  (h:F.Hz a0 a1=some r) (q:RP [] u X g a0) (l:RP [] u X f a1):Calls Tryz.prog 57 #[g,f] u (Ret fun v w=>St [] u w [U X v r]):=by
 refine aB 73 Tryz.func57 Z Z Z<|have a:=St.k u;ax [(0,g),(1,f)] Z ?_
 unfold F.Hz at h
 refine R<|V 1 Z<|gl2<|V 1 Z<|J h fun c am h=>dJ a Z (dA  am (q.b a.fr).rp) Z fun o w a=>V 1 Z<|J h fun b an h=>dJ a Z (dA  an (l.b a.fr).rp) Z fun j w a=>V 2 Z<|gl2<|V 1 Z<|N (aC u30 Z ((q.tk3 o).b a.fr)) Z<|V 1 Z<|N (aC u30 Z ((l.tk3 j).b a.fr)) Z<|V 1 Z<|J h fun aA ao h=>bG (dw (e:=X) u30 aN Z Z Z a ao) Z fun m w a=>V 1 Z<|gl1<|R<|V 1 Z<|N (aC u30 Z ((q.tk3 o).b a.fr)) Z<|V 1 Z<|Q<|ar<|ax [(6,slV3 f X.sz 0 b b),(7,m),(23,slV3 g X.sz 0 c c),(24,H ((a0.take c).length:Int)),(25,H 0)] Z ?_
 refine aT (F.Fy a0 c a1 b) (fun (s:Int×List UInt32) L w=>L=[(6,slV3 f X.sz 0 b b),(7,m),(23,slV3 g X.sz 0 c c),(24,H ((a0.take c).length:Int)),(25,H s.1)]∧St [] u w [U X m s.2]) ?_ (0,aA) ⟨Z,a⟩ h
 rintro aH ⟨n,aG⟩ L w aJ S T h z
 try dsimp only at S
 obtain ⟨rfl,a⟩:=S
 unfold F.Fy at h
 refine R<|V 1 Z<|gl1 ?_
 refine gl9 Z h (fun h=>?_) (fun h=>?_)
 ·refine gl5<|av<|ar<|R<|V 1 Z<|J h fun d A h=>N (bk u30 aN Z Z ((q.tk3 o).b a.fr) A) Z<|N (a8 u38 Z Z ((q.tk3 o).b a.fr) A Z) Z<|V 2 Z<|gl2<|V 1 Z<|gl1<|R<|V 1 Z<|N (aC u30 Z ((l.tk3 j).b a.fr)) Z<|V 1 Z<|Q<|ar<|ax [(6,slV3 f X.sz 0 b b),(7,m),(8,H n),(9,v32 d),(10,v64 0),(23,slV3 g X.sz 0 c c),(24,H ((a0.take c).length:Int)),(25,H n),(30,slV3 f X.sz 0 b b),(31,H ((a1.take b).length:Int)),(32,H 0)] Z ?_
  refine aT (F.Ei a1 b n d) (fun (s:UInt64×Int×List UInt32) L w=>L=[(6,slV3 f X.sz 0 b b),(7,m),(8,H n),(9,v32 d),(10,v64 s.1),(23,slV3 g X.sz 0 c c),(24,H ((a0.take c).length:Int)),(25,H n),(30,slV3 f X.sz 0 b b),(31,H ((a1.take b).length:Int)),(32,H s.2.1)]∧St [] u w [U X m s.2.2]) ?_ (0,0,aG) ⟨Z,a⟩ h
  rintro aK ⟨x,ap,aO⟩ L w aP S ab h B
  try dsimp only at S
  obtain ⟨rfl,a⟩:=S
  unfold F.Ei at h
  refine R<|V 1 Z<|gl1 ?_
  refine gl9 Z h (fun h=>?_) (fun h=>?_)
  ·refine gl5<|av<|ar<|R<|V 1 Z<|J h fun p C h=>N (bk u30 aN Z Z ((l.tk3 j).b a.fr) C) Z<|N (a8 u38 Z Z ((l.tk3 j).b a.fr) C Z) Z<|V 2 Z<|gl2<|V 2 Z<|N (aD Z (bD u38 u119 d)) Z<|V 1 Z<|N (aD Z (bD u38 u119 p)) Z<|N (aj Z Z (gx _ d.toUInt64 p.toUInt64)) Z<|V 4 Z<|J h fun y D h=>N (bk u30 aN Z Z (a.ro 0 Z) D) Z<|N (a8 u38 Z Z (a.ro 0 Z) D Z) Z<|N (aD Z (bD u38 u119 y)) Z<|N (aj Z Z (bU _ (d.toUInt64*p.toUInt64) y.toUInt64)) Z<|N (aj Z Z (bU _ x ((d.toUInt64*p.toUInt64)+y.toUInt64))) Z<|a7 h fun k ac h=>N (a9 (v:=v64 k) (by rw [←ac]; rfl)) Z<|gl2<|V 5 Z<|N (aD Z (ca u119 u38 k)) Z<|J h fun aS E h=>N (bk u30 aN Z Z (a.ro 0 Z) E) Z<|bl (bZ (t:=k.toUInt32) aN Z Z a (i:=0) Z E Z) fun w a=>a7 h fun aq ad h=>?_
   rw [ad]at a
   exact Q<|al<|V 1 Z<|N (aj Z Z (cc _ k 32)) Z<|V 1 Z<|aE<|aF<|ak<|al<|V 2 Z<|aE<|bf (bd (ab (aM k 32,wI (ap+1),aq) _ _ ⟨Z,a⟩ (aL h B)) Z)
  refine aQ<|au<|au<|have h:=aI h B;aR<|ak<|al<|V 3 Z<|N (aC u30 Z ((l.tk3 j).b a.fr)) Z<|V 2 Z<|N (aD Z (ca u119 u38 x)) Z<|J h fun aU G h=>N (bk u30 aN Z Z (a.ro 0 Z) G) Z<|bl (bZ (t:=x.toUInt32) aN Z Z a (i:=0) Z G Z) fun w a=>a7 h fun aw ae h=>?_
  rw [ae]at a
  exact aE<|aF<|ak<|al<|V 2 Z<|aE<|bf (bd (T (wI (n+1),aw) _ _ ⟨Z,a⟩ (aL h z)) Z)
 refine aQ<|au<|au<|have h:=aI h z;aR<|ak<|R<|V 1 Z<|J h fun aV ah h=>dJ a Z (dW  ah (a.ro 0 Z).rp) Z fun ai w a=>V 1 Z<|Q<|az ?_
 cases h
 replace a:=a.trunc3 (i:=0) rfl ai
 exact ay Z Z (a.d [0] Z Z)
theorem vw {e:World} {a0:List UInt8} {a1:List UInt32} {b d:Value} {S:List Nat} {r:List UInt8}
  (h:F.Hu a0 a1=some r) (a:St S e e [U e8 b a0]) (m:RP S e X d a1):Calls Tryz.prog 174 #[b,d] e (Ret fun v w=>v=.tuple #[]∧St S e w [U e8 b r]):=by
 refine aB 38 Tryz.func174 Z Z Z<|ax [(0,b),(1,d)] Z ?_
 unfold F.Hu at h
 refine R<|V 1 Z<|N (aC u24 Z (a.ro 0 Z)) Z<|V 1 Z<|Q<|ar<|ax [(0,b),(1,d),(7,H (a0.length:Int)),(8,H 0)] Z ?_
 refine aT (F.G8 a0 a1) (fun (s:Int×List UInt8) L w=>L=[(0,b),(1,d),(7,H (a0.length:Int)),(8,H s.1)]∧St S e w [U e8 b s.2]) ?_ (0,a0) ⟨Z,a⟩ h
 rintro T ⟨n,ac⟩ L w C D x h o
 try dsimp only at D
 obtain ⟨rfl,a⟩:=D
 unfold F.G8 at h
 refine R<|V 1 Z<|gl1 ?_
 refine gl9 Z h (fun h=>?_) (fun h=>?_)
 ·refine gl5 ?_
  refine aZ (r:=C) (fun (g:List UInt8) L w=>L=[(0,b),(1,d),(7,H (a0.length:Int)),(8,H n)]∧St S e w [U e8 b g]) (F.G5 n) ?_ ?_
  rotate_left
  ·intro j
   refine ar<|R<|V 2 Z<|gl2<|V 1 Z<|N (aC u24 Z (a.ro 0 Z)) Z<|V 3 Z<|a7 h fun c y h=>N (a9 (v:=H c) (by rw [←y]; rfl)) Z<|gl2<|V 2 Z<|J h fun ad p h=>N (bk u24 ti5 Z Z (a.ro 0 Z) p) Z<|bl (bZ (t:=0) ti5 Z Z a (i:=0) Z p Z) fun w a=>a7 h fun E z h=>?_
   rw [z]at a
   refine gl2<|V 1 Z<|N (aj Z Z (dV _ c 4 (by decide))) Z<|V 1 Z<|N (aC u30 Z (m.b a.fr)) Z<|V 1 Z<|Q ?_
   refine gl9 Z h (fun h=>?_) (fun h=>?_)
   ·refine al<|V 4 Z<|N (aj Z Z (dV _ c 4 (by decide))) Z<|J h fun f k h=>N (bk u30 aN Z Z (m.b a.fr) k) Z<|N (a8 u38 Z Z (m.b a.fr) k Z) Z<|V 1 Z<|N (aj Z Z (fW _ c 4 (by decide))) Z<|N (aj Z Z (dR _ 8 (Int.tmod c 4))) Z<|da h fun q h=>N (aj Z Z (q8 _ f (wI (8*(Int.tmod c 4))) q)) Z<|N (aD Z (fG u38 Tryz.underlying5 (bu f (((wI (8*(Int.tmod c 4)))).toNat)))) Z<|J h fun ab l h=>N (bk u24 ti5 Z Z (a.ro 0 Z) l) Z<|bl (bZ (t:=((bu f (((wI (8*(Int.tmod c 4)))).toNat)).toUInt8)) ti5 Z Z a (i:=0) Z l Z) fun w a=>a7 h fun A u h=>?_
    rw [u]at a
    exact aE<|aF<|ak<|aH (j A _ _ ⟨Z,a⟩ h) Z
   exact cd<|aF<|ak<|aH (j E _ _ ⟨Z,a⟩ h) Z
  rintro B L w G h
  try dsimp only at G
  obtain ⟨rfl,a⟩:=G
  unfold F.G5 at h
  exact al<|V 2 Z<|aE<|bf (bd (x (wI (n+1),B) _ _ ⟨Z,a⟩ (aL h o)) Z)
 refine aQ<|au<|au<|have h:=aI h o;aR ?_
 cases h
 exact ib Z ⟨Z,a.d [0] Z Z⟩
theorem ul {d:World} {a0:List UInt32} {b:Value} {r:List UInt8}
  (h:F.HV a0=some r) (c:RP [] d X b a0):Calls Tryz.prog 155 #[b] d (Ret fun v w=>St [] d w [U e8 v r]):=by
 refine aB 16 Tryz.func155 Z Z Z<|have a:=St.k d;ax [(0,b)] Z ?_
 unfold F.HV at h
 refine R<|V 1 Z<|gl2<|V 1 Z<|J h fun n f h=>bc a Z (gq  f (c.b a.fr).rp) Z fun w a=>V 1 Z<|N (aj Z Z (dV _ (wI (n+7)) 8 (by decide))) Z<|a7 h fun o g h=>N (a9 (v:=H o) (by rw [←g]; rfl)) Z<|gl2<|V 1 Z<|J h fun p i h=>bG (dw (e:=e8) u24 ti5 Z Z Z a i) Z fun q w a=>V 1 Z<|gl2<|V 2 Z<|J h fun t j h=>dJ a Z (dA  j (c.b a.fr).rp) Z fun k w a=>have l:=a.pick (os':=[U e8 q p]++[]) [0] (by decide) Z;J h fun u m h=>aG Z (vw  m l.f ((c.tk3 k).f (W Z) l)) Z ?_
 rintro _ w ⟨rfl,s⟩
 have a:=l.g s
 refine gl2<|V 2 Z<|Q<|az ?_
 cases h
 exact ay Z Z (a.d [0] Z Z)
end Go.Proofs
