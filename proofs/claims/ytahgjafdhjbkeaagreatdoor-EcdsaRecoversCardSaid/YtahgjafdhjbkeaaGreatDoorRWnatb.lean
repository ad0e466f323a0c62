import Derived.Test.YtahgjafdhjbkeaaGreatDoorRW0
import Derived.Test.YtahgjafdhjbkeaaGreatDoorGkFman
import Derived.Test.YtahgjafdhjbkeaaGreatDoorRWnata
set_option linter.unusedVariables false
set_option linter.unusedSimpArgs false
set_option linter.unusedSectionVars false
set_option maxRecDepth 4000
namespace Go.Proofs
open Go Go.RowKit Go.Gk
open Go.Gk renaming aa -> V, af -> J, ag -> N, ai -> H, e32 -> X, gl3 -> P, gl4 -> R, own -> U, vI -> I
open Nat renaming le_of_ble_eq_true -> W
theorem xj {u:World} {a0 a1:L0} {g f:Value} {r:L0}
  (h:F.Ih a0 a1=some r) (q:RP [] u X g a0) (l:RP [] u X f a1):Calls Tryz.prog 57 #[g,f] u (Ret fun v w=>St [] u w [U X v r]):=by
 refine aB 73 Tryz.func57 Z Z Z<|have a:=St.k u;ax [(0,g),(1,f)] Z ?_
 unfold F.Ih at h
 refine R<|V 1 Z<|gl2<|V 1 Z<|J h fun c am h=>dQ a Z (dE  am (q.b a.fr).rp) Z fun o w a=>V 1 Z<|J h fun b an h=>dQ a Z (dE  an (l.b a.fr).rp) Z fun j w a=>V 2 Z<|gl2<|V 1 Z<|N (aC u30 Z ((q.tk3 o).b a.fr)) Z<|V 1 Z<|N (aC u30 Z ((l.tk3 j).b a.fr)) Z<|V 1 Z<|J h fun aA ao h=>bC (c9 (e:=X) u30 aN Z Z Z a ao) Z fun m w a=>V 1 Z<|gl1<|R<|V 1 Z<|N (aC u30 Z ((q.tk3 o).b a.fr)) Z<|V 1 Z<|P<|aq<|ax [(6,slV3 f X.sz 0 b b),(7,m),(23,slV3 g X.sz 0 c c),(24,I ((a0.take c).length:Int)),(25,I 0)] Z ?_
 refine aT (F.F3 a0 c a1 b) (fun (s:Int×L0) L w=>L=[(6,slV3 f X.sz 0 b b),(7,m),(23,slV3 g X.sz 0 c c),(24,I ((a0.take c).length:Int)),(25,I s.1)]/\St [] u w [U X m s.2]) ?_ (0,aA) ⟨Z,a⟩ h
 rintro aH ⟨n,aG⟩ L w aJ S T h z
 try dsimp only at S
 obtain⟨rfl,a⟩:=S
 unfold F.F3 at h
 refine R<|V 1 Z<|gl1 ?_
 apply gl9 Z h<;>intro h
 ·refine gl5<|aw<|aq<|R<|V 1 Z<|J h fun d A h=>N (bk u30 aN Z Z ((q.tk3 o).b a.fr) A) Z<|N (a9 u38 Z Z ((q.tk3 o).b a.fr) A Z) Z<|V 2 Z<|gl2<|V 1 Z<|gl1<|R<|V 1 Z<|N (aC u30 Z ((l.tk3 j).b a.fr)) Z<|V 1 Z<|P<|aq<|ax [(6,slV3 f X.sz 0 b b),(7,m),(8,I n),(9,v32 d),(10,v64 0),(23,slV3 g X.sz 0 c c),(24,I ((a0.take c).length:Int)),(25,I n),(30,slV3 f X.sz 0 b b),(31,I ((a1.take b).length:Int)),(32,I 0)] Z ?_
  refine aT (F.EP a1 b n d) (fun (s:UInt64×Int×L0) L w=>L=[(6,slV3 f X.sz 0 b b),(7,m),(8,I n),(9,v32 d),(10,v64 s.1),(23,slV3 g X.sz 0 c c),(24,I ((a0.take c).length:Int)),(25,I n),(30,slV3 f X.sz 0 b b),(31,I ((a1.take b).length:Int)),(32,I s.2.1)]/\St [] u w [U X m s.2.2]) ?_ (0,0,aG) ⟨Z,a⟩ h
  rintro aL ⟨x,ap,aM⟩ L w aP S ab h B
  try dsimp only at S
  obtain⟨rfl,a⟩:=S
  unfold F.EP at h
  refine R<|V 1 Z<|gl1 ?_
  apply gl9 Z h<;>intro h
  ·refine gl5<|aw<|aq<|R<|V 1 Z<|J h fun p C h=>N (bk u30 aN Z Z ((l.tk3 j).b a.fr) C) Z<|N (a9 u38 Z Z ((l.tk3 j).b a.fr) C Z) Z<|V 2 Z<|gl2<|V 2 Z<|N (aD Z (bK u38 u119 d)) Z<|V 1 Z<|N (aD Z (bK u38 u119 p)) Z<|N (aj Z Z (gD _ d.toUInt64 p.toUInt64)) Z<|V 4 Z<|J h fun y D h=>N (bk u30 aN Z Z (a.ro 0 Z) D) Z<|N (a9 u38 Z Z (a.ro 0 Z) D Z) Z<|N (aD Z (bK u38 u119 y)) Z<|N (aj Z Z (bT _ (d.toUInt64*p.toUInt64) y.toUInt64)) Z<|N (aj Z Z (bT _ x ((d.toUInt64*p.toUInt64)+y.toUInt64))) Z<|aZ h fun k ac h=>N (ba (v:=v64 k) (by rw[<-ac]; rfl)) Z<|gl2<|V 5 Z<|N (aD Z (cc u119 u38 k)) Z<|J h fun aS E h=>N (bk u30 aN Z Z (a.ro 0 Z) E) Z<|bo (bX (t:=k.toUInt32) aN Z Z a (i:=0) Z E Z) fun w a=>aZ h fun ar ad h=>?_
   rw[ad]at a
   exact P<|al<|V 1 Z<|N (aj Z Z (cf _ k 32)) Z<|V 1 Z<|aE<|aF<|ak<|al<|V 2 Z<|aE<|bd (bc (ab (aO k 32,wI (ap+1),ar) _ _ ⟨Z,a⟩ (aK h B)) Z)
  refine aQ<|av<|av<|have h:=aI h B;aR<|ak<|al<|V 3 Z<|N (aC u30 Z ((l.tk3 j).b a.fr)) Z<|V 2 Z<|N (aD Z (cc u119 u38 x)) Z<|J h fun aU G h=>N (bk u30 aN Z Z (a.ro 0 Z) G) Z<|bo (bX (t:=x.toUInt32) aN Z Z a (i:=0) Z G Z) fun w a=>aZ h fun au ae h=>?_
  rw[ae]at a
  exact aE<|aF<|ak<|al<|V 2 Z<|aE<|bd (bc (T (wI (n+1),au) _ _ ⟨Z,a⟩ (aK h z)) Z)
 refine aQ<|av<|av<|have h:=aI h z;aR<|ak<|R<|V 1 Z<|J h fun aV ah h=>dQ a Z (eb  ah (a.ro 0 Z).rp) Z fun H w a=>V 1 Z<|P<|ay ?_
 cases h
 replace a:=a.trunc3 (i:=0) rfl H
 exact az Z Z (a.d [0] Z Z)
theorem wa {e:World} {a0:L1} {a1:L0} {b d:Value} {S:L2} {r:L1}
  (h:F.Ie a0 a1=some r) (a:St S e e [U e8 b a0]) (m:RP S e X d a1):Calls Tryz.prog 174 #[b,d] e (Ret fun v w=>v=.tuple #[]/\St S e w [U e8 b r]):=by
 refine aB 38 Tryz.func174 Z Z Z<|ax [(0,b),(1,d)] Z ?_
 unfold F.Ie at h
 refine R<|V 1 Z<|N (aC u24 Z (a.ro 0 Z)) Z<|V 1 Z<|P<|aq<|ax [(0,b),(1,d),(7,I (a0.length:Int)),(8,I 0)] Z ?_
 refine aT (F.HL a0 a1) (fun (s:Int×L1) L w=>L=[(0,b),(1,d),(7,I (a0.length:Int)),(8,I s.1)]/\St S e w [U e8 b s.2]) ?_ (0,a0) ⟨Z,a⟩ h
 rintro T ⟨n,ac⟩ L w C D x h o
 try dsimp only at D
 obtain⟨rfl,a⟩:=D
 unfold F.HL at h
 refine R<|V 1 Z<|gl1 ?_
 apply gl9 Z h<;>intro h
 ·refine gl5 ?_
  refine a8 (r:=C) (fun (g:L1) L w=>L=[(0,b),(1,d),(7,I (a0.length:Int)),(8,I n)]/\St S e w [U e8 b g]) (F.HI n) ?_ ?_
  rotate_left
  ·intro j
   refine aq<|R<|V 2 Z<|gl2<|V 1 Z<|N (aC u24 Z (a.ro 0 Z)) Z<|V 3 Z<|aZ h fun c y h=>N (ba (v:=I c) (by rw[<-y]; rfl)) Z<|gl2<|V 2 Z<|J h fun ad p h=>N (bk u24 ti5 Z Z (a.ro 0 Z) p) Z<|bo (bX (t:=0) ti5 Z Z a (i:=0) Z p Z) fun w a=>aZ h fun E z h=>?_
   rw[z]at a
   refine gl2<|V 1 Z<|N (aj Z Z (dW _ c 4 (by decide))) Z<|V 1 Z<|N (aC u30 Z (m.b a.fr)) Z<|V 1 Z<|P ?_
   apply gl9 Z h<;>intro h
   ·refine al<|V 4 Z<|N (aj Z Z (dW _ c 4 (by decide))) Z<|J h fun f k h=>N (bk u30 aN Z Z (m.b a.fr) k) Z<|N (a9 u38 Z Z (m.b a.fr) k Z) Z<|V 1 Z<|N (aj Z Z (fO _ c 4 (by decide))) Z<|N (aj Z Z (el _ 8 (Int.tmod c 4))) Z<|c7 h fun q h=>N (aj Z Z (rJ _ f (wI (8*(Int.tmod c 4))) q)) Z<|N (aD Z (fM u38 Tryz.underlying5 (bA f (((wI (8*(Int.tmod c 4)))).toNat)))) Z<|J h fun ab l h=>N (bk u24 ti5 Z Z (a.ro 0 Z) l) Z<|bo (bX (t:=((bA f (((wI (8*(Int.tmod c 4)))).toNat)).toUInt8)) ti5 Z Z a (i:=0) Z l Z) fun w a=>aZ h fun A u h=>?_
    rw[u]at a
    exact aE<|aF<|ak<|aG (j A _ _ ⟨Z,a⟩ h) Z
   exact cd<|aF<|ak<|aG (j E _ _ ⟨Z,a⟩ h) Z
  rintro B L w G h
  try dsimp only at G
  obtain⟨rfl,a⟩:=G
  unfold F.HI at h
  exact al<|V 2 Z<|aE<|bd (bc (x (wI (n+1),B) _ _ ⟨Z,a⟩ (aK h o)) Z)
 refine aQ<|av<|av<|have h:=aI h o;aR ?_
 cases h
 exact ip Z ⟨Z,a.d [0] Z Z⟩
theorem uM {d:World} {a0:L0} {b:Value} {r:L1}
  (h:F.IC a0=some r) (c:RP [] d X b a0):Calls Tryz.prog 155 #[b] d (Ret fun v w=>St [] d w [U e8 v r]):=by
 refine aB 16 Tryz.func155 Z Z Z<|have a:=St.k d;ax [(0,b)] Z ?_
 unfold F.IC at h
 refine R<|V 1 Z<|gl2<|V 1 Z<|J h fun n f h=>bf a Z (gx  f (c.b a.fr).rp) Z fun w a=>V 1 Z<|N (aj Z Z (dW _ (wI (n+7)) 8 (by decide))) Z<|aZ h fun o g h=>N (ba (v:=I o) (by rw[<-g]; rfl)) Z<|gl2<|V 1 Z<|J h fun p i h=>bC (c9 (e:=e8) u24 ti5 Z Z Z a i) Z fun q w a=>V 1 Z<|gl2<|V 2 Z<|J h fun t j h=>dQ a Z (dE  j (c.b a.fr).rp) Z fun k w a=>have l:=a.pick (os':=[U e8 q p]++[]) [0] (by decide) Z;J h fun u m h=>aH Z (wa  m l.f ((c.tk3 k).f (W Z) l)) Z ?_
 rintro _ w ⟨rfl,s⟩
 have a:=l.g s
 refine gl2<|V 2 Z<|P<|ay ?_
 cases h
 exact az Z Z (a.d [0] Z Z)
end Go.Proofs
