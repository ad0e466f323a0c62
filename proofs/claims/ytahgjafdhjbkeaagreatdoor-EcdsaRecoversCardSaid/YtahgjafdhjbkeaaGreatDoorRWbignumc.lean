import Derived.Test.YtahgjafdhjbkeaaGreatDoorRW0
import Derived.Test.YtahgjafdhjbkeaaGreatDoorGkFman
import Derived.Test.YtahgjafdhjbkeaaGreatDoorRWbignumb
set_option linter.unusedVariables false
set_option linter.unusedSimpArgs false
set_option linter.unusedSectionVars false
set_option maxRecDepth 4000
namespace Go.Proofs
open Go Go.RowKit Go.Gk
open Go.Gk renaming aa -> V, af -> J, ag -> N, ai -> H, e32 -> X, gl3 -> P, gl4 -> R, own -> U, pB -> O, red -> Q, vB -> K, vI -> I
open Nat renaming le_of_ble_eq_true -> W
open Go.Gk.OE renaming bx -> Y
open Go.Gk.Rds renaming cons -> M
theorem fV {c:World} {l m:L0} {g j:Value} {n o:Nat} (d e:Bool) {r:Int}
  (h:F.ED d l e m=some r) (p:RP [] c X g l) (hBa0:RB [] c n [K d,g]) (q:RP [] c X j m) (hBa1:RB [] c o [K e,j]):Calls Tryz.prog 104 #[O n 0,O o 0] c (Ret fun v w=>v=I r/\St [] c w []):=by
 refine aB 35 Tryz.func104 Z Z Z<|have a:=St.k c;ax [(0,O n 0),(1,O o 0)] Z ?_
 unfold F.ED at h
 refine R<|V 1 Z<|gl1<|aw<|aX (fun w'=>St [] c w' []) (fun _=>true) bQ (fun _ _ _ f=>f.2) (fun _ _ f=>f) (by kernel_rfl)<|have a:=a.drew;show lxE _ _ _ _ _ _ _ [0,1,2,3,4,5,6,7,8] _ _ from ao 1 Z a<|H a Z Z (fun w b=>aL Z) Z<|H a Z Z (fun w b=>am (k:=0) u65 Z Z nz4 Z) Z<|H a Z Z (fun w b=>au Tryz.underlying4 Z Z (hBa0.cell b.fr 0 Z)) Z<|ao 1 Z a<|H a Z Z (fun w b=>aL Z) Z<|H a Z Z (fun w b=>am (k:=0) u65 Z Z nz4 Z) Z<|H a Z Z (fun w b=>au Tryz.underlying4 Z Z (hBa1.cell b.fr 0 Z)) Z<|H a Z Z (fun w b=>aj Z Z (nL _ d e Tryz.underlying4 Z)) Z<|bp a<|ak ?_
 apply gl9 Z h<;>intro h
 ·refine aw<|R<|V 1 Z<|N (aL Z) Z<|N (am (k:=0) u65 Z Z nz4 Z) Z<|N (au Tryz.underlying4 Z Z (hBa0.cell a.fr 0 Z)) Z<|P ?_
  apply gl9 Z h<;>intro h
  ·refine R<|V 1 Z<|gl8<|aU ?_
   cases h
   exact az Z Z ⟨Z,a⟩
  refine gl6<|V 1 Z<|gl8 ?_
  cases h
  exact az Z Z ⟨Z,a⟩
 refine gl5<|aw<|aX (fun w'=>St [] c w' []) (fun i=>!([8].contains i)) bQ (fun _ _ _ f=>f.2) (fun _ _ f=>f) (by kernel_rfl)<|have a:=a.drew;show lxE _ _ _ _ _ _ _ [0,1,2,3,4,5,6,7,8,9] _ _ from ao 1 Z a<|H a Z Z (fun w b=>aL Z) Z<|H a Z Z (fun w b=>am (k:=1) u65 Z Z dV Z) Z<|H a Z Z (fun w b=>au u30 Z Z (hBa0.cell b.fr 1 Z)) Z<|ao 1 Z a<|H a Z Z (fun w b=>aL Z) Z<|H a Z Z (fun w b=>am (k:=1) u65 Z Z dV Z) Z<|H a Z Z (fun w b=>au u30 Z Z (hBa1.cell b.fr 1 Z)) Z<|J h fun t s h=>aY a Z Z (by kernel_rfl) Z (kc  s (p.b a.fr).rp (q.b a.fr).rp) Z ?_
 rintro _ w ⟨rfl,u⟩
 have a:=a.e u
 refine ao 1 Z a<|bp a<|ak<|aw<|R<|V 1 Z<|N (aL Z) Z<|N (am (k:=0) u65 Z Z nz4 Z) Z<|N (au Tryz.underlying4 Z Z (hBa0.cell a.fr 0 Z)) Z<|P ?_
 apply gl9 Z h<;>intro h
 ·refine R<|V 1 Z<|N (jV Z (Co t)) Z<|V 1 Z<|gl8 ?_
  cases h
  exact az Z Z ⟨Z,a⟩
 refine gl6<|V 2 Z<|P<|ay ?_
 cases h
 exact az Z Z ⟨Z,a⟩
theorem jk {o:World} {f:L0} {j:Value} {d:Nat} (p:Bool) {r:L1}
  (h:F.GN p f=some r) (c:RP [] o X j f) (hBa0:RB [] o d [K p,j]):Calls Tryz.prog 109 #[O d 0] o (Ret fun v w=>St [] o w [U e8 v r]):=by
 refine aB 41 Tryz.func109 Z Z Z<|have a:=St.k o;ax [(0,O d 0)] Z ?_
 unfold F.GN at h
 refine R<|V 1 Z<|gl2<|V 1 Z<|N (aL Z) Z<|N (am (k:=1) u65 Z Z dV Z) Z<|N (au u30 Z Z (hBa0.cell a.fr 1 Z)) Z<|J h fun D y h=>bf a Z (iL  y (c.b a.fr).rp) Z fun w a=>V 1 Z<|N (aj Z Z (dW _ (wI (D+7)) 8 (by decide))) Z<|aZ h fun l z h=>N (ba (v:=I l) (by rw[<-z]; rfl)) Z<|gl2<|V 1 Z<|J h fun E A h=>bC (c9 (e:=e8) u24 ti5 Z Z Z a A) Z fun q w a=>V 1 Z<|gl1<|R<|V 1 Z<|P<|aq<|ax [(0,O d 0),(3,I l),(4,q),(5,I 0)] Z ?_
 refine aT (F.HU f l) (fun (s:Int×L1) L w=>L=[(0,O d 0),(3,I l),(4,q),(5,I s.1)]/\St [] o w [U e8 q s.2]) ?_ (0,E) ⟨Z,a⟩ h
 rintro S ⟨b,ac⟩ L w T G B h u
 try dsimp only at G
 obtain⟨rfl,a⟩:=G
 unfold F.HU at h
 refine aw<|R<|V 3 Z<|P ?_
 apply gl9 Z h<;>intro h
 ·refine gl5<|aw<|aq<|al<|V 6 Z<|N (aL Z) Z<|N (am (k:=1) u65 Z Z dV Z) Z<|N (au u30 Z Z (hBa0.cell a.fr 1 Z)) Z<|V 1 Z<|N (aj Z Z (dW _ b 4 (by decide))) Z<|J h fun g m h=>N (bk u30 aN Z Z (c.b a.fr) m) Z<|N (a9 u38 Z Z (c.b a.fr) m Z) Z<|V 1 Z<|N (aD Z (dC u3 u87 b)) Z<|N (aj Z Z (ft _ (UInt64.ofInt b) 4 (by decide))) Z<|N (aj Z Z (gD _ 8 ((UInt64.ofInt b)%4))) Z<|N (aj Z Z (cO _ g (8*((UInt64.ofInt b)%4)))) Z<|N (aD Z (fM u38 Tryz.underlying5 (bA g ((8*((UInt64.ofInt b)%4)).toNat)))) Z<|J h fun ab n h=>N (bk u24 ti5 Z Z (a.ro 0 Z) n) Z<|bo (bX (t:=((bA g ((8*((UInt64.ofInt b)%4)).toNat)).toUInt8)) ti5 Z Z a (i:=0) Z n Z) fun w a=>aZ h fun C x h=>?_
  rw[x]at a
  exact aE<|aF<|ak<|al<|V 3 Z<|aE<|bd (bc (B (wI (b+1),C) _ _ ⟨Z,a⟩ (aK h u)) Z)
 refine aQ<|av<|av<|have h:=aI h u;aR<|ak<|R<|V 2 Z<|P<|ay ?_
 cases h
 exact az Z Z (a.d [0] Z Z)
theorem de {c:World} {d:L0} {a:Value} {e:Nat} (f:Bool) {r:Int}
  (h:F.DD f d=some r) (g:RP [] c X a d) (hBa0:RB [] c e [K f,a]):Calls Tryz.prog 72 #[O e 0] c (Ret fun v w=>v=I r/\St [] c w []):=by
 refine aB 13 Tryz.func72 Z Z Z<|have b:=St.k c;ax [(0,O e 0)] Z ?_
 unfold F.DD at h
 refine R<|V 1 Z<|gl1<|R<|V 1 Z<|N (aL Z) Z<|N (am (k:=1) u65 Z Z dV Z) Z<|N (au u30 Z Z (hBa0.cell b.fr 1 Z)) Z<|N (aC u30 Z (g.b b.fr)) Z<|V 1 Z<|P ?_
 apply gl9 Z h<;>intro h
 ·refine R<|V 1 Z<|gl8 ?_
  cases h
  exact az Z Z ⟨Z,b⟩
 refine gl5<|aw<|R<|V 1 Z<|N (aL Z) Z<|N (am (k:=0) u65 Z Z nz4 Z) Z<|N (au Tryz.underlying4 Z Z (hBa0.cell b.fr 0 Z)) Z<|P ?_
 apply gl9 Z h<;>intro h
 ·refine R<|V 1 Z<|gl8 ?_
  cases h
  exact az Z Z ⟨Z,b⟩
 refine gl6<|V 1 Z<|P<|ay ?_
 cases h
 exact az Z Z ⟨Z,b⟩
theorem iN {b:World} {c:L0} {a:Value} {d:Nat} (e:Bool) {r:Int}
  (h:F.Hh e c=some r) (g:RP [] b X a c) (hBa0:RB [] b d [K e,a]):Calls Tryz.prog 64 #[O d 0] b (Ret fun v w=>v=I r/\St [] b w []):=by
 refine aB 8 Tryz.func64 Z Z Z<|have f:=St.k b;ax [(0,O d 0)] Z ?_
 unfold F.Hh at h
 refine R<|V 1 Z<|gl2<|V 1 Z<|N (aL Z) Z<|N (am (k:=1) u65 Z Z dV Z) Z<|N (au u30 Z Z (hBa0.cell f.fr 1 Z)) Z<|J h fun j i h=>bf f Z (iL  i (g.b f.fr).rp) Z fun w f=>V 1 Z<|P<|ay ?_
 cases h
 exact az Z Z ⟨Z,f⟩
theorem nv {d:World} {a0:L0} {c:Value} (a1:Int) {r:UInt64}
  (h:F.Hw a0 a1=some r) (e:RP [] d X c a0):Calls Tryz.prog 124 #[c,I a1] d (Ret fun v w=>v=v64 r/\St [] d w []):=by
 refine aB 25 Tryz.func124 Z Z Z<|have b:=St.k d;ax [(0,c),(1,I a1)] Z ?_
 unfold F.Hw at h
 refine R<|V 1 Z<|gl1 ?_
 refine a8 (r:=r) (fun (g:Bool) L w=>L=[(0,c),(1,I a1),(13,K g)]/\St [] d w []) (F.IE a0 a1) ?_ ?_
 rotate_left
 ·intro f
  refine al<|V 3 Z ?_
  cases a:(decide (a1<0))
  case true=>
   have h:=cz h a
   try simp only[a]
   exact V 6 Z<|P<|aG (f true _ _ ⟨Z,b⟩ h) Z
  case false=>
   have h:=cA h a
   try simp only[a]
   exact V 1 Z<|bB (t:=7) Z Z (aj Z Z (dW _ a1 32 (by decide))) Z<|V 1 Z<|bB (t:=7) Z Z (aC u30 Z (e.b b.fr)) Z<|V 2 Z<|P<|aG (f (decide ((a0.length:Int)<=(wI (Int.tdiv a1 32)))) _ _ ⟨Z,b⟩ h) Z
 rintro l L w k h
 try dsimp only at k
 obtain⟨rfl,b⟩:=k
 unfold F.IE at h
 apply gl9 Z h<;>intro h
 ·refine R<|V 1 Z<|gl8 ?_
  cases h
  exact az Z Z ⟨Z,b⟩
 refine gl6<|V 2 Z<|N (aj Z Z (dW _ a1 32 (by decide))) Z<|J h fun i j h=>N (bk u30 aN Z Z (e.b b.fr) j) Z<|N (a9 u38 Z Z (e.b b.fr) j Z) Z<|V 1 Z<|N (aD Z (dC u3 u87 a1)) Z<|N (aj Z Z (ft _ (UInt64.ofInt a1) 32 (by decide))) Z<|N (aj Z Z (cO _ i ((UInt64.ofInt a1)%32))) Z<|N (aD Z (bK u38 u87 (bA i (((UInt64.ofInt a1)%32).toNat)))) Z<|N (aj Z Z (eu _ ((bA i (((UInt64.ofInt a1)%32).toNat)).toUInt64) 1)) Z<|V 1 Z<|P<|ay ?_
 cases h
 exact az Z Z ⟨Z,b⟩
theorem jU {d:World} {f:L0} {b:Value} {g:Nat} (i:Bool) (a1:Int) {r:UInt64}
  (h:F.G6 i f a1=some r) (c:RP [] d X b f) (hBa0:RB [] d g [K i,b]):Calls Tryz.prog 65 #[O g 0,I a1] d (Ret fun v w=>v=v64 r/\St [] d w []):=by
 refine aB 27 Tryz.func65 Z Z Z<|have a:=St.k d;ax [(0,O g 0),(1,I a1)] Z ?_
 unfold F.G6 at h
 refine R<|V 1 Z<|gl1<|R<|V 2 Z<|P ?_
 apply gl9 Z h<;>intro h
 ·refine R<|V 1 Z<|gl8 ?_
  cases h
  exact az Z Z ⟨Z,a⟩
 refine gl5<|aw<|R<|V 1 Z<|N (aL Z) Z<|N (am (k:=0) u65 Z Z nz4 Z) Z<|N (au Tryz.underlying4 Z Z (hBa0.cell a.fr 0 Z)) Z<|V 1 Z<|P ?_
 apply gl9 Z h<;>intro h
 ·refine R<|V 1 Z<|N (aL Z) Z<|N (am (k:=1) u65 Z Z dV Z) Z<|N (au u30 Z Z (hBa0.cell a.fr 1 Z)) Z<|V 1 Z<|J h fun p j h=>bf a Z (nv a1 j (c.b a.fr).rp) Z fun w a=>V 1 Z<|gl8 ?_
  cases h
  exact az Z Z ⟨Z,a⟩
 refine gl6<|V 1 Z<|N (aL Z) Z<|N (am (k:=1) u65 Z Z dV Z) Z<|N (au u30 Z Z (hBa0.cell a.fr 1 Z)) Z<|bC (cq (e:=X) (l:=([1]:L0)) (vs:=[v32 1]) u30 aN Z Z Z Z (by decide) (by decide) a) Z fun q w a=>J h fun s m h=>aV a Z (jR  m (c.b a.fr).rp (a.ro 0 Z).rp) Z fun t w a=>V 1 Z<|J h fun o n h=>bf a Z (nv a1 n (a.ro 0 Z).rp) Z fun w a=>N (aj Z Z (dr _ o 1)) Z<|V 1 Z<|P<|ay ?_
 cases h
 exact az Z Z ⟨Z,a.d [] Z Z⟩
theorem fi {g:World} {d i:L0} {a f:Value} {b j:Nat} {S:L2} (c l:Bool) {r:Bool×L0}
  (h:F.Ek c d l i=some r) (e:St S g g [Y b [K c,a],U X a d]) (n:RP S g X f i) (hBa1:RB S g j [K l,f]):Calls Tryz.prog 156 #[O b 0,O j 0] g (Ret fun v w=>∃m:Value,v=O b 0/\St S g w [Y b [K r.1,m],U X m r.2]):=by
 refine aB 12 Tryz.func156 Z Z Z<|ax [(0,O b 0),(1,O j 0)] Z ?_
 unfold F.Ek at h
 refine R<|V 1 Z<|gl2<|V 2 Z<|N (aL Z) Z<|N (am (k:=1) u65 Z Z dV Z) Z<|N (au u30 Z Z (hBa1.cell e.fr 1 Z)) Z<|J h fun q o h=>aV e Z (jy  o (n.b e.fr).rp) Z fun s w e=>have t:=e.pick (os':=[Y b [K c,a],U X a d,U X s q]++[]) [1,2,0] (by decide) Z;J h fun y p h=>aH Z (bW c false p t.f ) Z ?_
 rintro _ w ⟨u,rfl,x⟩
 have e:=t.g x
 refine V 1 Z<|P<|ay ?_
 cases h
 exact az Z Z ⟨u,Z,e.d [0,1] Z Z⟩
theorem lI {i:World} {d j:L0} {b g:Value} {a k:Nat} {S:L2} (c e:Bool) {r:Bool×L0}
  (h:F.IB c d e j=some r) (f:St S i i [Y a [K c,b],U X b d]) (m:RP S i X g j) (hBa2:RB S i k [K e,g]):Calls Tryz.prog 178 #[O a 0,O a 0,O k 0] i (Ret fun v w=>∃l:Value,v=O a 0/\St S i w [Y a [K r.1,l],U X l r.2]):=by
 refine aB 13 Tryz.func178 Z Z Z<|ax [(0,O a 0),(1,O a 0),(2,O k 0)] Z ?_
 unfold F.IB at h
 refine R<|V 1 Z<|gl2<|V 3 Z<|bg (bb (cs:=[K false,L3]) eM Z f) Z fun p w f=>?_
 replace f:=f.nil X
 have n:=f.pick (os':=[Y a [K c,b],U X b d,Y p [K false,L3],U X (.slice none 0 0) []]++[]) [2,3,1,0] (by decide) Z
 refine J h fun t o h=>aH Z (kj c e false o n.f (m.f (W Z) n) (hBa2.f n)) Z ?_
 rintro _ w ⟨q,u,rfl,s⟩
 have f:=n.g s
 refine gl2<|V 2 Z<|P<|ay ?_
 cases h
 exact az Z Z ⟨q,Z,f.d [0,1] Z Z⟩
theorem oX {G:World} {o m A B:L0} {c b y z:Value} {n l T ab:Nat} {S:L2} (j e q x:Bool) {r:Bool×L0×Bool×L0}
  (h:F.Jh j o e m q A x B=some r) (a:St S G G [Y n [K j,c],U X c o,Y l [K e,b],U X b m]) (bY:RP S G X y A) (hBa3:RB S G T [K q,y]) (bZ:RP S G X z B) (hBa4:RB S G ab [K x,z]):Calls Tryz.prog 157 #[O n 0,O l 0,.pointer none,O T 0,O ab 0] G (Ret fun v w=>∃bJ bK:Value,v=O n 0/\St S G w [Y n [K r.1,bJ],U X bJ r.2.1,Y l [K r.2.2.1,bK],U X bK r.2.2.2]):=by
 refine aB 161 Tryz.func157 Z Z Z<|have E:=Fz.k (S:=S) (w0:=G);?_
 have hTT:TOk S [] G:=TOk.nil
 have f:Rds S G [Y ab [K x,z],Q X z B,Y T [K q,y],Q X y A]:=M hBa4.h (M (RP.h (W Z) bZ) (M hBa3.h (M (RP.h (W Z) bY) (Rds.nil))))
 have hP:Off [] [Y ab [K x,z],Q X z B,Y T [K q,y],Q X y A]:=Off.emp
 refine ax [(0,O n 0),(1,O l 0),(2,.pointer none),(3,O T 0),(4,O ab 0)] Z ?_
 unfold F.Jh at h
 refine R<|V 1 Z<|gl1 ?_
 refine a8 (r:=r) (fun (g:Bool) L w=>L=[(0,O n 0),(1,O l 0),(2,.pointer none),(3,O T 0),(4,O ab 0),(35,K g)]/\SfT S [] G w [Y ab [K x,z],Q X z B,Y T [K q,y],Q X y A] [Y n [K j,c],U X c o,Y l [K e,b],U X b m]) (F.IM j o q A x B e m) ?_ ?_
 rotate_left
 ·intro bL
  refine al<|V 1 Z<|N (aL Z) Z<|N (am (k:=1) u65 Z Z dV Z) Z<|N (au u30 Z Z ((f.rb 1 Z).cell a.fr 1 Z)) Z<|N (aC u30 Z ((f.rp 0 Z).b a.fr)) Z<|V 2 Z ?_
  cases aS:((A.length:Int) == 0)
  case true=>
   have h:=cz h aS
   try simp only[aS]
   exact V 7 Z<|P<|aG (bL true _ _ ⟨Z,(SfT.mk' E (f.pick [3,2,1,0] Z) (hP.pick [3,2,1,0] Z) a)⟩ h) Z
  case false=>
   have h:=cA h aS
   try simp only[aS]
   exact V 1 Z<|bB (t:=28) Z Z (aL Z) Z<|bB (t:=28) Z Z (am (k:=1) u65 Z Z dV Z) Z<|bB (t:=28) Z Z (au u30 Z Z ((f.rb 3 Z).cell a.fr 1 Z)) Z<|bB (t:=28) Z Z (aC u30 Z ((f.rp 2 Z).b a.fr)) Z<|V 2 Z<|P<|aG (bL ((B.length:Int) == 0) _ _ ⟨Z,(SfT.mk' E (f.pick [3,2,1,0] Z) (hP.pick [3,2,1,0] Z) a)⟩ h) Z
 rintro cE L w hJ h
 try dsimp only at hJ
 obtain⟨rfl,⟨cc,bM,E,f,hP,a⟩⟩:=hJ
 unfold F.IM at h
 apply gl9 Z h<;>intro h
 ·refine aw<|aX (fun w'=>St cc bM w' [Y n [K j,c],U X c o,Y l [K e,b],U X b m]) (fun _=>true) bQ (fun _ _ _ hf=>hf.2) (fun _ _ hf=>hf) (by kernel_rfl)<|have a:=a.drew;show lxE _ _ _ _ _ _ _ [0,1,2,3,4,5,6,7,8,9,10,11] _ _ from ao 1 Z a<|H a Z Z (fun w D=>aL Z) Z<|H a Z Z (fun w D=>am (k:=1) u65 Z Z dV Z) Z<|H a Z Z (fun w D=>au u30 Z Z ((f.rb 1 Z).cell D.fr 1 Z)) Z<|H a Z Z (fun w D=>aC u30 Z ((f.rp 0 Z).b D.fr)) Z<|ao 1 Z a<|H a Z Z (fun w D=>aL Z) Z<|H a Z Z (fun w D=>am (k:=1) u65 Z Z dV Z) Z<|H a Z Z (fun w D=>au u30 Z Z ((f.rb 3 Z).cell D.fr 1 Z)) Z<|H a Z Z (fun w D=>aC u30 Z ((f.rp 2 Z).b D.fr)) Z<|ao 2 Z a<|bp a<|ak<|aw<|aX (fun w'=>St cc bM w' [Y n [K j,c],U X c o,Y l [K e,b],U X b m]) (fun _=>true) bQ (fun _ _ _ hf=>hf.2) (fun _ _ hf=>hf) (by kernel_rfl)<|have a:=a.drew;show lxE _ _ _ _ _ _ _ [0,1,2,3,4,5,6,7,8,9] _ _ from ao 1 Z a<|H a Z Z (fun w D=>aL Z) Z<|H a Z Z (fun w D=>am (k:=0) u65 Z Z nz4 Z) Z<|H a Z Z (fun w D=>au Tryz.underlying4 Z Z ((f.rb 1 Z).cell D.fr 0 Z)) Z ?_
  refine ao 1 Z a<|H a Z Z (fun w D=>aL Z) Z<|H a Z Z (fun w D=>am (k:=0) u65 Z Z nz4 Z) Z<|H a Z Z (fun w D=>au Tryz.underlying4 Z Z ((f.rb 3 Z).cell D.fr 0 Z)) Z<|ao 2 Z a<|bp a<|ak ?_
  refine a8 (r:=r) (fun (g:Bool×L0) L w=>∃(C:Value),L=[(0,O n 0),(1,O l 0),(2,.pointer none),(11,I (A.length:Int)),(12,I (B.length:Int)),(13,K q),(14,K x)]/\SfT S [] G w [] [U X C g.2,Y n [K g.1,C],Y l [K e,b],U X b m]) (F.Js e m q A) ?_ ?_
  rotate_left
  ·intro bC
   refine R<|V 2 Z<|P ?_
   apply gl9 Z h<;>intro h
   ·refine al<|V 2 Z<|have d:=a.pick (os':=[Y n [K j,c],U X c o]++[Y l [K e,b],U X b m]) [0,1,2,3] (by decide) Z;J h fun bN b0 h=>aH Z (fi j x b0 d.f ((f.rp 2 Z).f (W Z) d) ((f.rb 3 Z).f d)) Z ?_
    rintro _ w ⟨cd,rfl,p⟩
    have a:=d.g p
    exact P<|aG (bC (bN.1,bN.2) _ _ ⟨cd,Z,(SfT.mk' E Rds.nil Off.nil (a.d [1,0,2,3] Z Z))⟩ h) Z
   refine al<|V 2 Z<|have d:=a.pick (os':=[Y n [K j,c],U X c o]++[Y l [K e,b],U X b m]) [0,1,2,3] (by decide) Z;J h fun bO b1 h=>aH Z (fi j q b1 d.f ((f.rp 0 Z).f (W Z) d) ((f.rb 1 Z).f d)) Z ?_
   rintro _ w ⟨ce,rfl,p⟩
   have a:=d.g p
   exact P<|aG (bC (bO.1,bO.2) _ _ ⟨ce,Z,(SfT.mk' E Rds.nil Off.nil (a.d [1,0,2,3] Z Z))⟩ h) Z
  rintro⟨aU,aV⟩ L w hJ h
  try dsimp only at hJ
  obtain⟨C,rfl,⟨ct,cl,E,f,hP,a⟩⟩:=hJ
  unfold F.Js at h
  refine a8 (r:=r) (fun (g:Bool×L0) L w=>∃(aW:Value),L=[(0,O n 0),(2,.pointer none),(11,I (A.length:Int)),(12,I (B.length:Int)),(14,K x)]/\SfT S [] G w [] [Y n [K aU,C],U X C aV,U X aW g.2,Y l [K g.1,aW]]) (F.Jk aU aV) ?_ ?_
  rotate_left
  ·intro bD
   refine R<|V 1 Z<|N (aj Z Z (nc u59 l 0)) Z<|P<|fR Z<|R<|V 1 Z<|have d:=a.pick (os':=[Y l [K e,b],U X b m]++[U X C aV,Y n [K aU,C]]) [2,3,0,1] (by decide) Z;J h fun aJ b2 h=>aH Z (fJ e 0 b2 d.f ) Z ?_
   rintro _ w ⟨bj,rfl,p⟩
   have a:=d.g p
   refine gl2<|V 2 Z<|P ?_
   apply gl9 Z h<;>intro h
   ·refine R<|V 1 Z<|have d:=a.pick (os':=[Y l [K aJ.1,bj],U X bj aJ.2]++[U X C aV,Y n [K aU,C]]) [0,1,2,3] (by decide) Z;J h fun cf b3 h=>aH Z (fJ aJ.1 1 b3 d.f ) Z ?_
    rintro _ w ⟨cg,rfl,p⟩
    have a:=d.g p
    refine P<|al<|V 2 Z<|N (aL Z) Z<|N (am (k:=0) u65 Z Z nz4 Z) Z<|bo (bz (i:=0) (us:=[K q]) Z sz4 Z Z Z ⟨Z,trivial⟩ Z a) fun w a=>P ?_
    exact aG (bD (q,cf.2) _ _ ⟨cg,Z,(SfT.mk' E Rds.nil Off.nil (a.d [3,2,1,0] Z Z))⟩ h) Z
   exact gl5<|aG (bD (aJ.1,aJ.2) _ _ ⟨bj,Z,(SfT.mk' E Rds.nil Off.nil (a.d [3,2,1,0] Z Z))⟩ h) Z
  rintro⟨cu,cv⟩ L w hJ h
  try dsimp only at hJ
  obtain⟨aW,rfl,⟨cw,cm,E,f,hP,a⟩⟩:=hJ
  unfold F.Jk at h
  refine aw<|R<|V 1 Z<|N (aj Z Z (pQ u59)) Z<|P<|ik Z<|gl6<|V 2 Z<|gl8 ?_
  cases h
  replace a:=E.st a
  exact az Z Z ⟨C,aW,Z,a.d [0,1,3,2] Z Z⟩
 refine gl6<|bg (bb (cs:=[K false,L3]) eM Z a) Z fun aM w a=>V 1 Z ?_
 replace a:=a.nil X
 have d:=a.pick (os':=[Y aM [K false,L3],U X (.slice none 0 0) []]++[Y n [K j,c],U X c o,Y l [K e,b],U X b m]) [1,0,2,3,4,5] (by decide) Z
 refine J h fun ae b4 h=>aH Z (fi false q b4 d.f ((f.rp 0 Z).f (W Z) d) ((f.rb 1 Z).f d)) Z ?_
 rintro _ w ⟨aN,rfl,p⟩
 have a:=d.g p
 refine bg (bb (cs:=[K false,L3]) eM Z a) Z fun aY w a=>V 1 Z ?_
 replace a:=a.nil X
 have d:=a.pick (os':=[Y aY [K false,L3],U X (.slice none 0 0) []]++[Y aM [K ae.1,aN],U X aN ae.2,Y n [K j,c],U X c o,Y l [K e,b],U X b m]) [1,0,2,3,4,5,6,7] (by decide) Z
 refine J h fun aZ b5 h=>aH Z (fi false x b5 d.f ((f.rp 2 Z).f (W Z) d) ((f.rb 3 Z).f d)) Z ?_
 rintro _ w ⟨bk,rfl,p⟩
 have a:=d.g p
 refine V 2 Z<|gl2<|J h fun a0 b6 h=>bE a Z (dm 1 b6 ) Z fun bl bm w a=>J h fun a1 b7 h=>bE a Z (dm 0 b7 ) Z fun bn bq w a=>V 2 Z<|gl1<|aq ?_
 replace a:=a.pick (os':=[Y bq [K a1.1,bn],U X bn a1.2,Y bm [K a0.1,bl],U X bl a0.2,Y aY [K aZ.1,bk],U X bk aZ.2,Y aM [K ae.1,aN],U X aN ae.2]++[Y n [K j,c],U X c o,Y l [K e,b],U X b m]) [0,1,2,3,4,5,6,7,8,9,10,11] (by decide) rfl
 obtain⟨cx,cn,E,f,hP,a⟩:=E.frzT hTT f hP a
 refine ax [(0,O n 0),(1,O l 0),(2,.pointer none),(3,O T 0),(4,O ab 0),(15,O aM 0),(16,O aY 0),(17,O bm 0),(18,O bq 0)] Z ?_
 refine aT (F.Gy j o e m q A x B) (fun (s:Bool×L0×Bool×L0×Bool×L0×Bool×L0) L w=>∃(br:Nat) (bs:Value) (a2:Nat) (a3:Value) (bt:Nat) (bu:Value) (a4:Nat) (a5:Value),L=[(0,O n 0),(1,O l 0),(2,.pointer none),(3,O T 0),(4,O ab 0),(15,O br 0),(16,O a2 0),(17,O bt 0),(18,O a4 0)]/\SfT S [] G w [Y a4 [K s.2.2.2.2.2.2.1,a5],Q X a5 s.2.2.2.2.2.2.2,Y bt [K s.2.2.2.2.1,bu],Q X bu s.2.2.2.2.2.1,Y a2 [K s.2.2.1,a3],Q X a3 s.2.2.2.1,Y br [K s.1,bs],Q X bs s.2.1,Y ab [K x,z],Q X z B,Y T [K q,y],Q X y A] [Y n [K j,c],U X c o,Y l [K e,b],U X b m]) ?_ (ae.1,ae.2,aZ.1,aZ.2,a0.1,a0.2,a1.1,a1.2) ⟨aM,aN,aY,bk,bm,bl,bq,bn,Z,(SfT.mk' E (f.pick [11,10,9,8,7,6,5,4,3,2,1,0] Z) (hP.pick [11,10,9,8,7,6,5,4,3,2,1,0] Z) a)⟩ h
 rintro co ⟨bv,cy,bP,ch,bw,cB,bR,ci⟩ L w cC hI b8 h bF
 try dsimp only at hI
 obtain⟨br,bs,a2,a3,bt,bu,a4,a5,rfl,⟨cD,cp,E,f,hP,a⟩⟩:=hI
 unfold F.Gy at h
 refine aw<|R<|V 1 Z<|N (aL Z) Z<|N (am (k:=1) u65 Z Z dV Z) Z<|N (au u30 Z Z ((f.rb 7 Z).cell a.fr 1 Z)) Z<|N (aC u30 Z ((f.rp 6 Z).b a.fr)) Z<|V 1 Z<|P ?_
 apply gl9 Z h<;>intro h
 ·refine gl5<|aq<|R<|bg (bb (cs:=[K false,L3]) eM Z a) Z fun a6 w a=>V 2 Z<|bg (bb (cs:=[K false,L3]) eM Z a) Z fun aO w a=>?_
  replace a:=a.nil X
  replace a:=a.nil X
  have d:=a.pick (os':=[Y a6 [K false,L3],U X (.slice none 0 0) [],Y aO [K false,L3],U X (.slice none 0 0) []]++[Y n [K j,c],U X c o,Y l [K e,b],U X b m]) [3,1,2,0,4,5,6,7] (by decide) Z
  refine J h fun u b9 h=>aH Z (iM false bv bP false b9 d.f ((f.rp 4 Z).f (W Z) d) ((f.rb 5 Z).f d) ((f.rp 6 Z).f (W Z) d) ((f.rb 7 Z).f d)) Z ?_
  rintro _ w ⟨ah,ac,rfl,p⟩
  have a:=d.g p
  refine V 5 Z<|gl2<|V 4 Z<|P<|al<|V 1 Z<|bg (bb (cs:=[K false,L3]) eM Z a) Z fun a7 w a=>V 1 Z<|bg (bb (cs:=[K false,L3]) eM Z a) Z fun bA w a=>V 2 Z ?_
  replace a:=a.nil X
  have d:=a.pick (os':=[Y bA [K false,L3],U X (.slice none 0 0) []]++[Y a7 [K false,L3],Y a6 [K u.1,ah],U X ah u.2.1,Y aO [K u.2.2.1,ac],U X ac u.2.2.2,Y n [K j,c],U X c o,Y l [K e,b],U X b m]) [1,0,2,3,4,5,6,7,8,9,10] (by decide) Z
  refine J h fun aP ca h=>aH Z (g9 false u.1 bR ca d.f (d.giveO 2 Z) (d.giveB 1 Z) ((f.rp 10 Z).f (W Z) d) ((f.rb 11 Z).f d)) Z ?_
  rintro _ w ⟨ap,rfl,p⟩
  have a:=d.g p
  replace a:=a.nil X
  have d:=a.pick (os':=[Y a7 [K false,L3],U X (.slice none 0 0) []]++[Y bA [K aP.1,ap],U X ap aP.2,Y a6 [K u.1,ah],U X ah u.2.1,Y aO [K u.2.2.1,ac],U X ac u.2.2.2,Y n [K j,c],U X c o,Y l [K e,b],U X b m]) [3,0,1,2,4,5,6,7,8,9,10,11] (by decide) Z
  refine J h fun ar bS h=>aH Z (j7 false bw aP.1 bS d.f ((f.rp 8 Z).f (W Z) d) ((f.rb 9 Z).f d) (d.giveO 1 Z) (d.giveB 0 Z)) Z ?_
  rintro _ w ⟨a9,rfl,p⟩
  have a:=d.g p
  refine V 2 Z<|aE<|aF ?_
  replace a:=a.pick (os':=[Y a7 [K ar.1,a9],U X a9 ar.2,Y bA [K aP.1,ap],U X ap aP.2,Y a6 [K u.1,ah],U X ah u.2.1,Y aO [K u.2.2.1,ac],U X ac u.2.2.2]++[Y n [K j,c],U X c o,Y l [K e,b],U X b m]) [0,1,2,3,4,5,6,7,8,9,10,11] (by decide) rfl
  obtain⟨cq,ck,E,f,hP,a⟩:=E.frzT hTT f hP a
  exact bd (bc (b8 (bP,ch,u.2.2.1,u.2.2.2,bR,ci,ar.1,ar.2) _ _ ⟨a2,a3,aO,ac,a4,a5,a7,a9,Z,(SfT.mk' E (f.pick [19,18,11,10,13,12,7,6,3,2,1,0] Z) (hP.pick [19,18,11,10,13,12,7,6,3,2,1,0] Z) a)⟩ (aK h bF)) Z)
 refine aQ<|av<|av<|have h:=aI h bF;aR<|ak<|aw<|R<|V 1 Z<|N (aj Z Z (nc u59 l 0)) Z<|V 4 Z<|P<|fR Z<|aw<|R<|V 1 Z<|N (aL Z) Z<|N (am (k:=0) u65 Z Z nz4 Z) Z<|N (au Tryz.underlying4 Z Z ((f.rb 1 Z).cell a.fr 0 Z)) Z<|P ?_
 apply gl9 Z h<;>intro h
 ·refine al<|V 2 Z ?_
  cases h
 refine gl6<|bg (bb (cs:=[K false,L3]) eM Z a) Z fun ad w a=>V 2 Z ?_
 replace a:=a.nil X
 have d:=a.pick (os':=[Y ad [K false,L3],U X (.slice none 0 0) []]++[Y n [K j,c],U X c o,Y l [K e,b],U X b m]) [1,0,2,3,4,5] (by decide) Z
 refine J h fun ba bT h=>aH Z (g9 false q bw bT d.f ((f.rp 0 Z).f (W Z) d) ((f.rb 1 Z).f d) ((f.rp 8 Z).f (W Z) d) ((f.rb 9 Z).f d)) Z ?_
 rintro _ w ⟨bG,rfl,p⟩
 have a:=d.g p
 refine V 1 Z<|gl2<|V 3 Z<|have d:=a.pick (os':=[Y ad [K ba.1,bG],U X bG ba.2]++[Y n [K j,c],U X c o,Y l [K e,b],U X b m]) [0,1,2,3,4,5] (by decide) Z;J h fun be bU h=>aH Z (mg ba.1 bv bU d.f ((f.rp 4 Z).f (W Z) d) ((f.rb 5 Z).f d)) Z ?_
 rintro _ w ⟨bH,rfl,p⟩
 have a:=d.g p
 refine gl2<|V 3 Z<|have d:=a.pick (os':=[Y ad [K be.1,bH],U X bH be.2]++[Y n [K j,c],U X c o,Y l [K e,b],U X b m]) [0,1,2,3,4,5] (by decide) Z;J h fun aA bV h=>aH Z (lI be.1 x bV d.f ((f.rp 2 Z).f (W Z) d) ((f.rb 3 Z).f d)) Z ?_
 rintro _ w ⟨aD,rfl,p⟩
 have a:=d.g p
 refine gl1<|R<|V 1 Z<|N (aj Z Z (pQ u59)) Z<|P<|ik Z<|gl6<|V 1 Z<|N (aj Z Z (nc u59 l 0)) Z<|P<|fR Z<|al<|V 2 Z<|have d:=a.pick (os':=[Y l [K e,b],U X b m]++[Y ad [K aA.1,aD],U X aD aA.2,Y n [K j,c],U X c o]) [4,5,0,1,2,3] (by decide) Z;J h fun bI bW h=>aH Z (fZ e bw bW d.f ((f.rp 8 Z).f (W Z) d) ((f.rb 9 Z).f d)) Z ?_
 rintro _ w ⟨bf,rfl,p⟩
 have a:=d.g p
 refine gl2<|V 2 Z<|have d:=a.pick (os':=[Y n [K j,c],U X c o]++[Y l [K bI.1,bf],U X bf bI.2,Y ad [K aA.1,aD],U X aD aA.2]) [4,5,0,1,2,3] (by decide) Z;J h fun cr bX h=>aH Z (fZ j bv bX d.f ((f.rp 4 Z).f (W Z) d) ((f.rb 5 Z).f d)) Z ?_
 rintro _ w ⟨cb,rfl,p⟩
 have a:=d.g p
 refine V 1 Z<|P<|ay ?_
 cases h
 replace a:=E.st a
 exact az Z Z ⟨cb,bf,Z,a.d [0,1,2,3] Z Z⟩
theorem kl {n:World} {g x y:L0} {b s t:Value} {e z A:Nat} {S:L2} (d o p:Bool) {r:Bool×L0}
  (h:F.Gw d g o x p y=some r) (a:St S n n [Y e [K d,b],U X b g]) (ab:RP S n X s x) (hBa1:RB S n z [K o,s]) (ac:RP S n X t y) (hBa2:RB S n A [K p,t]):Calls Tryz.prog 126 #[O e 0,O z 0,O A 0] n (Ret fun v w=>∃B:Value,v=O e 0/\St S n w [Y e [K r.1,B],U X B r.2]):=by
 refine aB 32 Tryz.func126 Z Z Z<|ax [(0,O e 0),(1,O z 0),(2,O A 0)] Z ?_
 unfold F.Gw at h
 refine R<|V 1 Z<|gl2<|bg (bb (cs:=[K false,L3]) eM Z a) Z fun u w a=>V 1 Z ?_
 replace a:=a.nil X
 have c:=a.pick (os':=[Y u [K false,L3],U X (.slice none 0 0) []]++[Y e [K d,b],U X b g]) [1,0,2,3] (by decide) Z
 refine J h fun f aj h=>aH Z (fi false p aj c.f (ac.f (W Z) c) (hBa2.f c)) Z ?_
 rintro _ w ⟨l,rfl,j⟩
 have a:=c.g j
 refine V 1 Z<|gl2<|bg (bb (cs:=[K false,L3]) eM Z a) Z fun C w a=>V 2 Z ?_
 replace a:=a.nil X
 have c:=a.pick (os':=[Y C [K false,L3],U X (.slice none 0 0) []]++[Y u [K f.1,l],U X l f.2,Y e [K d,b],U X b g]) [1,0,2,3,4,5] (by decide) Z
 refine J h fun k ad h=>aH Z (jS false o f.1 ad c.f (ab.f (W Z) c) (hBa1.f c) (c.giveO 1 Z) (c.giveB 0 Z)) Z ?_
 rintro _ w ⟨m,rfl,j⟩
 have a:=c.g j
 refine V 1 Z<|gl2<|bg (bb (cs:=[K false,L3]) eM Z a) Z fun D w a=>V 1 Z<|gl2<|bg (bb (cs:=[K false,L3]) eM Z a) Z fun E w a=>V 3 Z ?_
 replace a:=a.nil X
 replace a:=a.nil X
 have c:=a.pick (os':=[Y E [K false,L3],U X (.slice none 0 0) [],Y D [K false,L3],U X (.slice none 0 0) []]++[Y C [K k.1,m],U X m k.2,Y u [K f.1,l],U X l f.2,Y e [K d,b],U X b g]) [2,1,3,0,4,5,6,7,8,9] (by decide) Z
 refine J h fun i ae h=>aH Z (oX false false k.1 f.1 ae c.f (c.giveO 1 Z) (c.giveB 0 Z) (c.giveO 3 Z) (c.giveB 2 Z)) Z ?_
 rintro _ w ⟨G,L,rfl,j⟩
 have a:=c.g j
 refine V 1 Z<|gl1<|R<|V 1 Z<|J h fun q N h=>bE a Z (dm 1 N ) Z fun T ak w a=>J h fun am ah h=>bf a Z (fV i.1 q.1 ah (a.ro 3 Z).rp (a.rb 2 Z) (a.ro 1 Z).rp (a.rb 0 Z)) Z fun w a=>V 1 Z<|P ?_
 apply gl9 Z h<;>intro h
 ·refine R<|V 1 Z<|gl8 ?_
  cases h
 refine gl6<|V 3 Z<|have c:=a.pick (os':=[Y e [K d,b],U X b g]++[Y ak [K q.1,T],U X T q.2,Y E [K i.1,G],U X G i.2.1,Y D [K i.2.2.1,L],U X L i.2.2.2,Y C [K k.1,m],U X m k.2,Y u [K f.1,l],U X l f.2]) [10,11,0,1,2,3,4,5,6,7,8,9] (by decide) Z;J h fun an H h=>aH Z (jS d i.2.2.1 f.1 H c.f (c.giveO 5 Z) (c.giveB 4 Z) (c.giveO 9 Z) (c.giveB 8 Z)) Z ?_
 rintro _ w ⟨al,rfl,j⟩
 have a:=c.g j
 refine V 1 Z<|P<|ay ?_
 cases h
 exact az Z Z ⟨al,Z,a.d [0,1] Z Z⟩
end Go.Proofs
