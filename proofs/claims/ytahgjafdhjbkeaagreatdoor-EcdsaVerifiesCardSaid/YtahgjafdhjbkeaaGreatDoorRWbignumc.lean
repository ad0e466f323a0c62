import Derived.Test.YtahgjafdhjbkeaaGreatDoorRW0
import Derived.Test.YtahgjafdhjbkeaaGreatDoorGkFman
import Derived.Test.YtahgjafdhjbkeaaGreatDoorRWbignumb
set_option linter.unusedVariables false
set_option linter.unusedSimpArgs false
set_option linter.unusedSectionVars false
set_option maxRecDepth 4000
namespace Go.Proofs
open Go Go.RowKit Go.Gk
open Go.Gk renaming aa → V, af → J, ag → N, e32 → X, gl3 → Q, gl4 → R, own → U, pB → O, red → P, vB → K, vI → H
open Nat renaming le_of_ble_eq_true → W
open Go.Gk.OE renaming bx → Y
open Go.Gk.Rds renaming cons → M
theorem fQ {c:World} {l m:List UInt32} {g j:Value} {n o:Nat} (d e:Bool) {r:Int}
  (h:F.D7 d l e m=some r) (p:RP [] c X g l) (hBa0:RB [] c n [K d,g]) (q:RP [] c X j m) (hBa1:RB [] c o [K e,j]):Calls Tryz.prog 104 #[O n 0,O o 0] c (Ret fun v w=>v=H r∧St [] c w []):=by
 refine aB 35 Tryz.func104 Z Z Z<|have a:=St.k c;ax [(0,O n 0),(1,O o 0)] Z ?_
 unfold F.D7 at h
 refine R<|V 1 Z<|gl1<|av<|aX (fun w'=>St [] c w' []) (fun _=>true) bR (fun _ _ _ f=>f.2) (fun _ _ f=>f) (by kernel_rfl)<|have a:=a.drew;show lxE _ _ _ _ _ _ _ [0,1,2,3,4,5,6,7,8] _ _ from an 1 Z a<|ai a Z Z (fun w b=>aK Z) Z<|ai a Z Z (fun w b=>ao (k:=0) u65 Z Z nz4 Z) Z<|ai a Z Z (fun w b=>aw Tryz.underlying4 Z Z (hBa0.cell b.fr 0 Z)) Z<|an 1 Z a<|ai a Z Z (fun w b=>aK Z) Z<|ai a Z Z (fun w b=>ao (k:=0) u65 Z Z nz4 Z) Z<|ai a Z Z (fun w b=>aw Tryz.underlying4 Z Z (hBa1.cell b.fr 0 Z)) Z<|ai a Z Z (fun w b=>aj Z Z (nv _ d e Tryz.underlying4 Z)) Z<|bn a<|ak ?_
 refine gl9 Z h (fun h=>?_) (fun h=>?_)
 ·refine av<|R<|V 1 Z<|N (aK Z) Z<|N (ao (k:=0) u65 Z Z nz4 Z) Z<|N (aw Tryz.underlying4 Z Z (hBa0.cell a.fr 0 Z)) Z<|Q ?_
  refine gl9 Z h (fun h=>?_) (fun h=>?_)
  ·refine R<|V 1 Z<|gl8<|aW ?_
   cases h
   exact ay Z Z ⟨Z,a⟩
  refine gl6<|V 1 Z<|gl8 ?_
  cases h
  exact ay Z Z ⟨Z,a⟩
 refine gl5<|av<|aX (fun w'=>St [] c w' []) (fun i=>!([8].contains i)) bR (fun _ _ _ f=>f.2) (fun _ _ f=>f) (by kernel_rfl)<|have a:=a.drew;show lxE _ _ _ _ _ _ _ [0,1,2,3,4,5,6,7,8,9] _ _ from an 1 Z a<|ai a Z Z (fun w b=>aK Z) Z<|ai a Z Z (fun w b=>ao (k:=1) u65 Z Z dP Z) Z<|ai a Z Z (fun w b=>aw u30 Z Z (hBa0.cell b.fr 1 Z)) Z<|an 1 Z a<|ai a Z Z (fun w b=>aK Z) Z<|ai a Z Z (fun w b=>ao (k:=1) u65 Z Z dP Z) Z<|ai a Z Z (fun w b=>aw u30 Z Z (hBa1.cell b.fr 1 Z)) Z<|J h fun t s h=>bb a Z Z (by kernel_rfl) Z (j5  s (p.b a.fr).rp (q.b a.fr).rp) Z ?_
 rintro _ w ⟨rfl,u⟩
 have a:=a.e u
 refine an 1 Z a<|bn a<|ak<|av<|R<|V 1 Z<|N (aK Z) Z<|N (ao (k:=0) u65 Z Z nz4 Z) Z<|N (aw Tryz.underlying4 Z Z (hBa0.cell a.fr 0 Z)) Z<|Q ?_
 refine gl9 Z h (fun h=>?_) (fun h=>?_)
 ·refine R<|V 1 Z<|N (i9 Z (BX t)) Z<|V 1 Z<|gl8 ?_
  cases h
  exact ay Z Z ⟨Z,a⟩
 refine gl6<|V 2 Z<|Q<|az ?_
 cases h
 exact ay Z Z ⟨Z,a⟩
theorem mO {o:World} {f:List UInt32} {j:Value} {d:Nat} (p:Bool) {r:List UInt8}
  (h:F.Hv p f=some r) (c:RP [] o X j f) (hBa0:RB [] o d [K p,j]):Calls Tryz.prog 109 #[O d 0] o (Ret fun v w=>St [] o w [U e8 v r]):=by
 refine aB 41 Tryz.func109 Z Z Z<|have a:=St.k o;ax [(0,O d 0)] Z ?_
 unfold F.Hv at h
 refine R<|V 1 Z<|gl2<|V 1 Z<|N (aK Z) Z<|N (ao (k:=1) u65 Z Z dP Z) Z<|N (aw u30 Z Z (hBa0.cell a.fr 1 Z)) Z<|J h fun D y h=>bc a Z (iA  y (c.b a.fr).rp) Z fun w a=>V 1 Z<|N (aj Z Z (dV _ (wI (D+7)) 8 (by decide))) Z<|a7 h fun l z h=>N (a9 (v:=H l) (by rw [←z]; rfl)) Z<|gl2<|V 1 Z<|J h fun E A h=>bG (dw (e:=e8) u24 ti5 Z Z Z a A) Z fun q w a=>V 1 Z<|gl1<|R<|V 1 Z<|Q<|ar<|ax [(0,O d 0),(3,H l),(4,q),(5,H 0)] Z ?_
 refine aT (F.Hh f l) (fun (s:Int×List UInt8) L w=>L=[(0,O d 0),(3,H l),(4,q),(5,H s.1)]∧St [] o w [U e8 q s.2]) ?_ (0,E) ⟨Z,a⟩ h
 rintro S ⟨b,ac⟩ L w T G B h u
 try dsimp only at G
 obtain ⟨rfl,a⟩:=G
 unfold F.Hh at h
 refine av<|R<|V 3 Z<|Q ?_
 refine gl9 Z h (fun h=>?_) (fun h=>?_)
 ·refine gl5<|av<|ar<|al<|V 6 Z<|N (aK Z) Z<|N (ao (k:=1) u65 Z Z dP Z) Z<|N (aw u30 Z Z (hBa0.cell a.fr 1 Z)) Z<|V 1 Z<|N (aj Z Z (dV _ b 4 (by decide))) Z<|J h fun g m h=>N (bk u30 aN Z Z (c.b a.fr) m) Z<|N (a8 u38 Z Z (c.b a.fr) m Z) Z<|V 1 Z<|N (aD Z (dy u3 u87 b)) Z<|N (aj Z Z (fx _ (UInt64.ofInt b) 4 (by decide))) Z<|N (aj Z Z (gx _ 8 ((UInt64.ofInt b)%4))) Z<|N (aj Z Z (cL _ g (8*((UInt64.ofInt b)%4)))) Z<|N (aD Z (fG u38 Tryz.underlying5 (bu g ((8*((UInt64.ofInt b)%4)).toNat)))) Z<|J h fun ab n h=>N (bk u24 ti5 Z Z (a.ro 0 Z) n) Z<|bl (bZ (t:=((bu g ((8*((UInt64.ofInt b)%4)).toNat)).toUInt8)) ti5 Z Z a (i:=0) Z n Z) fun w a=>a7 h fun C x h=>?_
  rw [x]at a
  exact aE<|aF<|ak<|al<|V 3 Z<|aE<|bf (bd (B (wI (b+1),C) _ _ ⟨Z,a⟩ (aL h u)) Z)
 refine aQ<|au<|au<|have h:=aI h u;aR<|ak<|R<|V 2 Z<|Q<|az ?_
 cases h
 exact ay Z Z (a.d [0] Z Z)
theorem dC {c:World} {d:List UInt32} {a:Value} {e:Nat} (f:Bool) {r:Int}
  (h:F.Dk f d=some r) (g:RP [] c X a d) (hBa0:RB [] c e [K f,a]):Calls Tryz.prog 72 #[O e 0] c (Ret fun v w=>v=H r∧St [] c w []):=by
 refine aB 13 Tryz.func72 Z Z Z<|have b:=St.k c;ax [(0,O e 0)] Z ?_
 unfold F.Dk at h
 refine R<|V 1 Z<|gl1<|R<|V 1 Z<|N (aK Z) Z<|N (ao (k:=1) u65 Z Z dP Z) Z<|N (aw u30 Z Z (hBa0.cell b.fr 1 Z)) Z<|N (aC u30 Z (g.b b.fr)) Z<|V 1 Z<|Q ?_
 refine gl9 Z h (fun h=>?_) (fun h=>?_)
 ·refine R<|V 1 Z<|gl8 ?_
  cases h
  exact ay Z Z ⟨Z,b⟩
 refine gl5<|av<|R<|V 1 Z<|N (aK Z) Z<|N (ao (k:=0) u65 Z Z nz4 Z) Z<|N (aw Tryz.underlying4 Z Z (hBa0.cell b.fr 0 Z)) Z<|Q ?_
 refine gl9 Z h (fun h=>?_) (fun h=>?_)
 ·refine R<|V 1 Z<|gl8 ?_
  cases h
  exact ay Z Z ⟨Z,b⟩
 refine gl6<|V 1 Z<|Q<|az ?_
 cases h
 exact ay Z Z ⟨Z,b⟩
theorem iD {b:World} {c:List UInt32} {a:Value} {d:Nat} (e:Bool) {r:Int}
  (h:F.GD e c=some r) (g:RP [] b X a c) (hBa0:RB [] b d [K e,a]):Calls Tryz.prog 64 #[O d 0] b (Ret fun v w=>v=H r∧St [] b w []):=by
 refine aB 8 Tryz.func64 Z Z Z<|have f:=St.k b;ax [(0,O d 0)] Z ?_
 unfold F.GD at h
 refine R<|V 1 Z<|gl2<|V 1 Z<|N (aK Z) Z<|N (ao (k:=1) u65 Z Z dP Z) Z<|N (aw u30 Z Z (hBa0.cell f.fr 1 Z)) Z<|J h fun j i h=>bc f Z (iA  i (g.b f.fr).rp) Z fun w f=>V 1 Z<|Q<|az ?_
 cases h
 exact ay Z Z ⟨Z,f⟩
theorem ni {d:World} {a0:List UInt32} {c:Value} (a1:Int) {r:UInt64}
  (h:F.GR a0 a1=some r) (e:RP [] d X c a0):Calls Tryz.prog 124 #[c,H a1] d (Ret fun v w=>v=v64 r∧St [] d w []):=by
 refine aB 25 Tryz.func124 Z Z Z<|have b:=St.k d;ax [(0,c),(1,H a1)] Z ?_
 unfold F.GR at h
 refine R<|V 1 Z<|gl1 ?_
 refine aZ (r:=r) (fun (g:Bool) L w=>L=[(0,c),(1,H a1),(13,K g)]∧St [] d w []) (F.HX a0 a1) ?_ ?_
 rotate_left
 ·intro f
  refine al<|V 3 Z ?_
  cases a:(decide (a1<0))
  case true=>
   have h:=cH h a
   try simp only [a]
   exact V 6 Z<|Q<|aH (f true _ _ ⟨Z,b⟩ h) Z
  case false=>
   have h:=cI h a
   try simp only [a]
   exact V 1 Z<|bE (t:=7) Z Z (aj Z Z (dV _ a1 32 (by decide))) Z<|V 1 Z<|bE (t:=7) Z Z (aC u30 Z (e.b b.fr)) Z<|V 2 Z<|Q<|aH (f (decide ((a0.length:Int)≤(wI (Int.tdiv a1 32)))) _ _ ⟨Z,b⟩ h) Z
 rintro l L w k h
 try dsimp only at k
 obtain ⟨rfl,b⟩:=k
 unfold F.HX at h
 refine gl9 Z h (fun h=>?_) (fun h=>?_)
 ·refine R<|V 1 Z<|gl8 ?_
  cases h
  exact ay Z Z ⟨Z,b⟩
 refine gl6<|V 2 Z<|N (aj Z Z (dV _ a1 32 (by decide))) Z<|J h fun i j h=>N (bk u30 aN Z Z (e.b b.fr) j) Z<|N (a8 u38 Z Z (e.b b.fr) j Z) Z<|V 1 Z<|N (aD Z (dy u3 u87 a1)) Z<|N (aj Z Z (fx _ (UInt64.ofInt a1) 32 (by decide))) Z<|N (aj Z Z (cL _ i ((UInt64.ofInt a1)%32))) Z<|N (aD Z (bD u38 u87 (bu i (((UInt64.ofInt a1)%32).toNat)))) Z<|N (aj Z Z (ej _ ((bu i (((UInt64.ofInt a1)%32).toNat)).toUInt64) 1)) Z<|V 1 Z<|Q<|az ?_
 cases h
 exact ay Z Z ⟨Z,b⟩
theorem jO {d:World} {f:List UInt32} {b:Value} {g:Nat} (i:Bool) (a1:Int) {r:UInt64}
  (h:F.Gr i f a1=some r) (c:RP [] d X b f) (hBa0:RB [] d g [K i,b]):Calls Tryz.prog 65 #[O g 0,H a1] d (Ret fun v w=>v=v64 r∧St [] d w []):=by
 refine aB 27 Tryz.func65 Z Z Z<|have a:=St.k d;ax [(0,O g 0),(1,H a1)] Z ?_
 unfold F.Gr at h
 refine R<|V 1 Z<|gl1<|R<|V 2 Z<|Q ?_
 refine gl9 Z h (fun h=>?_) (fun h=>?_)
 ·refine R<|V 1 Z<|gl8 ?_
  cases h
  exact ay Z Z ⟨Z,a⟩
 refine gl5<|av<|R<|V 1 Z<|N (aK Z) Z<|N (ao (k:=0) u65 Z Z nz4 Z) Z<|N (aw Tryz.underlying4 Z Z (hBa0.cell a.fr 0 Z)) Z<|V 1 Z<|Q ?_
 refine gl9 Z h (fun h=>?_) (fun h=>?_)
 ·refine R<|V 1 Z<|N (aK Z) Z<|N (ao (k:=1) u65 Z Z dP Z) Z<|N (aw u30 Z Z (hBa0.cell a.fr 1 Z)) Z<|V 1 Z<|J h fun p j h=>bc a Z (ni a1 j (c.b a.fr).rp) Z fun w a=>V 1 Z<|gl8 ?_
  cases h
  exact ay Z Z ⟨Z,a⟩
 refine gl6<|V 1 Z<|N (aK Z) Z<|N (ao (k:=1) u65 Z Z dP Z) Z<|N (aw u30 Z Z (hBa0.cell a.fr 1 Z)) Z<|bG (cp (e:=X) (l:=([1]:List UInt32)) (vs:=[v32 1]) u30 aN Z Z Z Z (by decide) (by decide) a) Z fun q w a=>J h fun s m h=>aU a Z (jM  m (c.b a.fr).rp (a.ro 0 Z).rp) Z fun t w a=>V 1 Z<|J h fun o n h=>bc a Z (ni a1 n (a.ro 0 Z).rp) Z fun w a=>N (aj Z Z (dm _ o 1)) Z<|V 1 Z<|Q<|az ?_
 cases h
 exact ay Z Z ⟨Z,a.d [] Z Z⟩
theorem eR {g:World} {d i:List UInt32} {a f:Value} {b j:Nat} {S:List Nat} (c l:Bool) {r:Bool×List UInt32}
  (h:F.DM c d l i=some r) (e:St S g g [Y b [K c,a],U X a d]) (n:RP S g X f i) (hBa1:RB S g j [K l,f]):Calls Tryz.prog 156 #[O b 0,O j 0] g (Ret fun v w=>∃m:Value,v=O b 0∧St S g w [Y b [K r.1,m],U X m r.2]):=by
 refine aB 12 Tryz.func156 Z Z Z<|ax [(0,O b 0),(1,O j 0)] Z ?_
 unfold F.DM at h
 refine R<|V 1 Z<|gl2<|V 2 Z<|N (aK Z) Z<|N (ao (k:=1) u65 Z Z dP Z) Z<|N (aw u30 Z Z (hBa1.cell e.fr 1 Z)) Z<|J h fun q o h=>aU e Z (jn  o (n.b e.fr).rp) Z fun s w e=>have t:=e.pick (os':=[Y b [K c,a],U X a d,U X s q]++[]) [1,2,0] (by decide) Z;J h fun y p h=>aG Z (bX c false p t.f ) Z ?_
 rintro _ w ⟨u,rfl,x⟩
 have e:=t.g x
 refine V 1 Z<|Q<|az ?_
 cases h
 exact ay Z Z ⟨u,Z,e.d [0,1] Z Z⟩
theorem lh {i:World} {d j:List UInt32} {b g:Value} {a k:Nat} {S:List Nat} (c e:Bool) {r:Bool×List UInt32}
  (h:F.HU c d e j=some r) (f:St S i i [Y a [K c,b],U X b d]) (m:RP S i X g j) (hBa2:RB S i k [K e,g]):Calls Tryz.prog 178 #[O a 0,O a 0,O k 0] i (Ret fun v w=>∃l:Value,v=O a 0∧St S i w [Y a [K r.1,l],U X l r.2]):=by
 refine aB 13 Tryz.func178 Z Z Z<|ax [(0,O a 0),(1,O a 0),(2,O k 0)] Z ?_
 unfold F.HU at h
 refine R<|V 1 Z<|gl2<|V 3 Z<|bh (ba (cs:=[K false,.slice none 0 0]) en Z f) Z fun p w f=>?_
 replace f:=f.nil X
 have n:=f.pick (os':=[Y a [K c,b],U X b d,Y p [K false,.slice none 0 0],U X (.slice none 0 0) []]++[]) [2,3,1,0] (by decide) Z
 refine J h fun t o h=>aG Z (ka c e false o n.f (m.f (W Z) n) (hBa2.f n)) Z ?_
 rintro _ w ⟨q,u,rfl,s⟩
 have f:=n.g s
 refine gl2<|V 2 Z<|Q<|az ?_
 cases h
 exact ay Z Z ⟨q,Z,f.d [0,1] Z Z⟩
theorem oI {G:World} {o m A B:List UInt32} {c b y z:Value} {n l T ab:Nat} {S:List Nat} (j e q x:Bool) {r:Bool×List UInt32×Bool×List UInt32}
  (h:F.IC j o e m q A x B=some r) (a:St S G G [Y n [K j,c],U X c o,Y l [K e,b],U X b m]) (bY:RP S G X y A) (hBa3:RB S G T [K q,y]) (bZ:RP S G X z B) (hBa4:RB S G ab [K x,z]):Calls Tryz.prog 157 #[O n 0,O l 0,.pointer none,O T 0,O ab 0] G (Ret fun v w=>∃bJ bK:Value,v=O n 0∧St S G w [Y n [K r.1,bJ],U X bJ r.2.1,Y l [K r.2.2.1,bK],U X bK r.2.2.2]):=by
 refine aB 161 Tryz.func157 Z Z Z<|have E:=Fz.k (S:=S) (w0:=G);?_
 have hTT:TOk S [] G:=TOk.nil
 have f:Rds S G [Y ab [K x,z],P X z B,Y T [K q,y],P X y A]:=M hBa4.h (M (RP.h (W Z) bZ) (M hBa3.h (M (RP.h (W Z) bY) (Rds.nil))))
 have hP:Off [] [Y ab [K x,z],P X z B,Y T [K q,y],P X y A]:=Off.emp
 refine ax [(0,O n 0),(1,O l 0),(2,.pointer none),(3,O T 0),(4,O ab 0)] Z ?_
 unfold F.IC at h
 refine R<|V 1 Z<|gl1 ?_
 refine aZ (r:=r) (fun (g:Bool) L w=>L=[(0,O n 0),(1,O l 0),(2,.pointer none),(3,O T 0),(4,O ab 0),(35,K g)]∧SfT S [] G w [Y ab [K x,z],P X z B,Y T [K q,y],P X y A] [Y n [K j,c],U X c o,Y l [K e,b],U X b m]) (F.H7 j o q A x B e m) ?_ ?_
 rotate_left
 ·intro bL
  refine al<|V 1 Z<|N (aK Z) Z<|N (ao (k:=1) u65 Z Z dP Z) Z<|N (aw u30 Z Z ((f.rb 1 Z).cell a.fr 1 Z)) Z<|N (aC u30 Z ((f.rp 0 Z).b a.fr)) Z<|V 2 Z ?_
  cases aS:((A.length:Int) == 0)
  case true=>
   have h:=cH h aS
   try simp only [aS]
   exact V 7 Z<|Q<|aH (bL true _ _ ⟨Z,(SfT.mk' E (f.pick [3,2,1,0] Z) (hP.pick [3,2,1,0] Z) a)⟩ h) Z
  case false=>
   have h:=cI h aS
   try simp only [aS]
   exact V 1 Z<|bE (t:=28) Z Z (aK Z) Z<|bE (t:=28) Z Z (ao (k:=1) u65 Z Z dP Z) Z<|bE (t:=28) Z Z (aw u30 Z Z ((f.rb 3 Z).cell a.fr 1 Z)) Z<|bE (t:=28) Z Z (aC u30 Z ((f.rp 2 Z).b a.fr)) Z<|V 2 Z<|Q<|aH (bL ((B.length:Int) == 0) _ _ ⟨Z,(SfT.mk' E (f.pick [3,2,1,0] Z) (hP.pick [3,2,1,0] Z) a)⟩ h) Z
 rintro cC L w hJ h
 try dsimp only at hJ
 obtain ⟨rfl,⟨cc,bM,E,f,hP,a⟩⟩:=hJ
 unfold F.H7 at h
 refine gl9 Z h (fun h=>?_) (fun h=>?_)
 ·refine av<|aX (fun w'=>St cc bM w' [Y n [K j,c],U X c o,Y l [K e,b],U X b m]) (fun _=>true) bR (fun _ _ _ hf=>hf.2) (fun _ _ hf=>hf) (by kernel_rfl)<|have a:=a.drew;show lxE _ _ _ _ _ _ _ [0,1,2,3,4,5,6,7,8,9,10,11] _ _ from an 1 Z a<|ai a Z Z (fun w D=>aK Z) Z<|ai a Z Z (fun w D=>ao (k:=1) u65 Z Z dP Z) Z<|ai a Z Z (fun w D=>aw u30 Z Z ((f.rb 1 Z).cell D.fr 1 Z)) Z<|ai a Z Z (fun w D=>aC u30 Z ((f.rp 0 Z).b D.fr)) Z<|an 1 Z a<|ai a Z Z (fun w D=>aK Z) Z<|ai a Z Z (fun w D=>ao (k:=1) u65 Z Z dP Z) Z<|ai a Z Z (fun w D=>aw u30 Z Z ((f.rb 3 Z).cell D.fr 1 Z)) Z<|ai a Z Z (fun w D=>aC u30 Z ((f.rp 2 Z).b D.fr)) Z<|an 2 Z a<|bn a<|ak<|av<|aX (fun w'=>St cc bM w' [Y n [K j,c],U X c o,Y l [K e,b],U X b m]) (fun _=>true) bR (fun _ _ _ hf=>hf.2) (fun _ _ hf=>hf) (by kernel_rfl)<|have a:=a.drew;show lxE _ _ _ _ _ _ _ [0,1,2,3,4,5,6,7,8,9] _ _ from an 1 Z a<|ai a Z Z (fun w D=>aK Z) Z<|ai a Z Z (fun w D=>ao (k:=0) u65 Z Z nz4 Z) Z<|ai a Z Z (fun w D=>aw Tryz.underlying4 Z Z ((f.rb 1 Z).cell D.fr 0 Z)) Z ?_
  refine an 1 Z a<|ai a Z Z (fun w D=>aK Z) Z<|ai a Z Z (fun w D=>ao (k:=0) u65 Z Z nz4 Z) Z<|ai a Z Z (fun w D=>aw Tryz.underlying4 Z Z ((f.rb 3 Z).cell D.fr 0 Z)) Z<|an 2 Z a<|bn a<|ak ?_
  refine aZ (r:=r) (fun (g:Bool×List UInt32) L w=>∃(C:Value),L=[(0,O n 0),(1,O l 0),(2,.pointer none),(11,H (A.length:Int)),(12,H (B.length:Int)),(13,K q),(14,K x)]∧SfT S [] G w [] [U X C g.2,Y n [K g.1,C],Y l [K e,b],U X b m]) (F.IN e m q A) ?_ ?_
  rotate_left
  ·intro bB
   refine R<|V 2 Z<|Q ?_
   refine gl9 Z h (fun h=>?_) (fun h=>?_)
   ·refine al<|V 2 Z<|have d:=a.pick (os':=[Y n [K j,c],U X c o]++[Y l [K e,b],U X b m]) [0,1,2,3] (by decide) Z;J h fun bN b0 h=>aG Z (eR j x b0 d.f ((f.rp 2 Z).f (W Z) d) ((f.rb 3 Z).f d)) Z ?_
    rintro _ w ⟨cd,rfl,p⟩
    have a:=d.g p
    exact Q<|aH (bB (bN.1,bN.2) _ _ ⟨cd,Z,(SfT.mk' E Rds.nil Off.nil (a.d [1,0,2,3] Z Z))⟩ h) Z
   refine al<|V 2 Z<|have d:=a.pick (os':=[Y n [K j,c],U X c o]++[Y l [K e,b],U X b m]) [0,1,2,3] (by decide) Z;J h fun bO b1 h=>aG Z (eR j q b1 d.f ((f.rp 0 Z).f (W Z) d) ((f.rb 1 Z).f d)) Z ?_
   rintro _ w ⟨ce,rfl,p⟩
   have a:=d.g p
   exact Q<|aH (bB (bO.1,bO.2) _ _ ⟨ce,Z,(SfT.mk' E Rds.nil Off.nil (a.d [1,0,2,3] Z Z))⟩ h) Z
  rintro ⟨aU,aV⟩ L w hJ h
  try dsimp only at hJ
  obtain ⟨C,rfl,⟨ct,cl,E,f,hP,a⟩⟩:=hJ
  unfold F.IN at h
  refine aZ (r:=r) (fun (g:Bool×List UInt32) L w=>∃(aW:Value),L=[(0,O n 0),(2,.pointer none),(11,H (A.length:Int)),(12,H (B.length:Int)),(14,K x)]∧SfT S [] G w [] [Y n [K aU,C],U X C aV,U X aW g.2,Y l [K g.1,aW]]) (F.IF aU aV) ?_ ?_
  rotate_left
  ·intro bC
   refine R<|V 1 Z<|N (aj Z Z (mR u59 l 0)) Z<|Q<|fK Z<|R<|V 1 Z<|have d:=a.pick (os':=[Y l [K e,b],U X b m]++[U X C aV,Y n [K aU,C]]) [2,3,0,1] (by decide) Z;J h fun aJ b2 h=>aG Z (fy e 0 b2 d.f ) Z ?_
   rintro _ w ⟨bj,rfl,p⟩
   have a:=d.g p
   refine gl2<|V 2 Z<|Q ?_
   refine gl9 Z h (fun h=>?_) (fun h=>?_)
   ·refine R<|V 1 Z<|have d:=a.pick (os':=[Y l [K aJ.1,bj],U X bj aJ.2]++[U X C aV,Y n [K aU,C]]) [0,1,2,3] (by decide) Z;J h fun cf b3 h=>aG Z (fy aJ.1 1 b3 d.f ) Z ?_
    rintro _ w ⟨cg,rfl,p⟩
    have a:=d.g p
    refine Q<|al<|V 2 Z<|N (aK Z) Z<|N (ao (k:=0) u65 Z Z nz4 Z) Z<|bl (bq (i:=0) (us:=[K q]) Z sz4 Z Z Z ⟨Z,I⟩ Z a) fun w a=>Q ?_
    exact aH (bC (q,cf.2) _ _ ⟨cg,Z,(SfT.mk' E Rds.nil Off.nil (a.d [3,2,1,0] Z Z))⟩ h) Z
   exact gl5<|aH (bC (aJ.1,aJ.2) _ _ ⟨bj,Z,(SfT.mk' E Rds.nil Off.nil (a.d [3,2,1,0] Z Z))⟩ h) Z
  rintro ⟨cu,cv⟩ L w hJ h
  try dsimp only at hJ
  obtain ⟨aW,rfl,⟨cw,cm,E,f,hP,a⟩⟩:=hJ
  unfold F.IF at h
  refine av<|R<|V 1 Z<|N (aj Z Z (pr u59)) Z<|Q<|g9 Z<|gl6<|V 2 Z<|gl8 ?_
  cases h
  replace a:=E.st a
  exact ay Z Z ⟨C,aW,Z,a.d [0,1,3,2] Z Z⟩
 refine gl6<|bh (ba (cs:=[K false,.slice none 0 0]) en Z a) Z fun aM w a=>V 1 Z ?_
 replace a:=a.nil X
 have d:=a.pick (os':=[Y aM [K false,.slice none 0 0],U X (.slice none 0 0) []]++[Y n [K j,c],U X c o,Y l [K e,b],U X b m]) [1,0,2,3,4,5] (by decide) Z
 refine J h fun ae b4 h=>aG Z (eR false q b4 d.f ((f.rp 0 Z).f (W Z) d) ((f.rb 1 Z).f d)) Z ?_
 rintro _ w ⟨aN,rfl,p⟩
 have a:=d.g p
 refine bh (ba (cs:=[K false,.slice none 0 0]) en Z a) Z fun aY w a=>V 1 Z ?_
 replace a:=a.nil X
 have d:=a.pick (os':=[Y aY [K false,.slice none 0 0],U X (.slice none 0 0) []]++[Y aM [K ae.1,aN],U X aN ae.2,Y n [K j,c],U X c o,Y l [K e,b],U X b m]) [1,0,2,3,4,5,6,7] (by decide) Z
 refine J h fun a0 b5 h=>aG Z (eR false x b5 d.f ((f.rp 2 Z).f (W Z) d) ((f.rb 3 Z).f d)) Z ?_
 rintro _ w ⟨bk,rfl,p⟩
 have a:=d.g p
 refine V 2 Z<|gl2<|J h fun a1 b6 h=>bH a Z (dh 1 b6 ) Z fun bm bo w a=>J h fun a2 b7 h=>bH a Z (dh 0 b7 ) Z fun bp br w a=>V 2 Z<|gl1<|ar ?_
 replace a:=a.pick (os':=[Y br [K a2.1,bp],U X bp a2.2,Y bo [K a1.1,bm],U X bm a1.2,Y aY [K a0.1,bk],U X bk a0.2,Y aM [K ae.1,aN],U X aN ae.2]++[Y n [K j,c],U X c o,Y l [K e,b],U X b m]) [0,1,2,3,4,5,6,7,8,9,10,11] (by decide) rfl
 obtain ⟨cx,cn,E,f,hP,a⟩:=E.frzT hTT f hP a
 refine ax [(0,O n 0),(1,O l 0),(2,.pointer none),(3,O T 0),(4,O ab 0),(15,O aM 0),(16,O aY 0),(17,O bo 0),(18,O br 0)] Z ?_
 refine aT (F.FX j o e m q A x B) (fun (s:Bool×List UInt32×Bool×List UInt32×Bool×List UInt32×Bool×List UInt32) L w=>∃(bs:Nat) (bt:Value) (a3:Nat) (a4:Value) (bu:Nat) (bv:Value) (a5:Nat) (a6:Value),L=[(0,O n 0),(1,O l 0),(2,.pointer none),(3,O T 0),(4,O ab 0),(15,O bs 0),(16,O a3 0),(17,O bu 0),(18,O a5 0)]∧SfT S [] G w [Y a5 [K s.2.2.2.2.2.2.1,a6],P X a6 s.2.2.2.2.2.2.2,Y bu [K s.2.2.2.2.1,bv],P X bv s.2.2.2.2.2.1,Y a3 [K s.2.2.1,a4],P X a4 s.2.2.2.1,Y bs [K s.1,bt],P X bt s.2.1,Y ab [K x,z],P X z B,Y T [K q,y],P X y A] [Y n [K j,c],U X c o,Y l [K e,b],U X b m]) ?_ (ae.1,ae.2,a0.1,a0.2,a1.1,a1.2,a2.1,a2.2) ⟨aM,aN,aY,bk,bo,bm,br,bp,Z,(SfT.mk' E (f.pick [11,10,9,8,7,6,5,4,3,2,1,0] Z) (hP.pick [11,10,9,8,7,6,5,4,3,2,1,0] Z) a)⟩ h
 rintro co ⟨bw,cy,bP,ch,bz,cz,bQ,ci⟩ L w cA hI b8 h bD
 try dsimp only at hI
 obtain ⟨bs,bt,a3,a4,bu,bv,a5,a6,rfl,⟨cB,cp,E,f,hP,a⟩⟩:=hI
 unfold F.FX at h
 refine av<|R<|V 1 Z<|N (aK Z) Z<|N (ao (k:=1) u65 Z Z dP Z) Z<|N (aw u30 Z Z ((f.rb 7 Z).cell a.fr 1 Z)) Z<|N (aC u30 Z ((f.rp 6 Z).b a.fr)) Z<|V 1 Z<|Q ?_
 refine gl9 Z h (fun h=>?_) (fun h=>?_)
 ·refine gl5<|ar<|R<|bh (ba (cs:=[K false,.slice none 0 0]) en Z a) Z fun a7 w a=>V 2 Z<|bh (ba (cs:=[K false,.slice none 0 0]) en Z a) Z fun aO w a=>?_
  replace a:=a.nil X
  replace a:=a.nil X
  have d:=a.pick (os':=[Y a7 [K false,.slice none 0 0],U X (.slice none 0 0) [],Y aO [K false,.slice none 0 0],U X (.slice none 0 0) []]++[Y n [K j,c],U X c o,Y l [K e,b],U X b m]) [3,1,2,0,4,5,6,7] (by decide) Z
  refine J h fun u b9 h=>aG Z (iC false bw bP false b9 d.f ((f.rp 4 Z).f (W Z) d) ((f.rb 5 Z).f d) ((f.rp 6 Z).f (W Z) d) ((f.rb 7 Z).f d)) Z ?_
  rintro _ w ⟨ah,ac,rfl,p⟩
  have a:=d.g p
  refine V 5 Z<|gl2<|V 4 Z<|Q<|al<|V 1 Z<|bh (ba (cs:=[K false,.slice none 0 0]) en Z a) Z fun a8 w a=>V 1 Z<|bh (ba (cs:=[K false,.slice none 0 0]) en Z a) Z fun bA w a=>V 2 Z ?_
  replace a:=a.nil X
  have d:=a.pick (os':=[Y bA [K false,.slice none 0 0],U X (.slice none 0 0) []]++[Y a8 [K false,.slice none 0 0],Y a7 [K u.1,ah],U X ah u.2.1,Y aO [K u.2.2.1,ac],U X ac u.2.2.2,Y n [K j,c],U X c o,Y l [K e,b],U X b m]) [1,0,2,3,4,5,6,7,8,9,10] (by decide) Z
  refine J h fun aP ca h=>aG Z (gU false u.1 bQ ca d.f (d.giveO 2 Z) (d.giveB 1 Z) ((f.rp 10 Z).f (W Z) d) ((f.rb 11 Z).f d)) Z ?_
  rintro _ w ⟨ap,rfl,p⟩
  have a:=d.g p
  replace a:=a.nil X
  have d:=a.pick (os':=[Y a8 [K false,.slice none 0 0],U X (.slice none 0 0) []]++[Y bA [K aP.1,ap],U X ap aP.2,Y a7 [K u.1,ah],U X ah u.2.1,Y aO [K u.2.2.1,ac],U X ac u.2.2.2,Y n [K j,c],U X c o,Y l [K e,b],U X b m]) [3,0,1,2,4,5,6,7,8,9,10,11] (by decide) Z
  refine J h fun aq bS h=>aG Z (j0 false bz aP.1 bS d.f ((f.rp 8 Z).f (W Z) d) ((f.rb 9 Z).f d) (d.giveO 1 Z) (d.giveB 0 Z)) Z ?_
  rintro _ w ⟨a9,rfl,p⟩
  have a:=d.g p
  refine V 2 Z<|aE<|aF ?_
  replace a:=a.pick (os':=[Y a8 [K aq.1,a9],U X a9 aq.2,Y bA [K aP.1,ap],U X ap aP.2,Y a7 [K u.1,ah],U X ah u.2.1,Y aO [K u.2.2.1,ac],U X ac u.2.2.2]++[Y n [K j,c],U X c o,Y l [K e,b],U X b m]) [0,1,2,3,4,5,6,7,8,9,10,11] (by decide) rfl
  obtain ⟨cq,ck,E,f,hP,a⟩:=E.frzT hTT f hP a
  exact bf (bd (b8 (bP,ch,u.2.2.1,u.2.2.2,bQ,ci,aq.1,aq.2) _ _ ⟨a3,a4,aO,ac,a5,a6,a8,a9,Z,(SfT.mk' E (f.pick [19,18,11,10,13,12,7,6,3,2,1,0] Z) (hP.pick [19,18,11,10,13,12,7,6,3,2,1,0] Z) a)⟩ (aL h bD)) Z)
 refine aQ<|au<|au<|have h:=aI h bD;aR<|ak<|av<|R<|V 1 Z<|N (aj Z Z (mR u59 l 0)) Z<|V 4 Z<|Q<|fK Z<|av<|R<|V 1 Z<|N (aK Z) Z<|N (ao (k:=0) u65 Z Z nz4 Z) Z<|N (aw Tryz.underlying4 Z Z ((f.rb 1 Z).cell a.fr 0 Z)) Z<|Q ?_
 refine gl9 Z h (fun h=>?_) (fun h=>?_)
 ·refine al<|V 2 Z ?_
  cases h
 refine gl6<|bh (ba (cs:=[K false,.slice none 0 0]) en Z a) Z fun ad w a=>V 2 Z ?_
 replace a:=a.nil X
 have d:=a.pick (os':=[Y ad [K false,.slice none 0 0],U X (.slice none 0 0) []]++[Y n [K j,c],U X c o,Y l [K e,b],U X b m]) [1,0,2,3,4,5] (by decide) Z
 refine J h fun bb bT h=>aG Z (gU false q bz bT d.f ((f.rp 0 Z).f (W Z) d) ((f.rb 1 Z).f d) ((f.rp 8 Z).f (W Z) d) ((f.rb 9 Z).f d)) Z ?_
 rintro _ w ⟨bF,rfl,p⟩
 have a:=d.g p
 refine V 1 Z<|gl2<|V 3 Z<|have d:=a.pick (os':=[Y ad [K bb.1,bF],U X bF bb.2]++[Y n [K j,c],U X c o,Y l [K e,b],U X b m]) [0,1,2,3,4,5] (by decide) Z;J h fun bc bU h=>aG Z (lS bb.1 bw bU d.f ((f.rp 4 Z).f (W Z) d) ((f.rb 5 Z).f d)) Z ?_
 rintro _ w ⟨bG,rfl,p⟩
 have a:=d.g p
 refine gl2<|V 3 Z<|have d:=a.pick (os':=[Y ad [K bc.1,bG],U X bG bc.2]++[Y n [K j,c],U X c o,Y l [K e,b],U X b m]) [0,1,2,3,4,5] (by decide) Z;J h fun aA bV h=>aG Z (lh bc.1 x bV d.f ((f.rp 2 Z).f (W Z) d) ((f.rb 3 Z).f d)) Z ?_
 rintro _ w ⟨aD,rfl,p⟩
 have a:=d.g p
 refine gl1<|R<|V 1 Z<|N (aj Z Z (pr u59)) Z<|Q<|g9 Z<|gl6<|V 1 Z<|N (aj Z Z (mR u59 l 0)) Z<|Q<|fK Z<|al<|V 2 Z<|have d:=a.pick (os':=[Y l [K e,b],U X b m]++[Y ad [K aA.1,aD],U X aD aA.2,Y n [K j,c],U X c o]) [4,5,0,1,2,3] (by decide) Z;J h fun bI bW h=>aG Z (fT e bz bW d.f ((f.rp 8 Z).f (W Z) d) ((f.rb 9 Z).f d)) Z ?_
 rintro _ w ⟨be,rfl,p⟩
 have a:=d.g p
 refine gl2<|V 2 Z<|have d:=a.pick (os':=[Y n [K j,c],U X c o]++[Y l [K bI.1,be],U X be bI.2,Y ad [K aA.1,aD],U X aD aA.2]) [4,5,0,1,2,3] (by decide) Z;J h fun cr bX h=>aG Z (fT j bw bX d.f ((f.rp 4 Z).f (W Z) d) ((f.rb 5 Z).f d)) Z ?_
 rintro _ w ⟨cb,rfl,p⟩
 have a:=d.g p
 refine V 1 Z<|Q<|az ?_
 cases h
 replace a:=E.st a
 exact ay Z Z ⟨cb,be,Z,a.d [0,1,2,3] Z Z⟩
theorem kc {n:World} {g x y:List UInt32} {b s t:Value} {e z A:Nat} {S:List Nat} (d o p:Bool) {r:Bool×List UInt32}
  (h:F.FV d g o x p y=some r) (a:St S n n [Y e [K d,b],U X b g]) (ab:RP S n X s x) (hBa1:RB S n z [K o,s]) (ac:RP S n X t y) (hBa2:RB S n A [K p,t]):Calls Tryz.prog 126 #[O e 0,O z 0,O A 0] n (Ret fun v w=>∃B:Value,v=O e 0∧St S n w [Y e [K r.1,B],U X B r.2]):=by
 refine aB 32 Tryz.func126 Z Z Z<|ax [(0,O e 0),(1,O z 0),(2,O A 0)] Z ?_
 unfold F.FV at h
 refine R<|V 1 Z<|gl2<|bh (ba (cs:=[K false,.slice none 0 0]) en Z a) Z fun u w a=>V 1 Z ?_
 replace a:=a.nil X
 have c:=a.pick (os':=[Y u [K false,.slice none 0 0],U X (.slice none 0 0) []]++[Y e [K d,b],U X b g]) [1,0,2,3] (by decide) Z
 refine J h fun f aj h=>aG Z (eR false p aj c.f (ac.f (W Z) c) (hBa2.f c)) Z ?_
 rintro _ w ⟨l,rfl,j⟩
 have a:=c.g j
 refine V 1 Z<|gl2<|bh (ba (cs:=[K false,.slice none 0 0]) en Z a) Z fun C w a=>V 2 Z ?_
 replace a:=a.nil X
 have c:=a.pick (os':=[Y C [K false,.slice none 0 0],U X (.slice none 0 0) []]++[Y u [K f.1,l],U X l f.2,Y e [K d,b],U X b g]) [1,0,2,3,4,5] (by decide) Z
 refine J h fun k ad h=>aG Z (jN false o f.1 ad c.f (ab.f (W Z) c) (hBa1.f c) (c.giveO 1 Z) (c.giveB 0 Z)) Z ?_
 rintro _ w ⟨m,rfl,j⟩
 have a:=c.g j
 refine V 1 Z<|gl2<|bh (ba (cs:=[K false,.slice none 0 0]) en Z a) Z fun D w a=>V 1 Z<|gl2<|bh (ba (cs:=[K false,.slice none 0 0]) en Z a) Z fun E w a=>V 3 Z ?_
 replace a:=a.nil X
 replace a:=a.nil X
 have c:=a.pick (os':=[Y E [K false,.slice none 0 0],U X (.slice none 0 0) [],Y D [K false,.slice none 0 0],U X (.slice none 0 0) []]++[Y C [K k.1,m],U X m k.2,Y u [K f.1,l],U X l f.2,Y e [K d,b],U X b g]) [2,1,3,0,4,5,6,7,8,9] (by decide) Z
 refine J h fun i ae h=>aG Z (oI false false k.1 f.1 ae c.f (c.giveO 1 Z) (c.giveB 0 Z) (c.giveO 3 Z) (c.giveB 2 Z)) Z ?_
 rintro _ w ⟨G,L,rfl,j⟩
 have a:=c.g j
 refine V 1 Z<|gl1<|R<|V 1 Z<|J h fun q N h=>bH a Z (dh 1 N ) Z fun T ak w a=>J h fun am ah h=>bc a Z (fQ i.1 q.1 ah (a.ro 3 Z).rp (a.rb 2 Z) (a.ro 1 Z).rp (a.rb 0 Z)) Z fun w a=>V 1 Z<|Q ?_
 refine gl9 Z h (fun h=>?_) (fun h=>?_)
 ·refine R<|V 1 Z<|gl8 ?_
  cases h
 refine gl6<|V 3 Z<|have c:=a.pick (os':=[Y e [K d,b],U X b g]++[Y ak [K q.1,T],U X T q.2,Y E [K i.1,G],U X G i.2.1,Y D [K i.2.2.1,L],U X L i.2.2.2,Y C [K k.1,m],U X m k.2,Y u [K f.1,l],U X l f.2]) [10,11,0,1,2,3,4,5,6,7,8,9] (by decide) Z;J h fun an ai h=>aG Z (jN d i.2.2.1 f.1 ai c.f (c.giveO 5 Z) (c.giveB 4 Z) (c.giveO 9 Z) (c.giveB 8 Z)) Z ?_
 rintro _ w ⟨al,rfl,j⟩
 have a:=c.g j
 refine V 1 Z<|Q<|az ?_
 cases h
 exact ay Z Z ⟨al,Z,a.d [0,1] Z Z⟩
end Go.Proofs
