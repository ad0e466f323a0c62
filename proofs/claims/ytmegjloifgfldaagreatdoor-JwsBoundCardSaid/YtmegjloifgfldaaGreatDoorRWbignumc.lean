import Derived.Test.YtmegjloifgfldaaGreatDoorRW0
import Derived.Test.YtmegjloifgfldaaGreatDoorGkFman
import Derived.Test.YtmegjloifgfldaaGreatDoorRWbignumb
set_option linter.unusedVariables false
set_option linter.unusedSimpArgs false
set_option linter.unusedSectionVars false
set_option maxRecDepth 4000
namespace Go.Proofs
open Go Go.RowKit Go.Gk
open Go.Gk renaming aa -> V, af -> M, ag -> O, ai -> J, e32 -> X, gl3 -> Q, gl4 -> R, own -> U, pB -> P, vB -> N, vI -> H
open Nat renaming le_of_ble_eq_true -> W
open Go.Gk.OE renaming bx -> Y
open Go.Gk.Rds renaming cons -> I
theorem gd {c:World} {l m:Q0} {g j:Value} {n o:Nat} (d e:Bool) {r:Int}
  (h:F.HQ d l e m=some r) (p:RP [] c X g l) (hBa0:RB [] c n [N d,g]) (q:RP [] c X j m) (hBa1:RB [] c o [N e,j]):Calls Tryz.prog 123 #[P n 0,P o 0] c (Ret fun v w=>v=H r/\St [] c w []):=by
 refine ax 35 Tryz.func123 Z Z Z<|have a:=St.k c;ay [(0,P n 0),(1,P o 0)] Z ?_
 unfold F.HQ at h
 refine R<|V 1 Z<|gl1<|az<|aQ (fun w'=>St [] c w' []) (fun _=>true) bL (fun _ _ _ f=>f.2) (fun _ _ f=>f) (by kernel_rfl)<|have a:=a.drew;show lxE _ _ _ _ _ _ _ [0,1,2,3,4,5,6,7,8] _ _ from an 1 Z a<|J a Z Z (fun w b=>aL Z) Z<|J a Z Z (fun w b=>ak (k:=0) u130 Z Z nz4 Z) Z<|J a Z Z (fun w b=>ao u4 Z Z (hBa0.cell b.fr 0 Z)) Z<|an 1 Z a<|J a Z Z (fun w b=>aL Z) Z<|J a Z Z (fun w b=>ak (k:=0) u130 Z Z nz4 Z) Z<|J a Z Z (fun w b=>ao u4 Z Z (hBa1.cell b.fr 0 Z)) Z<|J a Z Z (fun w b=>aj Z Z (kS _ d e u4 Z)) Z<|a9 a<|al ?_
 apply gl9 Z h<;>intro h
 ·refine az<|R<|V 1 Z<|O (aL Z) Z<|O (ak (k:=0) u130 Z Z nz4 Z) Z<|O (ao u4 Z Z (hBa0.cell a.fr 0 Z)) Z<|Q ?_
  apply gl9 Z h<;>intro h
  ·refine R<|V 1 Z<|gl8<|aM ?_
   cases h
   exact au Z Z ⟨Z,a⟩
  refine gl6<|V 1 Z<|gl8 ?_
  cases h
  exact au Z Z ⟨Z,a⟩
 refine gl5<|az<|aQ (fun w'=>St [] c w' []) (fun i=>!([8].contains i)) bL (fun _ _ _ f=>f.2) (fun _ _ f=>f) (by kernel_rfl)<|have a:=a.drew;show lxE _ _ _ _ _ _ _ [0,1,2,3,4,5,6,7,8,9] _ _ from an 1 Z a<|J a Z Z (fun w b=>aL Z) Z<|J a Z Z (fun w b=>ak (k:=1) u130 Z Z dD Z) Z<|J a Z Z (fun w b=>ao u57 Z Z (hBa0.cell b.fr 1 Z)) Z<|an 1 Z a<|J a Z Z (fun w b=>aL Z) Z<|J a Z Z (fun w b=>ak (k:=1) u130 Z Z dD Z) Z<|J a Z Z (fun w b=>ao u57 Z Z (hBa1.cell b.fr 1 Z)) Z<|M h fun t s h=>aY a Z Z (by kernel_rfl) Z (kQ  s (p.b a.fr).rp (q.b a.fr).rp) Z ?_
 rintro _ w ⟨rfl,u⟩
 have a:=a.e u
 refine an 1 Z a<|a9 a<|al<|az<|R<|V 1 Z<|O (aL Z) Z<|O (ak (k:=0) u130 Z Z nz4 Z) Z<|O (ao u4 Z Z (hBa0.cell a.fr 0 Z)) Z<|Q ?_
 apply gl9 Z h<;>intro h
 ·refine R<|V 1 Z<|O (nO Z (Fj t)) Z<|V 1 Z<|gl8 ?_
  cases h
  exact au Z Z ⟨Z,a⟩
 refine gl6<|V 2 Z<|Q<|ar ?_
 cases h
 exact au Z Z ⟨Z,a⟩
theorem nR {o:World} {f:Q0} {j:Value} {d:Nat} (p:Bool) {r:Q1}
  (h:F.K7 p f=some r) (c:RP [] o X j f) (hBa0:RB [] o d [N p,j]):Calls Tryz.prog 128 #[P d 0] o (Ret fun v w=>St [] o w [U e8 v r]):=by
 refine ax 41 Tryz.func128 Z Z Z<|have a:=St.k o;ay [(0,P d 0)] Z ?_
 unfold F.K7 at h
 refine R<|V 1 Z<|gl2<|V 1 Z<|O (aL Z) Z<|O (ak (k:=1) u130 Z Z dD Z) Z<|O (ao u57 Z Z (hBa0.cell a.fr 1 Z)) Z<|M h fun D y h=>aR a Z (i6  y (c.b a.fr).rp) Z fun w a=>V 1 Z<|O (aj Z Z (dM _ (wI (D+7)) 8 (by decide))) Z<|bd h fun l z h=>O (bc (v:=H l) (by rw[<-z]; rfl)) Z<|gl2<|V 1 Z<|M h fun E A h=>bm (cW (e:=e8) u25 ti5 Z Z Z a A) Z fun q w a=>V 1 Z<|gl1<|R<|V 1 Z<|Q<|av<|ay [(0,P d 0),(3,H l),(4,q),(5,H 0)] Z ?_
 refine bg (F.KQ f l) (fun (s:Int×Q1) L w=>L=[(0,P d 0),(3,H l),(4,q),(5,H s.1)]/\St [] o w [U e8 q s.2]) ?_ (0,E) ⟨Z,a⟩ h
 rintro S ⟨b,ac⟩ L w T G B h u
 try dsimp only at G
 obtain⟨rfl,a⟩:=G
 unfold F.KQ at h
 refine az<|R<|V 3 Z<|Q ?_
 apply gl9 Z h<;>intro h
 ·refine gl5<|az<|av<|am<|V 6 Z<|O (aL Z) Z<|O (ak (k:=1) u130 Z Z dD Z) Z<|O (ao u57 Z Z (hBa0.cell a.fr 1 Z)) Z<|V 1 Z<|O (aj Z Z (dM _ b 4 (by decide))) Z<|M h fun g m h=>O (bh u57 aN Z Z (c.b a.fr) m) Z<|O (aW u106 Z Z (c.b a.fr) m Z) Z<|V 1 Z<|O (aG Z (fx u3 u67 b)) Z<|O (aj Z Z (ft _ (UInt64.ofInt b) 4 (by decide))) Z<|O (aj Z Z (jw _ 8 ((UInt64.ofInt b)%4))) Z<|O (aj Z Z (di _ g (8*((UInt64.ofInt b)%4)))) Z<|O (aG Z (fW u106 Tryz.underlying5 (bu g ((8*((UInt64.ofInt b)%4)).toNat)))) Z<|M h fun ab n h=>O (bh u25 ti5 Z Z (a.ro 0 Z) n) Z<|bo (bZ (t:=((bu g ((8*((UInt64.ofInt b)%4)).toNat)).toUInt8)) ti5 Z Z a (i:=0) Z n Z) fun w a=>bd h fun C x h=>?_
  rw[x]at a
  exact aE<|aF<|al<|am<|V 3 Z<|aE<|bn (br (B (wI (b+1),C) _ _ ⟨Z,a⟩ (aX h u)) Z)
 refine a7<|aB<|aB<|have h:=aS h u;a8<|al<|R<|V 2 Z<|Q<|ar ?_
 cases h
 exact au Z Z (a.d [0] Z Z)
theorem du {c:World} {d:Q0} {a:Value} {e:Nat} (f:Bool) {r:Int}
  (h:F.GY f d=some r) (g:RP [] c X a d) (hBa0:RB [] c e [N f,a]):Calls Tryz.prog 136 #[P e 0] c (Ret fun v w=>v=H r/\St [] c w []):=by
 refine ax 13 Tryz.func136 Z Z Z<|have b:=St.k c;ay [(0,P e 0)] Z ?_
 unfold F.GY at h
 refine R<|V 1 Z<|gl1<|R<|V 1 Z<|O (aL Z) Z<|O (ak (k:=1) u130 Z Z dD Z) Z<|O (ao u57 Z Z (hBa0.cell b.fr 1 Z)) Z<|O (aD u57 Z (g.b b.fr)) Z<|V 1 Z<|Q ?_
 apply gl9 Z h<;>intro h
 ·refine R<|V 1 Z<|gl8 ?_
  cases h
  exact au Z Z ⟨Z,b⟩
 refine gl5<|az<|R<|V 1 Z<|O (aL Z) Z<|O (ak (k:=0) u130 Z Z nz4 Z) Z<|O (ao u4 Z Z (hBa0.cell b.fr 0 Z)) Z<|Q ?_
 apply gl9 Z h<;>intro h
 ·refine R<|V 1 Z<|gl8 ?_
  cases h
  exact au Z Z ⟨Z,b⟩
 refine gl6<|V 1 Z<|Q<|ar ?_
 cases h
 exact au Z Z ⟨Z,b⟩
theorem ja {b:World} {c:Q0} {a:Value} {d:Nat} (e:Bool) {r:Int}
  (h:F.Ka e c=some r) (g:RP [] b X a c) (hBa0:RB [] b d [N e,a]):Calls Tryz.prog 87 #[P d 0] b (Ret fun v w=>v=H r/\St [] b w []):=by
 refine ax 8 Tryz.func87 Z Z Z<|have f:=St.k b;ay [(0,P d 0)] Z ?_
 unfold F.Ka at h
 refine R<|V 1 Z<|gl2<|V 1 Z<|O (aL Z) Z<|O (ak (k:=1) u130 Z Z dD Z) Z<|O (ao u57 Z Z (hBa0.cell f.fr 1 Z)) Z<|M h fun j i h=>aR f Z (i6  i (g.b f.fr).rp) Z fun w f=>V 1 Z<|Q<|ar ?_
 cases h
 exact au Z Z ⟨Z,f⟩
theorem od {d:World} {a0:Q0} {c:Value} (a1:Int) {r:UInt64}
  (h:F.Kt a0 a1=some r) (e:RP [] d X c a0):Calls Tryz.prog 139 #[c,H a1] d (Ret fun v w=>v=v64 r/\St [] d w []):=by
 refine ax 25 Tryz.func139 Z Z Z<|have b:=St.k d;ay [(0,c),(1,H a1)] Z ?_
 unfold F.Kt at h
 refine R<|V 1 Z<|gl1 ?_
 refine aT (r:=r) (fun (g:Bool) L w=>L=[(0,c),(1,H a1),(13,N g)]/\St [] d w []) (F.Lo a0 a1) ?_ ?_
 rotate_left
 ·intro f
  refine am<|V 3 Z ?_
  cases a:(decide (a1<0))
  case true=>
   have h:=bD h a
   try simp only[a]
   exact V 6 Z<|Q<|aA (f true _ _ ⟨Z,b⟩ h) Z
  case false=>
   have h:=bE h a
   try simp only[a]
   exact V 1 Z<|aI (t:=7) Z Z (aj Z Z (dM _ a1 32 (by decide))) Z<|V 1 Z<|aI (t:=7) Z Z (aD u57 Z (e.b b.fr)) Z<|V 2 Z<|Q<|aA (f (decide ((a0.length:Int)<=(wI (Int.tdiv a1 32)))) _ _ ⟨Z,b⟩ h) Z
 rintro l L w k h
 try dsimp only at k
 obtain⟨rfl,b⟩:=k
 unfold F.Lo at h
 apply gl9 Z h<;>intro h
 ·refine R<|V 1 Z<|gl8 ?_
  cases h
  exact au Z Z ⟨Z,b⟩
 refine gl6<|V 2 Z<|O (aj Z Z (dM _ a1 32 (by decide))) Z<|M h fun i j h=>O (bh u57 aN Z Z (e.b b.fr) j) Z<|O (aW u106 Z Z (e.b b.fr) j Z) Z<|V 1 Z<|O (aG Z (fx u3 u67 a1)) Z<|O (aj Z Z (ft _ (UInt64.ofInt a1) 32 (by decide))) Z<|O (aj Z Z (di _ i ((UInt64.ofInt a1)%32))) Z<|O (aG Z (bC u106 u67 (bu i (((UInt64.ofInt a1)%32).toNat)))) Z<|O (aj Z Z (f7 _ ((bu i (((UInt64.ofInt a1)%32).toNat)).toUInt64) 1)) Z<|V 1 Z<|Q<|ar ?_
 cases h
 exact au Z Z ⟨Z,b⟩
theorem ky {d:World} {f:Q0} {b:Value} {g:Nat} (i:Bool) (a1:Int) {r:UInt64}
  (h:F.JW i f a1=some r) (c:RP [] d X b f) (hBa0:RB [] d g [N i,b]):Calls Tryz.prog 88 #[P g 0,H a1] d (Ret fun v w=>v=v64 r/\St [] d w []):=by
 refine ax 27 Tryz.func88 Z Z Z<|have a:=St.k d;ay [(0,P g 0),(1,H a1)] Z ?_
 unfold F.JW at h
 refine R<|V 1 Z<|gl1<|R<|V 2 Z<|Q ?_
 apply gl9 Z h<;>intro h
 ·refine R<|V 1 Z<|gl8 ?_
  cases h
  exact au Z Z ⟨Z,a⟩
 refine gl5<|az<|R<|V 1 Z<|O (aL Z) Z<|O (ak (k:=0) u130 Z Z nz4 Z) Z<|O (ao u4 Z Z (hBa0.cell a.fr 0 Z)) Z<|V 1 Z<|Q ?_
 apply gl9 Z h<;>intro h
 ·refine R<|V 1 Z<|O (aL Z) Z<|O (ak (k:=1) u130 Z Z dD Z) Z<|O (ao u57 Z Z (hBa0.cell a.fr 1 Z)) Z<|V 1 Z<|M h fun p j h=>aR a Z (od a1 j (c.b a.fr).rp) Z fun w a=>V 1 Z<|gl8 ?_
  cases h
  exact au Z Z ⟨Z,a⟩
 refine gl6<|V 1 Z<|O (aL Z) Z<|O (ak (k:=1) u130 Z Z dD Z) Z<|O (ao u57 Z Z (hBa0.cell a.fr 1 Z)) Z<|bm (bJ (e:=X) (l:=([1]:Q0)) (vs:=[v32 1]) u57 aN Z Z Z Z (by decide) (by decide) a) Z fun q w a=>M h fun s m h=>aO a Z (kv  m (c.b a.fr).rp (a.ro 0 Z).rp) Z fun t w a=>V 1 Z<|M h fun o n h=>aR a Z (od a1 n (a.ro 0 Z).rp) Z fun w a=>O (aj Z Z (fR _ o 1)) Z<|V 1 Z<|Q<|ar ?_
 cases h
 exact au Z Z ⟨Z,a.d [] Z Z⟩
theorem eZ {g:World} {d i:Q0} {a f:Value} {b j:Nat} {S:Q2} (c l:Bool) {r:Bool×Q0}
  (h:F.HA c d l i=some r) (e:St S g g [Y b [N c,a],U X a d]) (n:RP S g X f i) (hBa1:RB S g j [N l,f]):Calls Tryz.prog 167 #[P b 0,P j 0] g (Ret fun v w=>∃m:Value,v=P b 0/\St S g w [Y b [N r.1,m],U X m r.2]):=by
 refine ax 12 Tryz.func167 Z Z Z<|ay [(0,P b 0),(1,P j 0)] Z ?_
 unfold F.HA at h
 refine R<|V 1 Z<|gl2<|V 2 Z<|O (aL Z) Z<|O (ak (k:=1) u130 Z Z dD Z) Z<|O (ao u57 Z Z (hBa1.cell e.fr 1 Z)) Z<|M h fun q o h=>aO e Z (j2  o (n.b e.fr).rp) Z fun s w e=>have t:=e.pick (os':=[Y b [N c,a],U X a d,U X s q]++[]) [1,2,0] (by decide) Z;M h fun y p h=>aK Z (bS c false p t.f ) Z ?_
 rintro _ w ⟨u,rfl,x⟩
 have e:=t.g x
 refine V 1 Z<|Q<|ar ?_
 cases h
 exact au Z Z ⟨u,Z,e.d [0,1] Z Z⟩
theorem mx {i:World} {d j:Q0} {b g:Value} {a k:Nat} {S:Q2} (c e:Bool) {r:Bool×Q0}
  (h:F.Lk c d e j=some r) (f:St S i i [Y a [N c,b],U X b d]) (m:RP S i X g j) (hBa2:RB S i k [N e,g]):Calls Tryz.prog 182 #[P a 0,P a 0,P k 0] i (Ret fun v w=>∃l:Value,v=P a 0/\St S i w [Y a [N r.1,l],U X l r.2]):=by
 refine ax 13 Tryz.func182 Z Z Z<|ay [(0,P a 0),(1,P a 0),(2,P k 0)] Z ?_
 unfold F.Lk at h
 refine R<|V 1 Z<|gl2<|V 3 Z<|bl (bf (cs:=[N false,Q3]) dw Z f) Z fun p w f=>?_
 replace f:=f.nil X
 have n:=f.pick (os':=[Y a [N c,b],U X b d,Y p [N false,Q3],U X (.slice none 0 0) []]++[]) [2,3,1,0] (by decide) Z
 refine M h fun t o h=>aK Z (kU c e false o n.f (m.f (W Z) n) (hBa2.f n)) Z ?_
 rintro _ w ⟨q,u,rfl,s⟩
 have f:=n.g s
 refine gl2<|V 2 Z<|Q<|ar ?_
 cases h
 exact au Z Z ⟨q,Z,f.d [0,1] Z Z⟩
theorem pV {G:World} {o m A B:Q0} {c b y z:Value} {n l T ab:Nat} {S:Q2} (j e q x:Bool) {r:Bool×Q0×Bool×Q0}
  (h:F.LZ j o e m q A x B=some r) (a:St S G G [Y n [N j,c],U X c o,Y l [N e,b],U X b m]) (b0:RP S G X y A) (hBa3:RB S G T [N q,y]) (b1:RP S G X z B) (hBa4:RB S G ab [N x,z]):Calls Tryz.prog 168 #[P n 0,P l 0,.pointer none,P T 0,P ab 0] G (Ret fun v w=>∃bM bN:Value,v=P n 0/\St S G w [Y n [N r.1,bM],U X bM r.2.1,Y l [N r.2.2.1,bN],U X bN r.2.2.2]):=by
 refine ax 161 Tryz.func168 Z Z Z<|have E:=Fz.k (S:=S) (w0:=G);?_
 have hTT:TOk S [] G:=TOk.nil
 have f:Rds S G [Y ab [N x,z],red X z B,Y T [N q,y],red X y A]:=I hBa4.h (I (RP.h (W Z) b1) (I hBa3.h (I (RP.h (W Z) b0) (Rds.nil))))
 have hP:Off [] [Y ab [N x,z],red X z B,Y T [N q,y],red X y A]:=Off.emp
 refine ay [(0,P n 0),(1,P l 0),(2,.pointer none),(3,P T 0),(4,P ab 0)] Z ?_
 unfold F.LZ at h
 refine R<|V 1 Z<|gl1 ?_
 refine aT (r:=r) (fun (g:Bool) L w=>L=[(0,P n 0),(1,P l 0),(2,.pointer none),(3,P T 0),(4,P ab 0),(35,N g)]/\SfT S [] G w [Y ab [N x,z],red X z B,Y T [N q,y],red X y A] [Y n [N j,c],U X c o,Y l [N e,b],U X b m]) (F.Ly j o q A x B e m) ?_ ?_
 rotate_left
 ·intro bO
  refine am<|V 1 Z<|O (aL Z) Z<|O (ak (k:=1) u130 Z Z dD Z) Z<|O (ao u57 Z Z ((f.rb 1 Z).cell a.fr 1 Z)) Z<|O (aD u57 Z ((f.rp 0 Z).b a.fr)) Z<|V 2 Z ?_
  cases aP:((A.length:Int) == 0)
  case true=>
   have h:=bD h aP
   try simp only[aP]
   exact V 7 Z<|Q<|aA (bO true _ _ ⟨Z,(SfT.mk' E (f.pick [3,2,1,0] Z) (hP.pick [3,2,1,0] Z) a)⟩ h) Z
  case false=>
   have h:=bE h aP
   try simp only[aP]
   exact V 1 Z<|aI (t:=28) Z Z (aL Z) Z<|aI (t:=28) Z Z (ak (k:=1) u130 Z Z dD Z) Z<|aI (t:=28) Z Z (ao u57 Z Z ((f.rb 3 Z).cell a.fr 1 Z)) Z<|aI (t:=28) Z Z (aD u57 Z ((f.rp 2 Z).b a.fr)) Z<|V 2 Z<|Q<|aA (bO ((B.length:Int) == 0) _ _ ⟨Z,(SfT.mk' E (f.pick [3,2,1,0] Z) (hP.pick [3,2,1,0] Z) a)⟩ h) Z
 rintro cE L w hJ h
 try dsimp only at hJ
 obtain⟨rfl,⟨ce,bP,E,f,hP,a⟩⟩:=hJ
 unfold F.Ly at h
 apply gl9 Z h<;>intro h
 ·refine az<|aQ (fun w'=>St ce bP w' [Y n [N j,c],U X c o,Y l [N e,b],U X b m]) (fun _=>true) bL (fun _ _ _ hf=>hf.2) (fun _ _ hf=>hf) (by kernel_rfl)<|have a:=a.drew;show lxE _ _ _ _ _ _ _ [0,1,2,3,4,5,6,7,8,9,10,11] _ _ from an 1 Z a<|J a Z Z (fun w D=>aL Z) Z<|J a Z Z (fun w D=>ak (k:=1) u130 Z Z dD Z) Z<|J a Z Z (fun w D=>ao u57 Z Z ((f.rb 1 Z).cell D.fr 1 Z)) Z<|J a Z Z (fun w D=>aD u57 Z ((f.rp 0 Z).b D.fr)) Z<|an 1 Z a<|J a Z Z (fun w D=>aL Z) Z<|J a Z Z (fun w D=>ak (k:=1) u130 Z Z dD Z) Z<|J a Z Z (fun w D=>ao u57 Z Z ((f.rb 3 Z).cell D.fr 1 Z)) Z<|J a Z Z (fun w D=>aD u57 Z ((f.rp 2 Z).b D.fr)) Z<|an 2 Z a<|a9 a<|al<|az<|aQ (fun w'=>St ce bP w' [Y n [N j,c],U X c o,Y l [N e,b],U X b m]) (fun _=>true) bL (fun _ _ _ hf=>hf.2) (fun _ _ hf=>hf) (by kernel_rfl)<|have a:=a.drew;show lxE _ _ _ _ _ _ _ [0,1,2,3,4,5,6,7,8,9] _ _ from an 1 Z a<|J a Z Z (fun w D=>aL Z) Z<|J a Z Z (fun w D=>ak (k:=0) u130 Z Z nz4 Z) Z<|J a Z Z (fun w D=>ao u4 Z Z ((f.rb 1 Z).cell D.fr 0 Z)) Z ?_
  refine an 1 Z a<|J a Z Z (fun w D=>aL Z) Z<|J a Z Z (fun w D=>ak (k:=0) u130 Z Z nz4 Z) Z<|J a Z Z (fun w D=>ao u4 Z Z ((f.rb 3 Z).cell D.fr 0 Z)) Z<|an 2 Z a<|a9 a<|al ?_
  refine aT (r:=r) (fun (g:Bool×Q0) L w=>∃(C:Value),L=[(0,P n 0),(1,P l 0),(2,.pointer none),(11,H (A.length:Int)),(12,H (B.length:Int)),(13,N q),(14,N x)]/\SfT S [] G w [] [U X C g.2,Y n [N g.1,C],Y l [N e,b],U X b m]) (F.Me e m q A) ?_ ?_
  rotate_left
  ·intro bF
   refine R<|V 2 Z<|Q ?_
   apply gl9 Z h<;>intro h
   ·refine am<|V 2 Z<|have d:=a.pick (os':=[Y n [N j,c],U X c o]++[Y l [N e,b],U X b m]) [0,1,2,3] (by decide) Z;M h fun bQ b2 h=>aK Z (eZ j x b2 d.f ((f.rp 2 Z).f (W Z) d) ((f.rb 3 Z).f d)) Z ?_
    rintro _ w ⟨cf,rfl,p⟩
    have a:=d.g p
    exact Q<|aA (bF (bQ.1,bQ.2) _ _ ⟨cf,Z,(SfT.mk' E Rds.nil Off.nil (a.d [1,0,2,3] Z Z))⟩ h) Z
   refine am<|V 2 Z<|have d:=a.pick (os':=[Y n [N j,c],U X c o]++[Y l [N e,b],U X b m]) [0,1,2,3] (by decide) Z;M h fun bR b3 h=>aK Z (eZ j q b3 d.f ((f.rp 0 Z).f (W Z) d) ((f.rb 1 Z).f d)) Z ?_
   rintro _ w ⟨cg,rfl,p⟩
   have a:=d.g p
   exact Q<|aA (bF (bR.1,bR.2) _ _ ⟨cg,Z,(SfT.mk' E Rds.nil Off.nil (a.d [1,0,2,3] Z Z))⟩ h) Z
  rintro⟨aR,aU⟩ L w hJ h
  try dsimp only at hJ
  obtain⟨C,rfl,⟨cv,cn,E,f,hP,a⟩⟩:=hJ
  unfold F.Me at h
  refine aT (r:=r) (fun (g:Bool×Q0) L w=>∃(aV:Value),L=[(0,P n 0),(2,.pointer none),(11,H (A.length:Int)),(12,H (B.length:Int)),(14,N x)]/\SfT S [] G w [] [Y n [N aR,C],U X C aU,U X aV g.2,Y l [N g.1,aV]]) (F.L3 aR aU) ?_ ?_
  rotate_left
  ·intro bG
   refine R<|V 1 Z<|O (aj Z Z (nW u124 l 0)) Z<|Q<|c8 Z<|R<|V 1 Z<|have d:=a.pick (os':=[Y l [N e,b],U X b m]++[U X C aU,Y n [N aR,C]]) [2,3,0,1] (by decide) Z;M h fun aH b4 h=>aK Z (fT e 0 b4 d.f ) Z ?_
   rintro _ w ⟨bi,rfl,p⟩
   have a:=d.g p
   refine gl2<|V 2 Z<|Q ?_
   apply gl9 Z h<;>intro h
   ·refine R<|V 1 Z<|have d:=a.pick (os':=[Y l [N aH.1,bi],U X bi aH.2]++[U X C aU,Y n [N aR,C]]) [0,1,2,3] (by decide) Z;M h fun ch b5 h=>aK Z (fT aH.1 1 b5 d.f ) Z ?_
    rintro _ w ⟨ci,rfl,p⟩
    have a:=d.g p
    refine Q<|am<|V 2 Z<|O (aL Z) Z<|O (ak (k:=0) u130 Z Z nz4 Z) Z<|bo (bq (i:=0) (us:=[N q]) Z sz4 Z Z Z ⟨Z,K⟩ Z a) fun w a=>Q ?_
    exact aA (bG (q,ch.2) _ _ ⟨ci,Z,(SfT.mk' E Rds.nil Off.nil (a.d [3,2,1,0] Z Z))⟩ h) Z
   exact gl5<|aA (bG (aH.1,aH.2) _ _ ⟨bi,Z,(SfT.mk' E Rds.nil Off.nil (a.d [3,2,1,0] Z Z))⟩ h) Z
  rintro⟨cw,cx⟩ L w hJ h
  try dsimp only at hJ
  obtain⟨aV,rfl,⟨cy,co,E,f,hP,a⟩⟩:=hJ
  unfold F.L3 at h
  refine az<|R<|V 1 Z<|O (aj Z Z (qP u124)) Z<|Q<|eL Z<|gl6<|V 2 Z<|gl8 ?_
  cases h
  replace a:=E.st a
  exact au Z Z ⟨C,aV,Z,a.d [0,1,3,2] Z Z⟩
 refine gl6<|bl (bf (cs:=[N false,Q3]) dw Z a) Z fun aJ w a=>V 1 Z ?_
 replace a:=a.nil X
 have d:=a.pick (os':=[Y aJ [N false,Q3],U X (.slice none 0 0) []]++[Y n [N j,c],U X c o,Y l [N e,b],U X b m]) [1,0,2,3,4,5] (by decide) Z
 refine M h fun ae b6 h=>aK Z (eZ false q b6 d.f ((f.rp 0 Z).f (W Z) d) ((f.rb 1 Z).f d)) Z ?_
 rintro _ w ⟨aM,rfl,p⟩
 have a:=d.g p
 refine bl (bf (cs:=[N false,Q3]) dw Z a) Z fun aW w a=>V 1 Z ?_
 replace a:=a.nil X
 have d:=a.pick (os':=[Y aW [N false,Q3],U X (.slice none 0 0) []]++[Y aJ [N ae.1,aM],U X aM ae.2,Y n [N j,c],U X c o,Y l [N e,b],U X b m]) [1,0,2,3,4,5,6,7] (by decide) Z
 refine M h fun aY b7 h=>aK Z (eZ false x b7 d.f ((f.rp 2 Z).f (W Z) d) ((f.rb 3 Z).f d)) Z ?_
 rintro _ w ⟨bj,rfl,p⟩
 have a:=d.g p
 refine V 2 Z<|gl2<|M h fun aZ b8 h=>bz a Z (cZ 1 b8 ) Z fun bk bm w a=>M h fun a0 b9 h=>bz a Z (cZ 0 b9 ) Z fun bp bs w a=>V 2 Z<|gl1<|av ?_
 replace a:=a.pick (os':=[Y bs [N a0.1,bp],U X bp a0.2,Y bm [N aZ.1,bk],U X bk aZ.2,Y aW [N aY.1,bj],U X bj aY.2,Y aJ [N ae.1,aM],U X aM ae.2]++[Y n [N j,c],U X c o,Y l [N e,b],U X b m]) [0,1,2,3,4,5,6,7,8,9,10,11] (by decide) rfl
 obtain⟨cz,cp,E,f,hP,a⟩:=E.frzT hTT f hP a
 refine ay [(0,P n 0),(1,P l 0),(2,.pointer none),(3,P T 0),(4,P ab 0),(15,P aJ 0),(16,P aW 0),(17,P bm 0),(18,P bs 0)] Z ?_
 refine bg (F.Jv j o e m q A x B) (fun (s:Bool×Q0×Bool×Q0×Bool×Q0×Bool×Q0) L w=>∃(bt:Nat) (bu:Value) (a1:Nat) (a2:Value) (bv:Nat) (bw:Value) (a3:Nat) (a4:Value),L=[(0,P n 0),(1,P l 0),(2,.pointer none),(3,P T 0),(4,P ab 0),(15,P bt 0),(16,P a1 0),(17,P bv 0),(18,P a3 0)]/\SfT S [] G w [Y a3 [N s.2.2.2.2.2.2.1,a4],red X a4 s.2.2.2.2.2.2.2,Y bv [N s.2.2.2.2.1,bw],red X bw s.2.2.2.2.2.1,Y a1 [N s.2.2.1,a2],red X a2 s.2.2.2.1,Y bt [N s.1,bu],red X bu s.2.1,Y ab [N x,z],red X z B,Y T [N q,y],red X y A] [Y n [N j,c],U X c o,Y l [N e,b],U X b m]) ?_ (ae.1,ae.2,aY.1,aY.2,aZ.1,aZ.2,a0.1,a0.2) ⟨aJ,aM,aW,bj,bm,bk,bs,bp,Z,(SfT.mk' E (f.pick [11,10,9,8,7,6,5,4,3,2,1,0] Z) (hP.pick [11,10,9,8,7,6,5,4,3,2,1,0] Z) a)⟩ h
 rintro cq ⟨bA,cA,bS,cj,bB,cB,bT,ck⟩ L w cC hI ca h bH
 try dsimp only at hI
 obtain⟨bt,bu,a1,a2,bv,bw,a3,a4,rfl,⟨cD,cr,E,f,hP,a⟩⟩:=hI
 unfold F.Jv at h
 refine az<|R<|V 1 Z<|O (aL Z) Z<|O (ak (k:=1) u130 Z Z dD Z) Z<|O (ao u57 Z Z ((f.rb 7 Z).cell a.fr 1 Z)) Z<|O (aD u57 Z ((f.rp 6 Z).b a.fr)) Z<|V 1 Z<|Q ?_
 apply gl9 Z h<;>intro h
 ·refine gl5<|av<|R<|bl (bf (cs:=[N false,Q3]) dw Z a) Z fun a5 w a=>V 2 Z<|bl (bf (cs:=[N false,Q3]) dw Z a) Z fun aN w a=>?_
  replace a:=a.nil X
  replace a:=a.nil X
  have d:=a.pick (os':=[Y a5 [N false,Q3],U X (.slice none 0 0) [],Y aN [N false,Q3],U X (.slice none 0 0) []]++[Y n [N j,c],U X c o,Y l [N e,b],U X b m]) [3,1,2,0,4,5,6,7] (by decide) Z
  refine M h fun u cb h=>aK Z (i8 false bA bS false cb d.f ((f.rp 4 Z).f (W Z) d) ((f.rb 5 Z).f d) ((f.rp 6 Z).f (W Z) d) ((f.rb 7 Z).f d)) Z ?_
  rintro _ w ⟨ah,ac,rfl,p⟩
  have a:=d.g p
  refine V 5 Z<|gl2<|V 4 Z<|Q<|am<|V 1 Z<|bl (bf (cs:=[N false,Q3]) dw Z a) Z fun a6 w a=>V 1 Z<|bl (bf (cs:=[N false,Q3]) dw Z a) Z fun bC w a=>V 2 Z ?_
  replace a:=a.nil X
  have d:=a.pick (os':=[Y bC [N false,Q3],U X (.slice none 0 0) []]++[Y a6 [N false,Q3],Y a5 [N u.1,ah],U X ah u.2.1,Y aN [N u.2.2.1,ac],U X ac u.2.2.2,Y n [N j,c],U X c o,Y l [N e,b],U X b m]) [1,0,2,3,4,5,6,7,8,9,10] (by decide) Z
  refine M h fun aO cc h=>aK Z (iB false u.1 bT cc d.f (d.giveO 2 Z) (d.giveB 1 Z) ((f.rp 10 Z).f (W Z) d) ((f.rb 11 Z).f d)) Z ?_
  rintro _ w ⟨aq,rfl,p⟩
  have a:=d.g p
  replace a:=a.nil X
  have d:=a.pick (os':=[Y a6 [N false,Q3],U X (.slice none 0 0) []]++[Y bC [N aO.1,aq],U X aq aO.2,Y a5 [N u.1,ah],U X ah u.2.1,Y aN [N u.2.2.1,ac],U X ac u.2.2.2,Y n [N j,c],U X c o,Y l [N e,b],U X b m]) [3,0,1,2,4,5,6,7,8,9,10,11] (by decide) Z
  refine M h fun aw bU h=>aK Z (kL false bB aO.1 bU d.f ((f.rp 8 Z).f (W Z) d) ((f.rb 9 Z).f d) (d.giveO 1 Z) (d.giveB 0 Z)) Z ?_
  rintro _ w ⟨ba,rfl,p⟩
  have a:=d.g p
  refine V 2 Z<|aE<|aF ?_
  replace a:=a.pick (os':=[Y a6 [N aw.1,ba],U X ba aw.2,Y bC [N aO.1,aq],U X aq aO.2,Y a5 [N u.1,ah],U X ah u.2.1,Y aN [N u.2.2.1,ac],U X ac u.2.2.2]++[Y n [N j,c],U X c o,Y l [N e,b],U X b m]) [0,1,2,3,4,5,6,7,8,9,10,11] (by decide) rfl
  obtain⟨ct,cm,E,f,hP,a⟩:=E.frzT hTT f hP a
  exact bn (br (ca (bS,cj,u.2.2.1,u.2.2.2,bT,ck,aw.1,aw.2) _ _ ⟨a1,a2,aN,ac,a3,a4,a6,ba,Z,(SfT.mk' E (f.pick [19,18,11,10,13,12,7,6,3,2,1,0] Z) (hP.pick [19,18,11,10,13,12,7,6,3,2,1,0] Z) a)⟩ (aX h bH)) Z)
 refine a7<|aB<|aB<|have h:=aS h bH;a8<|al<|az<|R<|V 1 Z<|O (aj Z Z (nW u124 l 0)) Z<|V 4 Z<|Q<|c8 Z<|az<|R<|V 1 Z<|O (aL Z) Z<|O (ak (k:=0) u130 Z Z nz4 Z) Z<|O (ao u4 Z Z ((f.rb 1 Z).cell a.fr 0 Z)) Z<|Q ?_
 apply gl9 Z h<;>intro h
 ·refine am<|V 2 Z ?_
  cases h
 refine gl6<|bl (bf (cs:=[N false,Q3]) dw Z a) Z fun ad w a=>V 2 Z ?_
 replace a:=a.nil X
 have d:=a.pick (os':=[Y ad [N false,Q3],U X (.slice none 0 0) []]++[Y n [N j,c],U X c o,Y l [N e,b],U X b m]) [1,0,2,3,4,5] (by decide) Z
 refine M h fun bb bV h=>aK Z (iB false q bB bV d.f ((f.rp 0 Z).f (W Z) d) ((f.rb 1 Z).f d) ((f.rp 8 Z).f (W Z) d) ((f.rb 9 Z).f d)) Z ?_
 rintro _ w ⟨bI,rfl,p⟩
 have a:=d.g p
 refine V 1 Z<|gl2<|V 3 Z<|have d:=a.pick (os':=[Y ad [N bb.1,bI],U X bI bb.2]++[Y n [N j,c],U X c o,Y l [N e,b],U X b m]) [0,1,2,3,4,5] (by decide) Z;M h fun bc bW h=>aK Z (mS bb.1 bA bW d.f ((f.rp 4 Z).f (W Z) d) ((f.rb 5 Z).f d)) Z ?_
 rintro _ w ⟨bJ,rfl,p⟩
 have a:=d.g p
 refine gl2<|V 3 Z<|have d:=a.pick (os':=[Y ad [N bc.1,bJ],U X bJ bc.2]++[Y n [N j,c],U X c o,Y l [N e,b],U X b m]) [0,1,2,3,4,5] (by decide) Z;M h fun aC bX h=>aK Z (mx bc.1 x bX d.f ((f.rp 2 Z).f (W Z) d) ((f.rb 3 Z).f d)) Z ?_
 rintro _ w ⟨aG,rfl,p⟩
 have a:=d.g p
 refine gl1<|R<|V 1 Z<|O (aj Z Z (qP u124)) Z<|Q<|eL Z<|gl6<|V 1 Z<|O (aj Z Z (nW u124 l 0)) Z<|Q<|c8 Z<|am<|V 2 Z<|have d:=a.pick (os':=[Y l [N e,b],U X b m]++[Y ad [N aC.1,aG],U X aG aC.2,Y n [N j,c],U X c o]) [4,5,0,1,2,3] (by decide) Z;M h fun bK bY h=>aK Z (gf e bB bY d.f ((f.rp 8 Z).f (W Z) d) ((f.rb 9 Z).f d)) Z ?_
 rintro _ w ⟨bd,rfl,p⟩
 have a:=d.g p
 refine gl2<|V 2 Z<|have d:=a.pick (os':=[Y n [N j,c],U X c o]++[Y l [N bK.1,bd],U X bd bK.2,Y ad [N aC.1,aG],U X aG aC.2]) [4,5,0,1,2,3] (by decide) Z;M h fun cu bZ h=>aK Z (gf j bA bZ d.f ((f.rp 4 Z).f (W Z) d) ((f.rb 5 Z).f d)) Z ?_
 rintro _ w ⟨cd,rfl,p⟩
 have a:=d.g p
 refine V 1 Z<|Q<|ar ?_
 cases h
 replace a:=E.st a
 exact au Z Z ⟨cd,bd,Z,a.d [0,1,2,3] Z Z⟩
theorem kW {n:World} {g x y:Q0} {b s t:Value} {e z A:Nat} {S:Q2} (d o p:Bool) {r:Bool×Q0}
  (h:F.Js d g o x p y=some r) (a:St S n n [Y e [N d,b],U X b g]) (ab:RP S n X s x) (hBa1:RB S n z [N o,s]) (ac:RP S n X t y) (hBa2:RB S n A [N p,t]):Calls Tryz.prog 141 #[P e 0,P z 0,P A 0] n (Ret fun v w=>∃B:Value,v=P e 0/\St S n w [Y e [N r.1,B],U X B r.2]):=by
 refine ax 32 Tryz.func141 Z Z Z<|ay [(0,P e 0),(1,P z 0),(2,P A 0)] Z ?_
 unfold F.Js at h
 refine R<|V 1 Z<|gl2<|bl (bf (cs:=[N false,Q3]) dw Z a) Z fun u w a=>V 1 Z ?_
 replace a:=a.nil X
 have c:=a.pick (os':=[Y u [N false,Q3],U X (.slice none 0 0) []]++[Y e [N d,b],U X b g]) [1,0,2,3] (by decide) Z
 refine M h fun f aj h=>aK Z (eZ false p aj c.f (ac.f (W Z) c) (hBa2.f c)) Z ?_
 rintro _ w ⟨l,rfl,j⟩
 have a:=c.g j
 refine V 1 Z<|gl2<|bl (bf (cs:=[N false,Q3]) dw Z a) Z fun C w a=>V 2 Z ?_
 replace a:=a.nil X
 have c:=a.pick (os':=[Y C [N false,Q3],U X (.slice none 0 0) []]++[Y u [N f.1,l],U X l f.2,Y e [N d,b],U X b g]) [1,0,2,3,4,5] (by decide) Z
 refine M h fun k ad h=>aK Z (kx false o f.1 ad c.f (ab.f (W Z) c) (hBa1.f c) (c.giveO 1 Z) (c.giveB 0 Z)) Z ?_
 rintro _ w ⟨m,rfl,j⟩
 have a:=c.g j
 refine V 1 Z<|gl2<|bl (bf (cs:=[N false,Q3]) dw Z a) Z fun D w a=>V 1 Z<|gl2<|bl (bf (cs:=[N false,Q3]) dw Z a) Z fun E w a=>V 3 Z ?_
 replace a:=a.nil X
 replace a:=a.nil X
 have c:=a.pick (os':=[Y E [N false,Q3],U X (.slice none 0 0) [],Y D [N false,Q3],U X (.slice none 0 0) []]++[Y C [N k.1,m],U X m k.2,Y u [N f.1,l],U X l f.2,Y e [N d,b],U X b g]) [2,1,3,0,4,5,6,7,8,9] (by decide) Z
 refine M h fun i ae h=>aK Z (pV false false k.1 f.1 ae c.f (c.giveO 1 Z) (c.giveB 0 Z) (c.giveO 3 Z) (c.giveB 2 Z)) Z ?_
 rintro _ w ⟨G,L,rfl,j⟩
 have a:=c.g j
 refine V 1 Z<|gl1<|R<|V 1 Z<|M h fun q O h=>bz a Z (cZ 1 O ) Z fun T ak w a=>M h fun am ah h=>aR a Z (gd i.1 q.1 ah (a.ro 3 Z).rp (a.rb 2 Z) (a.ro 1 Z).rp (a.rb 0 Z)) Z fun w a=>V 1 Z<|Q ?_
 apply gl9 Z h<;>intro h
 ·refine R<|V 1 Z<|gl8 ?_
  cases h
 refine gl6<|V 3 Z<|have c:=a.pick (os':=[Y e [N d,b],U X b g]++[Y ak [N q.1,T],U X T q.2,Y E [N i.1,G],U X G i.2.1,Y D [N i.2.2.1,L],U X L i.2.2.2,Y C [N k.1,m],U X m k.2,Y u [N f.1,l],U X l f.2]) [10,11,0,1,2,3,4,5,6,7,8,9] (by decide) Z;M h fun an J h=>aK Z (kx d i.2.2.1 f.1 J c.f (c.giveO 5 Z) (c.giveB 4 Z) (c.giveO 9 Z) (c.giveB 8 Z)) Z ?_
 rintro _ w ⟨al,rfl,j⟩
 have a:=c.g j
 refine V 1 Z<|Q<|ar ?_
 cases h
 exact au Z Z ⟨al,Z,a.d [0,1] Z Z⟩
end Go.Proofs
