import Derived.Test.YtmegjloifgfldaaGreatDoorRW0
import Derived.Test.YtmegjloifgfldaaGreatDoorGkFman
import Derived.Test.YtmegjloifgfldaaGreatDoorRWbignumb
set_option linter.unusedVariables false
set_option linter.unusedSimpArgs false
set_option linter.unusedSectionVars false
set_option maxRecDepth 4000
namespace Go.Proofs
open Go Go.RowKit Go.Gk
open Go.Gk renaming aa -> V, af -> M, ag -> O, ai -> J, e32 -> X, gl3 -> Q, gl4 -> R, own -> U, pB -> P, vB -> N, vI -> H
open Nat renaming le_of_ble_eq_true -> W
open Go.Gk.OE renaming bx -> Y
open Go.Gk.Rds renaming cons -> I
theorem f8 {c:World} {l m:Q0} {g j:Value} {n o:Nat} (d e:Bool) {r:Int}
  (h:F.HL d l e m=some r) (p:RP [] c X g l) (hBa0:RB [] c n [N d,g]) (q:RP [] c X j m) (hBa1:RB [] c o [N e,j]):Calls Tryz.prog 123 #[P n 0,P o 0] c (Ret fun v w=>v=H r/\St [] c w []):=by
 refine ay 35 Tryz.func123 Z Z Z<|have a:=St.k c;ax [(0,P n 0),(1,P o 0)] Z ?_
 unfold F.HL at h
 refine R<|V 1 Z<|gl1<|az<|aQ (fun w'=>St [] c w' []) (fun _=>true) bK (fun _ _ _ f=>f.2) (fun _ _ f=>f) (by kernel_rfl)<|have a:=a.drew;show lxE _ _ _ _ _ _ _ [0,1,2,3,4,5,6,7,8] _ _ from an 1 Z a<|J a Z Z (fun w b=>aK Z) Z<|J a Z Z (fun w b=>ak (k:=0) u130 Z Z nz4 Z) Z<|J a Z Z (fun w b=>ar u4 Z Z (hBa0.cell b.fr 0 Z)) Z<|an 1 Z a<|J a Z Z (fun w b=>aK Z) Z<|J a Z Z (fun w b=>ak (k:=0) u130 Z Z nz4 Z) Z<|J a Z Z (fun w b=>ar u4 Z Z (hBa1.cell b.fr 0 Z)) Z<|J a Z Z (fun w b=>aj Z Z (mm _ d e u4 Z)) Z<|a8 a<|am ?_
 apply gl9 Z h<;>intro h
 ·refine az<|R<|V 1 Z<|O (aK Z) Z<|O (ak (k:=0) u130 Z Z nz4 Z) Z<|O (ar u4 Z Z (hBa0.cell a.fr 0 Z)) Z<|Q ?_
  apply gl9 Z h<;>intro h
  ·refine R<|V 1 Z<|gl8<|aN ?_
   cases h
   exact au Z Z ⟨Z,a⟩
  refine gl6<|V 1 Z<|gl8 ?_
  cases h
  exact au Z Z ⟨Z,a⟩
 refine gl5<|az<|aQ (fun w'=>St [] c w' []) (fun i=>!([8].contains i)) bK (fun _ _ _ f=>f.2) (fun _ _ f=>f) (by kernel_rfl)<|have a:=a.drew;show lxE _ _ _ _ _ _ _ [0,1,2,3,4,5,6,7,8,9] _ _ from an 1 Z a<|J a Z Z (fun w b=>aK Z) Z<|J a Z Z (fun w b=>ak (k:=1) u130 Z Z dA Z) Z<|J a Z Z (fun w b=>ar u57 Z Z (hBa0.cell b.fr 1 Z)) Z<|an 1 Z a<|J a Z Z (fun w b=>aK Z) Z<|J a Z Z (fun w b=>ak (k:=1) u130 Z Z dA Z) Z<|J a Z Z (fun w b=>ar u57 Z Z (hBa1.cell b.fr 1 Z)) Z<|M h fun t s h=>aY a Z Z (by kernel_rfl) Z (kM  s (p.b a.fr).rp (q.b a.fr).rp) Z ?_
 rintro _ w ⟨rfl,u⟩
 have a:=a.e u
 refine an 1 Z a<|a8 a<|am<|az<|R<|V 1 Z<|O (aK Z) Z<|O (ak (k:=0) u130 Z Z nz4 Z) Z<|O (ar u4 Z Z (hBa0.cell a.fr 0 Z)) Z<|Q ?_
 apply gl9 Z h<;>intro h
 ·refine R<|V 1 Z<|O (nH Z (Fb t)) Z<|V 1 Z<|gl8 ?_
  cases h
  exact au Z Z ⟨Z,a⟩
 refine gl6<|V 2 Z<|Q<|aq ?_
 cases h
 exact au Z Z ⟨Z,a⟩
theorem nL {o:World} {f:Q0} {j:Value} {d:Nat} (p:Bool) {r:Q1}
  (h:F.KW p f=some r) (c:RP [] o X j f) (hBa0:RB [] o d [N p,j]):Calls Tryz.prog 128 #[P d 0] o (Ret fun v w=>St [] o w [U e8 v r]):=by
 refine ay 41 Tryz.func128 Z Z Z<|have a:=St.k o;ax [(0,P d 0)] Z ?_
 unfold F.KW at h
 refine R<|V 1 Z<|gl2<|V 1 Z<|O (aK Z) Z<|O (ak (k:=1) u130 Z Z dA Z) Z<|O (ar u57 Z Z (hBa0.cell a.fr 1 Z)) Z<|M h fun D y h=>aS a Z (i0  y (c.b a.fr).rp) Z fun w a=>V 1 Z<|O (aj Z Z (dJ _ (wI (D+7)) 8 (by decide))) Z<|bg h fun l z h=>O (bd (v:=H l) (by rw[<-z]; rfl)) Z<|gl2<|V 1 Z<|M h fun E A h=>bn (cV (e:=e8) u25 ti5 Z Z Z a A) Z fun q w a=>V 1 Z<|gl1<|R<|V 1 Z<|Q<|av<|ax [(0,P d 0),(3,H l),(4,q),(5,H 0)] Z ?_
 refine bf (F.KE f l) (fun (s:Int×Q1) L w=>L=[(0,P d 0),(3,H l),(4,q),(5,H s.1)]/\St [] o w [U e8 q s.2]) ?_ (0,E) ⟨Z,a⟩ h
 rintro S ⟨b,ac⟩ L w T G B h u
 try dsimp only at G
 obtain⟨rfl,a⟩:=G
 unfold F.KE at h
 refine az<|R<|V 3 Z<|Q ?_
 apply gl9 Z h<;>intro h
 ·refine gl5<|az<|av<|al<|V 6 Z<|O (aK Z) Z<|O (ak (k:=1) u130 Z Z dA Z) Z<|O (ar u57 Z Z (hBa0.cell a.fr 1 Z)) Z<|V 1 Z<|O (aj Z Z (dJ _ b 4 (by decide))) Z<|M h fun g m h=>O (bh u57 aL Z Z (c.b a.fr) m) Z<|O (aX u106 Z Z (c.b a.fr) m Z) Z<|V 1 Z<|O (aE Z (fv u3 u67 b)) Z<|O (aj Z Z (fp _ (UInt64.ofInt b) 4 (by decide))) Z<|O (aj Z Z (js _ 8 ((UInt64.ofInt b)%4))) Z<|O (aj Z Z (de _ g (8*((UInt64.ofInt b)%4)))) Z<|O (aE Z (fT u106 Tryz.underlying5 (bv g ((8*((UInt64.ofInt b)%4)).toNat)))) Z<|M h fun ab n h=>O (bh u25 ti5 Z Z (a.ro 0 Z) n) Z<|bm (bX (t:=((bv g ((8*((UInt64.ofInt b)%4)).toNat)).toUInt8)) ti5 Z Z a (i:=0) Z n Z) fun w a=>bg h fun C x h=>?_
  rw[x]at a
  exact aG<|aH<|am<|al<|V 3 Z<|aG<|bo (br (B (wI (b+1),C) _ _ ⟨Z,a⟩ (aW h u)) Z)
 refine aZ<|aA<|aA<|have h:=aR h u;a7<|am<|R<|V 2 Z<|Q<|aq ?_
 cases h
 exact au Z Z (a.d [0] Z Z)
theorem dq {c:World} {d:Q0} {a:Value} {e:Nat} (f:Bool) {r:Int}
  (h:F.GT f d=some r) (g:RP [] c X a d) (hBa0:RB [] c e [N f,a]):Calls Tryz.prog 136 #[P e 0] c (Ret fun v w=>v=H r/\St [] c w []):=by
 refine ay 13 Tryz.func136 Z Z Z<|have b:=St.k c;ax [(0,P e 0)] Z ?_
 unfold F.GT at h
 refine R<|V 1 Z<|gl1<|R<|V 1 Z<|O (aK Z) Z<|O (ak (k:=1) u130 Z Z dA Z) Z<|O (ar u57 Z Z (hBa0.cell b.fr 1 Z)) Z<|O (aD u57 Z (g.b b.fr)) Z<|V 1 Z<|Q ?_
 apply gl9 Z h<;>intro h
 ·refine R<|V 1 Z<|gl8 ?_
  cases h
  exact au Z Z ⟨Z,b⟩
 refine gl5<|az<|R<|V 1 Z<|O (aK Z) Z<|O (ak (k:=0) u130 Z Z nz4 Z) Z<|O (ar u4 Z Z (hBa0.cell b.fr 0 Z)) Z<|Q ?_
 apply gl9 Z h<;>intro h
 ·refine R<|V 1 Z<|gl8 ?_
  cases h
  exact au Z Z ⟨Z,b⟩
 refine gl6<|V 1 Z<|Q<|aq ?_
 cases h
 exact au Z Z ⟨Z,b⟩
theorem i7 {b:World} {c:Q0} {a:Value} {d:Nat} (e:Bool) {r:Int}
  (h:F.JZ e c=some r) (g:RP [] b X a c) (hBa0:RB [] b d [N e,a]):Calls Tryz.prog 87 #[P d 0] b (Ret fun v w=>v=H r/\St [] b w []):=by
 refine ay 8 Tryz.func87 Z Z Z<|have f:=St.k b;ax [(0,P d 0)] Z ?_
 unfold F.JZ at h
 refine R<|V 1 Z<|gl2<|V 1 Z<|O (aK Z) Z<|O (ak (k:=1) u130 Z Z dA Z) Z<|O (ar u57 Z Z (hBa0.cell f.fr 1 Z)) Z<|M h fun j i h=>aS f Z (i0  i (g.b f.fr).rp) Z fun w f=>V 1 Z<|Q<|aq ?_
 cases h
 exact au Z Z ⟨Z,f⟩
theorem n8 {d:World} {a0:Q0} {c:Value} (a1:Int) {r:UInt64}
  (h:F.Kh a0 a1=some r) (e:RP [] d X c a0):Calls Tryz.prog 139 #[c,H a1] d (Ret fun v w=>v=v64 r/\St [] d w []):=by
 refine ay 25 Tryz.func139 Z Z Z<|have b:=St.k d;ax [(0,c),(1,H a1)] Z ?_
 unfold F.Kh at h
 refine R<|V 1 Z<|gl1 ?_
 refine aU (r:=r) (fun (g:Bool) L w=>L=[(0,c),(1,H a1),(13,N g)]/\St [] d w []) (F.Lb a0 a1) ?_ ?_
 rotate_left
 ·intro f
  refine al<|V 3 Z ?_
  cases a:(decide (a1<0))
  case true=>
   have h:=bH h a
   try simp only[a]
   exact V 6 Z<|Q<|aB (f true _ _ ⟨Z,b⟩ h) Z
  case false=>
   have h:=bI h a
   try simp only[a]
   exact V 1 Z<|aO (t:=7) Z Z (aj Z Z (dJ _ a1 32 (by decide))) Z<|V 1 Z<|aO (t:=7) Z Z (aD u57 Z (e.b b.fr)) Z<|V 2 Z<|Q<|aB (f (decide ((a0.length:Int)<=(wI (Int.tdiv a1 32)))) _ _ ⟨Z,b⟩ h) Z
 rintro l L w k h
 try dsimp only at k
 obtain⟨rfl,b⟩:=k
 unfold F.Lb at h
 apply gl9 Z h<;>intro h
 ·refine R<|V 1 Z<|gl8 ?_
  cases h
  exact au Z Z ⟨Z,b⟩
 refine gl6<|V 2 Z<|O (aj Z Z (dJ _ a1 32 (by decide))) Z<|M h fun i j h=>O (bh u57 aL Z Z (e.b b.fr) j) Z<|O (aX u106 Z Z (e.b b.fr) j Z) Z<|V 1 Z<|O (aE Z (fv u3 u67 a1)) Z<|O (aj Z Z (fp _ (UInt64.ofInt a1) 32 (by decide))) Z<|O (aj Z Z (de _ i ((UInt64.ofInt a1)%32))) Z<|O (aE Z (bC u106 u67 (bv i (((UInt64.ofInt a1)%32).toNat)))) Z<|O (aj Z Z (fX _ ((bv i (((UInt64.ofInt a1)%32).toNat)).toUInt64) 1)) Z<|V 1 Z<|Q<|aq ?_
 cases h
 exact au Z Z ⟨Z,b⟩
theorem ku {d:World} {f:Q0} {b:Value} {g:Nat} (i:Bool) (a1:Int) {r:UInt64}
  (h:F.JL i f a1=some r) (c:RP [] d X b f) (hBa0:RB [] d g [N i,b]):Calls Tryz.prog 88 #[P g 0,H a1] d (Ret fun v w=>v=v64 r/\St [] d w []):=by
 refine ay 27 Tryz.func88 Z Z Z<|have a:=St.k d;ax [(0,P g 0),(1,H a1)] Z ?_
 unfold F.JL at h
 refine R<|V 1 Z<|gl1<|R<|V 2 Z<|Q ?_
 apply gl9 Z h<;>intro h
 ·refine R<|V 1 Z<|gl8 ?_
  cases h
  exact au Z Z ⟨Z,a⟩
 refine gl5<|az<|R<|V 1 Z<|O (aK Z) Z<|O (ak (k:=0) u130 Z Z nz4 Z) Z<|O (ar u4 Z Z (hBa0.cell a.fr 0 Z)) Z<|V 1 Z<|Q ?_
 apply gl9 Z h<;>intro h
 ·refine R<|V 1 Z<|O (aK Z) Z<|O (ak (k:=1) u130 Z Z dA Z) Z<|O (ar u57 Z Z (hBa0.cell a.fr 1 Z)) Z<|V 1 Z<|M h fun p j h=>aS a Z (n8 a1 j (c.b a.fr).rp) Z fun w a=>V 1 Z<|gl8 ?_
  cases h
  exact au Z Z ⟨Z,a⟩
 refine gl6<|V 1 Z<|O (aK Z) Z<|O (ak (k:=1) u130 Z Z dA Z) Z<|O (ar u57 Z Z (hBa0.cell a.fr 1 Z)) Z<|bn (bJ (e:=X) (l:=([1]:Q0)) (vs:=[v32 1]) u57 aL Z Z Z Z (by decide) (by decide) a) Z fun q w a=>M h fun s m h=>aM a Z (ko  m (c.b a.fr).rp (a.ro 0 Z).rp) Z fun t w a=>V 1 Z<|M h fun o n h=>aS a Z (n8 a1 n (a.ro 0 Z).rp) Z fun w a=>O (aj Z Z (fN _ o 1)) Z<|V 1 Z<|Q<|aq ?_
 cases h
 exact au Z Z ⟨Z,a.d [] Z Z⟩
theorem eX {g:World} {d i:Q0} {a f:Value} {b j:Nat} {S:Q2} (c l:Bool) {r:Bool×Q0}
  (h:F.Hw c d l i=some r) (e:St S g g [Y b [N c,a],U X a d]) (n:RP S g X f i) (hBa1:RB S g j [N l,f]):Calls Tryz.prog 167 #[P b 0,P j 0] g (Ret fun v w=>∃m:Value,v=P b 0/\St S g w [Y b [N r.1,m],U X m r.2]):=by
 refine ay 12 Tryz.func167 Z Z Z<|ax [(0,P b 0),(1,P j 0)] Z ?_
 unfold F.Hw at h
 refine R<|V 1 Z<|gl2<|V 2 Z<|O (aK Z) Z<|O (ak (k:=1) u130 Z Z dA Z) Z<|O (ar u57 Z Z (hBa1.cell e.fr 1 Z)) Z<|M h fun q o h=>aM e Z (jY  o (n.b e.fr).rp) Z fun s w e=>have t:=e.pick (os':=[Y b [N c,a],U X a d,U X s q]++[]) [1,2,0] (by decide) Z;M h fun y p h=>aJ Z (bS c false p t.f ) Z ?_
 rintro _ w ⟨u,rfl,x⟩
 have e:=t.g x
 refine V 1 Z<|Q<|aq ?_
 cases h
 exact au Z Z ⟨u,Z,e.d [0,1] Z Z⟩
theorem mr {i:World} {d j:Q0} {b g:Value} {a k:Nat} {S:Q2} (c e:Bool) {r:Bool×Q0}
  (h:F.K8 c d e j=some r) (f:St S i i [Y a [N c,b],U X b d]) (m:RP S i X g j) (hBa2:RB S i k [N e,g]):Calls Tryz.prog 182 #[P a 0,P a 0,P k 0] i (Ret fun v w=>∃l:Value,v=P a 0/\St S i w [Y a [N r.1,l],U X l r.2]):=by
 refine ay 13 Tryz.func182 Z Z Z<|ax [(0,P a 0),(1,P a 0),(2,P k 0)] Z ?_
 unfold F.K8 at h
 refine R<|V 1 Z<|gl2<|V 3 Z<|bl (bc (cs:=[N false,Q3]) dt Z f) Z fun p w f=>?_
 replace f:=f.nil X
 have n:=f.pick (os':=[Y a [N c,b],U X b d,Y p [N false,Q3],U X (.slice none 0 0) []]++[]) [2,3,1,0] (by decide) Z
 refine M h fun t o h=>aJ Z (kQ c e false o n.f (m.f (W Z) n) (hBa2.f n)) Z ?_
 rintro _ w ⟨q,u,rfl,s⟩
 have f:=n.g s
 refine gl2<|V 2 Z<|Q<|aq ?_
 cases h
 exact au Z Z ⟨q,Z,f.d [0,1] Z Z⟩
theorem pR {G:World} {o m A B:Q0} {c b y z:Value} {n l T ab:Nat} {S:Q2} (j e q x:Bool) {r:Bool×Q0×Bool×Q0}
  (h:F.LR j o e m q A x B=some r) (a:St S G G [Y n [N j,c],U X c o,Y l [N e,b],U X b m]) (b0:RP S G X y A) (hBa3:RB S G T [N q,y]) (b1:RP S G X z B) (hBa4:RB S G ab [N x,z]):Calls Tryz.prog 168 #[P n 0,P l 0,.pointer none,P T 0,P ab 0] G (Ret fun v w=>∃bM bN:Value,v=P n 0/\St S G w [Y n [N r.1,bM],U X bM r.2.1,Y l [N r.2.2.1,bN],U X bN r.2.2.2]):=by
 refine ay 161 Tryz.func168 Z Z Z<|have E:=Fz.k (S:=S) (w0:=G);?_
 have hTT:TOk S [] G:=TOk.nil
 have f:Rds S G [Y ab [N x,z],red X z B,Y T [N q,y],red X y A]:=I hBa4.h (I (RP.h (W Z) b1) (I hBa3.h (I (RP.h (W Z) b0) (Rds.nil))))
 have hP:Off [] [Y ab [N x,z],red X z B,Y T [N q,y],red X y A]:=Off.emp
 refine ax [(0,P n 0),(1,P l 0),(2,.pointer none),(3,P T 0),(4,P ab 0)] Z ?_
 unfold F.LR at h
 refine R<|V 1 Z<|gl1 ?_
 refine aU (r:=r) (fun (g:Bool) L w=>L=[(0,P n 0),(1,P l 0),(2,.pointer none),(3,P T 0),(4,P ab 0),(35,N g)]/\SfT S [] G w [Y ab [N x,z],red X z B,Y T [N q,y],red X y A] [Y n [N j,c],U X c o,Y l [N e,b],U X b m]) (F.Lo j o q A x B e m) ?_ ?_
 rotate_left
 ·intro bO
  refine al<|V 1 Z<|O (aK Z) Z<|O (ak (k:=1) u130 Z Z dA Z) Z<|O (ar u57 Z Z ((f.rb 1 Z).cell a.fr 1 Z)) Z<|O (aD u57 Z ((f.rp 0 Z).b a.fr)) Z<|V 2 Z ?_
  cases aP:((A.length:Int) == 0)
  case true=>
   have h:=bH h aP
   try simp only[aP]
   exact V 7 Z<|Q<|aB (bO true _ _ ⟨Z,(SfT.mk' E (f.pick [3,2,1,0] Z) (hP.pick [3,2,1,0] Z) a)⟩ h) Z
  case false=>
   have h:=bI h aP
   try simp only[aP]
   exact V 1 Z<|aO (t:=28) Z Z (aK Z) Z<|aO (t:=28) Z Z (ak (k:=1) u130 Z Z dA Z) Z<|aO (t:=28) Z Z (ar u57 Z Z ((f.rb 3 Z).cell a.fr 1 Z)) Z<|aO (t:=28) Z Z (aD u57 Z ((f.rp 2 Z).b a.fr)) Z<|V 2 Z<|Q<|aB (bO ((B.length:Int) == 0) _ _ ⟨Z,(SfT.mk' E (f.pick [3,2,1,0] Z) (hP.pick [3,2,1,0] Z) a)⟩ h) Z
 rintro cE L w hJ h
 try dsimp only at hJ
 obtain⟨rfl,⟨ce,bP,E,f,hP,a⟩⟩:=hJ
 unfold F.Lo at h
 apply gl9 Z h<;>intro h
 ·refine az<|aQ (fun w'=>St ce bP w' [Y n [N j,c],U X c o,Y l [N e,b],U X b m]) (fun _=>true) bK (fun _ _ _ hf=>hf.2) (fun _ _ hf=>hf) (by kernel_rfl)<|have a:=a.drew;show lxE _ _ _ _ _ _ _ [0,1,2,3,4,5,6,7,8,9,10,11] _ _ from an 1 Z a<|J a Z Z (fun w D=>aK Z) Z<|J a Z Z (fun w D=>ak (k:=1) u130 Z Z dA Z) Z<|J a Z Z (fun w D=>ar u57 Z Z ((f.rb 1 Z).cell D.fr 1 Z)) Z<|J a Z Z (fun w D=>aD u57 Z ((f.rp 0 Z).b D.fr)) Z<|an 1 Z a<|J a Z Z (fun w D=>aK Z) Z<|J a Z Z (fun w D=>ak (k:=1) u130 Z Z dA Z) Z<|J a Z Z (fun w D=>ar u57 Z Z ((f.rb 3 Z).cell D.fr 1 Z)) Z<|J a Z Z (fun w D=>aD u57 Z ((f.rp 2 Z).b D.fr)) Z<|an 2 Z a<|a8 a<|am<|az<|aQ (fun w'=>St ce bP w' [Y n [N j,c],U X c o,Y l [N e,b],U X b m]) (fun _=>true) bK (fun _ _ _ hf=>hf.2) (fun _ _ hf=>hf) (by kernel_rfl)<|have a:=a.drew;show lxE _ _ _ _ _ _ _ [0,1,2,3,4,5,6,7,8,9] _ _ from an 1 Z a<|J a Z Z (fun w D=>aK Z) Z<|J a Z Z (fun w D=>ak (k:=0) u130 Z Z nz4 Z) Z<|J a Z Z (fun w D=>ar u4 Z Z ((f.rb 1 Z).cell D.fr 0 Z)) Z ?_
  refine an 1 Z a<|J a Z Z (fun w D=>aK Z) Z<|J a Z Z (fun w D=>ak (k:=0) u130 Z Z nz4 Z) Z<|J a Z Z (fun w D=>ar u4 Z Z ((f.rb 3 Z).cell D.fr 0 Z)) Z<|an 2 Z a<|a8 a<|am ?_
  refine aU (r:=r) (fun (g:Bool×Q0) L w=>∃(C:Value),L=[(0,P n 0),(1,P l 0),(2,.pointer none),(11,H (A.length:Int)),(12,H (B.length:Int)),(13,N q),(14,N x)]/\SfT S [] G w [] [U X C g.2,Y n [N g.1,C],Y l [N e,b],U X b m]) (F.L6 e m q A) ?_ ?_
  rotate_left
  ·intro bD
   refine R<|V 2 Z<|Q ?_
   apply gl9 Z h<;>intro h
   ·refine al<|V 2 Z<|have d:=a.pick (os':=[Y n [N j,c],U X c o]++[Y l [N e,b],U X b m]) [0,1,2,3] (by decide) Z;M h fun bQ b2 h=>aJ Z (eX j x b2 d.f ((f.rp 2 Z).f (W Z) d) ((f.rb 3 Z).f d)) Z ?_
    rintro _ w ⟨cf,rfl,p⟩
    have a:=d.g p
    exact Q<|aB (bD (bQ.1,bQ.2) _ _ ⟨cf,Z,(SfT.mk' E Rds.nil Off.nil (a.d [1,0,2,3] Z Z))⟩ h) Z
   refine al<|V 2 Z<|have d:=a.pick (os':=[Y n [N j,c],U X c o]++[Y l [N e,b],U X b m]) [0,1,2,3] (by decide) Z;M h fun bR b3 h=>aJ Z (eX j q b3 d.f ((f.rp 0 Z).f (W Z) d) ((f.rb 1 Z).f d)) Z ?_
   rintro _ w ⟨cg,rfl,p⟩
   have a:=d.g p
   exact Q<|aB (bD (bR.1,bR.2) _ _ ⟨cg,Z,(SfT.mk' E Rds.nil Off.nil (a.d [1,0,2,3] Z Z))⟩ h) Z
  rintro⟨aS,aT⟩ L w hJ h
  try dsimp only at hJ
  obtain⟨C,rfl,⟨cv,cn,E,f,hP,a⟩⟩:=hJ
  unfold F.L6 at h
  refine aU (r:=r) (fun (g:Bool×Q0) L w=>∃(aV:Value),L=[(0,P n 0),(2,.pointer none),(11,H (A.length:Int)),(12,H (B.length:Int)),(14,N x)]/\SfT S [] G w [] [Y n [N aS,C],U X C aT,U X aV g.2,Y l [N g.1,aV]]) (F.LU aS aT) ?_ ?_
  rotate_left
  ·intro bE
   refine R<|V 1 Z<|O (aj Z Z (nT u124 l 0)) Z<|Q<|cZ Z<|R<|V 1 Z<|have d:=a.pick (os':=[Y l [N e,b],U X b m]++[U X C aT,Y n [N aS,C]]) [2,3,0,1] (by decide) Z;M h fun aF b4 h=>aJ Z (fQ e 0 b4 d.f ) Z ?_
   rintro _ w ⟨bi,rfl,p⟩
   have a:=d.g p
   refine gl2<|V 2 Z<|Q ?_
   apply gl9 Z h<;>intro h
   ·refine R<|V 1 Z<|have d:=a.pick (os':=[Y l [N aF.1,bi],U X bi aF.2]++[U X C aT,Y n [N aS,C]]) [0,1,2,3] (by decide) Z;M h fun ch b5 h=>aJ Z (fQ aF.1 1 b5 d.f ) Z ?_
    rintro _ w ⟨ci,rfl,p⟩
    have a:=d.g p
    refine Q<|al<|V 2 Z<|O (aK Z) Z<|O (ak (k:=0) u130 Z Z nz4 Z) Z<|bm (bp (i:=0) (us:=[N q]) Z sz4 Z Z Z ⟨Z,K⟩ Z a) fun w a=>Q ?_
    exact aB (bE (q,ch.2) _ _ ⟨ci,Z,(SfT.mk' E Rds.nil Off.nil (a.d [3,2,1,0] Z Z))⟩ h) Z
   exact gl5<|aB (bE (aF.1,aF.2) _ _ ⟨bi,Z,(SfT.mk' E Rds.nil Off.nil (a.d [3,2,1,0] Z Z))⟩ h) Z
  rintro⟨cw,cx⟩ L w hJ h
  try dsimp only at hJ
  obtain⟨aV,rfl,⟨cy,co,E,f,hP,a⟩⟩:=hJ
  unfold F.LU at h
  refine az<|R<|V 1 Z<|O (aj Z Z (qJ u124)) Z<|Q<|eJ Z<|gl6<|V 2 Z<|gl8 ?_
  cases h
  replace a:=E.st a
  exact au Z Z ⟨C,aV,Z,a.d [0,1,3,2] Z Z⟩
 refine gl6<|bl (bc (cs:=[N false,Q3]) dt Z a) Z fun aI w a=>V 1 Z ?_
 replace a:=a.nil X
 have d:=a.pick (os':=[Y aI [N false,Q3],U X (.slice none 0 0) []]++[Y n [N j,c],U X c o,Y l [N e,b],U X b m]) [1,0,2,3,4,5] (by decide) Z
 refine M h fun ae b6 h=>aJ Z (eX false q b6 d.f ((f.rp 0 Z).f (W Z) d) ((f.rb 1 Z).f d)) Z ?_
 rintro _ w ⟨aL,rfl,p⟩
 have a:=d.g p
 refine bl (bc (cs:=[N false,Q3]) dt Z a) Z fun aX w a=>V 1 Z ?_
 replace a:=a.nil X
 have d:=a.pick (os':=[Y aX [N false,Q3],U X (.slice none 0 0) []]++[Y aI [N ae.1,aL],U X aL ae.2,Y n [N j,c],U X c o,Y l [N e,b],U X b m]) [1,0,2,3,4,5,6,7] (by decide) Z
 refine M h fun aY b7 h=>aJ Z (eX false x b7 d.f ((f.rp 2 Z).f (W Z) d) ((f.rb 3 Z).f d)) Z ?_
 rintro _ w ⟨bj,rfl,p⟩
 have a:=d.g p
 refine V 2 Z<|gl2<|M h fun a0 b8 h=>bA a Z (cW 1 b8 ) Z fun bk bn w a=>M h fun a1 b9 h=>bA a Z (cW 0 b9 ) Z fun bq bs w a=>V 2 Z<|gl1<|av ?_
 replace a:=a.pick (os':=[Y bs [N a1.1,bq],U X bq a1.2,Y bn [N a0.1,bk],U X bk a0.2,Y aX [N aY.1,bj],U X bj aY.2,Y aI [N ae.1,aL],U X aL ae.2]++[Y n [N j,c],U X c o,Y l [N e,b],U X b m]) [0,1,2,3,4,5,6,7,8,9,10,11] (by decide) rfl
 obtain⟨cz,cp,E,f,hP,a⟩:=E.frzT hTT f hP a
 refine ax [(0,P n 0),(1,P l 0),(2,.pointer none),(3,P T 0),(4,P ab 0),(15,P aI 0),(16,P aX 0),(17,P bn 0),(18,P bs 0)] Z ?_
 refine bf (F.Jm j o e m q A x B) (fun (s:Bool×Q0×Bool×Q0×Bool×Q0×Bool×Q0) L w=>∃(bt:Nat) (bu:Value) (a2:Nat) (a3:Value) (bv:Nat) (bw:Value) (a4:Nat) (a5:Value),L=[(0,P n 0),(1,P l 0),(2,.pointer none),(3,P T 0),(4,P ab 0),(15,P bt 0),(16,P a2 0),(17,P bv 0),(18,P a4 0)]/\SfT S [] G w [Y a4 [N s.2.2.2.2.2.2.1,a5],red X a5 s.2.2.2.2.2.2.2,Y bv [N s.2.2.2.2.1,bw],red X bw s.2.2.2.2.2.1,Y a2 [N s.2.2.1,a3],red X a3 s.2.2.2.1,Y bt [N s.1,bu],red X bu s.2.1,Y ab [N x,z],red X z B,Y T [N q,y],red X y A] [Y n [N j,c],U X c o,Y l [N e,b],U X b m]) ?_ (ae.1,ae.2,aY.1,aY.2,a0.1,a0.2,a1.1,a1.2) ⟨aI,aL,aX,bj,bn,bk,bs,bq,Z,(SfT.mk' E (f.pick [11,10,9,8,7,6,5,4,3,2,1,0] Z) (hP.pick [11,10,9,8,7,6,5,4,3,2,1,0] Z) a)⟩ h
 rintro cq ⟨bz,cA,bS,cj,bB,cB,bT,ck⟩ L w cC hI ca h bF
 try dsimp only at hI
 obtain⟨bt,bu,a2,a3,bv,bw,a4,a5,rfl,⟨cD,cr,E,f,hP,a⟩⟩:=hI
 unfold F.Jm at h
 refine az<|R<|V 1 Z<|O (aK Z) Z<|O (ak (k:=1) u130 Z Z dA Z) Z<|O (ar u57 Z Z ((f.rb 7 Z).cell a.fr 1 Z)) Z<|O (aD u57 Z ((f.rp 6 Z).b a.fr)) Z<|V 1 Z<|Q ?_
 apply gl9 Z h<;>intro h
 ·refine gl5<|av<|R<|bl (bc (cs:=[N false,Q3]) dt Z a) Z fun a6 w a=>V 2 Z<|bl (bc (cs:=[N false,Q3]) dt Z a) Z fun aM w a=>?_
  replace a:=a.nil X
  replace a:=a.nil X
  have d:=a.pick (os':=[Y a6 [N false,Q3],U X (.slice none 0 0) [],Y aM [N false,Q3],U X (.slice none 0 0) []]++[Y n [N j,c],U X c o,Y l [N e,b],U X b m]) [3,1,2,0,4,5,6,7] (by decide) Z
  refine M h fun u cb h=>aJ Z (i5 false bz bS false cb d.f ((f.rp 4 Z).f (W Z) d) ((f.rb 5 Z).f d) ((f.rp 6 Z).f (W Z) d) ((f.rb 7 Z).f d)) Z ?_
  rintro _ w ⟨ah,ac,rfl,p⟩
  have a:=d.g p
  refine V 5 Z<|gl2<|V 4 Z<|Q<|al<|V 1 Z<|bl (bc (cs:=[N false,Q3]) dt Z a) Z fun a9 w a=>V 1 Z<|bl (bc (cs:=[N false,Q3]) dt Z a) Z fun bC w a=>V 2 Z ?_
  replace a:=a.nil X
  have d:=a.pick (os':=[Y bC [N false,Q3],U X (.slice none 0 0) []]++[Y a9 [N false,Q3],Y a6 [N u.1,ah],U X ah u.2.1,Y aM [N u.2.2.1,ac],U X ac u.2.2.2,Y n [N j,c],U X c o,Y l [N e,b],U X b m]) [1,0,2,3,4,5,6,7,8,9,10] (by decide) Z
  refine M h fun aN cc h=>aJ Z (iw false u.1 bT cc d.f (d.giveO 2 Z) (d.giveB 1 Z) ((f.rp 10 Z).f (W Z) d) ((f.rb 11 Z).f d)) Z ?_
  rintro _ w ⟨ap,rfl,p⟩
  have a:=d.g p
  replace a:=a.nil X
  have d:=a.pick (os':=[Y a9 [N false,Q3],U X (.slice none 0 0) []]++[Y bC [N aN.1,ap],U X ap aN.2,Y a6 [N u.1,ah],U X ah u.2.1,Y aM [N u.2.2.1,ac],U X ac u.2.2.2,Y n [N j,c],U X c o,Y l [N e,b],U X b m]) [3,0,1,2,4,5,6,7,8,9,10,11] (by decide) Z
  refine M h fun aw bU h=>aJ Z (kI false bB aN.1 bU d.f ((f.rp 8 Z).f (W Z) d) ((f.rb 9 Z).f d) (d.giveO 1 Z) (d.giveB 0 Z)) Z ?_
  rintro _ w ⟨ba,rfl,p⟩
  have a:=d.g p
  refine V 2 Z<|aG<|aH ?_
  replace a:=a.pick (os':=[Y a9 [N aw.1,ba],U X ba aw.2,Y bC [N aN.1,ap],U X ap aN.2,Y a6 [N u.1,ah],U X ah u.2.1,Y aM [N u.2.2.1,ac],U X ac u.2.2.2]++[Y n [N j,c],U X c o,Y l [N e,b],U X b m]) [0,1,2,3,4,5,6,7,8,9,10,11] (by decide) rfl
  obtain⟨ct,cm,E,f,hP,a⟩:=E.frzT hTT f hP a
  exact bo (br (ca (bS,cj,u.2.2.1,u.2.2.2,bT,ck,aw.1,aw.2) _ _ ⟨a2,a3,aM,ac,a4,a5,a9,ba,Z,(SfT.mk' E (f.pick [19,18,11,10,13,12,7,6,3,2,1,0] Z) (hP.pick [19,18,11,10,13,12,7,6,3,2,1,0] Z) a)⟩ (aW h bF)) Z)
 refine aZ<|aA<|aA<|have h:=aR h bF;a7<|am<|az<|R<|V 1 Z<|O (aj Z Z (nT u124 l 0)) Z<|V 4 Z<|Q<|cZ Z<|az<|R<|V 1 Z<|O (aK Z) Z<|O (ak (k:=0) u130 Z Z nz4 Z) Z<|O (ar u4 Z Z ((f.rb 1 Z).cell a.fr 0 Z)) Z<|Q ?_
 apply gl9 Z h<;>intro h
 ·refine al<|V 2 Z ?_
  cases h
 refine gl6<|bl (bc (cs:=[N false,Q3]) dt Z a) Z fun ad w a=>V 2 Z ?_
 replace a:=a.nil X
 have d:=a.pick (os':=[Y ad [N false,Q3],U X (.slice none 0 0) []]++[Y n [N j,c],U X c o,Y l [N e,b],U X b m]) [1,0,2,3,4,5] (by decide) Z
 refine M h fun bb bV h=>aJ Z (iw false q bB bV d.f ((f.rp 0 Z).f (W Z) d) ((f.rb 1 Z).f d) ((f.rp 8 Z).f (W Z) d) ((f.rb 9 Z).f d)) Z ?_
 rintro _ w ⟨bG,rfl,p⟩
 have a:=d.g p
 refine V 1 Z<|gl2<|V 3 Z<|have d:=a.pick (os':=[Y ad [N bb.1,bG],U X bG bb.2]++[Y n [N j,c],U X c o,Y l [N e,b],U X b m]) [0,1,2,3,4,5] (by decide) Z;M h fun bd bW h=>aJ Z (mN bb.1 bz bW d.f ((f.rp 4 Z).f (W Z) d) ((f.rb 5 Z).f d)) Z ?_
 rintro _ w ⟨bJ,rfl,p⟩
 have a:=d.g p
 refine gl2<|V 3 Z<|have d:=a.pick (os':=[Y ad [N bd.1,bJ],U X bJ bd.2]++[Y n [N j,c],U X c o,Y l [N e,b],U X b m]) [0,1,2,3,4,5] (by decide) Z;M h fun aC bX h=>aJ Z (mr bd.1 x bX d.f ((f.rp 2 Z).f (W Z) d) ((f.rb 3 Z).f d)) Z ?_
 rintro _ w ⟨aE,rfl,p⟩
 have a:=d.g p
 refine gl1<|R<|V 1 Z<|O (aj Z Z (qJ u124)) Z<|Q<|eJ Z<|gl6<|V 1 Z<|O (aj Z Z (nT u124 l 0)) Z<|Q<|cZ Z<|al<|V 2 Z<|have d:=a.pick (os':=[Y l [N e,b],U X b m]++[Y ad [N aC.1,aE],U X aE aC.2,Y n [N j,c],U X c o]) [4,5,0,1,2,3] (by decide) Z;M h fun bL bY h=>aJ Z (gc e bB bY d.f ((f.rp 8 Z).f (W Z) d) ((f.rb 9 Z).f d)) Z ?_
 rintro _ w ⟨be,rfl,p⟩
 have a:=d.g p
 refine gl2<|V 2 Z<|have d:=a.pick (os':=[Y n [N j,c],U X c o]++[Y l [N bL.1,be],U X be bL.2,Y ad [N aC.1,aE],U X aE aC.2]) [4,5,0,1,2,3] (by decide) Z;M h fun cu bZ h=>aJ Z (gc j bz bZ d.f ((f.rp 4 Z).f (W Z) d) ((f.rb 5 Z).f d)) Z ?_
 rintro _ w ⟨cd,rfl,p⟩
 have a:=d.g p
 refine V 1 Z<|Q<|aq ?_
 cases h
 replace a:=E.st a
 exact au Z Z ⟨cd,be,Z,a.d [0,1,2,3] Z Z⟩
theorem kS {n:World} {g x y:Q0} {b s t:Value} {e z A:Nat} {S:Q2} (d o p:Bool) {r:Bool×Q0}
  (h:F.Jj d g o x p y=some r) (a:St S n n [Y e [N d,b],U X b g]) (ab:RP S n X s x) (hBa1:RB S n z [N o,s]) (ac:RP S n X t y) (hBa2:RB S n A [N p,t]):Calls Tryz.prog 141 #[P e 0,P z 0,P A 0] n (Ret fun v w=>∃B:Value,v=P e 0/\St S n w [Y e [N r.1,B],U X B r.2]):=by
 refine ay 32 Tryz.func141 Z Z Z<|ax [(0,P e 0),(1,P z 0),(2,P A 0)] Z ?_
 unfold F.Jj at h
 refine R<|V 1 Z<|gl2<|bl (bc (cs:=[N false,Q3]) dt Z a) Z fun u w a=>V 1 Z ?_
 replace a:=a.nil X
 have c:=a.pick (os':=[Y u [N false,Q3],U X (.slice none 0 0) []]++[Y e [N d,b],U X b g]) [1,0,2,3] (by decide) Z
 refine M h fun f aj h=>aJ Z (eX false p aj c.f (ac.f (W Z) c) (hBa2.f c)) Z ?_
 rintro _ w ⟨l,rfl,j⟩
 have a:=c.g j
 refine V 1 Z<|gl2<|bl (bc (cs:=[N false,Q3]) dt Z a) Z fun C w a=>V 2 Z ?_
 replace a:=a.nil X
 have c:=a.pick (os':=[Y C [N false,Q3],U X (.slice none 0 0) []]++[Y u [N f.1,l],U X l f.2,Y e [N d,b],U X b g]) [1,0,2,3,4,5] (by decide) Z
 refine M h fun k ad h=>aJ Z (kr false o f.1 ad c.f (ab.f (W Z) c) (hBa1.f c) (c.giveO 1 Z) (c.giveB 0 Z)) Z ?_
 rintro _ w ⟨m,rfl,j⟩
 have a:=c.g j
 refine V 1 Z<|gl2<|bl (bc (cs:=[N false,Q3]) dt Z a) Z fun D w a=>V 1 Z<|gl2<|bl (bc (cs:=[N false,Q3]) dt Z a) Z fun E w a=>V 3 Z ?_
 replace a:=a.nil X
 replace a:=a.nil X
 have c:=a.pick (os':=[Y E [N false,Q3],U X (.slice none 0 0) [],Y D [N false,Q3],U X (.slice none 0 0) []]++[Y C [N k.1,m],U X m k.2,Y u [N f.1,l],U X l f.2,Y e [N d,b],U X b g]) [2,1,3,0,4,5,6,7,8,9] (by decide) Z
 refine M h fun i ae h=>aJ Z (pR false false k.1 f.1 ae c.f (c.giveO 1 Z) (c.giveB 0 Z) (c.giveO 3 Z) (c.giveB 2 Z)) Z ?_
 rintro _ w ⟨G,L,rfl,j⟩
 have a:=c.g j
 refine V 1 Z<|gl1<|R<|V 1 Z<|M h fun q O h=>bA a Z (cW 1 O ) Z fun T ak w a=>M h fun am ah h=>aS a Z (f8 i.1 q.1 ah (a.ro 3 Z).rp (a.rb 2 Z) (a.ro 1 Z).rp (a.rb 0 Z)) Z fun w a=>V 1 Z<|Q ?_
 apply gl9 Z h<;>intro h
 ·refine R<|V 1 Z<|gl8 ?_
  cases h
 refine gl6<|V 3 Z<|have c:=a.pick (os':=[Y e [N d,b],U X b g]++[Y ak [N q.1,T],U X T q.2,Y E [N i.1,G],U X G i.2.1,Y D [N i.2.2.1,L],U X L i.2.2.2,Y C [N k.1,m],U X m k.2,Y u [N f.1,l],U X l f.2]) [10,11,0,1,2,3,4,5,6,7,8,9] (by decide) Z;M h fun an J h=>aJ Z (kr d i.2.2.1 f.1 J c.f (c.giveO 5 Z) (c.giveB 4 Z) (c.giveO 9 Z) (c.giveB 8 Z)) Z ?_
 rintro _ w ⟨al,rfl,j⟩
 have a:=c.g j
 refine V 1 Z<|Q<|aq ?_
 cases h
 exact au Z Z ⟨al,Z,a.d [0,1] Z Z⟩
end Go.Proofs
