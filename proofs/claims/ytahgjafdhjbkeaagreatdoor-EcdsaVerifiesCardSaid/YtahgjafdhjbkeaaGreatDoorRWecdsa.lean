import Derived.Test.YtahgjafdhjbkeaaGreatDoorRW0
import Derived.Test.YtahgjafdhjbkeaaGreatDoorGkFman
import Derived.Test.YtahgjafdhjbkeaaGreatDoorRWcurved
import Derived.Test.YtahgjafdhjbkeaaGreatDoorRWmodn
import Derived.Test.YtahgjafdhjbkeaaGreatDoorRWnatb
import Derived.Test.YtahgjafdhjbkeaaGreatDoorRWshab
set_option linter.unusedVariables false
set_option linter.unusedSimpArgs false
set_option linter.unusedSectionVars false
set_option maxRecDepth 4000
namespace Go.Proofs
open Go Go.RowKit Go.Gk
open Go.Gk renaming aa → V, af → J, ag → N, e32 → X, gl3 → Q, gl4 → R, own → U, pB → O, vB → K, vI → H
open Go.Gk.OE renaming bx → Y
theorem kO {c:World} {a0 a1:List UInt32} {d e:Value} {r:Bool}
  (h:F.Ge a0 a1=some r) (f:RP [] c X d a0) (j:RP [] c X e a1):Calls Tryz.prog 19 #[d,e] c (Ret fun v w=>v=K r∧St [] c w []):=by
 refine aB 14 Tryz.func19 Z Z Z<|have a:=St.k c;ax [(0,d),(1,e)] Z ?_
 unfold F.Ge at h
 refine R<|V 1 Z<|gl2<|V 1 Z<|J h fun k g h=>bc a Z (gq  g (f.b a.fr).rp) Z fun w a=>V 2 Z ?_
 cases b:(decide ((0:Int)<k))
 case true=>
  have h:=cH h b
  try simp only [b]
  refine V 2 Z<|J h fun m i h=>cR (t:=8) Z Z (by kernel_rfl) Z (gX  i (f.b a.fr).rp (j.b a.fr).rp) Z ?_
  rintro _ w ⟨rfl,l⟩
  have a:=a.e l
  refine V 3 Z<|Q<|az ?_
  cases h
  exact ay Z Z ⟨Z,a⟩
 case false=>
  have h:=cI h b
  try simp only [b]
  refine V 6 Z<|Q<|az ?_
  cases h
  exact ay Z Z ⟨Z,a⟩
theorem qz {c:World} {a2:List UInt8} {b:Value} (a0 a1:Int) {r:List UInt32}
  (h:F.HN a0 a1 a2=some r) (k:TB [] c) (f:RP [] c e8 b a2):Calls Tryz.prog 22 #[H a0,H a1,b] c (Ret fun v w=>St [] c w [U X v r]):=by
 refine aB 20 Tryz.func22 Z Z Z<|have a:=St.k c;ax [(0,H a0),(1,H a1),(2,b)] Z ?_
 unfold F.HN at h
 refine R<|V 1 Z<|gl2<|V 2 Z<|bG (cp (e:=eV) (l:=([SV.of b]:List SV)) (vs:=[b]) u127 BK Z Z Z (fH (f.b a.fr).sv Z) (by decide) (by decide) a) Z fun m w a=>J h fun n g h=>aU a Z (xW a0 g (k.b a.fr) (a.ro 0 Z).rp ⟨(f.b a.fr).svrp,I⟩) Z fun o w a=>V 1 Z<|gl2<|V 2 Z<|N (aC u24 Z (a.ro 0 Z)) Z<|V 1 Z<|J h fun p i h=>bc a Z (mF a1 i ) Z fun w a=>N (AS Z Z) Z<|da h fun d h=>N (jy u24 ti5 Z Z (a.ro 0 Z) (iB d)) Z<|J h fun q j h=>aU a Z (eD  j ((a.ro 0 Z).tk d.2).rp) Z fun s w a=>V 1 Z<|Q<|az ?_
 cases h
 exact ay Z Z (a.d [0] Z Z)
theorem tD {e:World} {f g a1 a2:List UInt32} {b c i j:Value} (d:Bool) {r:Bool}
  (h:F.Fp f g d a1 a2=some r) (l:RP [] e X b f) (q:RP [] e X c g) (o:RP [] e X i a1) (p:RP [] e X j a2):Calls Tryz.prog 24 #[.agg #[b,c,K d],i,j] e (Ret fun v w=>v=K r∧St [] e w []):=by
 refine aB 24 Tryz.func24 Z Z Z<|have a:=St.k e;ax [(0,.agg #[b,c,K d]),(1,i),(2,j)] Z ?_
 unfold F.Fp at h
 refine R<|bh (cu (cs:=[b,c,K d]) Z Z a) Z fun s w a=>V 1 Z<|gl1<|R<|N (ao (k:=2) u33 Z Z nz4 Z) Z<|N (aw Tryz.underlying4 Z Z (a.q 0 Z 2)) Z<|Q ?_
 refine gl9 Z h (fun h=>?_) (fun h=>?_)
 ·refine R<|V 1 Z<|gl8 ?_
  cases h
  exact ay Z Z ⟨Z,a.d [] Z Z⟩
 refine gl6<|N (ao (k:=0) u33 Z Z cZ Z) Z<|N (aw u31 Z Z (a.q 0 Z 0)) Z<|V 1 Z<|J h fun t m h=>bH a Z (mX  m (l.b a.fr).rp (p.b a.fr).rp) Z fun u x w a=>V 7 Z<|gl2<|V 2 Z<|J h fun y n h=>bc a Z (gX  n (a.ro 1 Z).rp (o.b a.fr).rp) Z fun w a=>V 2 Z<|Q<|az ?_
 cases h
 exact ay Z Z ⟨Z,a.d [] Z Z⟩
theorem kP {e:World} {a2 a3 a4 a5:List UInt8} {x y o z:Value} (a0 a1:Int) {r:Int}
  (h:F.F0 a0 a1 a2 a3 a4 a5=some r) (hT:TB [] e) (aM:RP [] e e8 x a2) (aN:RP [] e e8 y a3) (aO:RP [] e e8 o a4) (l:RP [] e e8 z a5):Calls Tryz.prog 6 #[H a0,H a1,x,y,o,z] e (Ret fun v w=>v=H r∧St [] e w []):=by
 refine aB 114 Tryz.func6 Z Z Z<|have a:=St.k e;ax [(0,H a0),(1,H a1),(2,x),(3,y),(4,o),(5,z)] Z ?_
 unfold F.F0 at h
 refine R<|V 1 Z<|gl1<|R<|V 1 Z<|J h fun be aE h=>bc a Z (lG a0 aE ) Z fun w a=>V 1 Z<|Q ?_
 refine gl9 Z h (fun h=>?_) (fun h=>?_)
 ·refine R<|V 1 Z<|gl8 ?_
  cases h
  exact ay Z Z ⟨Z,a⟩
 refine gl6<|V 3 Z<|J h fun b aF h=>bH a Z (qh a1 aF (aM.b a.fr).rp (aN.b a.fr).rp) Z fun f j w a=>V 3 Z<|bh (ba (cs:=[.slice none 0 0,.slice none 0 0,K false]) jk Z a) Z fun A w a=>bl (bq (i:=0) (us:=[f,j,K b.2.2.1]) Z cC Z Z Z ⟨(a.ro 1 Z).one,(a.ro 2 Z).one,Z,I⟩ Z a) fun w a=>V 1 Z<|gl1<|R<|V 2 Z<|Q ?_
 refine gl9 Z h (fun h=>?_) (fun h=>?_)
 ·refine R<|V 1 Z<|gl8 ?_
  cases h
  exact ay Z Z ⟨Z,a.d [] Z Z⟩
 refine gl6<|V 1 Z<|J h fun B aG h=>bc a Z (mF a1 aG ) Z fun w a=>V 1 Z<|J h fun m ae h=>aU a Z (rt a1 ae ) Z fun n w a=>V 2 Z<|gl1<|R<|V 1 Z<|N (aC u24 Z (l.b a.fr)) Z<|V 1 Z<|N (aj Z Z (dR _ 2 B)) Z<|V 1 Z<|Q ?_
 refine gl9 Z h (fun h=>?_) (fun h=>?_)
 ·refine R<|V 1 Z<|gl8 ?_
  cases h
  exact ay Z Z ⟨Z,a.d [] Z Z⟩
 refine gl5<|av<|aX (fun w'=>St [] e w' [U X n m,Y A [f,j,K b.2.2.1],U X f b.1,U X j b.2.1]) (fun _=>true) bR (fun _ _ _ hf=>hf.2) (fun _ _ hf=>hf) (by kernel_rfl)<|have a:=a.drew;show lxE _ _ _ _ _ _ _ [0,1,2,3,4,5,6,7,8,9,10,11,12] _ _ from an 3 Z a<|da h fun p h=>ai a Z Z (fun w C=>s9 u24 ti5 Z Z Z (l.b C.fr) p) Z<|an 3 Z a<|ai a Z Z (fun w C=>aj Z Z (dR _ 2 B)) Z<|an 1 Z a<|ai a Z Z (fun w C=>aj Z Z (dR _ 2 B)) Z<|J h fun aR q h=>ai a Z Z (fun w C=>Ct u24 ti5 Z Z Z Z (l.b C.fr) q) Z<|an 2 Z a<|bn a<|ak<|R<|V 1 Z<|J h fun D ah h=>aU a Z (eD  ah ((l.b a.fr).tk3 p.2.1).rp) Z fun E w a=>V 1 Z<|J h fun G am h=>aU a Z (eD  am ((l.g_sl3 q).b a.fr).rp) Z fun S w a=>V 2 Z<|gl1 ?_
 refine aZ (r:=r) (fun (g:Bool) L w=>L=[(0,H a0),(1,H a1),(4,o),(13,O A 0),(16,n),(19,E),(20,S),(73,K g)]∧St [] e w [Y A [f,j,K b.2.2.1],U X f b.1,U X j b.2.1,U X n m,U X E D,U X S G]) (F.GH a0 a1 a4 b m D G) ?_ ?_
 rotate_left
 ·intro s
  refine al<|V 2 Z<|J h fun aJ ao h=>bc a Z (kO  ao (a.ro 1 Z).rp (a.ro 2 Z).rp) Z fun w a=>V 2 Z ?_
  cases c:(!aJ)
  case true=>
   have h:=cH h c
   try simp only [c]
   exact V 5 Z<|Q<|aH (s true _ _ ⟨Z,(a.d [3,4,5,2,1,0] Z Z)⟩ h) Z
  case false=>
   have h:=cI h c
   try simp only [c]
   refine V 2 Z<|J h fun aK ap h=>cR (t:=68) Z Z (by kernel_rfl) Z (kO  ap (a.ro 0 Z).rp (a.ro 2 Z).rp) Z ?_
   rintro _ w ⟨rfl,T⟩
   have a:=a.e T
   exact V 2 Z<|Q<|aH (s (!aK) _ _ ⟨Z,(a.d [3,4,5,2,1,0] Z Z)⟩ h) Z
 rintro aS L w hJ h
 try dsimp only at hJ
 obtain ⟨rfl,a⟩:=hJ
 unfold F.GH at h
 refine gl9 Z h (fun h=>?_) (fun h=>?_)
 ·refine R<|V 1 Z<|gl8 ?_
  cases h
  exact ay Z Z ⟨Z,a.d [] Z Z⟩
 refine gl6<|V 2 Z<|J h fun aT aq h=>eW a Z (vl  aq (a.ro 5 Z).rp (a.ro 3 Z).rp) Z fun aV w a=>V 5 Z<|gl2<|V 3 Z<|J h fun aW ar h=>aU a Z (qz a0 a1 ar (hT.b a.fr) (aO.b a.fr).rp) Z fun aY w a=>V 2 Z<|J h fun a6 au h=>eW a Z (o9  au (a.ro 0 Z).rp (a.ro 1 Z).rp (a.ro 5 Z).rp) Z fun a7 w a=>V 5 Z<|gl2<|V 3 Z<|J h fun a8 aw h=>eW a Z (o9  aw (a.ro 7 Z).rp (a.ro 2 Z).rp (a.ro 6 Z).rp) Z fun a9 w a=>V 5 Z<|gl2<|V 3 Z<|N (aP (us:=[f,j,K b.2.2.1]) u33 Z cC Z (a.p 4 Z Z)) Z<|J h fun k aA h=>bH a Z (rj a1 b.2.2.1 aA (a.ro 1 Z).rp (a.ro 0 Z).rp (a.ro 5 Z).rp (a.ro 6 Z).rp) Z fun ac ad w a=>V 3 Z<|bh (ba (cs:=[.slice none 0 0,.slice none 0 0,K false]) jk Z a) Z fun bb w a=>bl (bq (i:=0) (us:=[ac,ad,K k.2.2.1]) Z cC Z Z Z ⟨(a.ro 1 Z).one,(a.ro 2 Z).one,Z,I⟩ Z a) fun w a=>V 1 Z<|gl1 ?_
 refine aZ (r:=r) (fun (g:Bool) L w=>L=[(113,K g)]∧St [] e w []) (F.H6) ?_ ?_
 rotate_left
 ·intro u
  refine al<|V 3 Z ?_
  cases d:(k.2.2.2 != 0)
  case true=>
   have h:=cH h d
   try simp only [d]
   exact V 6 Z<|Q<|aH (u true _ _ ⟨Z,(a.d [] Z Z)⟩ h) Z
  case false=>
   have h:=cI h d
   try simp only [d]
   refine bE (t:=107) Z Z (aP (us:=[ac,ad,K k.2.2.1]) u33 Z cC Z (a.p 0 Z Z)) Z<|V 2 Z<|J h fun aL aD h=>cR (t:=107) Z Z (by kernel_rfl) Z (tD k.2.2.1 aD (a.ro 1 Z).rp (a.ro 2 Z).rp (a.ro 11 Z).rp (a.ro 10 Z).rp) Z ?_
   rintro _ w ⟨rfl,T⟩
   have a:=a.e T
   exact V 2 Z<|Q<|aH (u (!aL) _ _ ⟨Z,(a.d [] Z Z)⟩ h) Z
 rintro bd L w hJ h
 try dsimp only at hJ
 obtain ⟨rfl,a⟩:=hJ
 unfold F.H6 at h
 refine gl9 Z h (fun h=>?_) (fun h=>?_)
 ·refine R<|V 1 Z<|gl8 ?_
  cases h
  exact ay Z Z ⟨Z,a⟩
 refine gl6<|V 1 Z<|Q<|az ?_
 cases h
 exact ay Z Z ⟨Z,a⟩
end Go.Proofs
