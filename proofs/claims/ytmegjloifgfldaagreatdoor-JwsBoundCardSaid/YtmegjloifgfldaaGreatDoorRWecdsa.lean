import Derived.Test.YtmegjloifgfldaaGreatDoorRW0
import Derived.Test.YtmegjloifgfldaaGreatDoorGkFman
import Derived.Test.YtmegjloifgfldaaGreatDoorRWcurvec
import Derived.Test.YtmegjloifgfldaaGreatDoorRWmodn
import Derived.Test.YtmegjloifgfldaaGreatDoorRWnatb
import Derived.Test.YtmegjloifgfldaaGreatDoorRWshab
set_option linter.unusedVariables false
set_option linter.unusedSimpArgs false
set_option linter.unusedSectionVars false
set_option maxRecDepth 4000
namespace Go.Proofs
open Go Go.RowKit Go.Gk
open Go.Gk renaming aa -> V, af -> M, ag -> O, ai -> J, e32 -> X, gl3 -> Q, gl4 -> R, own -> U, pB -> P, vB -> N, vI -> H
open Go.Gk.OE renaming bx -> Y
theorem lT {c:World} {a0 a1:Q0} {d e:Value} {r:Bool}
  (h:F.JM a0 a1=some r) (f:RP [] c X d a0) (j:RP [] c X e a1):Calls Tryz.prog 37 #[d,e] c (Ret fun v w=>v=N r/\St [] c w []):=by
 refine ax 14 Tryz.func37 Z Z Z<|have a:=St.k c;ay [(0,d),(1,e)] Z ?_
 unfold F.JM at h
 refine R<|V 1 Z<|gl2<|V 1 Z<|M h fun k g h=>aR a Z (dP  g (f.b a.fr).rp) Z fun w a=>V 2 Z ?_
 cases b:(decide ((0:Int)<k))
 case true=>
  have h:=bD h b
  try simp only[b]
  refine V 2 Z<|M h fun m i h=>bU (t:=8) Z Z (by kernel_rfl) Z (dx  i (f.b a.fr).rp (j.b a.fr).rp) Z ?_
  rintro _ w ⟨rfl,l⟩
  have a:=a.e l
  refine V 3 Z<|Q<|ar ?_
  cases h
  exact au Z Z ⟨Z,a⟩
 case false=>
  have h:=bE h b
  try simp only[b]
  refine V 6 Z<|Q<|ar ?_
  cases h
  exact au Z Z ⟨Z,a⟩
theorem sw {c:World} {a2:Q1} {b:Value} (a0 a1:Int) {r:Q0}
  (h:F.Li a0 a1 a2=some r) (k:TB [] c) (f:RP [] c e8 b a2):Calls Tryz.prog 40 #[H a0,H a1,b] c (Ret fun v w=>St [] c w [U X v r]):=by
 refine ax 20 Tryz.func40 Z Z Z<|have a:=St.k c;ay [(0,H a0),(1,H a1),(2,b)] Z ?_
 unfold F.Li at h
 refine R<|V 1 Z<|gl2<|V 2 Z<|bm (bJ (e:=eV) (l:=([SV.of b]:List SV)) (vs:=[b]) u117 iC Z Z Z (cd (f.b a.fr).sv Z) (by decide) (by decide) a) Z fun m w a=>M h fun n g h=>aO a Z (fG a0 g (k.b a.fr) (a.ro 0 Z).rp ⟨(f.b a.fr).svrp,K⟩) Z fun o w a=>V 1 Z<|gl2<|V 2 Z<|O (aD u25 Z (a.ro 0 Z)) Z<|V 1 Z<|M h fun p i h=>aR a Z (nJ a1 i ) Z fun w a=>O (rZ Z Z) Z<|dh h fun d h=>O (mD u25 ti5 Z Z (a.ro 0 Z) (oC d)) Z<|M h fun q j h=>aO a Z (cl  j ((a.ro 0 Z).tk d.2).rp) Z fun s w a=>V 1 Z<|Q<|ar ?_
 cases h
 exact au Z Z (a.d [0] Z Z)
theorem vX {e:World} {f g a1 a2:Q0} {b c i j:Value} (d:Bool) {r:Bool}
  (h:F.I0 f g d a1 a2=some r) (l:RP [] e X b f) (q:RP [] e X c g) (o:RP [] e X i a1) (p:RP [] e X j a2):Calls Tryz.prog 42 #[.agg #[b,c,N d],i,j] e (Ret fun v w=>v=N r/\St [] e w []):=by
 refine ax 24 Tryz.func42 Z Z Z<|have a:=St.k e;ay [(0,.agg #[b,c,N d]),(1,i),(2,j)] Z ?_
 unfold F.I0 at h
 refine R<|bl (cz (cs:=[b,c,N d]) Z Z a) Z fun s w a=>V 1 Z<|gl1<|R<|O (ak (k:=2) u71 Z Z nz4 Z) Z<|O (ao u4 Z Z (a.q 0 Z 2)) Z<|Q ?_
 apply gl9 Z h<;>intro h
 ·refine R<|V 1 Z<|gl8 ?_
  cases h
  exact au Z Z ⟨Z,a.d [] Z Z⟩
 refine gl6<|O (ak (k:=0) u71 Z Z cQ Z) Z<|O (ao u58 Z Z (a.q 0 Z 0)) Z<|V 1 Z<|M h fun t m h=>bz a Z (kE  m (l.b a.fr).rp (p.b a.fr).rp) Z fun u x w a=>V 7 Z<|gl2<|V 2 Z<|M h fun y n h=>aR a Z (dx  n (a.ro 1 Z).rp (o.b a.fr).rp) Z fun w a=>V 2 Z<|Q<|ar ?_
 cases h
 exact au Z Z ⟨Z,a.d [] Z Z⟩
theorem lU {e:World} {a2 a3 a4 a5:Q1} {x y o z:Value} (a0 a1:Int) {r:Int}
  (h:F.Jz a0 a1 a2 a3 a4 a5=some r) (hT:TB [] e) (aN:RP [] e e8 x a2) (aP:RP [] e e8 y a3) (aS:RP [] e e8 o a4) (l:RP [] e e8 z a5):Calls Tryz.prog 11 #[H a0,H a1,x,y,o,z] e (Ret fun v w=>v=H r/\St [] e w []):=by
 refine ax 114 Tryz.func11 Z Z Z<|have a:=St.k e;ay [(0,H a0),(1,H a1),(2,x),(3,y),(4,o),(5,z)] Z ?_
 unfold F.Jz at h
 refine R<|V 1 Z<|gl1<|R<|V 1 Z<|M h fun be aF h=>aR a Z (eJ a0 aF ) Z fun w a=>V 1 Z<|Q ?_
 apply gl9 Z h<;>intro h
 ·refine R<|V 1 Z<|gl8 ?_
  cases h
  exact au Z Z ⟨Z,a⟩
 refine gl6<|V 3 Z<|M h fun b aG h=>bz a Z (mi a1 aG (aN.b a.fr).rp (aP.b a.fr).rp) Z fun f j w a=>V 3 Z<|bl (bf (cs:=[Q3,Q3,N false]) jg Z a) Z fun A w a=>bo (bq (i:=0) (us:=[f,j,N b.2.2.1]) Z cF Z Z Z ⟨(a.ro 1 Z).one,(a.ro 2 Z).one,Z,K⟩ Z a) fun w a=>V 1 Z<|gl1<|az ?_
 refine am<|V 2 Z<|Q ?_
 apply gl9 Z h<;>intro h
 ·refine R<|V 1 Z<|gl8 ?_
  cases h
  exact au Z Z ⟨Z,a.d [] Z Z⟩
 refine gl6<|V 1 Z<|M h fun B aH h=>aR a Z (nJ a1 aH ) Z fun w a=>V 1 Z<|M h fun m ae h=>aO a Z (tz a1 ae ) Z fun n w a=>V 2 Z<|gl1<|R<|V 1 Z<|O (aD u25 Z (l.b a.fr)) Z<|V 1 Z<|O (aj Z Z (dV _ 2 B)) Z<|V 1 Z<|Q ?_
 apply gl9 Z h<;>intro h
 ·refine R<|V 1 Z<|gl8 ?_
  cases h
  exact au Z Z ⟨Z,a.d [] Z Z⟩
 refine gl5<|az<|aQ (fun w'=>St [] e w' [U X n m,Y A [f,j,N b.2.2.1],U X f b.1,U X j b.2.1]) (fun _=>true) bL (fun _ _ _ hf=>hf.2) (fun _ _ hf=>hf) (by kernel_rfl)<|have a:=a.drew;show lxE _ _ _ _ _ _ _ [0,1,2,3,4,5,6,7,8,9,10,11,12] _ _ from an 3 Z a<|dh h fun p h=>J a Z Z (fun w C=>vr u25 ti5 Z Z Z (l.b C.fr) p) Z<|an 3 Z a<|J a Z Z (fun w C=>aj Z Z (dV _ 2 B)) Z<|an 1 Z a<|J a Z Z (fun w C=>aj Z Z (dV _ 2 B)) Z<|M h fun aV q h=>J a Z Z (fun w C=>FO u25 ti5 Z Z Z Z (l.b C.fr) q) Z<|an 2 Z a<|a9 a<|al<|R<|V 1 Z<|M h fun D ah h=>aO a Z (cl  ah ((l.b a.fr).tk3 p.2.1).rp) Z fun E w a=>V 1 Z<|M h fun G ak h=>aO a Z (cl  ak ((l.g_sl3 q).b a.fr).rp) Z fun S w a=>V 2 Z<|gl1 ?_
 refine aT (r:=r) (fun (g:Bool) L w=>L=[(0,H a0),(1,H a1),(4,o),(13,P A 0),(16,n),(19,E),(20,S),(73,N g)]/\St [] e w [Y A [f,j,N b.2.2.1],U X f b.1,U X j b.2.1,U X n m,U X E D,U X S G]) (F.Kd a0 a1 a4 b m D G) ?_ ?_
 rotate_left
 ·intro s
  refine am<|V 2 Z<|M h fun aK ao h=>aR a Z (lT  ao (a.ro 1 Z).rp (a.ro 2 Z).rp) Z fun w a=>V 2 Z ?_
  cases c:(!aK)
  case true=>
   have h:=bD h c
   try simp only[c]
   exact V 5 Z<|Q<|aA (s true _ _ ⟨Z,(a.d [3,4,5,2,1,0] Z Z)⟩ h) Z
  case false=>
   have h:=bE h c
   try simp only[c]
   refine V 2 Z<|M h fun aL ap h=>bU (t:=68) Z Z (by kernel_rfl) Z (lT  ap (a.ro 0 Z).rp (a.ro 2 Z).rp) Z ?_
   rintro _ w ⟨rfl,T⟩
   have a:=a.e T
   exact V 2 Z<|Q<|aA (s (!aL) _ _ ⟨Z,(a.d [3,4,5,2,1,0] Z Z)⟩ h) Z
 rintro aW L w hJ h
 try dsimp only at hJ
 obtain⟨rfl,a⟩:=hJ
 unfold F.Kd at h
 apply gl9 Z h<;>intro h
 ·refine R<|V 1 Z<|gl8 ?_
  cases h
  exact au Z Z ⟨Z,a.d [] Z Z⟩
 refine gl6<|V 2 Z<|M h fun aX aq h=>cV a Z (qs  aq (a.ro 5 Z).rp (a.ro 3 Z).rp) Z fun aY w a=>V 5 Z<|gl2<|V 3 Z<|M h fun aZ av h=>aO a Z (sw a0 a1 av (hT.b a.fr) (aS.b a.fr).rp) Z fun a6 w a=>V 2 Z<|M h fun a7 aw h=>cV a Z (mE  aw (a.ro 0 Z).rp (a.ro 1 Z).rp (a.ro 5 Z).rp) Z fun a8 w a=>V 5 Z<|gl2<|V 3 Z<|M h fun ba aB h=>cV a Z (mE  aB (a.ro 7 Z).rp (a.ro 2 Z).rp (a.ro 6 Z).rp) Z fun bb w a=>V 5 Z<|gl2<|V 3 Z<|O (bX (us:=[f,j,N b.2.2.1]) u71 Z cF Z (a.p 4 Z Z)) Z<|M h fun k aC h=>bz a Z (tu a1 b.2.2.1 aC (a.ro 1 Z).rp (a.ro 0 Z).rp (a.ro 5 Z).rp (a.ro 6 Z).rp) Z fun ac ad w a=>V 3 Z<|bl (bf (cs:=[Q3,Q3,N false]) jg Z a) Z fun bc w a=>bo (bq (i:=0) (us:=[ac,ad,N k.2.2.1]) Z cF Z Z Z ⟨(a.ro 1 Z).one,(a.ro 2 Z).one,Z,K⟩ Z a) fun w a=>V 1 Z<|gl1 ?_
 refine aT (r:=r) (fun (g:Bool) L w=>L=[(113,N g)]/\St [] e w []) (F.Lx) ?_ ?_
 rotate_left
 ·intro u
  refine am<|V 3 Z ?_
  cases d:(k.2.2.2 != 0)
  case true=>
   have h:=bD h d
   try simp only[d]
   exact V 6 Z<|Q<|aA (u true _ _ ⟨Z,(a.d [] Z Z)⟩ h) Z
  case false=>
   have h:=bE h d
   try simp only[d]
   refine aI (t:=107) Z Z (bX (us:=[ac,ad,N k.2.2.1]) u71 Z cF Z (a.p 0 Z Z)) Z<|V 2 Z<|M h fun aM aE h=>bU (t:=107) Z Z (by kernel_rfl) Z (vX k.2.2.1 aE (a.ro 1 Z).rp (a.ro 2 Z).rp (a.ro 11 Z).rp (a.ro 10 Z).rp) Z ?_
   rintro _ w ⟨rfl,T⟩
   have a:=a.e T
   exact V 2 Z<|Q<|aA (u (!aM) _ _ ⟨Z,(a.d [] Z Z)⟩ h) Z
 rintro bd L w hJ h
 try dsimp only at hJ
 obtain⟨rfl,a⟩:=hJ
 unfold F.Lx at h
 apply gl9 Z h<;>intro h
 ·refine R<|V 1 Z<|gl8 ?_
  cases h
  exact au Z Z ⟨Z,a⟩
 refine gl6<|V 1 Z<|Q<|ar ?_
 cases h
 exact au Z Z ⟨Z,a⟩
end Go.Proofs
