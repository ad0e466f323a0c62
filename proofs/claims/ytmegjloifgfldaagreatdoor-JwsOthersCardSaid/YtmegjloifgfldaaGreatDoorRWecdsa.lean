import Derived.Test.YtmegjloifgfldaaGreatDoorRW0
import Derived.Test.YtmegjloifgfldaaGreatDoorGkFman
import Derived.Test.YtmegjloifgfldaaGreatDoorRWcurvec
import Derived.Test.YtmegjloifgfldaaGreatDoorRWmodn
import Derived.Test.YtmegjloifgfldaaGreatDoorRWnatb
import Derived.Test.YtmegjloifgfldaaGreatDoorRWshab
set_option linter.unusedVariables false
set_option linter.unusedSimpArgs false
set_option linter.unusedSectionVars false
set_option maxRecDepth 4000
namespace Go.Proofs
open Go Go.RowKit Go.Gk
open Go.Gk renaming aa -> V, af -> M, ag -> O, ai -> J, e32 -> X, gl3 -> Q, gl4 -> R, own -> U, pB -> P, vB -> N, vI -> H
open Go.Gk.OE renaming bx -> Y
theorem lP {c:World} {a0 a1:Q0} {d e:Value} {r:Bool}
  (h:F.JC a0 a1=some r) (f:RP [] c X d a0) (j:RP [] c X e a1):Calls Tryz.prog 37 #[d,e] c (Ret fun v w=>v=N r/\St [] c w []):=by
 refine ay 14 Tryz.func37 Z Z Z<|have a:=St.k c;ax [(0,d),(1,e)] Z ?_
 unfold F.JC at h
 refine R<|V 1 Z<|gl2<|V 1 Z<|M h fun k g h=>aS a Z (dM  g (f.b a.fr).rp) Z fun w a=>V 2 Z ?_
 cases b:(decide ((0:Int)<k))
 case true=>
  have h:=bH h b
  try simp only[b]
  refine V 2 Z<|M h fun m i h=>bU (t:=8) Z Z (by kernel_rfl) Z (du  i (f.b a.fr).rp (j.b a.fr).rp) Z ?_
  rintro _ w ⟨rfl,l⟩
  have a:=a.e l
  refine V 3 Z<|Q<|aq ?_
  cases h
  exact au Z Z ⟨Z,a⟩
 case false=>
  have h:=bI h b
  try simp only[b]
  refine V 6 Z<|Q<|aq ?_
  cases h
  exact au Z Z ⟨Z,a⟩
theorem sn {c:World} {a2:Q1} {b:Value} (a0 a1:Int) {r:Q0}
  (h:F.K6 a0 a1 a2=some r) (k:TB [] c) (f:RP [] c e8 b a2):Calls Tryz.prog 40 #[H a0,H a1,b] c (Ret fun v w=>St [] c w [U X v r]):=by
 refine ay 20 Tryz.func40 Z Z Z<|have a:=St.k c;ax [(0,H a0),(1,H a1),(2,b)] Z ?_
 unfold F.K6 at h
 refine R<|V 1 Z<|gl2<|V 2 Z<|bn (bJ (e:=eV) (l:=([SV.of b]:List SV)) (vs:=[b]) u117 iy Z Z Z (cb (f.b a.fr).sv Z) (by decide) (by decide) a) Z fun m w a=>M h fun n g h=>aM a Z (fE a0 g (k.b a.fr) (a.ro 0 Z).rp ⟨(f.b a.fr).svrp,K⟩) Z fun o w a=>V 1 Z<|gl2<|V 2 Z<|O (aD u25 Z (a.ro 0 Z)) Z<|V 1 Z<|M h fun p i h=>aS a Z (nB a1 i ) Z fun w a=>O (rT Z Z) Z<|db h fun d h=>O (mz u25 ti5 Z Z (a.ro 0 Z) (ox d)) Z<|M h fun q j h=>aM a Z (ci  j ((a.ro 0 Z).tk d.2).rp) Z fun s w a=>V 1 Z<|Q<|aq ?_
 cases h
 exact au Z Z (a.d [0] Z Z)
theorem vQ {e:World} {f g a1 a2:Q0} {b c i j:Value} (d:Bool) {r:Bool}
  (h:F.IS f g d a1 a2=some r) (l:RP [] e X b f) (q:RP [] e X c g) (o:RP [] e X i a1) (p:RP [] e X j a2):Calls Tryz.prog 42 #[.agg #[b,c,N d],i,j] e (Ret fun v w=>v=N r/\St [] e w []):=by
 refine ay 24 Tryz.func42 Z Z Z<|have a:=St.k e;ax [(0,.agg #[b,c,N d]),(1,i),(2,j)] Z ?_
 unfold F.IS at h
 refine R<|bl (cy (cs:=[b,c,N d]) Z Z a) Z fun s w a=>V 1 Z<|gl1<|R<|O (ak (k:=2) u71 Z Z nz4 Z) Z<|O (ar u4 Z Z (a.q 0 Z 2)) Z<|Q ?_
 apply gl9 Z h<;>intro h
 ·refine R<|V 1 Z<|gl8 ?_
  cases h
  exact au Z Z ⟨Z,a.d [] Z Z⟩
 refine gl6<|O (ak (k:=0) u71 Z Z cO Z) Z<|O (ar u58 Z Z (a.q 0 Z 0)) Z<|V 1 Z<|M h fun t m h=>bA a Z (kB  m (l.b a.fr).rp (p.b a.fr).rp) Z fun u x w a=>V 7 Z<|gl2<|V 2 Z<|M h fun y n h=>aS a Z (du  n (a.ro 1 Z).rp (o.b a.fr).rp) Z fun w a=>V 2 Z<|Q<|aq ?_
 cases h
 exact au Z Z ⟨Z,a.d [] Z Z⟩
theorem rK {e:World} {a2 a3 a4 a5:Q1} {x y o z:Value} (a0 a1:Int) {r:Int}
  (h:F.KS a0 a1 a2 a3 a4 a5=some r) (hT:TB [] e) (aN:RP [] e e8 x a2) (aP:RP [] e e8 y a3) (aR:RP [] e e8 o a4) (l:RP [] e e8 z a5):Calls Tryz.prog 11 #[H a0,H a1,x,y,o,z] e (Ret fun v w=>v=H r/\St [] e w []):=by
 refine ay 114 Tryz.func11 Z Z Z<|have a:=St.k e;ax [(0,H a0),(1,H a1),(2,x),(3,y),(4,o),(5,z)] Z ?_
 unfold F.KS at h
 refine R<|V 1 Z<|gl1<|R<|V 1 Z<|M h fun bf aF h=>aS a Z (eH a0 aF ) Z fun w a=>V 1 Z<|Q ?_
 apply gl9 Z h<;>intro h
 ·refine R<|V 1 Z<|gl8 ?_
  cases h
  exact au Z Z ⟨Z,a⟩
 refine gl6<|V 3 Z<|M h fun b aG h=>bA a Z (md a1 aG (aN.b a.fr).rp (aP.b a.fr).rp) Z fun f j w a=>V 3 Z<|bl (bc (cs:=[Q3,Q3,N false]) jd Z a) Z fun A w a=>bm (bp (i:=0) (us:=[f,j,N b.2.2.1]) Z cE Z Z Z ⟨(a.ro 1 Z).one,(a.ro 2 Z).one,Z,K⟩ Z a) fun w a=>V 1 Z<|gl1<|az ?_
 refine al<|V 2 Z<|Q ?_
 apply gl9 Z h<;>intro h
 ·refine R<|V 1 Z<|gl8 ?_
  cases h
  exact au Z Z ⟨Z,a.d [] Z Z⟩
 refine gl6<|V 1 Z<|M h fun B aH h=>aS a Z (nB a1 aH ) Z fun w a=>V 1 Z<|M h fun m ae h=>aM a Z (tu a1 ae ) Z fun n w a=>V 2 Z<|gl1<|R<|V 1 Z<|O (aD u25 Z (l.b a.fr)) Z<|V 1 Z<|O (aj Z Z (ee _ 2 B)) Z<|V 1 Z<|Q ?_
 apply gl9 Z h<;>intro h
 ·refine R<|V 1 Z<|gl8 ?_
  cases h
  exact au Z Z ⟨Z,a.d [] Z Z⟩
 refine gl5<|az<|aQ (fun w'=>St [] e w' [U X n m,Y A [f,j,N b.2.2.1],U X f b.1,U X j b.2.1]) (fun _=>true) bK (fun _ _ _ hf=>hf.2) (fun _ _ hf=>hf) (by kernel_rfl)<|have a:=a.drew;show lxE _ _ _ _ _ _ _ [0,1,2,3,4,5,6,7,8,9,10,11,12] _ _ from an 3 Z a<|db h fun p h=>J a Z Z (fun w C=>vj u25 ti5 Z Z Z (l.b C.fr) p) Z<|an 3 Z a<|J a Z Z (fun w C=>aj Z Z (ee _ 2 B)) Z<|an 1 Z a<|J a Z Z (fun w C=>aj Z Z (ee _ 2 B)) Z<|M h fun aV q h=>J a Z Z (fun w C=>FH u25 ti5 Z Z Z Z (l.b C.fr) q) Z<|an 2 Z a<|a8 a<|am<|R<|V 1 Z<|M h fun D ah h=>aM a Z (ci  ah ((l.b a.fr).tk3 p.2.1).rp) Z fun E w a=>V 1 Z<|M h fun G ak h=>aM a Z (ci  ak ((l.g_sl3 q).b a.fr).rp) Z fun S w a=>V 2 Z<|gl1 ?_
 refine aU (r:=r) (fun (g:Bool) L w=>L=[(0,H a0),(1,H a1),(4,o),(13,P A 0),(16,n),(19,E),(20,S),(73,N g)]/\St [] e w [Y A [f,j,N b.2.2.1],U X f b.1,U X j b.2.1,U X n m,U X E D,U X S G]) (F.J1 a0 a1 a4 b m D G) ?_ ?_
 rotate_left
 ·intro s
  refine al<|V 2 Z<|M h fun aJ ao h=>aS a Z (lP  ao (a.ro 1 Z).rp (a.ro 2 Z).rp) Z fun w a=>V 2 Z ?_
  cases c:(!aJ)
  case true=>
   have h:=bH h c
   try simp only[c]
   exact V 5 Z<|Q<|aB (s true _ _ ⟨Z,(a.d [3,4,5,2,1,0] Z Z)⟩ h) Z
  case false=>
   have h:=bI h c
   try simp only[c]
   refine V 2 Z<|M h fun aK ap h=>bU (t:=68) Z Z (by kernel_rfl) Z (lP  ap (a.ro 0 Z).rp (a.ro 2 Z).rp) Z ?_
   rintro _ w ⟨rfl,T⟩
   have a:=a.e T
   exact V 2 Z<|Q<|aB (s (!aK) _ _ ⟨Z,(a.d [3,4,5,2,1,0] Z Z)⟩ h) Z
 rintro aW L w hJ h
 try dsimp only at hJ
 obtain⟨rfl,a⟩:=hJ
 unfold F.J1 at h
 apply gl9 Z h<;>intro h
 ·refine R<|V 1 Z<|gl8 ?_
  cases h
  exact au Z Z ⟨Z,a.d [] Z Z⟩
 refine gl6<|V 2 Z<|M h fun aX ar h=>cU a Z (qo  ar (a.ro 5 Z).rp (a.ro 3 Z).rp) Z fun aY w a=>V 5 Z<|gl2<|V 3 Z<|M h fun aZ av h=>aM a Z (sn a0 a1 av (hT.b a.fr) (aR.b a.fr).rp) Z fun a6 w a=>V 2 Z<|M h fun a7 aw h=>cU a Z (mA  aw (a.ro 0 Z).rp (a.ro 1 Z).rp (a.ro 5 Z).rp) Z fun a9 w a=>V 5 Z<|gl2<|V 3 Z<|M h fun ba aA h=>cU a Z (mA  aA (a.ro 7 Z).rp (a.ro 2 Z).rp (a.ro 6 Z).rp) Z fun bb w a=>V 5 Z<|gl2<|V 3 Z<|O (bO (us:=[f,j,N b.2.2.1]) u71 Z cE Z (a.p 4 Z Z)) Z<|M h fun k aC h=>bA a Z (tm a1 b.2.2.1 aC (a.ro 1 Z).rp (a.ro 0 Z).rp (a.ro 5 Z).rp (a.ro 6 Z).rp) Z fun ac ad w a=>V 3 Z<|bl (bc (cs:=[Q3,Q3,N false]) jd Z a) Z fun bd w a=>bm (bp (i:=0) (us:=[ac,ad,N k.2.2.1]) Z cE Z Z Z ⟨(a.ro 1 Z).one,(a.ro 2 Z).one,Z,K⟩ Z a) fun w a=>V 1 Z<|gl1 ?_
 refine aU (r:=r) (fun (g:Bool) L w=>L=[(113,N g)]/\St [] e w []) (F.Lm) ?_ ?_
 rotate_left
 ·intro u
  refine al<|V 3 Z ?_
  cases d:(k.2.2.2 != 0)
  case true=>
   have h:=bH h d
   try simp only[d]
   exact V 6 Z<|Q<|aB (u true _ _ ⟨Z,(a.d [] Z Z)⟩ h) Z
  case false=>
   have h:=bI h d
   try simp only[d]
   refine aO (t:=107) Z Z (bO (us:=[ac,ad,N k.2.2.1]) u71 Z cE Z (a.p 0 Z Z)) Z<|V 2 Z<|M h fun aL aE h=>bU (t:=107) Z Z (by kernel_rfl) Z (vQ k.2.2.1 aE (a.ro 1 Z).rp (a.ro 2 Z).rp (a.ro 11 Z).rp (a.ro 10 Z).rp) Z ?_
   rintro _ w ⟨rfl,T⟩
   have a:=a.e T
   exact V 2 Z<|Q<|aB (u (!aL) _ _ ⟨Z,(a.d [] Z Z)⟩ h) Z
 rintro be L w hJ h
 try dsimp only at hJ
 obtain⟨rfl,a⟩:=hJ
 unfold F.Lm at h
 apply gl9 Z h<;>intro h
 ·refine R<|V 1 Z<|gl8 ?_
  cases h
  exact au Z Z ⟨Z,a⟩
 refine gl6<|V 1 Z<|Q<|aq ?_
 cases h
 exact au Z Z ⟨Z,a⟩
end Go.Proofs
