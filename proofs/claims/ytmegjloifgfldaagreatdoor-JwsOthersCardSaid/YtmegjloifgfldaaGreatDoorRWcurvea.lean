import Derived.Test.YtmegjloifgfldaaGreatDoorRW0
import Derived.Test.YtmegjloifgfldaaGreatDoorGkFman
import Derived.Test.YtmegjloifgfldaaGreatDoorRWbignumc
import Derived.Test.YtmegjloifgfldaaGreatDoorRWnatb
set_option linter.unusedVariables false
set_option linter.unusedSimpArgs false
set_option linter.unusedSectionVars false
set_option maxRecDepth 4000
namespace Go.Proofs
open Go Go.RowKit Go.Gk
open Go.Gk renaming aa -> V, af -> M, ag -> O, ai -> J, e32 -> X, gl3 -> Q, gl4 -> R, own -> U, pB -> P, vB -> N, vI -> H
open Nat renaming le_of_ble_eq_true -> W
open Go.Gk.OE renaming bx -> Y
open Go.Gk.Rds renaming cons -> I
theorem dp {d:World} (a0:Q1) {r:Bool×Q0}
  (h:F.GC a0=some r) :Calls Tryz.prog 158 #[vS a0] d (Ret fun v w=>∃b:Value,∃un0:Nat,v=P un0 0/\St [] d w [Y un0 [N r.1,b],U X b r.2]):=by
 refine ay 12 Tryz.func158 Z Z Z<|have a:=St.k d;ax [(0,vS a0)] Z ?_
 unfold F.GC at h
 refine R<|V 1 Z<|gl2<|bl (bc (cs:=[N false,Q3]) dt Z a) Z fun c w a=>V 1 Z ?_
 replace a:=a.nil X
 have f:=a.pick (os':=[Y c [N false,Q3],U X (.slice none 0 0) []]++[]) [1,0] (by decide) Z
 refine M h fun j e h=>aJ Z (lG false a0 16 e f.f ) Z ?_
 rintro _ w ⟨g,rfl,i⟩
 have a:=f.g i
 refine V 5 Z<|gl2<|V 2 Z<|Q<|aq ?_
 cases h
 exact au Z Z ⟨g,c,Z,a.d [0,1] Z Z⟩
theorem uI {m:World} {T:Q2} {r:Bool×Q0×Bool×Q0×Bool×Q0×Bool×Q0×Bool×Q0×Int}
  (h:F.KQ =some r) (hTT:TOk [] T m):Calls Tryz.prog 116 #[] m (Ret fun v w=>∃b0:Nat,∃n:Nat,∃e:Value,∃o:Nat,∃f:Value,∃p:Nat,∃g:Value,∃q:Nat,∃i:Value,∃s:Nat,∃j:Value,v=P b0 0/\St [] m w []/\Rds T w [Y b0 [P n 0,P o 0,P p 0,P q 0,P s 0,H r.2.2.2.2.2.2.2.2.2.2,.func (.func 159) #[] #[]],Y s [N r.2.2.2.2.2.2.2.2.1,j],red X j r.2.2.2.2.2.2.2.2.2.1,Y q [N r.2.2.2.2.2.2.1,i],red X i r.2.2.2.2.2.2.2.1,Y p [N r.2.2.2.2.1,g],red X g r.2.2.2.2.2.1,Y o [N r.2.2.1,f],red X f r.2.2.2.1,Y n [N r.1,e],red X e r.2.1]):=by
 refine ay 8 Tryz.func116 Z Z Z<|have a:=St.k m;have hZ:=Fz.k (S:=[]) (w0:=m);?_
 have hA0:Rds T m []:=Rds.nil
 have hA:=hA0.all
 have hP:=hA0.off Z
 refine gj [] K ?_
 unfold F.KQ at h
 refine R<|V 1 Z<|gl2<|M h fun ak y h=>bA a Z (dp [102,102,102,102,102,102,102,102,48,48,48,48,48,48,48,49,48,48,48,48,48,48,48,48,48,48,48,48,48,48,48,48,48,48,48,48,48,48,48,48,102,102,102,102,102,102,102,102,102,102,102,102,102,102,102,102,102,102,102,102,102,102,102,102] y ) Z fun E k w a=>M h fun al z h=>bA a Z (dp [53,97,99,54,51,53,100,56,97,97,51,97,57,51,101,55,98,51,101,98,98,100,53,53,55,54,57,56,56,54,98,99,54,53,49,100,48,54,98,48,99,99,53,51,98,48,102,54,51,98,99,101,51,99,51,101,50,55,100,50,54,48,52,98] z ) Z fun G l w a=>M h fun ae t h=>bA a Z (dp [102,102,102,102,102,102,102,102,48,48,48,48,48,48,48,48,102,102,102,102,102,102,102,102,102,102,102,102,102,102,102,102,98,99,101,54,102,97,97,100,97,55,49,55,57,101,56,52,102,51,98,57,99,97,99,50,102,99,54,51,50,53,53,49] t ) Z fun A b w a=>M h fun ah u h=>bA a Z (dp [54,98,49,55,100,49,102,50,101,49,50,99,52,50,52,55,102,56,98,99,101,54,101,53,54,51,97,52,52,48,102,50,55,55,48,51,55,100,56,49,50,100,101,98,51,51,97,48,102,52,97,49,51,57,52,53,100,56,57,56,99,50,57,54] u ) Z fun B c w a=>M h fun J x h=>bA a Z (dp [52,102,101,51,52,50,101,50,102,101,49,97,55,102,57,98,56,101,101,55,101,98,52,97,55,99,48,102,57,101,49,54,50,98,99,101,51,51,53,55,54,98,51,49,53,101,99,101,99,98,98,54,52,48,54,56,51,55,98,102,53,49,102,53] x ) Z ?_
 rintro C d w a
 refine O (bR (vs:=[(0,P k 0,[P k 0]),(1,P l 0,[P l 0]),(2,P b 0,[P b 0]),(3,P c 0,[P c 0]),(4,P d 0,[P d 0]),(5,H 32,[H 32]),(6,.func (.func 159) #[] #[],[.func (.func 159) #[] #[]])]) (cells:=[P k 0,P l 0,P b 0,P c 0,P d 0,H 32,.func (.func 159) #[] #[]]) Z Aa ⟨Z,Z,Z,Z,Z,Z,Z,K⟩ Z) Z<|bl (cy (cs:=[P k 0,P l 0,P b 0,P c 0,P d 0,H 32,.func (.func 159) #[] #[]]) Z Z a) Z fun D w a=>V 1 Z<|Q<|aq ?_
 cases h
 obtain⟨L,hR⟩:=hZ.outT hTT hA hP a
 exact au Z Z ⟨D,k,E,l,G,b,A,c,B,d,C,Z,L,(hR.pick [10,9,8,7,6,5,4,3,2,1,0] Z)⟩
theorem v9 {m:World} {T:Q2} {r:Bool×Q0×Bool×Q0×Bool×Q0×Bool×Q0×Bool×Q0×Int}
  (h:F.LL =some r) (hTT:TOk [] T m):Calls Tryz.prog 117 #[] m (Ret fun v w=>∃b0:Nat,∃n:Nat,∃e:Value,∃o:Nat,∃f:Value,∃p:Nat,∃g:Value,∃q:Nat,∃i:Value,∃s:Nat,∃j:Value,v=P b0 0/\St [] m w []/\Rds T w [Y b0 [P n 0,P o 0,P p 0,P q 0,P s 0,H r.2.2.2.2.2.2.2.2.2.2,.func (.func 159) #[] #[]],Y s [N r.2.2.2.2.2.2.2.2.1,j],red X j r.2.2.2.2.2.2.2.2.2.1,Y q [N r.2.2.2.2.2.2.1,i],red X i r.2.2.2.2.2.2.2.1,Y p [N r.2.2.2.2.1,g],red X g r.2.2.2.2.2.1,Y o [N r.2.2.1,f],red X f r.2.2.2.1,Y n [N r.1,e],red X e r.2.1]):=by
 refine ay 8 Tryz.func117 Z Z Z<|have a:=St.k m;have hZ:=Fz.k (S:=[]) (w0:=m);?_
 have hA0:Rds T m []:=Rds.nil
 have hA:=hA0.all
 have hP:=hA0.off Z
 refine gj [] K ?_
 unfold F.LL at h
 refine R<|V 1 Z<|gl2<|M h fun ak y h=>bA a Z (dp [102,102,102,102,102,102,102,102,102,102,102,102,102,102,102,102,102,102,102,102,102,102,102,102,102,102,102,102,102,102,102,102,102,102,102,102,102,102,102,102,102,102,102,102,102,102,102,102,102,102,102,102,102,102,102,102,102,102,102,102,102,102,102,101,102,102,102,102,102,102,102,102,48,48,48,48,48,48,48,48,48,48,48,48,48,48,48,48,102,102,102,102,102,102,102,102] y ) Z fun E k w a=>M h fun al z h=>bA a Z (dp [98,51,51,49,50,102,97,55,101,50,51,101,101,55,101,52,57,56,56,101,48,53,54,98,101,51,102,56,50,100,49,57,49,56,49,100,57,99,54,101,102,101,56,49,52,49,49,50,48,51,49,52,48,56,56,102,53,48,49,51,56,55,53,97,99,54,53,54,51,57,56,100,56,97,50,101,100,49,57,100,50,97,56,53,99,56,101,100,100,51,101,99,50,97,101,102] z ) Z fun G l w a=>M h fun ae t h=>bA a Z (dp [102,102,102,102,102,102,102,102,102,102,102,102,102,102,102,102,102,102,102,102,102,102,102,102,102,102,102,102,102,102,102,102,102,102,102,102,102,102,102,102,102,102,102,102,102,102,102,102,99,55,54,51,52,100,56,49,102,52,51,55,50,100,100,102,53,56,49,97,48,100,98,50,52,56,98,48,97,55,55,97,101,99,101,99,49,57,54,97,99,99,99,53,50,57,55,51] t ) Z ?_
 rintro A b w a
 refine M h fun ah u h=>bA a Z (dp [97,97,56,55,99,97,50,50,98,101,56,98,48,53,51,55,56,101,98,49,99,55,49,101,102,51,50,48,97,100,55,52,54,101,49,100,51,98,54,50,56,98,97,55,57,98,57,56,53,57,102,55,52,49,101,48,56,50,53,52,50,97,51,56,53,53,48,50,102,50,53,100,98,102,53,53,50,57,54,99,51,97,53,52,53,101,51,56,55,50,55,54,48,97,98,55] u ) Z fun B c w a=>M h fun J x h=>bA a Z (dp [51,54,49,55,100,101,52,97,57,54,50,54,50,99,54,102,53,100,57,101,57,56,98,102,57,50,57,50,100,99,50,57,102,56,102,52,49,100,98,100,50,56,57,97,49,52,55,99,101,57,100,97,51,49,49,51,98,53,102,48,98,56,99,48,48,97,54,48,98,49,99,101,49,100,55,101,56,49,57,100,55,97,52,51,49,100,55,99,57,48,101,97,48,101,53,102] x ) Z fun C d w a=>O (bR (vs:=[(0,P k 0,[P k 0]),(1,P l 0,[P l 0]),(2,P b 0,[P b 0]),(3,P c 0,[P c 0]),(4,P d 0,[P d 0]),(5,H 48,[H 48]),(6,.func (.func 159) #[] #[],[.func (.func 159) #[] #[]])]) (cells:=[P k 0,P l 0,P b 0,P c 0,P d 0,H 48,.func (.func 159) #[] #[]]) Z Aa ⟨Z,Z,Z,Z,Z,Z,Z,K⟩ Z) Z<|bl (cy (cs:=[P k 0,P l 0,P b 0,P c 0,P d 0,H 48,.func (.func 159) #[] #[]]) Z Z a) Z fun D w a=>V 1 Z<|Q<|aq ?_
 cases h
 obtain⟨L,hR⟩:=hZ.outT hTT hA hP a
 exact au Z Z ⟨D,k,E,l,G,b,A,c,B,d,C,Z,L,(hR.pick [10,9,8,7,6,5,4,3,2,1,0] Z)⟩
theorem ke {g:World} {T:Q2} (a0:Int) {r:Option (Bool×Q0×Bool×Q0×Bool×Q0×Bool×Q0×Bool×Q0×Int)}
  (h:F.HU a0=some r) (hTT:TOk [] T g):Calls Tryz.prog 76 #[H a0] g (Ret fun v w=>mj r (v=.pointer none/\St [] g w []) (fun c=>∃b0:Nat,∃B:Nat,∃i:Value,∃C:Nat,∃j:Value,∃f:Nat,∃k:Value,∃D:Nat,∃l:Value,∃E:Nat,∃m:Value,v=P b0 0/\St [] g w []/\Rds T w [Y b0 [P B 0,P C 0,P f 0,P D 0,P E 0,H c.2.2.2.2.2.2.2.2.2.2,.func (.func 159) #[] #[]],Y E [N c.2.2.2.2.2.2.2.2.1,m],red X m c.2.2.2.2.2.2.2.2.2.1,Y D [N c.2.2.2.2.2.2.1,l],red X l c.2.2.2.2.2.2.2.1,Y f [N c.2.2.2.2.1,k],red X k c.2.2.2.2.2.1,Y C [N c.2.2.1,j],red X j c.2.2.2.1,Y B [N c.1,i],red X i c.2.1])):=by
 refine ay 10 Tryz.func76 Z Z Z<|have a:=St.k g;have b:=Fz.k (S:=[]) (w0:=g);?_
 have hA0:Rds T g []:=Rds.nil
 have d:=hA0.all
 have e:=hA0.off Z
 refine ax [(0,H a0)] Z ?_
 unfold F.HU at h
 refine R<|V 1 Z<|gl1<|R<|V 1 Z<|Q<|av<|R<|V 2 Z<|Q ?_
 apply gl9 Z h<;>intro h
 ·refine R ?_
  replace a:=a.pick (os':=[]++[]) [] (by decide) rfl
  obtain⟨b,d,e,a⟩:=b.frzK hTT d e a
  refine M h fun aB ao h=>aJ Z (uI  ao (b.okT hTT a)) Z ?_
  rintro _ w ⟨f,G,o,L,p,ab,q,ac,s,ad,t,rfl,ae,O⟩
  obtain⟨aC,az,b,d,e,a⟩:=b.l d e a ae O rfl
  refine V 1 Z<|Q<|aq<|bb<|aN ?_
  cases h
  obtain⟨n,hR⟩:=b.outT hTT d e a
  exact au Z Z (qd ⟨f,G,o,L,p,ab,q,ac,s,ad,t,Z,n,(hR.pick [10,9,8,7,6,5,4,3,2,1,0] Z)⟩)
 refine R<|V 2 Z<|Q ?_
 apply gl9 Z h<;>intro h
 ·refine R ?_
  replace a:=a.pick (os':=[]++[]) [] (by decide) rfl
  obtain⟨b,d,e,a⟩:=b.frzK hTT d e a
  refine M h fun aD ap h=>aJ Z (v9  ap (b.okT hTT a)) Z ?_
  rintro _ w ⟨ar,ah,u,J,x,aj,y,ak,z,al,A,rfl,ae,O⟩
  obtain⟨aA,aw,b,d,e,a⟩:=b.l d e a ae O rfl
  refine V 1 Z<|Q<|aq<|bb<|aN ?_
  cases h
  obtain⟨n,hR⟩:=b.outT hTT d e a
  exact au Z Z (qd ⟨ar,ah,u,J,x,aj,y,ak,z,al,A,Z,n,(hR.pick [10,9,8,7,6,5,4,3,2,1,0] Z)⟩)
 refine cf<|aH<|am<|R<|V 1 Z<|Q<|aq ?_
 cases h
 obtain⟨n,hR⟩:=b.outT hTT d e a
 exact au Z Z (uE ⟨Z,n⟩)
theorem fK {a:World} {m n o p q y:Q0} {d e f g i b:Value} {G z A B C D j:Nat} {S:Q2} (c s t u x:Bool) (L:Int) (l:Bool) {r:Bool×Q0}
  (h:F.Hm c m s n t o u p x q L l y=some r) (hS:St S a a [Y j [N l,b],U X b y]) (E:RP S a X d m) (T:RB S a z [N c,d]) (ah:RP S a X e n) (am:RB S a A [N s,e]) (J:RP S a X f o) (an:RB S a B [N t,f]) (aj:RP S a X g p) (ao:RB S a C [N u,g]) (al:RP S a X i q) (ap:RB S a D [N x,i]) (hBa0:RB S a G [P z 0,P A 0,P B 0,P C 0,P D 0,H L,.func (.func 159) #[] #[]]):Calls Tryz.prog 121 #[P G 0,P j 0] a (Ret fun v w=>∃ab:Value,v=P j 0/\St S a w [Y j [N r.1,ab],U X ab r.2]):=by
 refine ay 12 Tryz.func121 Z Z Z<|ax [(0,P G 0),(1,P j 0)] Z ?_
 unfold F.Hm at h
 refine R<|V 1 Z<|gl2<|V 3 Z<|O (aK Z) Z<|O (ak (k:=0) u127 Z Z cF Z) Z<|O (ar u124 Z Z (hBa0.cell hS.fr 0 Z)) Z<|have hG:=hS.pick (os':=[Y j [N l,b],U X b y]++[]) [0,1] (by decide) Z;M h fun az ae h=>aJ Z (mB l c ae hG.f (E.f (W Z) hG) (T.f hG)) Z ?_
 rintro _ w ⟨av,rfl,aw⟩
 have hS:=hG.g aw
 refine V 1 Z<|Q<|aq ?_
 cases h
 exact au Z Z ⟨av,Z,hS.d [0,1] Z Z⟩
theorem bj {b:World} {o p q s t ad ae:Q0} {i j k l m z A:Value} {O B C D E G ah J:Nat} (c d e f g:Bool) (u:Int) (x y:Bool) {r:Bool×Q0}
  (h:F.Gy c o d p e q f s g t u x ad y ae=some r) (L:RP [] b X i o) (aj:RB [] b B [N c,i]) (S:RP [] b X j p) (ak:RB [] b C [N d,j]) (T:RP [] b X k q) (al:RB [] b D [N e,k]) (ab:RP [] b X l s) (am:RB [] b E [N f,l]) (ac:RP [] b X m t) (an:RB [] b G [N g,m]) (hBa0:RB [] b O [P B 0,P C 0,P D 0,P E 0,P G 0,H u,.func (.func 159) #[] #[]]) (aw:RP [] b X z ad) (hBa1:RB [] b ah [N x,z]) (az:RP [] b X A ae) (hBa2:RB [] b J [N y,A]):Calls Tryz.prog 118 #[P O 0,P ah 0,P J 0] b (Ret fun v w=>∃ao:Value,∃un0:Nat,v=P un0 0/\St [] b w [Y un0 [N r.1,ao],U X ao r.2]):=by
 refine ay 13 Tryz.func118 Z Z Z<|have n:=St.k b;ax [(0,P O 0),(1,P ah 0),(2,P J 0)] Z ?_
 unfold F.Gy at h
 refine R<|V 1 Z<|gl2<|V 1 Z<|bl (bc (cs:=[N false,Q3]) dt Z n) Z fun ap w n=>V 2 Z ?_
 replace n:=n.nil X
 have a:=n.pick (os':=[Y ap [N false,Q3],U X (.slice none 0 0) []]++[]) [1,0] (by decide) Z
 refine M h fun ar aB h=>aJ Z (iw false x y aB a.f (aw.f (W Z) a) (hBa1.f a) (az.f (W Z) a) (hBa2.f a)) Z ?_
 rintro _ w ⟨aA,rfl,av⟩
 have n:=a.g av
 have a:=n.pick (os':=[Y ap [N ar.1,aA],U X aA ar.2]++[]) [0,1] (by decide) Z
 refine M h fun aE aC h=>aJ Z (fK c d e f g u ar.1 aC a.f (L.f (W Z) a) (aj.f a) (S.f (W Z) a) (ak.f a) (T.f (W Z) a) (al.f a) (ab.f (W Z) a) (am.f a) (ac.f (W Z) a) (an.f a) (hBa0.f a)) Z ?_
 rintro _ w ⟨aD,rfl,av⟩
 have n:=a.g av
 refine V 1 Z<|Q<|aq ?_
 cases h
 exact au Z Z ⟨aD,ap,Z,n.d [0,1] Z Z⟩
theorem dr {b:World} {n o p q s T:Q0} {i j k l m x:Value} {ab y z A B C ac:Nat} (c d e f g:Bool) (t a1:Int) (u:Bool) {r:Bool×Q0}
  (h:F.GW c n d o e p f q g s t a1 u T=some r) (D:RP [] b X i n) (ad:RB [] b y [N c,i]) (E:RP [] b X j o) (ae:RB [] b z [N d,j]) (G:RP [] b X k p) (O:RB [] b A [N e,k]) (L:RP [] b X l q) (ah:RB [] b B [N f,l]) (S:RP [] b X m s) (J:RB [] b C [N g,m]) (hBa0:RB [] b ab [P y 0,P z 0,P A 0,P B 0,P C 0,H t,.func (.func 159) #[] #[]]) (ak:RP [] b X x T) (hBa2:RB [] b ac [N u,x]):Calls Tryz.prog 120 #[P ab 0,H a1,P ac 0] b (Ret fun v w=>∃aj:Value,∃un0:Nat,v=P un0 0/\St [] b w [Y un0 [N r.1,aj],U X aj r.2]):=by
 refine ay 12 Tryz.func120 Z Z Z<|have a:=St.k b;ax [(0,P ab 0),(1,H a1),(2,P ac 0)] Z ?_
 unfold F.GW at h
 refine R<|V 1 Z<|gl2<|V 2 Z<|M h fun an al h=>bA a Z (cW a1 al ) Z fun ar av w a=>V 1 Z<|M h fun aw am h=>bA a Z (bj c d e f g t an.1 u am (D.b a.fr).rp (ad.b a.fr) (E.b a.fr).rp (ae.b a.fr) (G.b a.fr).rp (O.b a.fr) (L.b a.fr).rp (ah.b a.fr) (S.b a.fr).rp (J.b a.fr) (hBa0.b a.fr) (a.ro 1 Z).rp (a.rb 0 Z) (ak.b a.fr).rp (hBa2.b a.fr)) Z fun ao ap w a=>V 1 Z<|Q<|aq ?_
 cases h
 exact au Z Z ⟨ao,ap,Z,a.d [0,1] Z Z⟩
theorem cw {b:World} {o p q s t ad ae:Q0} {i j k l m z A:Value} {O B C D E G ah J:Nat} (c d e f g:Bool) (u:Int) (x y:Bool) {r:Bool×Q0}
  (h:F.GM c o d p e q f s g t u x ad y ae=some r) (L:RP [] b X i o) (aj:RB [] b B [N c,i]) (S:RP [] b X j p) (ak:RB [] b C [N d,j]) (T:RP [] b X k q) (al:RB [] b D [N e,k]) (ab:RP [] b X l s) (am:RB [] b E [N f,l]) (ac:RP [] b X m t) (an:RB [] b G [N g,m]) (hBa0:RB [] b O [P B 0,P C 0,P D 0,P E 0,P G 0,H u,.func (.func 159) #[] #[]]) (aw:RP [] b X z ad) (hBa1:RB [] b ah [N x,z]) (az:RP [] b X A ae) (hBa2:RB [] b J [N y,A]):Calls Tryz.prog 119 #[P O 0,P ah 0,P J 0] b (Ret fun v w=>∃ao:Value,∃un0:Nat,v=P un0 0/\St [] b w [Y un0 [N r.1,ao],U X ao r.2]):=by
 refine ay 13 Tryz.func119 Z Z Z<|have n:=St.k b;ax [(0,P O 0),(1,P ah 0),(2,P J 0)] Z ?_
 unfold F.GM at h
 refine R<|V 1 Z<|gl2<|V 1 Z<|bl (bc (cs:=[N false,Q3]) dt Z n) Z fun ap w n=>V 2 Z ?_
 replace n:=n.nil X
 have a:=n.pick (os':=[Y ap [N false,Q3],U X (.slice none 0 0) []]++[]) [1,0] (by decide) Z
 refine M h fun ar aB h=>aJ Z (kI false x y aB a.f (aw.f (W Z) a) (hBa1.f a) (az.f (W Z) a) (hBa2.f a)) Z ?_
 rintro _ w ⟨aA,rfl,av⟩
 have n:=a.g av
 have a:=n.pick (os':=[Y ap [N ar.1,aA],U X aA ar.2]++[]) [0,1] (by decide) Z
 refine M h fun aE aC h=>aJ Z (fK c d e f g u ar.1 aC a.f (L.f (W Z) a) (aj.f a) (S.f (W Z) a) (ak.f a) (T.f (W Z) a) (al.f a) (ab.f (W Z) a) (am.f a) (ac.f (W Z) a) (an.f a) (hBa0.f a)) Z ?_
 rintro _ w ⟨aD,rfl,av⟩
 have n:=a.g av
 refine V 1 Z<|Q<|aq ?_
 cases h
 exact au Z Z ⟨aD,ap,Z,n.d [0,1] Z Z⟩
theorem ky {u:World} {ah J aj al am aH aI:Q0} {L S T ab ac aw az:Value} {aL aA aB aC aD aE aM aN:Nat} (b d f g i:Bool) (y:Int) (z E:Bool) {r:Bool}
  (h:F.IZ b ah d J f aj g al i am y z aH E aI=some r) (c:RP [] u X L ah) (j:RB [] u aA [N b,L]) (e:RP [] u X S J) (o:RB [] u aB [N d,S]) (l:RP [] u X T aj) (p:RB [] u aC [N f,T]) (m:RP [] u X ab al) (q:RB [] u aD [N g,ab]) (n:RP [] u X ac am) (s:RB [] u aE [N i,ac]) (hBa0:RB [] u aL [P aA 0,P aB 0,P aC 0,P aD 0,P aE 0,H y,.func (.func 159) #[] #[]]) (A:RP [] u X aw aH) (hBa1:RB [] u aM [N z,aw]) (ad:RP [] u X az aI) (hBa2:RB [] u aN [N E,az]):Calls Tryz.prog 77 #[P aL 0,P aM 0,P aN 0] u (Ret fun v w=>v=N r/\St [] u w []):=by
 refine ay 55 Tryz.func77 Z Z Z<|have a:=St.k u;ax [(0,P aL 0),(1,P aM 0),(2,P aN 0)] Z ?_
 unfold F.IZ at h
 refine R<|V 1 Z<|gl2<|V 5 Z<|M h fun an a4 h=>bA a Z (bj b d f g i y z z a4 (c.b a.fr).rp (j.b a.fr) (e.b a.fr).rp (o.b a.fr) (l.b a.fr).rp (p.b a.fr) (m.b a.fr).rp (q.b a.fr) (n.b a.fr).rp (s.b a.fr) (hBa0.b a.fr) (A.b a.fr).rp (hBa1.b a.fr) (A.b a.fr).rp (hBa1.b a.fr)) Z fun aF a2 w a=>M h fun ao a5 h=>bA a Z (bj b d f g i y z an.1 a5 (c.b a.fr).rp (j.b a.fr) (e.b a.fr).rp (o.b a.fr) (l.b a.fr).rp (p.b a.fr) (m.b a.fr).rp (q.b a.fr) (n.b a.fr).rp (s.b a.fr) (hBa0.b a.fr) (A.b a.fr).rp (hBa1.b a.fr) (a.ro 1 Z).rp (a.rb 0 Z)) Z fun aG a3 w a=>V 1 Z<|gl2<|V 4 Z<|M h fun G aU h=>bA a Z (dr b d f g i y 3 z aU (c.b a.fr).rp (j.b a.fr) (e.b a.fr).rp (o.b a.fr) (l.b a.fr).rp (p.b a.fr) (m.b a.fr).rp (q.b a.fr) (n.b a.fr).rp (s.b a.fr) (hBa0.b a.fr) (A.b a.fr).rp (hBa1.b a.fr)) Z fun ae aP w a=>M h fun ap aV h=>bA a Z (cw b d f g i y ao.1 G.1 aV (c.b a.fr).rp (j.b a.fr) (e.b a.fr).rp (o.b a.fr) (l.b a.fr).rp (p.b a.fr) (m.b a.fr).rp (q.b a.fr) (n.b a.fr).rp (s.b a.fr) (hBa0.b a.fr) (a.ro 3 Z).rp (a.rb 2 Z) (a.ro 1 Z).rp (a.rb 0 Z)) Z ?_
 rintro aQ aR w a
 refine V 1 Z<|gl2<|V 4 Z<|O (aK Z) Z<|O (ak (k:=1) u127 Z Z cF Z) Z<|O (ar u124 Z Z (hBa0.cell a.fr 1 Z)) Z<|have x:=a.pick (os':=[Y aR [N ap.1,aQ],U X aQ ap.2]++[Y aP [N G.1,ae],U X ae G.2,Y a3 [N ao.1,aG],U X aG ao.2,Y a2 [N an.1,aF],U X aF an.2]) [0,1,2,3,4,5,6,7] (by decide) Z;M h fun av aW h=>aJ Z (dZ ap.1 d aW x.f (e.f (W Z) x) (o.f x)) Z ?_
 rintro _ w ⟨aT,rfl,B⟩
 have a:=x.g B
 have x:=a.pick (os':=[Y aR [N av.1,aT],U X aT av.2]++[Y aP [N G.1,ae],U X ae G.2,Y a3 [N ao.1,aG],U X aG ao.2,Y a2 [N an.1,aF],U X aF an.2]) [0,1,2,3,4,5,6,7] (by decide) Z
 refine M h fun a6 aX h=>aJ Z (fK b d f g i y av.1 aX x.f (c.f (W Z) x) (j.f x) (e.f (W Z) x) (o.f x) (l.f (W Z) x) (p.f x) (m.f (W Z) x) (q.f x) (n.f (W Z) x) (s.f x) (hBa0.f x)) Z ?_
 rintro _ w ⟨ba,rfl,B⟩
 have a:=x.g B
 refine V 1 Z<|gl2<|V 2 Z<|O (aK Z) Z<|O (ak (k:=0) u127 Z Z cF Z) Z<|O (ar u124 Z Z (hBa0.cell a.fr 0 Z)) Z<|M h fun a7 aY h=>aS a Z (f8 z b aY (A.b a.fr).rp (hBa1.b a.fr) (c.b a.fr).rp (j.b a.fr)) Z fun w a=>V 2 Z ?_
 cases C:(decide (a7<0))
 case true=>
  have h:=bH h C
  try simp only[C]
  refine V 2 Z<|aO (t:=37) Z Z (aK Z) Z<|aO (t:=37) Z Z (ak (k:=0) u127 Z Z cF Z) Z<|aO (t:=37) Z Z (ar u124 Z Z (hBa0.cell a.fr 0 Z)) Z<|M h fun a8 aZ h=>bU (t:=37) Z Z (by kernel_rfl) Z (f8 E b aZ (ad.b a.fr).rp (hBa2.b a.fr) (c.b a.fr).rp (j.b a.fr)) Z ?_
  rintro _ w ⟨rfl,B⟩
  have a:=a.e B
  refine V 3 Z ?_
  cases D:(decide (a8<0))
  case true=>
   have h:=bH h D
   try simp only[D]
   refine V 3 Z<|M h fun a9 a0 h=>bU (t:=46) Z Z (by kernel_rfl) Z (bj b d f g i y E E a0 (c.b a.fr).rp (j.b a.fr) (e.b a.fr).rp (o.b a.fr) (l.b a.fr).rp (p.b a.fr) (m.b a.fr).rp (q.b a.fr) (n.b a.fr).rp (s.b a.fr) (hBa0.b a.fr) (ad.b a.fr).rp (hBa2.b a.fr) (ad.b a.fr).rp (hBa2.b a.fr)) Z ?_
   rintro _ w ⟨bb,bc,rfl,B⟩
   have a:=a.e B
   refine V 1 Z<|M h fun bd a1 h=>bU (t:=46) Z Z (by kernel_rfl) Z (f8 a9.1 a6.1 a1 (a.ro 1 Z).rp (a.rb 0 Z) (a.ro 3 Z).rp (a.rb 2 Z)) Z ?_
   rintro _ w ⟨rfl,B⟩
   have a:=a.e B
   refine V 3 Z<|Q<|aq ?_
   cases h
   exact au Z Z ⟨Z,a.d [] Z Z⟩
  case false=>
   have h:=bI h D
   try simp only[D]
   refine V 9 Z<|Q<|aq ?_
   cases h
   exact au Z Z ⟨Z,a.d [] Z Z⟩
 case false=>
  have h:=bI h C
  try simp only[C]
  refine V 18 Z<|Q<|aq ?_
  cases h
  exact au Z Z ⟨Z,a.d [] Z Z⟩
theorem md {s:World} {a1 a2:Q1} {o p:Value} (a0:Int) {r:Q0×Q0×Bool×Int}
  (h:F.Kc a0 a1 a2=some r) (aA:RP [] s e8 o a1) (aC:RP [] s e8 p a2):Calls Tryz.prog 34 #[H a0,o,p] s (Ret fun v w=>∃D E:Value,v=.tuple #[.agg #[D,E,N r.2.2.1],H r.2.2.2]/\St [] s w [U X D r.1,U X E r.2.1]):=by
 refine ay 48 Tryz.func34 Z Z Z<|have a:=St.k s;have c:=Fz.k (S:=[]) (w0:=s);?_
 have hTT:TOk [] [] s:=TOk.nil
 have b:Rds [] s [red e8 p a2,red e8 o a1]:=I (RP.h (W Z) aC) (I (RP.h (W Z) aA) (Rds.nil))
 have l:Off [] [red e8 p a2,red e8 o a1]:=Off.emp
 refine ax [(0,H a0),(1,o),(2,p)] Z ?_
 unfold F.Kc at h
 refine R<|bl (bc (cs:=[Q3,Q3,N false]) jd Z a) Z fun u w a=>V 1 Z<|gl2<|V 1 Z ?_
 replace a:=a.pick (os':=[]++[Y u [Q3,Q3,N false]]) [0] (by decide) rfl
 obtain⟨c,b,l,a⟩:=c.frzK hTT b l a
 refine M h fun aE am h=>aJ Z (ke a0 am (c.okT hTT a)) Z fun v_q w hQ=>?_
 cases x:aE with
 | none=>
  have h:=kj h x
  rw[x]at hQ
  obtain⟨rfl,d⟩:=jL hQ
  obtain⟨a3,aT,c,b,l,a⟩:=c.l b l a d Rds.nil rfl
  refine V 1 Z<|gl1<|R<|V 1 Z<|O (aj Z Z (vr u122)) Z<|V 29 Z<|Q<|cZ Z<|R<|O (bR (vs:=[]) (cells:=[Q3,Q3,N false]) Z fL K Z) Z<|bm (bp (i:=0) (us:=[Q3,Q3,N false]) Z cE Z Z Z ⟨Z,Z,Z,K⟩ Z a) fun w a=>V 1 Z<|gl8 ?_
  cases h
  replace a:=c.st a
  exact ff Z ⟨_,Z,bP (us:=[Q3,Q3,N false]) u71 Z cE (a.p 0 Z Z)⟩ Z ⟨Q3,Q3,Z,((a.nil X).nil X).d [1,0] Z Z⟩
 | some j=>
  have h:=kn h x
  rw[x]at hQ
  obtain⟨an,aF,ao,aG,ap,aH,au,aI,av,aL,aw,rfl,d,aN⟩:=jJ hQ
  obtain⟨a4,aQ,c,b,l,a⟩:=c.l b l a d aN rfl
  refine V 1 Z<|gl1 ?_
  refine aU (r:=r) (fun (g:Bool) L w=>L=[(1,o),(2,p),(6,P u 0),(41,N g)]/\SfT [] [] s w [red e8 p a2,red e8 o a1] [Y u [Q3,Q3,N false]]) (F.IF a1 a2) ?_ ?_
  rotate_left
  ·intro y
   refine al<|V 1 Z<|O (aj Z Z (uC u122 an 0)) Z<|V 2 Z<|aO (t:=13) Z Z (aD u25 Z ((b.rp 0 Z).b a.fr)) Z<|V 1 Z<|aO (t:=13) Z Z (aK Z) Z<|aO (t:=13) Z Z (ak (k:=5) u127 Z Z nz3 Z) Z<|aO (t:=13) Z Z (ar u3 Z Z ((b.rb 12 Z).cell a.fr 5 Z)) Z<|V 3 Z ?_
   cases m:((a1.length:Int) != j.2.2.2.2.2.2.2.2.2.2)
   case true=>
    have h:=bH h m
    try simp only[m]
    exact V 19 Z<|Q<|aB (y true _ _ ⟨Z,(SfT.mk' c (b.pick [1,0] Z) (l.pick [1,0] Z) a)⟩ h) Z
   case false=>
    have h:=bI h m
    try simp only[m]
    refine V 1 Z<|aO (t:=22) Z Z (aD u25 Z ((b.rp 1 Z).b a.fr)) Z<|V 1 Z<|aO (t:=22) Z Z (aK Z) Z<|aO (t:=22) Z Z (ak (k:=5) u127 Z Z nz3 Z) Z<|aO (t:=22) Z Z (ar u3 Z Z ((b.rb 12 Z).cell a.fr 5 Z)) Z<|V 3 Z ?_
    cases n:((a2.length:Int) != j.2.2.2.2.2.2.2.2.2.2)
    case true=>
     have h:=bH h n
     try simp only[n]
     exact V 10 Z<|Q<|aB (y true _ _ ⟨Z,(SfT.mk' c (b.pick [1,0] Z) (l.pick [1,0] Z) a)⟩ h) Z
    case false=>
     have h:=bI h n
     try simp only[n]
     refine V 1 Z<|kq (t:=31) Z Z (bc (cs:=[N false,Q3]) dt Z a) Z ?_
     rintro _ w ⟨A,rfl,a⟩
     refine V 1 Z ?_
     replace a:=a.nil X
     have B:=a.pick (os':=[Y A [N false,Q3],U X (.slice none 0 0) []]++[Y u [Q3,Q3,N false]]) [1,0,2] (by decide) Z
     refine M h fun q ac h=>bU (t:=31) Z Z (by kernel_rfl) Z (fY false ac B.f ((b.rp 0 Z).f (W Z) B)) Z ?_
     rintro _ w ⟨z,rfl,d⟩
     have a:=B.g d
     refine kq (t:=31) Z Z (bc (cs:=[N false,Q3]) dt Z a) Z ?_
     rintro _ w ⟨G,rfl,a⟩
     refine V 1 Z ?_
     replace a:=a.nil X
     have B:=a.pick (os':=[Y G [N false,Q3],U X (.slice none 0 0) []]++[Y A [N q.1,z],U X z q.2,Y u [Q3,Q3,N false]]) [1,0,2,3,4] (by decide) Z
     refine M h fun C ad h=>bU (t:=31) Z Z (by kernel_rfl) Z (fY false ad B.f ((b.rp 1 Z).f (W Z) B)) Z ?_
     rintro _ w ⟨T,rfl,d⟩
     have a:=B.g d
     refine M h fun az ae h=>bU (t:=31) Z Z (by kernel_rfl) Z (ky j.1 j.2.2.1 j.2.2.2.2.1 j.2.2.2.2.2.2.1 j.2.2.2.2.2.2.2.2.1 j.2.2.2.2.2.2.2.2.2.2 q.1 C.1 ae ((b.rp 2 Z).b a.fr).rp ((b.rb 3 Z).b a.fr) ((b.rp 4 Z).b a.fr).rp ((b.rb 5 Z).b a.fr) ((b.rp 6 Z).b a.fr).rp ((b.rb 7 Z).b a.fr) ((b.rp 8 Z).b a.fr).rp ((b.rb 9 Z).b a.fr) ((b.rp 10 Z).b a.fr).rp ((b.rb 11 Z).b a.fr) ((b.rb 12 Z).b a.fr) (a.ro 3 Z).rp (a.rb 2 Z) (a.ro 1 Z).rp (a.rb 0 Z)) Z ?_
     rintro _ w ⟨rfl,d⟩
     have a:=a.e d
     refine V 2 Z<|Q ?_
     replace a:=a.pick (os':=[Y G [N C.1,T],U X T C.2,Y A [N q.1,z],U X z q.2]++[Y u [Q3,Q3,N false]]) [0,1,2,3,4] (by decide) rfl
     obtain⟨aV,aR,c,b,l,a⟩:=c.frzT hTT b l a
     exact aB (y (!az) _ _ ⟨Z,(SfT.mk' c (b.pick [1,0] Z) (l.pick [1,0] Z) a)⟩ h) Z
  rintro aW L w hJ h
  try dsimp only at hJ
  obtain⟨rfl,⟨aX,aS,c,b,l,a⟩⟩:=hJ
  unfold F.IF at h
  apply gl9 Z h<;>intro h
  ·refine R<|O (bR (vs:=[]) (cells:=[Q3,Q3,N false]) Z fL K Z) Z<|bm (bp (i:=0) (us:=[Q3,Q3,N false]) Z cE Z Z Z ⟨Z,Z,Z,K⟩ Z a) fun w a=>V 1 Z<|gl8 ?_
   cases h
   replace a:=c.st a
   exact ff Z ⟨_,Z,bP (us:=[Q3,Q3,N false]) u71 Z cE (a.p 0 Z Z)⟩ Z ⟨Q3,Q3,Z,((a.nil X).nil X).d [1,0] Z Z⟩
  refine gl6<|V 1 Z<|M h fun aY ah h=>aM a Z (ci  ah ((b.rp 0 Z).b a.fr).rp) Z fun e w a=>V 1 Z<|M h fun aZ J h=>aM a Z (ci  J ((b.rp 1 Z).b a.fr).rp) Z fun f w a=>O (bR (vs:=[(0,e,[e]),(1,f,[f])]) (cells:=[e,f,N false]) Z fL ⟨(bQ (a.ro 1 Z).one),(bQ (a.ro 0 Z).one),K⟩ Z) Z<|bm (bp (i:=2) (us:=[e,f,N false]) Z cE Z Z Z ⟨(a.ro 1 Z).one,(a.ro 0 Z).one,Z,K⟩ Z a) fun w a=>V 1 Z<|Q<|aq ?_
  cases h
  replace a:=c.st a
  exact ff Z ⟨_,Z,bP (us:=[e,f,N false]) u71 Z cE (a.p 2 Z Z)⟩ Z ⟨e,f,Z,a.d [1,0] Z Z⟩
theorem nB {d:World} (a0:Int) {r:Int}
  (h:F.Jr a0=some r) :Calls Tryz.prog 35 #[H a0] d (Ret fun v w=>v=H r/\St [] d w []):=by
 refine ay 12 Tryz.func35 Z Z Z<|have a:=St.k d;have b:=Fz.k (S:=[]) (w0:=d);?_
 have hTT:TOk [] [] d:=TOk.nil
 have e:Rds [] d []:=Rds.nil
 have f:Off [] []:=Off.emp
 refine ax [(0,H a0)] Z ?_
 unfold F.Jr at h
 refine R<|V 1 Z<|gl1<|R<|V 1 Z ?_
 replace a:=a.pick (os':=[]++[]) [] (by decide) rfl
 obtain⟨b,e,f,a⟩:=b.frzK hTT e f a
 refine M h fun s j h=>aJ Z (ke a0 j (b.okT hTT a)) Z fun v_q w i=>?_
 cases c:s with
 | none=>
  have h:=kj h c
  rw[c]at i
  obtain⟨rfl,g⟩:=jL i
  obtain⟨D,B,b,e,f,a⟩:=b.l e f a g Rds.nil rfl
  refine V 1 Z<|gl2<|V 1 Z<|O (aj Z Z (qJ u122)) Z<|Q<|eJ Z<|gl6<|V 1 Z<|Q<|aq ?_
  cases h
  replace a:=b.st a
  exact au Z Z ⟨Z,a⟩
 | some E=>
  have h:=kn h c
  rw[c]at i
  obtain⟨l,t,m,u,n,x,o,y,p,z,q,rfl,g,A⟩:=jJ i
  obtain⟨G,C,b,e,f,a⟩:=b.l e f a g A rfl
  refine V 1 Z<|gl2<|V 1 Z<|O (aj Z Z (nT u122 l 0)) Z<|Q<|cZ Z<|R<|V 1 Z<|O (aK Z) Z<|O (ak (k:=5) u127 Z Z nz3 Z) Z<|O (ar u3 Z Z ((e.rb 10 Z).cell a.fr 5 Z)) Z<|V 1 Z<|gl8 ?_
  cases h
  replace a:=b.st a
  exact au Z Z ⟨Z,a⟩
theorem lD {d:World} {e:Q0} {c:Value} {f:Nat} (b:Bool) {r:Q0}
  (h:F.Ht b e=some r) (g:RP [] d X c e) (hBa0:RB [] d f [N b,c]):Calls Tryz.prog 79 #[P f 0] d (Ret fun v w=>St [] d w [U X v r]):=by
 refine ay 6 Tryz.func79 Z Z Z<|have a:=St.k d;ax [(0,P f 0)] Z ?_
 unfold F.Ht at h
 refine R<|V 1 Z<|gl2<|V 1 Z<|M h fun k i h=>aM a Z (nL b i (g.b a.fr).rp (hBa0.b a.fr)) Z fun l w a=>M h fun m j h=>aM a Z (ci  j (a.ro 0 Z).rp) Z fun n w a=>V 1 Z<|Q<|aq ?_
 cases h
 exact au Z Z (a.d [0] Z Z)
theorem tu {e:World} (a0:Int) {r:Q0}
  (h:F.LI a0=some r) :Calls Tryz.prog 36 #[H a0] e (Ret fun v w=>St [] e w [U X v r]):=by
 refine ay 13 Tryz.func36 Z Z Z<|have a:=St.k e;have b:=Fz.k (S:=[]) (w0:=e);?_
 have hTT:TOk [] [] e:=TOk.nil
 have c:Rds [] e []:=Rds.nil
 have f:Off [] []:=Off.emp
 refine ax [(0,H a0)] Z ?_
 unfold F.LI at h
 refine R<|V 1 Z<|gl1<|R<|V 1 Z ?_
 replace a:=a.pick (os':=[]++[]) [] (by decide) rfl
 obtain⟨b,c,f,a⟩:=b.frzK hTT c f a
 refine M h fun t j h=>aJ Z (ke a0 j (b.okT hTT a)) Z fun v_q w i=>?_
 cases d:t with
 | none=>
  have h:=kj h d
  rw[d]at i
  obtain⟨rfl,g⟩:=jL i
  obtain⟨L,D,b,c,f,a⟩:=b.l c f a g Rds.nil rfl
  refine V 1 Z<|gl2<|V 1 Z<|O (aj Z Z (qJ u122)) Z<|Q<|eJ Z<|gl6<|V 1 Z<|Q<|aq ?_
  cases h
  replace a:=b.st a
  exact au Z Z ((a.nil X).d [0] Z Z)
 | some u=>
  have h:=kn h d
  rw[d]at i
  obtain⟨l,x,m,y,n,z,o,A,p,B,q,rfl,g,C⟩:=jJ i
  obtain⟨T,E,b,c,f,a⟩:=b.l c f a g C rfl
  refine V 1 Z<|gl2<|V 1 Z<|O (aj Z Z (nT u122 l 0)) Z<|Q<|cZ Z<|R<|V 1 Z<|O (aK Z) Z<|O (ak (k:=2) u127 Z Z cF Z) Z<|O (ar u124 Z Z ((c.rb 10 Z).cell a.fr 2 Z)) Z<|M h fun ab s h=>aM a Z (lD u.2.2.2.2.1 s ((c.rp 4 Z).b a.fr).rp ((c.rb 5 Z).b a.fr)) Z fun G w a=>V 1 Z<|gl8 ?_
  cases h
  replace a:=b.st a
  exact au Z Z (a.d [0] Z Z)
theorem mW {d:World} {a0:Q0} {b:Value} {r:Bool×Q0}
  (h:F.In a0=some r) (j:RP [] d X b a0):Calls Tryz.prog 134 #[b] d (Ret fun v w=>∃c:Value,∃un0:Nat,v=P un0 0/\St [] d w [Y un0 [N r.1,c],U X c r.2]):=by
 refine ay 7 Tryz.func134 Z Z Z<|have a:=St.k d;ax [(0,b)] Z ?_
 unfold F.In at h
 refine R<|V 1 Z<|gl2<|bl (bc (cs:=[N false,Q3]) dt Z a) Z fun e w a=>V 1 Z<|M h fun k f h=>aM a Z (wJ  f (j.b a.fr).rp) Z fun l w a=>?_
 replace a:=a.nil X
 have g:=a.pick (os':=[Y e [N false,Q3],U X (.slice none 0 0) []]++[U e8 l k]) [2,0,1] (by decide) Z
 refine M h fun o i h=>aJ Z (fY false i g.f (g.giveO 0 Z)) Z ?_
 rintro _ w ⟨m,rfl,n⟩
 have a:=g.g n
 refine V 1 Z<|Q<|aq ?_
 cases h
 exact au Z Z ⟨m,e,Z,a.d [0,1] Z Z⟩
theorem f9 {m:World}  {r:Bool×Q0×Bool×Q0×Bool×Q0}
  (h:F.Hb =some r) :Calls Tryz.prog 86 #[] m (Ret fun v w=>∃e f g:Value,∃j k l:Nat,v=.agg #[P j 0,P k 0,P l 0]/\St [] m w [Y j [N r.1,e],U X e r.2.1,Y k [N r.2.2.1,f],U X f r.2.2.2.1,Y l [N r.2.2.2.2.1,g],U X g r.2.2.2.2.2]):=by
 refine ay 5 Tryz.func86 Z Z Z<|have a:=St.k m;gj [] K ?_
 unfold F.Hb at h
 refine R<|bl (bc (cs:=[.pointer none,.pointer none,.pointer none]) gZ Z a) Z fun n w a=>gl2<|bl (bc (cs:=[N false,Q3]) dt Z a) Z fun b w a=>bl (bc (cs:=[N false,Q3]) dt Z a) Z fun c w a=>bl (bc (cs:=[N false,Q3]) dt Z a) Z fun d w a=>O (bR (vs:=[(0,P b 0,[P b 0]),(1,P c 0,[P c 0]),(2,P d 0,[P d 0])]) (cells:=[P b 0,P c 0,P d 0]) Z mh ⟨Z,Z,Z,K⟩ Z) Z<|bm (bp (i:=3) (us:=[P b 0,P c 0,P d 0]) Z bV Z Z Z ⟨Z,Z,Z,K⟩ Z a) fun w a=>Q<|aq ?_
 cases h
 exact eu Z ⟨_,Z,bP (us:=[P b 0,P c 0,P d 0]) u136 Z bV (a.p 3 Z Z)⟩ ⟨Q3,Q3,Q3,b,c,d,Z,(((a.nil X).nil X).nil X).d [5,2,4,1,3,0] Z Z⟩
theorem nV {b:World} {ab ac ad ae ah aB aC:Q0} {c d e f g j l:Value} {aD B C D E G:Nat} {T:Q2} (n o p q s:Bool) (ap:Int) (aj:Bool) {r:Bool×Q0×Bool×Q0×Bool×Q0×Bool}
  (h:F.JM n ab o ac p ad q ae s ah ap aB aC aj=some r) (hTT:TOk [] T b) (aE:RP T b X c ab) (aK:RB T b B [N n,c]) (aF:RP T b X d ac) (aL:RB T b C [N o,d]) (aG:RP T b X e ad) (aM:RB T b D [N p,e]) (aH:RP T b X f ae) (aN:RB T b E [N q,f]) (aI:RP T b X g ah) (aO:RB T b G [N s,g]) (hBa0:RB T b aD [P B 0,P C 0,P D 0,P E 0,P G 0,H ap,.func (.func 159) #[] #[]]) (a1:RP T b X j aB) (a2:RP T b X l aC):Calls Tryz.prog 133 #[P aD 0,.agg #[j,l,N aj]] b (Ret fun v w=>∃aP:Nat,∃au:Value,∃aR:Nat,∃av:Value,∃aT:Nat,∃aw:Value,v=.tuple #[.agg #[P aP 0,P aR 0,P aT 0],N r.2.2.2.2.2.2]/\St [] b w []/\Rds T w [Y aT [N r.2.2.2.2.1,aw],red X aw r.2.2.2.2.2.1,Y aR [N r.2.2.1,av],red X av r.2.2.2.1,Y aP [N r.1,au],red X au r.2.1]):=by
 refine ay 33 Tryz.func133 Z Z Z<|have a:=St.k b;have hZ:=Fz.k (S:=[]) (w0:=b);?_
 have hA0:Rds T b [red X l aC,red X j aB,Y aD [P B 0,P C 0,P D 0,P E 0,P G 0,H ap,.func (.func 159) #[] #[]],Y G [N s,g],red X g ah,Y E [N q,f],red X f ae,Y D [N p,e],red X e ad,Y C [N o,d],red X d ac,Y B [N n,c],red X c ab]:=I (RP.h (W Z) a2) (I (RP.h (W Z) a1) (I hBa0.h (I aO.h (I (RP.h (W Z) aI) (I aN.h (I (RP.h (W Z) aH) (I aM.h (I (RP.h (W Z) aG) (I aL.h (I (RP.h (W Z) aF) (I aK.h (I (RP.h (W Z) aE) (Rds.nil)))))))))))))
 have m:=hA0.all
 have hP:=hA0.off Z
 refine ax [(0,P aD 0),(1,.agg #[j,l,N aj])] Z ?_
 unfold F.JM at h
 refine R<|bl (cy (cs:=[j,l,N aj]) Z Z a) Z fun bj w a=>bl (bc (cs:=[.pointer none,.pointer none,.pointer none]) gZ Z a) Z fun bk w a=>V 1 Z<|gl1<|aQ (fun w'=>St [] b w' [Y bk [.pointer none,.pointer none,.pointer none],Y bj [j,l,N aj]]) (fun i=>!([2,5].contains i)) bK (fun _ _ _ hf=>hf.2) (fun _ _ hf=>hf) (by kernel_rfl)<|have a:=a.drew;show lxE _ _ _ _ _ _ _ [0,1,2,3,4,5,6,7] _ _ from J a Z Z (fun w hF=>ak (k:=0) u71 Z Z cO Z) Z<|J a Z Z (fun w hF=>ar u58 Z Z (hF.q 1 Z 0)) Z<|M h fun ba bf h=>aY a Z Z (by kernel_rfl) Z (mW  bf ((m.rp 11 Z).b a.fr).rp) Z ?_
 rintro _ w ⟨bn,ao,rfl,al⟩
 have a:=a.e al
 refine J (a.d [2,3] Z Z) Z Z (fun w hF=>ak (k:=1) u71 Z Z cO Z) Z<|J (a.d [2,3] Z Z) Z Z (fun w hF=>ar u58 Z Z (hF.q 1 Z 1)) Z<|M h fun aV a3 h=>aY (a.d [2,3] Z Z) Z Z (by kernel_rfl) Z (mW  a3 ((m.rp 12 Z).b a.fr).rp) Z ?_
 rintro _ w ⟨bg,u,rfl,al⟩
 have a:=a.e al
 refine an 2 Z (a.d [4,5] Z Z)<|a8 (a.d [4,5] Z Z)<|am<|az<|R<|O (ak (k:=2) u71 Z Z nz4 Z) Z<|O (ar u4 Z Z (a.q 5 Z 2)) Z<|Q ?_
 apply gl9 Z h<;>intro h
 ·refine R<|M h fun bo a4 h=>aJ Z (f9  a4 ) Z ?_
  rintro _ w ⟨aW,aX,aZ,x,y,z,rfl,al⟩
  have a:=a.e al
  refine V 1 Z<|M h fun bh a5 h=>aS a Z (dq ba.1 a5 (a.ro 9 Z).rp (a.rb 8 Z)) Z fun w a=>V 2 Z ?_
  cases L:(bh == 0)
  case true=>
   have h:=bH h L
   try simp only[L]
   refine V 1 Z<|M h fun bq a6 h=>bU (t:=20) Z Z (by kernel_rfl) Z (dq aV.1 a6 (a.ro 7 Z).rp (a.rb 6 Z)) Z ?_
   rintro _ w ⟨rfl,al⟩
   have a:=a.e al
   refine V 2 Z<|bm (bp (i:=10) (us:=[P x 0,P y 0,P z 0]) Z bV Z Z Z ⟨Z,Z,Z,K⟩ Z a) fun w a=>V 1 Z<|gl8 ?_
   cases h
   obtain⟨aA,hR⟩:=hZ.outT hTT m hP a
   exact ff Z ⟨_,Z,bP (us:=[P x 0,P y 0,P z 0]) u136 Z bV (a.p 10 Z Z)⟩ Z ⟨x,aW,y,aX,z,aZ,Z,aA,(hR.pick [20,19,22,21,24,23] Z)⟩
  case false=>
   have h:=bI h L
   try simp only[L]
   refine V 4 Z<|bm (bp (i:=10) (us:=[P x 0,P y 0,P z 0]) Z bV Z Z Z ⟨Z,Z,Z,K⟩ Z a) fun w a=>V 1 Z<|gl8 ?_
   cases h
   obtain⟨aA,hR⟩:=hZ.outT hTT m hP a
   exact ff Z ⟨_,Z,bP (us:=[P x 0,P y 0,P z 0]) u136 Z bV (a.p 10 Z Z)⟩ Z ⟨x,aW,y,aX,z,aZ,Z,aA,(hR.pick [20,19,22,21,24,23] Z)⟩
 refine gl6<|V 2 Z<|M h fun br a7 h=>bA a Z (cW 1 a7 ) Z fun bi A w a=>O (bR (vs:=[(0,P ao 0,[P ao 0]),(1,P u 0,[P u 0]),(2,P A 0,[P A 0])]) (cells:=[P ao 0,P u 0,P A 0]) Z mh ⟨Z,Z,Z,K⟩ Z) Z<|V 3 Z<|M h fun bs a9 h=>aS a Z (ky n o p q s ap ba.1 aV.1 a9 ((m.rp 0 Z).b a.fr).rp ((m.rb 1 Z).b a.fr) ((m.rp 2 Z).b a.fr).rp ((m.rb 3 Z).b a.fr) ((m.rp 4 Z).b a.fr).rp ((m.rb 5 Z).b a.fr) ((m.rp 6 Z).b a.fr).rp ((m.rb 7 Z).b a.fr) ((m.rp 8 Z).b a.fr).rp ((m.rb 9 Z).b a.fr) ((m.rb 10 Z).b a.fr) (a.ro 5 Z).rp (a.rb 4 Z) (a.ro 3 Z).rp (a.rb 2 Z)) Z fun w a=>bm (bp (i:=6) (us:=[P ao 0,P u 0,P A 0]) Z bV Z Z Z ⟨Z,Z,Z,K⟩ Z a) fun w a=>V 1 Z<|Q<|aq ?_
 cases h
 obtain⟨aA,hR⟩:=hZ.outT hTT m hP a
 exact ff Z ⟨_,Z,bP (us:=[P ao 0,P u 0,P A 0]) u136 Z bV (a.p 6 Z Z)⟩ Z ⟨ao,bn,u,bg,A,bi,Z,aA,(hR.pick [20,19,18,17,16,15] Z)⟩
theorem vz {n:World} {G L:Q0} {e f:Value} {T:Q2} (a0:Int) (l:Bool) {r:Option (Bool×Q0×Bool×Q0×Bool×Q0×Bool×Q0×Bool×Q0×Int×Bool×Q0×Bool×Q0×Bool×Q0)×Bool}
  (h:F.Ly a0 G L l=some r) (hTT:TOk [] T n) (aI:RP T n X e G) (aK:RP T n X f L):Calls Tryz.prog 82 #[H a0,.agg #[e,f,N l]] n (Ret fun v w=>mj r.1 (v=.tuple #[.pointer none,.agg #[.pointer none,.pointer none,.pointer none],N r.2]/\St [] n w []) (fun c=>∃b0:Nat,∃ak:Nat,∃q:Value,∃al:Nat,∃s:Value,∃ao:Nat,∃t:Value,∃ap:Nat,∃u:Value,∃ar:Nat,∃x:Value,∃au:Nat,∃y:Value,∃av:Nat,∃z:Value,∃aw:Nat,∃A:Value,v=.tuple #[P b0 0,.agg #[P au 0,P av 0,P aw 0],N r.2]/\St [] n w []/\Rds T w [Y aw [N c.2.2.2.2.2.2.2.2.2.2.2.2.2.2.2.1,A],red X A c.2.2.2.2.2.2.2.2.2.2.2.2.2.2.2.2,Y av [N c.2.2.2.2.2.2.2.2.2.2.2.2.2.1,z],red X z c.2.2.2.2.2.2.2.2.2.2.2.2.2.2.1,Y au [N c.2.2.2.2.2.2.2.2.2.2.2.1,y],red X y c.2.2.2.2.2.2.2.2.2.2.2.2.1,Y b0 [P ak 0,P al 0,P ao 0,P ap 0,P ar 0,H c.2.2.2.2.2.2.2.2.2.2.1,.func (.func 159) #[] #[]],Y ar [N c.2.2.2.2.2.2.2.2.1,x],red X x c.2.2.2.2.2.2.2.2.2.1,Y ap [N c.2.2.2.2.2.2.1,u],red X u c.2.2.2.2.2.2.2.1,Y ao [N c.2.2.2.2.1,t],red X t c.2.2.2.2.2.1,Y al [N c.2.2.1,s],red X s c.2.2.2.1,Y ak [N c.1,q],red X q c.2.1])):=by
 refine ay 24 Tryz.func82 Z Z Z<|have a:=St.k n;have m:=Fz.k (S:=[]) (w0:=n);?_
 have hA0:Rds T n [red X f L,red X e G]:=I (RP.h (W Z) aK) (I (RP.h (W Z) aI) (Rds.nil))
 have b:=hA0.all
 have d:=hA0.off Z
 refine ax [(0,H a0),(1,.agg #[e,f,N l])] Z ?_
 unfold F.Ly at h
 refine R<|bl (cy (cs:=[e,f,N l]) Z Z a) Z fun az w a=>V 1 Z<|bl (bc (cs:=[.pointer none,.pointer none,.pointer none]) gZ Z a) Z fun aO w a=>V 1 Z<|gl2<|V 1 Z ?_
 replace a:=a.pick (os':=[]++[Y aO [.pointer none,.pointer none,.pointer none],Y az [e,f,N l]]) [0,1] (by decide) rfl
 obtain⟨m,b,d,a⟩:=m.frzK hTT b d a
 refine M h fun aU aP h=>aJ Z (ke a0 aP (m.okT hTT a)) Z fun v_q w hQ=>?_
 cases p:aU with
 | none=>
  have h:=kj h p
  rw[p]at hQ
  obtain⟨rfl,B⟩:=jL hQ
  obtain⟨a2,aW,m,b,d,a⟩:=m.l b d a B Rds.nil rfl
  refine V 1 Z<|gl1<|R<|V 1 Z<|O (aj Z Z (vr u122)) Z<|Q<|cZ Z<|R<|O (bR (vs:=[]) (cells:=[.pointer none,.pointer none,.pointer none]) Z mh K Z) Z<|V 1 Z<|bm (bp (i:=0) (us:=[.pointer none,.pointer none,.pointer none]) Z bV Z Z Z ⟨Z,Z,Z,K⟩ Z a) fun w a=>V 1 Z<|gl8 ?_
  cases h
  obtain⟨aA,hR⟩:=m.outT hTT b d a
  exact Ac Z Z ⟨_,Z,bP (us:=[.pointer none,.pointer none,.pointer none]) u136 Z bV (a.p 0 Z Z)⟩ Z (uE ⟨Z,aA⟩)
 | some o=>
  have h:=kn h p
  rw[p]at hQ
  obtain⟨aB,aC,ab,aD,ac,aE,ad,aF,ae,aG,ah,rfl,B,aH⟩:=jJ hQ
  obtain⟨aY,aX,m,b,d,a⟩:=m.l b d a B aH rfl
  refine V 1 Z<|gl1<|R<|V 1 Z<|O (aj Z Z (uC u122 aB 0)) Z<|Q<|eJ Z<|gl6<|V 1 Z<|O (bO (us:=[e,f,N l]) u71 Z cE Z (a.p 1 Z Z)) Z ?_
  replace a:=a.pick (os':=[]++[Y aO [.pointer none,.pointer none,.pointer none],Y az [e,f,N l]]) [0,1] (by decide) rfl
  obtain⟨m,b,d,a⟩:=m.frzK hTT b d a
  refine M h fun aZ aM h=>aJ Z (nV o.1 o.2.2.1 o.2.2.2.2.1 o.2.2.2.2.2.2.1 o.2.2.2.2.2.2.2.2.1 o.2.2.2.2.2.2.2.2.2.2 l aM (m.okT hTT a) (b.i d 2 Z) (b.j d 3 Z) (b.i d 4 Z) (b.j d 5 Z) (b.i d 6 Z) (b.j d 7 Z) (b.i d 8 Z) (b.j d 9 Z) (b.i d 10 Z) (b.j d 11 Z) (b.j d 12 Z) (b.i d 0 Z) (b.i d 1 Z)) Z ?_
  rintro _ w ⟨g,C,j,D,k,E,rfl,B,aH⟩
  obtain⟨aR,aN,m,b,d,a⟩:=m.l b d a B aH rfl
  refine V 3 Z<|bl (bc (cs:=[.pointer none,.pointer none,.pointer none]) gZ Z a) Z fun aS w a=>bm (bp (i:=0) (us:=[P g 0,P j 0,P k 0]) Z bV Z Z Z ⟨Z,Z,Z,K⟩ Z a) fun w a=>V 1 Z<|gl1 ?_
  refine aQ (fun w'=>St aR aN w' [Y aS [P g 0,P j 0,P k 0],Y az [e,f,N l]]) (fun i=>!([4].contains i)) bK (fun _ _ _ hf=>hf.2) (fun _ _ hf=>hf) (by kernel_rfl)<|have a:=a.drew;show lxE _ _ _ _ _ _ _ [0,1,2,3,4,5] _ _ from an 1 Z (a.d [0,2] Z Z)<|J (a.d [0,2] Z Z) Z Z (fun w hF=>bO (us:=[P g 0,P j 0,P k 0]) u136 Z bV Z (hF.p 0 Z Z)) Z<|an 2 Z (a.d [0,2] Z Z)<|gu (a.d [0,2] Z Z) Z Z (bp (i:=1) (us:=[P g 0,P j 0,P k 0]) Z bV Z Z Z ⟨Z,Z,Z,K⟩ Z a) fun w a=>an 1 Z (a.d [0,2] Z Z)<|a8 (a.d [0,2] Z Z)<|am<|aq ?_
  cases h
  obtain⟨aA,hR⟩:=m.outT hTT b d a
  exact Ac Z Z ⟨_,Z,bP (us:=[P g 0,P j 0,P k 0]) u136 Z bV (a.p 1 Z Z)⟩ Z (qd ⟨aB,aC,ab,aD,ac,aE,ad,aF,ae,aG,ah,g,C,j,D,k,E,Z,aA,(hR.pick [18,17,16,15,14,13,12,11,10,9,8,7,6,5,4,3,2] Z)⟩)
theorem gO {b:World} {a0:Q0} {c:Value} {r:Bool×Q0×Bool}
  (h:F.H4 a0=some r) (g:RP [] b X c a0):Calls Tryz.prog 83 #[c] b (Ret fun v w=>∃d:Value,∃un0:Nat,v=.tuple #[P un0 0,N r.2.2]/\St [] b w [Y un0 [N r.1,d],U X d r.2.1]):=by
 refine ay 9 Tryz.func83 Z Z Z<|have a:=St.k b;have l:=Fz.k (S:=[]) (w0:=b);?_
 have hTT:TOk [] [] b:=TOk.nil
 have i:Rds [] b [red X c a0]:=I (RP.h (W Z) g) (Rds.nil)
 have o:Off [] [red X c a0]:=Off.emp
 refine ax [(0,c)] Z ?_
 unfold F.H4 at h
 refine R<|V 2 Z<|gl2<|V 1 Z<|M h fun m e h=>bA a Z (mW  e ((i.rp 0 Z).b a.fr).rp) Z fun j k w a=>V 1 Z<|M h fun n f h=>aS a Z (dM  f ((i.rp 0 Z).b a.fr).rp) Z fun w a=>V 3 Z<|Q<|aq ?_
 cases h
 replace a:=l.st a
 exact bE Z Z Z ⟨j,k,Z,a.d [0,1] Z Z⟩
end Go.Proofs
