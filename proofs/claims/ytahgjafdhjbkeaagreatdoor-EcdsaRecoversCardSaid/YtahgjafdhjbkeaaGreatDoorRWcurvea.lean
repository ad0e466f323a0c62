import Derived.Test.YtahgjafdhjbkeaaGreatDoorRW0
import Derived.Test.YtahgjafdhjbkeaaGreatDoorGkFman
import Derived.Test.YtahgjafdhjbkeaaGreatDoorRWbignumc
import Derived.Test.YtahgjafdhjbkeaaGreatDoorRWnatb
set_option linter.unusedVariables false
set_option linter.unusedSimpArgs false
set_option linter.unusedSectionVars false
set_option maxRecDepth 4000
namespace Go.Proofs
open Go Go.RowKit Go.Gk
open Go.Gk renaming aa -> V, af -> J, ag -> N, ai -> H, e32 -> X, gl3 -> P, gl4 -> R, own -> U, pB -> O, red -> Q, vB -> K, vI -> I
open Nat renaming le_of_ble_eq_true -> W
open Go.Gk.OE renaming bx -> Y
open Go.Gk.Rds renaming cons -> M
theorem dG {d:World} (a0:L1) {r:Bool×L0}
  (h:F.Dv a0=some r) :Calls Tryz.prog 143 #[vS a0] d (Ret fun v w=>∃b:Value,∃un0:Nat,v=O un0 0/\St [] d w [Y un0 [K r.1,b],U X b r.2]):=by
 refine aB 12 Tryz.func143 Z Z Z<|have a:=St.k d;ax [(0,vS a0)] Z ?_
 unfold F.Dv at h
 refine R<|V 1 Z<|gl2<|bg (bb (cs:=[K false,L3]) eM Z a) Z fun c w a=>V 1 Z ?_
 replace a:=a.nil X
 have f:=a.pick (os':=[Y c [K false,L3],U X (.slice none 0 0) []]++[]) [1,0] (by decide) Z
 refine J h fun j e h=>aH Z (kS false a0 16 e f.f ) Z ?_
 rintro _ w ⟨g,rfl,i⟩
 have a:=f.g i
 refine V 5 Z<|gl2<|V 2 Z<|P<|ay ?_
 cases h
 exact az Z Z ⟨g,c,Z,a.d [0,1] Z Z⟩
theorem s8 {m:World} {T:L2} {r:Bool×L0×Bool×L0×Bool×L0×Bool×L0×Bool×L0×Int}
  (h:F.Ia =some r) (hTT:TOk [] T m):Calls Tryz.prog 97 #[] m (Ret fun v w=>∃b0:Nat,∃n:Nat,∃e:Value,∃o:Nat,∃f:Value,∃p:Nat,∃g:Value,∃q:Nat,∃i:Value,∃s:Nat,∃j:Value,v=O b0 0/\St [] m w []/\Rds T w [Y b0 [O n 0,O o 0,O p 0,O q 0,O s 0,I r.2.2.2.2.2.2.2.2.2.2,.func (.func 144) #[] #[]],Y s [K r.2.2.2.2.2.2.2.2.1,j],Q X j r.2.2.2.2.2.2.2.2.2.1,Y q [K r.2.2.2.2.2.2.1,i],Q X i r.2.2.2.2.2.2.2.1,Y p [K r.2.2.2.2.1,g],Q X g r.2.2.2.2.2.1,Y o [K r.2.2.1,f],Q X f r.2.2.2.1,Y n [K r.1,e],Q X e r.2.1]):=by
 refine aB 8 Tryz.func97 Z Z Z<|have a:=St.k m;have hZ:=Fz.k (S:=[]) (w0:=m);?_
 have hA0:Rds T m []:=Rds.nil
 have hA:=hA0.all
 have hP:=hA0.off Z
 refine j8 [] trivial ?_
 unfold F.Ia at h
 refine R<|V 1 Z<|gl2<|J h fun ak y h=>bE a Z (dG [102,102,102,102,102,102,102,102,48,48,48,48,48,48,48,49,48,48,48,48,48,48,48,48,48,48,48,48,48,48,48,48,48,48,48,48,48,48,48,48,102,102,102,102,102,102,102,102,102,102,102,102,102,102,102,102,102,102,102,102,102,102,102,102] y ) Z fun E k w a=>J h fun al z h=>bE a Z (dG [53,97,99,54,51,53,100,56,97,97,51,97,57,51,101,55,98,51,101,98,98,100,53,53,55,54,57,56,56,54,98,99,54,53,49,100,48,54,98,48,99,99,53,51,98,48,102,54,51,98,99,101,51,99,51,101,50,55,100,50,54,48,52,98] z ) Z fun G l w a=>J h fun ae t h=>bE a Z (dG [102,102,102,102,102,102,102,102,48,48,48,48,48,48,48,48,102,102,102,102,102,102,102,102,102,102,102,102,102,102,102,102,98,99,101,54,102,97,97,100,97,55,49,55,57,101,56,52,102,51,98,57,99,97,99,50,102,99,54,51,50,53,53,49] t ) Z fun A b w a=>J h fun ah u h=>bE a Z (dG [54,98,49,55,100,49,102,50,101,49,50,99,52,50,52,55,102,56,98,99,101,54,101,53,54,51,97,52,52,48,102,50,55,55,48,51,55,100,56,49,50,100,101,98,51,51,97,48,102,52,97,49,51,57,52,53,100,56,57,56,99,50,57,54] u ) Z fun B c w a=>J h fun H x h=>bE a Z (dG [52,102,101,51,52,50,101,50,102,101,49,97,55,102,57,98,56,101,101,55,101,98,52,97,55,99,48,102,57,101,49,54,50,98,99,101,51,51,53,55,54,98,51,49,53,101,99,101,99,98,98,54,52,48,54,56,51,55,98,102,53,49,102,53] x ) Z ?_
 rintro C d w a
 refine N (cb (vs:=[(0,O k 0,[O k 0]),(1,O l 0,[O l 0]),(2,O b 0,[O b 0]),(3,O c 0,[O c 0]),(4,O d 0,[O d 0]),(5,I 32,[I 32]),(6,.func (.func 144) #[] #[],[.func (.func 144) #[] #[]])]) (cells:=[O k 0,O l 0,O b 0,O c 0,O d 0,I 32,.func (.func 144) #[] #[]]) Z Ap ⟨Z,Z,Z,Z,Z,Z,Z,trivial⟩ Z) Z<|bg (cg (cs:=[O k 0,O l 0,O b 0,O c 0,O d 0,I 32,.func (.func 144) #[] #[]]) Z Z a) Z fun D w a=>V 1 Z<|P<|ay ?_
 cases h
 obtain⟨L,hR⟩:=hZ.outT hTT hA hP a
 exact az Z Z ⟨D,k,E,l,G,b,A,c,B,d,C,Z,L,(hR.pick [10,9,8,7,6,5,4,3,2,1,0] Z)⟩
theorem ui {m:World} {T:L2} {r:Bool×L0×Bool×L0×Bool×L0×Bool×L0×Bool×L0×Int}
  (h:F.Jd =some r) (hTT:TOk [] T m):Calls Tryz.prog 98 #[] m (Ret fun v w=>∃b0:Nat,∃n:Nat,∃e:Value,∃o:Nat,∃f:Value,∃p:Nat,∃g:Value,∃q:Nat,∃i:Value,∃s:Nat,∃j:Value,v=O b0 0/\St [] m w []/\Rds T w [Y b0 [O n 0,O o 0,O p 0,O q 0,O s 0,I r.2.2.2.2.2.2.2.2.2.2,.func (.func 144) #[] #[]],Y s [K r.2.2.2.2.2.2.2.2.1,j],Q X j r.2.2.2.2.2.2.2.2.2.1,Y q [K r.2.2.2.2.2.2.1,i],Q X i r.2.2.2.2.2.2.2.1,Y p [K r.2.2.2.2.1,g],Q X g r.2.2.2.2.2.1,Y o [K r.2.2.1,f],Q X f r.2.2.2.1,Y n [K r.1,e],Q X e r.2.1]):=by
 refine aB 8 Tryz.func98 Z Z Z<|have a:=St.k m;have hZ:=Fz.k (S:=[]) (w0:=m);?_
 have hA0:Rds T m []:=Rds.nil
 have hA:=hA0.all
 have hP:=hA0.off Z
 refine j8 [] trivial ?_
 unfold F.Jd at h
 refine R<|V 1 Z<|gl2<|J h fun ak y h=>bE a Z (dG [102,102,102,102,102,102,102,102,102,102,102,102,102,102,102,102,102,102,102,102,102,102,102,102,102,102,102,102,102,102,102,102,102,102,102,102,102,102,102,102,102,102,102,102,102,102,102,102,102,102,102,102,102,102,102,102,102,102,102,102,102,102,102,101,102,102,102,102,102,102,102,102,48,48,48,48,48,48,48,48,48,48,48,48,48,48,48,48,102,102,102,102,102,102,102,102] y ) Z fun E k w a=>J h fun al z h=>bE a Z (dG [98,51,51,49,50,102,97,55,101,50,51,101,101,55,101,52,57,56,56,101,48,53,54,98,101,51,102,56,50,100,49,57,49,56,49,100,57,99,54,101,102,101,56,49,52,49,49,50,48,51,49,52,48,56,56,102,53,48,49,51,56,55,53,97,99,54,53,54,51,57,56,100,56,97,50,101,100,49,57,100,50,97,56,53,99,56,101,100,100,51,101,99,50,97,101,102] z ) Z fun G l w a=>J h fun ae t h=>bE a Z (dG [102,102,102,102,102,102,102,102,102,102,102,102,102,102,102,102,102,102,102,102,102,102,102,102,102,102,102,102,102,102,102,102,102,102,102,102,102,102,102,102,102,102,102,102,102,102,102,102,99,55,54,51,52,100,56,49,102,52,51,55,50,100,100,102,53,56,49,97,48,100,98,50,52,56,98,48,97,55,55,97,101,99,101,99,49,57,54,97,99,99,99,53,50,57,55,51] t ) Z ?_
 rintro A b w a
 refine J h fun ah u h=>bE a Z (dG [97,97,56,55,99,97,50,50,98,101,56,98,48,53,51,55,56,101,98,49,99,55,49,101,102,51,50,48,97,100,55,52,54,101,49,100,51,98,54,50,56,98,97,55,57,98,57,56,53,57,102,55,52,49,101,48,56,50,53,52,50,97,51,56,53,53,48,50,102,50,53,100,98,102,53,53,50,57,54,99,51,97,53,52,53,101,51,56,55,50,55,54,48,97,98,55] u ) Z fun B c w a=>J h fun H x h=>bE a Z (dG [51,54,49,55,100,101,52,97,57,54,50,54,50,99,54,102,53,100,57,101,57,56,98,102,57,50,57,50,100,99,50,57,102,56,102,52,49,100,98,100,50,56,57,97,49,52,55,99,101,57,100,97,51,49,49,51,98,53,102,48,98,56,99,48,48,97,54,48,98,49,99,101,49,100,55,101,56,49,57,100,55,97,52,51,49,100,55,99,57,48,101,97,48,101,53,102] x ) Z fun C d w a=>N (cb (vs:=[(0,O k 0,[O k 0]),(1,O l 0,[O l 0]),(2,O b 0,[O b 0]),(3,O c 0,[O c 0]),(4,O d 0,[O d 0]),(5,I 48,[I 48]),(6,.func (.func 144) #[] #[],[.func (.func 144) #[] #[]])]) (cells:=[O k 0,O l 0,O b 0,O c 0,O d 0,I 48,.func (.func 144) #[] #[]]) Z Ap ⟨Z,Z,Z,Z,Z,Z,Z,trivial⟩ Z) Z<|bg (cg (cs:=[O k 0,O l 0,O b 0,O c 0,O d 0,I 48,.func (.func 144) #[] #[]]) Z Z a) Z fun D w a=>V 1 Z<|P<|ay ?_
 cases h
 obtain⟨L,hR⟩:=hZ.outT hTT hA hP a
 exact az Z Z ⟨D,k,E,l,G,b,A,c,B,d,C,Z,L,(hR.pick [10,9,8,7,6,5,4,3,2,1,0] Z)⟩
theorem lN {g:World} {T:L2} (a0:Int) {r:Option (Bool×L0×Bool×L0×Bool×L0×Bool×L0×Bool×L0×Int)}
  (h:F.EM a0=some r) (hTT:TOk [] T g):Calls Tryz.prog 45 #[I a0] g (Ret fun v w=>lC r (v=.pointer none/\St [] g w []) (fun c=>∃b0:Nat,∃B:Nat,∃i:Value,∃C:Nat,∃j:Value,∃f:Nat,∃k:Value,∃D:Nat,∃l:Value,∃E:Nat,∃m:Value,v=O b0 0/\St [] g w []/\Rds T w [Y b0 [O B 0,O C 0,O f 0,O D 0,O E 0,I c.2.2.2.2.2.2.2.2.2.2,.func (.func 144) #[] #[]],Y E [K c.2.2.2.2.2.2.2.2.1,m],Q X m c.2.2.2.2.2.2.2.2.2.1,Y D [K c.2.2.2.2.2.2.1,l],Q X l c.2.2.2.2.2.2.2.1,Y f [K c.2.2.2.2.1,k],Q X k c.2.2.2.2.2.1,Y C [K c.2.2.1,j],Q X j c.2.2.2.1,Y B [K c.1,i],Q X i c.2.1])):=by
 refine aB 10 Tryz.func45 Z Z Z<|have a:=St.k g;have b:=Fz.k (S:=[]) (w0:=g);?_
 have hA0:Rds T g []:=Rds.nil
 have d:=hA0.all
 have e:=hA0.off Z
 refine ax [(0,I a0)] Z ?_
 unfold F.EM at h
 refine R<|V 1 Z<|gl1<|R<|V 1 Z<|P<|aq<|R<|V 2 Z<|P ?_
 apply gl9 Z h<;>intro h
 ·refine R ?_
  replace a:=a.pick (os':=[]++[]) [] (by decide) rfl
  obtain⟨b,d,e,a⟩:=b.frzK hTT d e a
  refine J h fun aA ao h=>aH Z (s8  ao (b.okT hTT a)) Z ?_
  rintro _ w ⟨f,G,o,L,p,ab,q,ac,s,ad,t,rfl,ae,N⟩
  obtain⟨aC,av,b,d,e,a⟩:=b.l d e a ae N rfl
  refine V 1 Z<|P<|ay<|bu<|aU ?_
  cases h
  obtain⟨n,hR⟩:=b.outT hTT d e a
  exact az Z Z (pb ⟨f,G,o,L,p,ab,q,ac,s,ad,t,Z,n,(hR.pick [10,9,8,7,6,5,4,3,2,1,0] Z)⟩)
 refine R<|V 2 Z<|P ?_
 apply gl9 Z h<;>intro h
 ·refine R ?_
  replace a:=a.pick (os':=[]++[]) [] (by decide) rfl
  obtain⟨b,d,e,a⟩:=b.frzK hTT d e a
  refine J h fun aD ap h=>aH Z (ui  ap (b.okT hTT a)) Z ?_
  rintro _ w ⟨ar,ah,u,H,x,aj,y,al,z,am,A,rfl,ae,N⟩
  obtain⟨aw,au,b,d,e,a⟩:=b.l d e a ae N rfl
  refine V 1 Z<|P<|ay<|bu<|aU ?_
  cases h
  obtain⟨n,hR⟩:=b.outT hTT d e a
  exact az Z Z (pb ⟨ar,ah,u,H,x,aj,y,al,z,am,A,Z,n,(hR.pick [10,9,8,7,6,5,4,3,2,1,0] Z)⟩)
 refine cd<|aF<|ak<|R<|V 1 Z<|P<|ay ?_
 cases h
 obtain⟨n,hR⟩:=b.outT hTT d e a
 exact az Z Z (sU ⟨Z,n⟩)
theorem fI {a:World} {m n o p q y:L0} {d e f g i b:Value} {G z A B C D j:Nat} {S:L2} (c s t u x:Bool) (L:Int) (l:Bool) {r:Bool×L0}
  (h:F.Eb c m s n t o u p x q L l y=some r) (hS:St S a a [Y j [K l,b],U X b y]) (E:RP S a X d m) (T:RB S a z [K c,d]) (ah:RP S a X e n) (al:RB S a A [K s,e]) (H:RP S a X f o) (an:RB S a B [K t,f]) (aj:RP S a X g p) (ao:RB S a C [K u,g]) (ak:RP S a X i q) (ap:RB S a D [K x,i]) (hBa0:RB S a G [O z 0,O A 0,O B 0,O C 0,O D 0,I L,.func (.func 144) #[] #[]]):Calls Tryz.prog 102 #[O G 0,O j 0] a (Ret fun v w=>∃ab:Value,v=O j 0/\St S a w [Y j [K r.1,ab],U X ab r.2]):=by
 refine aB 12 Tryz.func102 Z Z Z<|ax [(0,O G 0),(1,O j 0)] Z ?_
 unfold F.Eb at h
 refine R<|V 1 Z<|gl2<|V 3 Z<|N (aL Z) Z<|N (am (k:=0) u62 Z Z dn Z) Z<|N (au u59 Z Z (hBa0.cell hS.fr 0 Z)) Z<|have hG:=hS.pick (os':=[Y j [K l,b],U X b y]++[]) [0,1] (by decide) Z;J h fun av ae h=>aH Z (lR l c ae hG.f (E.f (W Z) hG) (T.f hG)) Z ?_
 rintro _ w ⟨aq,rfl,ar⟩
 have hS:=hG.g ar
 refine V 1 Z<|P<|ay ?_
 cases h
 exact az Z Z ⟨aq,Z,hS.d [0,1] Z Z⟩
theorem bm {b:World} {o p q s t ad ae:L0} {i j k l m z A:Value} {N B C D E G ah H:Nat} (c d e f g:Bool) (u:Int) (x y:Bool) {r:Bool×L0}
  (h:F.Dr c o d p e q f s g t u x ad y ae=some r) (L:RP [] b X i o) (aj:RB [] b B [K c,i]) (S:RP [] b X j p) (ak:RB [] b C [K d,j]) (T:RP [] b X k q) (al:RB [] b D [K e,k]) (ab:RP [] b X l s) (am:RB [] b E [K f,l]) (ac:RP [] b X m t) (an:RB [] b G [K g,m]) (hBa0:RB [] b N [O B 0,O C 0,O D 0,O E 0,O G 0,I u,.func (.func 144) #[] #[]]) (au:RP [] b X z ad) (hBa1:RB [] b ah [K x,z]) (av:RP [] b X A ae) (hBa2:RB [] b H [K y,A]):Calls Tryz.prog 99 #[O N 0,O ah 0,O H 0] b (Ret fun v w=>∃ao:Value,∃un0:Nat,v=O un0 0/\St [] b w [Y un0 [K r.1,ao],U X ao r.2]):=by
 refine aB 13 Tryz.func99 Z Z Z<|have n:=St.k b;ax [(0,O N 0),(1,O ah 0),(2,O H 0)] Z ?_
 unfold F.Dr at h
 refine R<|V 1 Z<|gl2<|V 1 Z<|bg (bb (cs:=[K false,L3]) eM Z n) Z fun ap w n=>V 2 Z ?_
 replace n:=n.nil X
 have a:=n.pick (os':=[Y ap [K false,L3],U X (.slice none 0 0) []]++[]) [1,0] (by decide) Z
 refine J h fun aq aA h=>aH Z (g9 false x y aA a.f (au.f (W Z) a) (hBa1.f a) (av.f (W Z) a) (hBa2.f a)) Z ?_
 rintro _ w ⟨aw,rfl,ar⟩
 have n:=a.g ar
 have a:=n.pick (os':=[Y ap [K aq.1,aw],U X aw aq.2]++[]) [0,1] (by decide) Z
 refine J h fun aE aC h=>aH Z (fI c d e f g u aq.1 aC a.f (L.f (W Z) a) (aj.f a) (S.f (W Z) a) (ak.f a) (T.f (W Z) a) (al.f a) (ab.f (W Z) a) (am.f a) (ac.f (W Z) a) (an.f a) (hBa0.f a)) Z ?_
 rintro _ w ⟨aD,rfl,ar⟩
 have n:=a.g ar
 refine V 1 Z<|P<|ay ?_
 cases h
 exact az Z Z ⟨aD,ap,Z,n.d [0,1] Z Z⟩
theorem dJ {b:World} {n o p q s T:L0} {i j k l m x:Value} {ab y z A B C ac:Nat} (c d e f g:Bool) (t a1:Int) (u:Bool) {r:Bool×L0}
  (h:F.DQ c n d o e p f q g s t a1 u T=some r) (D:RP [] b X i n) (ad:RB [] b y [K c,i]) (E:RP [] b X j o) (ae:RB [] b z [K d,j]) (G:RP [] b X k p) (N:RB [] b A [K e,k]) (L:RP [] b X l q) (ah:RB [] b B [K f,l]) (S:RP [] b X m s) (H:RB [] b C [K g,m]) (hBa0:RB [] b ab [O y 0,O z 0,O A 0,O B 0,O C 0,I t,.func (.func 144) #[] #[]]) (ak:RP [] b X x T) (hBa2:RB [] b ac [K u,x]):Calls Tryz.prog 101 #[O ab 0,I a1,O ac 0] b (Ret fun v w=>∃aj:Value,∃un0:Nat,v=O un0 0/\St [] b w [Y un0 [K r.1,aj],U X aj r.2]):=by
 refine aB 12 Tryz.func101 Z Z Z<|have a:=St.k b;ax [(0,O ab 0),(1,I a1),(2,O ac 0)] Z ?_
 unfold F.DQ at h
 refine R<|V 1 Z<|gl2<|V 2 Z<|J h fun an al h=>bE a Z (dm a1 al ) Z fun aq ar w a=>V 1 Z<|J h fun au am h=>bE a Z (bm c d e f g t an.1 u am (D.b a.fr).rp (ad.b a.fr) (E.b a.fr).rp (ae.b a.fr) (G.b a.fr).rp (N.b a.fr) (L.b a.fr).rp (ah.b a.fr) (S.b a.fr).rp (H.b a.fr) (hBa0.b a.fr) (a.ro 1 Z).rp (a.rb 0 Z) (ak.b a.fr).rp (hBa2.b a.fr)) Z fun ao ap w a=>V 1 Z<|P<|ay ?_
 cases h
 exact az Z Z ⟨ao,ap,Z,a.d [0,1] Z Z⟩
theorem cL {b:World} {o p q s t ad ae:L0} {i j k l m z A:Value} {N B C D E G ah H:Nat} (c d e f g:Bool) (u:Int) (x y:Bool) {r:Bool×L0}
  (h:F.DE c o d p e q f s g t u x ad y ae=some r) (L:RP [] b X i o) (aj:RB [] b B [K c,i]) (S:RP [] b X j p) (ak:RB [] b C [K d,j]) (T:RP [] b X k q) (al:RB [] b D [K e,k]) (ab:RP [] b X l s) (am:RB [] b E [K f,l]) (ac:RP [] b X m t) (an:RB [] b G [K g,m]) (hBa0:RB [] b N [O B 0,O C 0,O D 0,O E 0,O G 0,I u,.func (.func 144) #[] #[]]) (au:RP [] b X z ad) (hBa1:RB [] b ah [K x,z]) (av:RP [] b X A ae) (hBa2:RB [] b H [K y,A]):Calls Tryz.prog 100 #[O N 0,O ah 0,O H 0] b (Ret fun v w=>∃ao:Value,∃un0:Nat,v=O un0 0/\St [] b w [Y un0 [K r.1,ao],U X ao r.2]):=by
 refine aB 13 Tryz.func100 Z Z Z<|have n:=St.k b;ax [(0,O N 0),(1,O ah 0),(2,O H 0)] Z ?_
 unfold F.DE at h
 refine R<|V 1 Z<|gl2<|V 1 Z<|bg (bb (cs:=[K false,L3]) eM Z n) Z fun ap w n=>V 2 Z ?_
 replace n:=n.nil X
 have a:=n.pick (os':=[Y ap [K false,L3],U X (.slice none 0 0) []]++[]) [1,0] (by decide) Z
 refine J h fun aq aA h=>aH Z (j7 false x y aA a.f (au.f (W Z) a) (hBa1.f a) (av.f (W Z) a) (hBa2.f a)) Z ?_
 rintro _ w ⟨aw,rfl,ar⟩
 have n:=a.g ar
 have a:=n.pick (os':=[Y ap [K aq.1,aw],U X aw aq.2]++[]) [0,1] (by decide) Z
 refine J h fun aE aC h=>aH Z (fI c d e f g u aq.1 aC a.f (L.f (W Z) a) (aj.f a) (S.f (W Z) a) (ak.f a) (T.f (W Z) a) (al.f a) (ab.f (W Z) a) (am.f a) (ac.f (W Z) a) (an.f a) (hBa0.f a)) Z ?_
 rintro _ w ⟨aD,rfl,ar⟩
 have n:=a.g ar
 refine V 1 Z<|P<|ay ?_
 cases h
 exact az Z Z ⟨aD,ap,Z,n.d [0,1] Z Z⟩
theorem oW {u:World} {ah H aj ak al aI aJ:L0} {L S T ab ac ar av:Value} {aK aw aA aC aD aE aM aN:Nat} (b d f g i:Bool) (y:Int) (z E:Bool) {r:Bool}
  (h:F.I5 b ah d H f aj g ak i al y z aI E aJ=some r) (c:RP [] u X L ah) (j:RB [] u aw [K b,L]) (e:RP [] u X S H) (o:RB [] u aA [K d,S]) (l:RP [] u X T aj) (p:RB [] u aC [K f,T]) (m:RP [] u X ab ak) (q:RB [] u aD [K g,ab]) (n:RP [] u X ac al) (s:RB [] u aE [K i,ac]) (hBa0:RB [] u aK [O aw 0,O aA 0,O aC 0,O aD 0,O aE 0,I y,.func (.func 144) #[] #[]]) (A:RP [] u X ar aI) (hBa1:RB [] u aM [K z,ar]) (ad:RP [] u X av aJ) (hBa2:RB [] u aN [K E,av]):Calls Tryz.prog 46 #[O aK 0,O aM 0,O aN 0] u (Ret fun v w=>v=K r/\St [] u w []):=by
 refine aB 55 Tryz.func46 Z Z Z<|have a:=St.k u;ax [(0,O aK 0),(1,O aM 0),(2,O aN 0)] Z ?_
 unfold F.I5 at h
 refine R<|V 1 Z<|gl2<|V 5 Z<|J h fun an a2 h=>bE a Z (bm b d f g i y z z a2 (c.b a.fr).rp (j.b a.fr) (e.b a.fr).rp (o.b a.fr) (l.b a.fr).rp (p.b a.fr) (m.b a.fr).rp (q.b a.fr) (n.b a.fr).rp (s.b a.fr) (hBa0.b a.fr) (A.b a.fr).rp (hBa1.b a.fr) (A.b a.fr).rp (hBa1.b a.fr)) Z fun aF a0 w a=>J h fun ao a3 h=>bE a Z (bm b d f g i y z an.1 a3 (c.b a.fr).rp (j.b a.fr) (e.b a.fr).rp (o.b a.fr) (l.b a.fr).rp (p.b a.fr) (m.b a.fr).rp (q.b a.fr) (n.b a.fr).rp (s.b a.fr) (hBa0.b a.fr) (A.b a.fr).rp (hBa1.b a.fr) (a.ro 1 Z).rp (a.rb 0 Z)) Z fun aG a1 w a=>V 1 Z<|gl2<|V 4 Z<|J h fun G aS h=>bE a Z (dJ b d f g i y 3 z aS (c.b a.fr).rp (j.b a.fr) (e.b a.fr).rp (o.b a.fr) (l.b a.fr).rp (p.b a.fr) (m.b a.fr).rp (q.b a.fr) (n.b a.fr).rp (s.b a.fr) (hBa0.b a.fr) (A.b a.fr).rp (hBa1.b a.fr)) Z fun ae aO w a=>J h fun ap aT h=>bE a Z (cL b d f g i y ao.1 G.1 aT (c.b a.fr).rp (j.b a.fr) (e.b a.fr).rp (o.b a.fr) (l.b a.fr).rp (p.b a.fr) (m.b a.fr).rp (q.b a.fr) (n.b a.fr).rp (s.b a.fr) (hBa0.b a.fr) (a.ro 3 Z).rp (a.rb 2 Z) (a.ro 1 Z).rp (a.rb 0 Z)) Z ?_
 rintro aP aQ w a
 refine V 1 Z<|gl2<|V 4 Z<|N (aL Z) Z<|N (am (k:=1) u62 Z Z dn Z) Z<|N (au u59 Z Z (hBa0.cell a.fr 1 Z)) Z<|have x:=a.pick (os':=[Y aQ [K ap.1,aP],U X aP ap.2]++[Y aO [K G.1,ae],U X ae G.2,Y a1 [K ao.1,aG],U X aG ao.2,Y a0 [K an.1,aF],U X aF an.2]) [0,1,2,3,4,5,6,7] (by decide) Z;J h fun aq aU h=>aH Z (ej ap.1 d aU x.f (e.f (W Z) x) (o.f x)) Z ?_
 rintro _ w ⟨aR,rfl,B⟩
 have a:=x.g B
 have x:=a.pick (os':=[Y aQ [K aq.1,aR],U X aR aq.2]++[Y aO [K G.1,ae],U X ae G.2,Y a1 [K ao.1,aG],U X aG ao.2,Y a0 [K an.1,aF],U X aF an.2]) [0,1,2,3,4,5,6,7] (by decide) Z
 refine J h fun a4 aV h=>aH Z (fI b d f g i y aq.1 aV x.f (c.f (W Z) x) (j.f x) (e.f (W Z) x) (o.f x) (l.f (W Z) x) (p.f x) (m.f (W Z) x) (q.f x) (n.f (W Z) x) (s.f x) (hBa0.f x)) Z ?_
 rintro _ w ⟨a8,rfl,B⟩
 have a:=x.g B
 refine V 1 Z<|gl2<|V 2 Z<|N (aL Z) Z<|N (am (k:=0) u62 Z Z dn Z) Z<|N (au u59 Z Z (hBa0.cell a.fr 0 Z)) Z<|J h fun a5 aW h=>bf a Z (fV z b aW (A.b a.fr).rp (hBa1.b a.fr) (c.b a.fr).rp (j.b a.fr)) Z fun w a=>V 2 Z ?_
 cases C:(decide (a5<0))
 case true=>
  have h:=cz h C
  try simp only[C]
  refine V 2 Z<|bB (t:=37) Z Z (aL Z) Z<|bB (t:=37) Z Z (am (k:=0) u62 Z Z dn Z) Z<|bB (t:=37) Z Z (au u59 Z Z (hBa0.cell a.fr 0 Z)) Z<|J h fun a6 aX h=>cw (t:=37) Z Z (by kernel_rfl) Z (fV E b aX (ad.b a.fr).rp (hBa2.b a.fr) (c.b a.fr).rp (j.b a.fr)) Z ?_
  rintro _ w ⟨rfl,B⟩
  have a:=a.e B
  refine V 3 Z ?_
  cases D:(decide (a6<0))
  case true=>
   have h:=cz h D
   try simp only[D]
   refine V 3 Z<|J h fun a7 aY h=>cw (t:=46) Z Z (by kernel_rfl) Z (bm b d f g i y E E aY (c.b a.fr).rp (j.b a.fr) (e.b a.fr).rp (o.b a.fr) (l.b a.fr).rp (p.b a.fr) (m.b a.fr).rp (q.b a.fr) (n.b a.fr).rp (s.b a.fr) (hBa0.b a.fr) (ad.b a.fr).rp (hBa2.b a.fr) (ad.b a.fr).rp (hBa2.b a.fr)) Z ?_
   rintro _ w ⟨a9,ba,rfl,B⟩
   have a:=a.e B
   refine V 1 Z<|J h fun bb aZ h=>cw (t:=46) Z Z (by kernel_rfl) Z (fV a7.1 a4.1 aZ (a.ro 1 Z).rp (a.rb 0 Z) (a.ro 3 Z).rp (a.rb 2 Z)) Z ?_
   rintro _ w ⟨rfl,B⟩
   have a:=a.e B
   refine V 3 Z<|P<|ay ?_
   cases h
   exact az Z Z ⟨Z,a.d [] Z Z⟩
  case false=>
   have h:=cA h D
   try simp only[D]
   refine V 9 Z<|P<|ay ?_
   cases h
   exact az Z Z ⟨Z,a.d [] Z Z⟩
 case false=>
  have h:=cA h C
  try simp only[C]
  refine V 18 Z<|P<|ay ?_
  cases h
  exact az Z Z ⟨Z,a.d [] Z Z⟩
theorem mP {d:World} (a0:Int) {r:Int}
  (h:F.GE a0=some r) :Calls Tryz.prog 16 #[I a0] d (Ret fun v w=>v=I r/\St [] d w []):=by
 refine aB 12 Tryz.func16 Z Z Z<|have a:=St.k d;have b:=Fz.k (S:=[]) (w0:=d);?_
 have hTT:TOk [] [] d:=TOk.nil
 have e:Rds [] d []:=Rds.nil
 have f:Off [] []:=Off.emp
 refine ax [(0,I a0)] Z ?_
 unfold F.GE at h
 refine R<|V 1 Z<|gl1<|R<|V 1 Z ?_
 replace a:=a.pick (os':=[]++[]) [] (by decide) rfl
 obtain⟨b,e,f,a⟩:=b.frzK hTT e f a
 refine J h fun s j h=>aH Z (lN a0 j (b.okT hTT a)) Z fun v_q w i=>?_
 cases c:s with
 | none=>
  have h:=iQ h c
  rw[c]at i
  obtain⟨rfl,g⟩:=ir i
  obtain⟨D,B,b,e,f,a⟩:=b.l e f a g Rds.nil rfl
  refine V 1 Z<|gl2<|V 1 Z<|N (aj Z Z (pQ u57)) Z<|P<|ik Z<|gl6<|V 1 Z<|P<|ay ?_
  cases h
  replace a:=b.st a
  exact az Z Z ⟨Z,a⟩
 | some E=>
  have h:=i0 h c
  rw[c]at i
  obtain⟨l,t,m,u,n,x,o,y,p,z,q,rfl,g,A⟩:=il i
  obtain⟨G,C,b,e,f,a⟩:=b.l e f a g A rfl
  refine V 1 Z<|gl2<|V 1 Z<|N (aj Z Z (nc u57 l 0)) Z<|P<|fR Z<|R<|V 1 Z<|N (aL Z) Z<|N (am (k:=5) u62 Z Z nz3 Z) Z<|N (au u3 Z Z ((e.rb 10 Z).cell a.fr 5 Z)) Z<|V 1 Z<|gl8 ?_
  cases h
  replace a:=b.st a
  exact az Z Z ⟨Z,a⟩
theorem kQ {d:World} {e:L0} {c:Value} {f:Nat} (b:Bool) {r:L0}
  (h:F.DP b e=some r) (g:RP [] d X c e) (hBa0:RB [] d f [K b,c]):Calls Tryz.prog 48 #[O f 0] d (Ret fun v w=>St [] d w [U X v r]):=by
 refine aB 6 Tryz.func48 Z Z Z<|have a:=St.k d;ax [(0,O f 0)] Z ?_
 unfold F.DP at h
 refine R<|V 1 Z<|gl2<|V 1 Z<|J h fun k i h=>aV a Z (jk b i (g.b a.fr).rp (hBa0.b a.fr)) Z fun l w a=>J h fun m j h=>aV a Z (kF  j (a.ro 0 Z).rp) Z fun n w a=>V 1 Z<|P<|ay ?_
 cases h
 exact az Z Z (a.d [0] Z Z)
theorem rX {e:World} (a0:Int) {r:L0}
  (h:F.Ja a0=some r) :Calls Tryz.prog 17 #[I a0] e (Ret fun v w=>St [] e w [U X v r]):=by
 refine aB 13 Tryz.func17 Z Z Z<|have a:=St.k e;have b:=Fz.k (S:=[]) (w0:=e);?_
 have hTT:TOk [] [] e:=TOk.nil
 have c:Rds [] e []:=Rds.nil
 have f:Off [] []:=Off.emp
 refine ax [(0,I a0)] Z ?_
 unfold F.Ja at h
 refine R<|V 1 Z<|gl1<|R<|V 1 Z ?_
 replace a:=a.pick (os':=[]++[]) [] (by decide) rfl
 obtain⟨b,c,f,a⟩:=b.frzK hTT c f a
 refine J h fun t j h=>aH Z (lN a0 j (b.okT hTT a)) Z fun v_q w i=>?_
 cases d:t with
 | none=>
  have h:=iQ h d
  rw[d]at i
  obtain⟨rfl,g⟩:=ir i
  obtain⟨L,D,b,c,f,a⟩:=b.l c f a g Rds.nil rfl
  refine V 1 Z<|gl2<|V 1 Z<|N (aj Z Z (pQ u57)) Z<|P<|ik Z<|gl6<|V 1 Z<|P<|ay ?_
  cases h
  replace a:=b.st a
  exact az Z Z ((a.nil X).d [0] Z Z)
 | some u=>
  have h:=i0 h d
  rw[d]at i
  obtain⟨l,x,m,y,n,z,o,A,p,B,q,rfl,g,C⟩:=il i
  obtain⟨T,E,b,c,f,a⟩:=b.l c f a g C rfl
  refine V 1 Z<|gl2<|V 1 Z<|N (aj Z Z (nc u57 l 0)) Z<|P<|fR Z<|R<|V 1 Z<|N (aL Z) Z<|N (am (k:=2) u62 Z Z dn Z) Z<|N (au u59 Z Z ((c.rb 10 Z).cell a.fr 2 Z)) Z<|J h fun ab s h=>aV a Z (kQ u.2.2.2.2.1 s ((c.rp 4 Z).b a.fr).rp ((c.rb 5 Z).b a.fr)) Z fun G w a=>V 1 Z<|gl8 ?_
  cases h
  replace a:=b.st a
  exact az Z Z (a.d [0] Z Z)
theorem mo {d:World} {a0:L0} {b:Value} {r:Bool×L0}
  (h:F.Fj a0=some r) (j:RP [] d X b a0):Calls Tryz.prog 120 #[b] d (Ret fun v w=>∃c:Value,∃un0:Nat,v=O un0 0/\St [] d w [Y un0 [K r.1,c],U X c r.2]):=by
 refine aB 7 Tryz.func120 Z Z Z<|have a:=St.k d;ax [(0,b)] Z ?_
 unfold F.Fj at h
 refine R<|V 1 Z<|gl2<|bg (bb (cs:=[K false,L3]) eM Z a) Z fun e w a=>V 1 Z<|J h fun k f h=>aV a Z (uM  f (j.b a.fr).rp) Z fun l w a=>?_
 replace a:=a.nil X
 have g:=a.pick (os':=[Y e [K false,L3],U X (.slice none 0 0) []]++[U e8 l k]) [2,0,1] (by decide) Z
 refine J h fun o i h=>aH Z (lD false i g.f (g.giveO 0 Z)) Z ?_
 rintro _ w ⟨m,rfl,n⟩
 have a:=g.g n
 refine V 1 Z<|P<|ay ?_
 cases h
 exact az Z Z ⟨m,e,Z,a.d [0,1] Z Z⟩
theorem fY {m:World}  {r:Bool×L0×Bool×L0×Bool×L0}
  (h:F.D0 =some r) :Calls Tryz.prog 63 #[] m (Ret fun v w=>∃e f g:Value,∃j k l:Nat,v=.agg #[O j 0,O k 0,O l 0]/\St [] m w [Y j [K r.1,e],U X e r.2.1,Y k [K r.2.2.1,f],U X f r.2.2.2.1,Y l [K r.2.2.2.2.1,g],U X g r.2.2.2.2.2]):=by
 refine aB 5 Tryz.func63 Z Z Z<|have a:=St.k m;j8 [] trivial ?_
 unfold F.D0 at h
 refine R<|bg (bb (cs:=[.pointer none,.pointer none,.pointer none]) gq Z a) Z fun n w a=>gl2<|bg (bb (cs:=[K false,L3]) eM Z a) Z fun b w a=>bg (bb (cs:=[K false,L3]) eM Z a) Z fun c w a=>bg (bb (cs:=[K false,L3]) eM Z a) Z fun d w a=>N (cb (vs:=[(0,O b 0,[O b 0]),(1,O c 0,[O c 0]),(2,O d 0,[O d 0])]) (cells:=[O b 0,O c 0,O d 0]) Z od ⟨Z,Z,Z,trivial⟩ Z) Z<|bo (bz (i:=3) (us:=[O b 0,O c 0,O d 0]) Z cp Z Z Z ⟨Z,Z,Z,trivial⟩ Z a) fun w a=>P<|ay ?_
 cases h
 exact dh Z ⟨_,Z,bS (us:=[O b 0,O c 0,O d 0]) u78 Z cp (a.p 3 Z Z)⟩ ⟨L3,L3,L3,b,c,d,Z,(((a.nil X).nil X).nil X).d [5,2,4,1,3,0] Z Z⟩
theorem ni {b:World} {ab ac ad ae ah aA aC:L0} {c d e f g j l:Value} {aD B C D E G:Nat} {T:L2} (n o p q s:Bool) (ap:Int) (aj:Bool) {r:Bool×L0×Bool×L0×Bool×L0×Bool}
  (h:F.G7 n ab o ac p ad q ae s ah ap aA aC aj=some r) (hTT:TOk [] T b) (aE:RP T b X c ab) (aK:RB T b B [K n,c]) (aF:RP T b X d ac) (aL:RB T b C [K o,d]) (aG:RP T b X e ad) (aM:RB T b D [K p,e]) (aI:RP T b X f ae) (aN:RB T b E [K q,f]) (aJ:RP T b X g ah) (aO:RB T b G [K s,g]) (hBa0:RB T b aD [O B 0,O C 0,O D 0,O E 0,O G 0,I ap,.func (.func 144) #[] #[]]) (a0:RP T b X j aA) (a1:RP T b X l aC):Calls Tryz.prog 119 #[O aD 0,.agg #[j,l,K aj]] b (Ret fun v w=>∃aP:Nat,∃aq:Value,∃aQ:Nat,∃ar:Value,∃aR:Nat,∃av:Value,v=.tuple #[.agg #[O aP 0,O aQ 0,O aR 0],K r.2.2.2.2.2.2]/\St [] b w []/\Rds T w [Y aR [K r.2.2.2.2.1,av],Q X av r.2.2.2.2.2.1,Y aQ [K r.2.2.1,ar],Q X ar r.2.2.2.1,Y aP [K r.1,aq],Q X aq r.2.1]):=by
 refine aB 33 Tryz.func119 Z Z Z<|have a:=St.k b;have hZ:=Fz.k (S:=[]) (w0:=b);?_
 have hA0:Rds T b [Q X l aC,Q X j aA,Y aD [O B 0,O C 0,O D 0,O E 0,O G 0,I ap,.func (.func 144) #[] #[]],Y G [K s,g],Q X g ah,Y E [K q,f],Q X f ae,Y D [K p,e],Q X e ad,Y C [K o,d],Q X d ac,Y B [K n,c],Q X c ab]:=M (RP.h (W Z) a1) (M (RP.h (W Z) a0) (M hBa0.h (M aO.h (M (RP.h (W Z) aJ) (M aN.h (M (RP.h (W Z) aI) (M aM.h (M (RP.h (W Z) aG) (M aL.h (M (RP.h (W Z) aF) (M aK.h (M (RP.h (W Z) aE) (Rds.nil)))))))))))))
 have m:=hA0.all
 have hP:=hA0.off Z
 refine ax [(0,O aD 0),(1,.agg #[j,l,K aj])] Z ?_
 unfold F.G7 at h
 refine R<|bg (cg (cs:=[j,l,K aj]) Z Z a) Z fun bj w a=>bg (bb (cs:=[.pointer none,.pointer none,.pointer none]) gq Z a) Z fun bk w a=>V 1 Z<|gl1<|aX (fun w'=>St [] b w' [Y bk [.pointer none,.pointer none,.pointer none],Y bj [j,l,K aj]]) (fun i=>!([2,5].contains i)) bQ (fun _ _ _ hf=>hf.2) (fun _ _ hf=>hf) (by kernel_rfl)<|have a:=a.drew;show lxE _ _ _ _ _ _ _ [0,1,2,3,4,5,6,7] _ _ from H a Z Z (fun w hF=>am (k:=0) u33 Z Z cH Z) Z<|H a Z Z (fun w hF=>au u31 Z Z (hF.q 1 Z 0)) Z<|J h fun a8 bd h=>aY a Z Z (by kernel_rfl) Z (mo  bd ((m.rp 11 Z).b a.fr).rp) Z ?_
 rintro _ w ⟨bl,an,rfl,al⟩
 have a:=a.e al
 refine H (a.d [2,3] Z Z) Z Z (fun w hF=>am (k:=1) u33 Z Z cH Z) Z<|H (a.d [2,3] Z Z) Z Z (fun w hF=>au u31 Z Z (hF.q 1 Z 1)) Z<|J h fun aT a2 h=>aY (a.d [2,3] Z Z) Z Z (by kernel_rfl) Z (mo  a2 ((m.rp 12 Z).b a.fr).rp) Z ?_
 rintro _ w ⟨be,u,rfl,al⟩
 have a:=a.e al
 refine ao 2 Z (a.d [4,5] Z Z)<|bp (a.d [4,5] Z Z)<|ak<|aw<|R<|N (am (k:=2) u33 Z Z nz4 Z) Z<|N (au Tryz.underlying4 Z Z (a.q 5 Z 2)) Z<|P ?_
 apply gl9 Z h<;>intro h
 ·refine R<|J h fun bm a3 h=>aH Z (fY  a3 ) Z ?_
  rintro _ w ⟨aU,aV,aW,x,y,z,rfl,al⟩
  have a:=a.e al
  refine V 1 Z<|J h fun bh a4 h=>bf a Z (de a8.1 a4 (a.ro 9 Z).rp (a.rb 8 Z)) Z fun w a=>V 2 Z ?_
  cases L:(bh == 0)
  case true=>
   have h:=cz h L
   try simp only[L]
   refine V 1 Z<|J h fun bn a5 h=>cw (t:=20) Z Z (by kernel_rfl) Z (de aT.1 a5 (a.ro 7 Z).rp (a.rb 6 Z)) Z ?_
   rintro _ w ⟨rfl,al⟩
   have a:=a.e al
   refine V 2 Z<|bo (bz (i:=10) (us:=[O x 0,O y 0,O z 0]) Z cp Z Z Z ⟨Z,Z,Z,trivial⟩ Z a) fun w a=>V 1 Z<|gl8 ?_
   cases h
   obtain⟨az,hR⟩:=hZ.outT hTT m hP a
   exact js Z ⟨_,Z,bS (us:=[O x 0,O y 0,O z 0]) u78 Z cp (a.p 10 Z Z)⟩ Z ⟨x,aU,y,aV,z,aW,Z,az,(hR.pick [20,19,22,21,24,23] Z)⟩
  case false=>
   have h:=cA h L
   try simp only[L]
   refine V 4 Z<|bo (bz (i:=10) (us:=[O x 0,O y 0,O z 0]) Z cp Z Z Z ⟨Z,Z,Z,trivial⟩ Z a) fun w a=>V 1 Z<|gl8 ?_
   cases h
   obtain⟨az,hR⟩:=hZ.outT hTT m hP a
   exact js Z ⟨_,Z,bS (us:=[O x 0,O y 0,O z 0]) u78 Z cp (a.p 10 Z Z)⟩ Z ⟨x,aU,y,aV,z,aW,Z,az,(hR.pick [20,19,22,21,24,23] Z)⟩
 refine gl6<|V 2 Z<|J h fun bq a6 h=>bE a Z (dm 1 a6 ) Z fun bi A w a=>N (cb (vs:=[(0,O an 0,[O an 0]),(1,O u 0,[O u 0]),(2,O A 0,[O A 0])]) (cells:=[O an 0,O u 0,O A 0]) Z od ⟨Z,Z,Z,trivial⟩ Z) Z<|V 3 Z<|J h fun br a7 h=>bf a Z (oW n o p q s ap a8.1 aT.1 a7 ((m.rp 0 Z).b a.fr).rp ((m.rb 1 Z).b a.fr) ((m.rp 2 Z).b a.fr).rp ((m.rb 3 Z).b a.fr) ((m.rp 4 Z).b a.fr).rp ((m.rb 5 Z).b a.fr) ((m.rp 6 Z).b a.fr).rp ((m.rb 7 Z).b a.fr) ((m.rp 8 Z).b a.fr).rp ((m.rb 9 Z).b a.fr) ((m.rb 10 Z).b a.fr) (a.ro 5 Z).rp (a.rb 4 Z) (a.ro 3 Z).rp (a.rb 2 Z)) Z fun w a=>bo (bz (i:=6) (us:=[O an 0,O u 0,O A 0]) Z cp Z Z Z ⟨Z,Z,Z,trivial⟩ Z a) fun w a=>V 1 Z<|P<|ay ?_
 cases h
 obtain⟨az,hR⟩:=hZ.outT hTT m hP a
 exact js Z ⟨_,Z,bS (us:=[O an 0,O u 0,O A 0]) u78 Z cp (a.p 6 Z Z)⟩ Z ⟨an,bl,u,be,A,bi,Z,az,(hR.pick [20,19,18,17,16,15] Z)⟩
theorem ke {n:World} {G L:L0} {e f:Value} {T:L2} (a0:Int) (l:Bool) {r:Option (Bool×L0×Bool×L0×Bool×L0×Bool×L0×Bool×L0×Int×Bool×L0×Bool×L0×Bool×L0)×Bool}
  (h:F.FT a0 G L l=some r) (hTT:TOk [] T n) (aJ:RP T n X e G) (aK:RP T n X f L):Calls Tryz.prog 59 #[I a0,.agg #[e,f,K l]] n (Ret fun v w=>lC r.1 (v=.tuple #[.pointer none,.agg #[.pointer none,.pointer none,.pointer none],K r.2]/\St [] n w []) (fun c=>∃b0:Nat,∃al:Nat,∃q:Value,∃am:Nat,∃s:Value,∃an:Nat,∃t:Value,∃ap:Nat,∃u:Value,∃aq:Nat,∃x:Value,∃ar:Nat,∃y:Value,∃au:Nat,∃z:Value,∃av:Nat,∃A:Value,v=.tuple #[O b0 0,.agg #[O ar 0,O au 0,O av 0],K r.2]/\St [] n w []/\Rds T w [Y av [K c.2.2.2.2.2.2.2.2.2.2.2.2.2.2.2.1,A],Q X A c.2.2.2.2.2.2.2.2.2.2.2.2.2.2.2.2,Y au [K c.2.2.2.2.2.2.2.2.2.2.2.2.2.1,z],Q X z c.2.2.2.2.2.2.2.2.2.2.2.2.2.2.1,Y ar [K c.2.2.2.2.2.2.2.2.2.2.2.1,y],Q X y c.2.2.2.2.2.2.2.2.2.2.2.2.1,Y b0 [O al 0,O am 0,O an 0,O ap 0,O aq 0,I c.2.2.2.2.2.2.2.2.2.2.1,.func (.func 144) #[] #[]],Y aq [K c.2.2.2.2.2.2.2.2.1,x],Q X x c.2.2.2.2.2.2.2.2.2.1,Y ap [K c.2.2.2.2.2.2.1,u],Q X u c.2.2.2.2.2.2.2.1,Y an [K c.2.2.2.2.1,t],Q X t c.2.2.2.2.2.1,Y am [K c.2.2.1,s],Q X s c.2.2.2.1,Y al [K c.1,q],Q X q c.2.1])):=by
 refine aB 24 Tryz.func59 Z Z Z<|have a:=St.k n;have m:=Fz.k (S:=[]) (w0:=n);?_
 have hA0:Rds T n [Q X f L,Q X e G]:=M (RP.h (W Z) aK) (M (RP.h (W Z) aJ) (Rds.nil))
 have b:=hA0.all
 have d:=hA0.off Z
 refine ax [(0,I a0),(1,.agg #[e,f,K l])] Z ?_
 unfold F.FT at h
 refine R<|bg (cg (cs:=[e,f,K l]) Z Z a) Z fun aw w a=>V 1 Z<|bg (bb (cs:=[.pointer none,.pointer none,.pointer none]) gq Z a) Z fun aP w a=>V 1 Z<|gl2<|V 1 Z ?_
 replace a:=a.pick (os':=[]++[Y aP [.pointer none,.pointer none,.pointer none],Y aw [e,f,K l]]) [0,1] (by decide) rfl
 obtain⟨m,b,d,a⟩:=m.frzK hTT b d a
 refine J h fun aU aQ h=>aH Z (lN a0 aQ (m.okT hTT a)) Z fun v_q w hQ=>?_
 cases p:aU with
 | none=>
  have h:=iQ h p
  rw[p]at hQ
  obtain⟨rfl,B⟩:=ir hQ
  obtain⟨a3,aW,m,b,d,a⟩:=m.l b d a B Rds.nil rfl
  refine V 1 Z<|gl1<|R<|V 1 Z<|N (aj Z Z (yv u57)) Z<|P<|fR Z<|R<|N (cb (vs:=[]) (cells:=[.pointer none,.pointer none,.pointer none]) Z od trivial Z) Z<|V 1 Z<|bo (bz (i:=0) (us:=[.pointer none,.pointer none,.pointer none]) Z cp Z Z Z ⟨Z,Z,Z,trivial⟩ Z a) fun w a=>V 1 Z<|gl8 ?_
  cases h
  obtain⟨az,hR⟩:=m.outT hTT b d a
  exact xG Z Z ⟨_,Z,bS (us:=[.pointer none,.pointer none,.pointer none]) u78 Z cp (a.p 0 Z Z)⟩ Z (sU ⟨Z,az⟩)
 | some o=>
  have h:=i0 h p
  rw[p]at hQ
  obtain⟨aA,aC,ab,aD,ac,aE,ad,aF,ae,aG,ah,rfl,B,aI⟩:=il hQ
  obtain⟨aZ,aY,m,b,d,a⟩:=m.l b d a B aI rfl
  refine V 1 Z<|gl1<|R<|V 1 Z<|N (aj Z Z (xB u57 aA 0)) Z<|P<|ik Z<|gl6<|V 1 Z<|N (aM (us:=[e,f,K l]) u33 Z cR Z (a.p 1 Z Z)) Z ?_
  replace a:=a.pick (os':=[]++[Y aP [.pointer none,.pointer none,.pointer none],Y aw [e,f,K l]]) [0,1] (by decide) rfl
  obtain⟨m,b,d,a⟩:=m.frzK hTT b d a
  refine J h fun a1 aN h=>aH Z (ni o.1 o.2.2.1 o.2.2.2.2.1 o.2.2.2.2.2.2.1 o.2.2.2.2.2.2.2.2.1 o.2.2.2.2.2.2.2.2.2.2 l aN (m.okT hTT a) (b.i d 2 Z) (b.j d 3 Z) (b.i d 4 Z) (b.j d 5 Z) (b.i d 6 Z) (b.j d 7 Z) (b.i d 8 Z) (b.j d 9 Z) (b.i d 10 Z) (b.j d 11 Z) (b.j d 12 Z) (b.i d 0 Z) (b.i d 1 Z)) Z ?_
  rintro _ w ⟨g,C,j,D,k,E,rfl,B,aI⟩
  obtain⟨aR,aO,m,b,d,a⟩:=m.l b d a B aI rfl
  refine V 3 Z<|bg (bb (cs:=[.pointer none,.pointer none,.pointer none]) gq Z a) Z fun aS w a=>bo (bz (i:=0) (us:=[O g 0,O j 0,O k 0]) Z cp Z Z Z ⟨Z,Z,Z,trivial⟩ Z a) fun w a=>V 1 Z<|gl1<|aX (fun w'=>St aR aO w' [Y aS [O g 0,O j 0,O k 0],Y aw [e,f,K l]]) (fun i=>!([4].contains i)) bQ (fun _ _ _ hf=>hf.2) (fun _ _ hf=>hf) (by kernel_rfl)<|have a:=a.drew;show lxE _ _ _ _ _ _ _ [0,1,2,3,4,5] _ _ from ao 1 Z (a.d [0,2] Z Z)<|H (a.d [0,2] Z Z) Z Z (fun w hF=>aM (us:=[O g 0,O j 0,O k 0]) u78 Z cp Z (hF.p 0 Z Z)) Z<|ao 2 Z (a.d [0,2] Z Z)<|f9 (a.d [0,2] Z Z) Z Z (bz (i:=1) (us:=[O g 0,O j 0,O k 0]) Z cp Z Z Z ⟨Z,Z,Z,trivial⟩ Z a) fun w a=>ao 1 Z (a.d [0,2] Z Z)<|bp (a.d [0,2] Z Z)<|ak<|ay ?_
  cases h
  obtain⟨az,hR⟩:=m.outT hTT b d a
  exact xG Z Z ⟨_,Z,bS (us:=[O g 0,O j 0,O k 0]) u78 Z cp (a.p 1 Z Z)⟩ Z (pb ⟨aA,aC,ab,aD,ac,aE,ad,aF,ae,aG,ah,g,C,j,D,k,E,Z,az,(hR.pick [18,17,16,15,14,13,12,11,10,9,8,7,6,5,4,3,2] Z)⟩)
theorem gA {b:World} {a0:L0} {c:Value} {r:Bool×L0×Bool}
  (h:F.E3 a0=some r) (g:RP [] b X c a0):Calls Tryz.prog 60 #[c] b (Ret fun v w=>∃d:Value,∃un0:Nat,v=.tuple #[O un0 0,K r.2.2]/\St [] b w [Y un0 [K r.1,d],U X d r.2.1]):=by
 refine aB 9 Tryz.func60 Z Z Z<|have a:=St.k b;have l:=Fz.k (S:=[]) (w0:=b);?_
 have hTT:TOk [] [] b:=TOk.nil
 have i:Rds [] b [Q X c a0]:=M (RP.h (W Z) g) (Rds.nil)
 have o:Off [] [Q X c a0]:=Off.emp
 refine ax [(0,c)] Z ?_
 unfold F.E3 at h
 refine R<|V 2 Z<|gl2<|V 1 Z<|J h fun m e h=>bE a Z (mo  e ((i.rp 0 Z).b a.fr).rp) Z fun j k w a=>V 1 Z<|J h fun n f h=>bf a Z (gx  f ((i.rp 0 Z).b a.fr).rp) Z fun w a=>V 3 Z<|P<|ay ?_
 cases h
 replace a:=l.st a
 exact bY Z Z Z ⟨j,k,Z,a.d [0,1] Z Z⟩
end Go.Proofs
