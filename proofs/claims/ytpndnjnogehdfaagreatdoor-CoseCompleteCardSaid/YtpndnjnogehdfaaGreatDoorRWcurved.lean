import Derived.Test.YtpndnjnogehdfaaGreatDoorRW0
import Derived.Test.YtpndnjnogehdfaaGreatDoorRAw
import Derived.Test.YtpndnjnogehdfaaGreatDoorGkFman
import Derived.Test.YtpndnjnogehdfaaGreatDoorRWbignumc
import Derived.Test.YtpndnjnogehdfaaGreatDoorRWcurvec
import Derived.Test.YtpndnjnogehdfaaGreatDoorRWnatb
set_option linter.unusedVariables false
set_option linter.unusedSimpArgs false
set_option linter.unusedSectionVars false
set_option maxRecDepth 20000
set_option maxHeartbeats 20000000
namespace Go.Proofs
open Go Go.RowKit Go.Gk
open Go.Gk renaming RP -> N, Rds -> I, Ret -> K, al -> O, e32 -> X, e8 -> H, own -> W, pB -> R, red -> P, vB -> V, vI -> U
open Go.Gk.OE renaming bx -> Y
open Go.Gk.Rds renaming cons -> Q
theorem kR {d:World} {f:Y0} {a1:Y3} {b c:Value} {g:Nat} {S:Y4} (a:Bool) {r:Y3}
  (h:F.Sv a f a1=some r) (hS:St S d d [W H c a1]) (k:N S d X b f) (hBa0:RB S d g [V a,b]):Calls Tryz.prog 75 #[R g 0,c] d (K fun v w=>∃u0:Value,v=u0/\St S d w [W H u0 r]):=by
 refine eZ 19 Tryz.func75 Z Z Z<|gl [(0,R g 0),(1,c)] Z ?_
 unfold F.Sv at h
 refine gl4<|O 1 Z<|gl2<|O 1 Z<|bZ h fun o l h=>uD hS Z (nh a l (k.now hS.fr).rp (hBa0.now hS.fr)) Z fun p w hS=>O 1 Z<|gl2<|O 1 Z<|Np (JT (e:=H) 0 u22 ti5 Z Z Z Z hS (i:=1) Z) ?_
 rintro _ w ⟨_,hS⟩
 obtain⟨q,m,h⟩:=ic h
 rw[m]at hS
 refine gl2<|O 2 Z<|aT (fc u22 Z (hS.ro 1 Z)) Z<|O 1 Z<|aT (fc u22 Z (hS.ro 0 Z)) Z<|O 1 Z<|bZ h fun s j h=>aT (uh u22 ti5 Z Z (hS.ro 1 Z) j) Z<|O 1 Z<|jC (tZ (e:=H) u22 ti5 Z Z Z hS (i:=1) Z (hS.ro 0 Z) (kD j).1.2 (av _)) Z ?_
 rintro v_q w ⟨hv_q,hS⟩
 subst v_q
 obtain⟨t,n,h⟩:=ic h
 rw[n]at hS
 refine gl2<|O 2 Z<|gl3<|f5 ?_
 cases h
 exact gC Z Z ⟨c,Z,hS.f [1] Z Z⟩
theorem wC {w0:World} {ao ap:Y0} {n o:Value} (a0:Int) (ab:Bool) {r:Y3×Y3×Int}
  (h:F.VB a0 ao ap ab=some r) (aG:N [] w0 X n ao) (aH:N [] w0 X o ap):Calls Tryz.prog 33 #[U a0,.agg #[n,o,V ab]] w0 (K fun v w=>∃u0 u1:Value,v=.tuple #[u0,u1,U r.2.2]/\St [] w0 w [W H u0 r.1,W H u1 r.2.1]):=by
 refine eZ 41 Tryz.func33 Z Z Z<|have b:=St.q w0;have d:=Fz.q (S:=[]) (w0:=w0);?_
 have hTT:TOk [] [] w0:=TOk.nil
 have c:I [] w0 [P X o ap,P X n ao]:=Q (N.p (an Z) aH) (Q (N.p (an Z) aG) (I.nil))
 have f:Off [] [P X o ap,P X n ao]:=Off.emp
 refine gl [(0,U a0),(1,.agg #[n,o,V ab])] Z ?_
 unfold F.VB at h
 refine gl4<|oq (sh (cs:=[n,o,V ab]) Z Z b) Z fun aR w b=>O 3 Z<|gl2<|O 1 Z<|aT (tV (us:=[n,o,V ab]) Tryz.underlying26 Z Nt Z (b.bxs 0 Z Z)) Z ?_
 replace b:=b.pick (os':=[]++[Y aR [n,o,V ab]]) [0] (by decide) rfl
 obtain⟨d,c,f,b⟩:=d.frzK hTT c f b
 refine bZ h fun aB aN h=>kx Z (rR a0 ab aN (d.okT hTT b) (c.rpT f 0 Z) (c.rpT f 1 Z)) Z fun v_q w hQ=>?_
 cases aq:aB.1 with
 | none=>
  have h:=pL h aq
  rw[aq]at hQ
  obtain⟨rfl,aa⟩:=GY hQ
  obtain⟨bg,ba,d,c,f,b⟩:=d.callK c f b aa I.nil rfl
  refine O 4 Z<|oq (kX (cs:=[.pointer none,.pointer none,.pointer none]) DZ Z b) Z fun bb w b=>O 1 Z<|gh (jf (i:=0) (us:=[.pointer none,.pointer none,.pointer none]) Z Es Z Z Z ⟨Z,Z,Z,trivial⟩ Z b) fun w b=>O 1 Z<|gl1<|cb ?_
  refine bC<|O 3 Z ?_
  cases ai:(!aB.2)
  case true=>
   have h:=fD h ai
   try simp only[ai]
   refine O 5 Z<|gl3<|ja Z<|gl4<|O 3 Z<|gl8 ?_
   cases h
   replace b:=d.st b
   exact sC Z Z Z Z ⟨Y5,Y5,Z,((b.nil H).nil H).f [1,0] Z Z⟩
  case false=>
   have h:=fE h ai
   try simp only[ai]
   refine cc (t:=19) Z Z (bc (k:=2) u125 Z Z uI Z) Z<|cc (t:=19) Z Z (bY u120 Z Z (b.s 0 Z 2)) Z ?_
   cases h
 | some a=>
  have h:=p8 h aq
  rw[aq]at hQ
  obtain⟨ay,ac,s,ad,u,ae,z,af,A,ag,B,j,C,l,D,m,E,rfl,aa,aS⟩:=F3 hQ
  obtain⟨bh,aV,d,c,f,b⟩:=d.callK c f b aa aS rfl
  refine O 4 Z<|oq (kX (cs:=[.pointer none,.pointer none,.pointer none]) DZ Z b) Z fun ak w b=>O 1 Z<|gh (jf (i:=0) (us:=[R j 0,R l 0,R m 0]) Z Es Z Z Z ⟨Z,Z,Z,trivial⟩ Z b) fun w b=>O 1 Z<|gl1 ?_
  refine gI (r:=r) (fun (g:Bool) L w=>L=[(7,R ay 0),(8,R ak 0),(24,V g)]/\SfT [] [] w0 w [Y m [V a.2.2.2.2.2.2.2.2.2.2.2.2.2.2.2.1,E],P X E a.2.2.2.2.2.2.2.2.2.2.2.2.2.2.2.2,Y l [V a.2.2.2.2.2.2.2.2.2.2.2.2.2.1,D],P X D a.2.2.2.2.2.2.2.2.2.2.2.2.2.2.1,Y j [V a.2.2.2.2.2.2.2.2.2.2.2.1,C],P X C a.2.2.2.2.2.2.2.2.2.2.2.2.1,Y ay [R ac 0,R ad 0,R ae 0,R af 0,R ag 0,U a.2.2.2.2.2.2.2.2.2.2.1,.func (.func 141) #[] #[]],Y ag [V a.2.2.2.2.2.2.2.2.1,B],P X B a.2.2.2.2.2.2.2.2.2.1,Y af [V a.2.2.2.2.2.2.1,A],P X A a.2.2.2.2.2.2.2.1,Y ae [V a.2.2.2.2.1,z],P X z a.2.2.2.2.2.1,Y ad [V a.2.2.1,u],P X u a.2.2.2.1,Y ac [V a.1,s],P X s a.2.1] [Y ak [R j 0,R l 0,R m 0]]) (F.Tb a) ?_ ?_
  rotate_left
  ·intro az
   refine bC<|O 3 Z ?_
   cases aj:(!aB.2)
   case true=>
    have h:=fD h aj
    try simp only[aj]
    exact O 5 Z<|gl3<|cz (az true _ _ ⟨Z,(SfT.mk' d (c.pick [18,17,16,15,14,13,12,11,10,9,8,7,6,5,4,3,2] Z) (f.pick [18,17,16,15,14,13,12,11,10,9,8,7,6,5,4,3,2] Z) (b.f [0] Z Z))⟩ h) Z
   case false=>
    have h:=fE h aj
    try simp only[aj]
    refine cc (t:=19) Z Z (bc (k:=2) u125 Z Z uI Z) Z<|cc (t:=19) Z Z (bY u120 Z Z (b.s 0 Z 2)) Z<|bZ h fun aO aI h=>wQ (t:=19) Z Z (by kernel_rfl) Z (nJ a.2.2.2.2.2.2.2.2.2.2.2.2.2.2.2.1 aI ((c.rp 17 Z).now b.fr).rp ((c.rb 18 Z).now b.fr)) Z ?_
    rintro _ w ⟨rfl,aa⟩
    have b:=b.call aa
    exact O 2 Z<|gl3<|cz (az (aO == 0) _ _ ⟨Z,(SfT.mk' d (c.pick [18,17,16,15,14,13,12,11,10,9,8,7,6,5,4,3,2] Z) (f.pick [18,17,16,15,14,13,12,11,10,9,8,7,6,5,4,3,2] Z) (b.f [0] Z Z))⟩ h) Z
  rintro bd L w hJ h
  try dsimp only at hJ
  obtain⟨rfl,⟨be,aW,d,c,f,b⟩⟩:=hJ
  unfold F.Tb at h
  apply gl9 Z h<;>intro h
  ·refine gl4<|O 3 Z<|gl8 ?_
   cases h
   replace b:=d.st b
   exact sC Z Z Z Z ⟨Y5,Y5,Z,((b.nil H).nil H).f [1,0] Z Z⟩
  refine gl5<|cb<|bZ h fun ar aJ h=>bZ h fun aC aK h=>bZ h fun au aL h=>bZ h fun aD aM h=>sN (es:=[Y m [V a.2.2.2.2.2.2.2.2.2.2.2.2.2.2.2.1,E],P X E a.2.2.2.2.2.2.2.2.2.2.2.2.2.2.2.2,Y l [V a.2.2.2.2.2.2.2.2.2.2.2.2.2.1,D],P X D a.2.2.2.2.2.2.2.2.2.2.2.2.2.2.1,Y j [V a.2.2.2.2.2.2.2.2.2.2.2.1,C],P X C a.2.2.2.2.2.2.2.2.2.2.2.2.1,Y ay [R ac 0,R ad 0,R ae 0,R af 0,R ag 0,U a.2.2.2.2.2.2.2.2.2.2.1,.func (.func 141) #[] #[]],Y ag [V a.2.2.2.2.2.2.2.2.1,B],P X B a.2.2.2.2.2.2.2.2.2.1,Y af [V a.2.2.2.2.2.2.1,A],P X A a.2.2.2.2.2.2.2.1,Y ae [V a.2.2.2.2.1,z],P X z a.2.2.2.2.2.1,Y ad [V a.2.2.1,u],P X u a.2.2.2.1,Y ac [V a.1,s],P X s a.2.1]) (os:=[Y ak [R j 0,R l 0,R m 0]]) (fun i=>[6,7,14,15].contains i) (fun i=>if i=6 then some 7 else if i=14 then some 15 else none) (fun i=>[]) (fun i=>[]) (fun i=>[]) (fun i=>[]) (fun i=>if i=6 then (fun h v x y=>∃p:Value,v=p/\x=[W H p ar]/\y=[]) else if i=7 then (fun h v x y=>∃G:Value,v=G/\x=[W H G aC]/\y=[]) else if i=14 then (fun h v x y=>∃q:Value,v=q/\x=[W H q au]/\y=[]) else (fun h v x y=>∃T:Value,v=T/\x=[W H T aD]/\y=[])) (SfT.mk' d c f b) (fun k hk=>rfl) hTT rfl (fun i=>(AH (by rintro h v x y ⟨_,rfl,rfl,rfl⟩; exact pS rfl) (AH (by rintro h v x y ⟨_,rfl,rfl,rfl⟩; exact pS rfl) (AH (by rintro h v x y ⟨_,rfl,rfl,rfl⟩; exact pS rfl) (by rintro h v x y ⟨_,rfl,rfl,rfl⟩; exact pS rfl))))) ky (by kernel_rfl) (by kernel_rfl) ?_
  show jq _ _ _ _ _ _ _ _ _ _ _ _ _ _ _ _ [0,1,2,3,4,5,6,7,8,9,10,11,12,13,14,15,16,17,18] _ _
  refine kH Z Z (fun w Sb wb d c f hF=>bc (k:=0) u125 Z Z uI Z) Z<|kH Z Z (fun w Sb wb d c f hF=>bY u120 Z Z (hF.s 0 Z 0)) Z<|qN 1 Z<|kH Z Z (fun w Sb wb d c f hF=>gf Z) Z<|kH Z Z (fun w Sb wb d c f hF=>bc (k:=5) Tryz.underlying123 Z Z nz3 Z) Z<|kH Z Z (fun w Sb wb d c f hF=>bY Tryz.underlying3 Z Z ((c.rb 10 Z).cell hF.fr 5 Z)) Z ?_
  refine Bq (fun h v x y=>∃p:Value,v=p/\x=[W H p ar]/\y=[]) [] [] [] _ Z Z (fun h v x y=>Z) Z Z Z Z ⟨_,_,_,undef,Z,Z,Z⟩ (fun w Sl Tl d hTT c f b=>?_) Z ?_
  ·refine vO (rV (e:=H) u22 ti5 Z Z Z b aJ) ?_
   rintro p w b
   exact⟨_,_,⟨p,Z,Z,Z⟩,SfT.mk' d I.nil Off.nil b⟩
  rintro p x_q y_q ⟨_,rfl,rfl,rfl⟩
  refine wX (fun h v x y=>∃G:Value,v=G/\x=[W H G aC]/\y=[]) [] [W H p ar] [] _ Z Z (fun h v x y=>Z) Z Z Z Z ⟨_,_,_,undef,Z,Z,Z⟩ (by kernel_rfl) Z (fun w Sl Tl d hTT c f b=>?_) Z ?_
  ·have hG:=b.pick (os':=[W H p ar]++[Y ak [R j 0,R l 0,R m 0]]) [0,1] (by decide) Z
   refine nt (kR a.2.2.2.2.2.2.2.2.2.2.2.1 aK hG.give ((c.rp 11 Z).give (an Z) hG) ((c.rb 12 Z).give hG)) ?_
   rintro G w ⟨aX,aE,aa⟩
   rw[<-aE]at aa
   have b:=hG.j aa
   exact⟨_,_,⟨G,Z,Z,Z⟩,SfT.mk' d I.nil Off.nil b⟩
  rintro G x_q y_q ⟨_,rfl,rfl,rfl⟩
  refine kH Z Z (fun w Sb wb d c f hF=>bc (k:=1) u125 Z Z uI Z) Z<|kH Z Z (fun w Sb wb d c f hF=>bY u120 Z Z (hF.s 0 Z 1)) Z<|qN 1 Z<|kH Z Z (fun w Sb wb d c f hF=>gf Z) Z<|kH Z Z (fun w Sb wb d c f hF=>bc (k:=5) Tryz.underlying123 Z Z nz3 Z) Z<|kH Z Z (fun w Sb wb d c f hF=>bY Tryz.underlying3 Z Z ((c.rb 10 Z).cell hF.fr 5 Z)) Z ?_
  refine Bq (fun h v x y=>∃q:Value,v=q/\x=[W H q au]/\y=[]) [] [] [] _ Z Z (fun h v x y=>Z) Z Z Z Z ⟨_,_,_,undef,Z,Z,Z⟩ (fun w Sl Tl d hTT c f b=>?_) Z ?_
  ·refine vO (rV (e:=H) u22 ti5 Z Z Z b aL) ?_
   rintro q w b
   exact⟨_,_,⟨q,Z,Z,Z⟩,SfT.mk' d I.nil Off.nil b⟩
  rintro q x_q y_q ⟨_,rfl,rfl,rfl⟩
  refine wX (fun h v x y=>∃T:Value,v=T/\x=[W H T aD]/\y=[]) [] [W H q au] [] _ Z Z (fun h v x y=>Z) Z Z Z Z ⟨_,_,_,undef,Z,Z,Z⟩ (by kernel_rfl) Z (fun w Sl Tl d hTT c f b=>?_) Z ?_
  ·have hG:=b.pick (os':=[W H q au]++[Y ak [R j 0,R l 0,R m 0]]) [0,1] (by decide) Z
   refine nt (kR a.2.2.2.2.2.2.2.2.2.2.2.2.2.1 aM hG.give ((c.rp 13 Z).give (an Z) hG) ((c.rb 14 Z).give hG)) ?_
   rintro T w ⟨aY,aF,aa⟩
   rw[<-aF]at aa
   have b:=hG.j aa
   exact⟨_,_,⟨T,Z,Z,Z⟩,SfT.mk' d I.nil Off.nil b⟩
  rintro T x_q y_q ⟨_,rfl,rfl,rfl⟩
  refine qN 3 Z<|zO fun w hQ=>?_
  obtain⟨bf,aZ,d,c,f,b⟩:=hQ
  refine bp<|f5 ?_
  cases h
  replace b:=d.st b
  exact sC Z Z Z Z ⟨G,T,Z,b.f [0,1] Z Z⟩
theorem vZ {f:World} {a1 a2:Y3} {j p:Value} (a0:Int) {r:Y0×Y0×Bool×Int}
  (h:F.Uz a0 a1 a2=some r) (C:N [] f H j a1) (D:N [] f H p a2):Calls Tryz.prog 128 #[U a0,j,p] f (K fun v w=>∃A B:Value,v=.tuple #[.agg #[A,B,V r.2.2.1],U r.2.2.2]/\St [] f w [W X A r.1,W X B r.2.1]):=by
 refine ca3 48 Tryz.func128 Z Z Z<|have hS:=St.q f;have hZ:=Fz.q (S:=[]) (w0:=f);?_
 have hTT:TOk [] [] f:=TOk.nil
 have hA:I [] f [P H p a2,P H j a1]:=Q (N.p (an Z) D) (Q (N.p (an Z) C) (I.nil))
 have hP:Off [] [P H p a2,P H j a1]:=Off.emp
 unfold F.Uz at h
 let z1:=fun u=>mkZ 4 (F.Uf a1 a2) (fun g L w=>L=[(1,j),(2,p),(6,R u 0),(41,V g)]/\SfT [] [] f w [P H p a2,P H j a1] [Y u [Y5,Y5,V false]]) [(6,R u 0)] [Y u [Y5,Y5,V false]] []
 exact wk
end Go.Proofs
