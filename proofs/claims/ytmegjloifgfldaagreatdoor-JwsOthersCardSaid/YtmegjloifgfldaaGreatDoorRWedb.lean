import Derived.Test.YtmegjloifgfldaaGreatDoorRW0
import Derived.Test.YtmegjloifgfldaaGreatDoorGkFb64
import Derived.Test.YtmegjloifgfldaaGreatDoorRWeda
import Derived.Test.YtmegjloifgfldaaGreatDoorRWlib
import Derived.Test.YtmegjloifgfldaaGreatDoorRWnatb
import Derived.Test.YtmegjloifgfldaaGreatDoorRWshab
set_option linter.unusedVariables false
set_option linter.unusedSimpArgs false
set_option linter.unusedSectionVars false
set_option maxRecDepth 4000
namespace Go.Proofs
open Go Go.RowKit Go.Gk
open Go.Gk renaming aa -> V, af -> M, ag -> O, ai -> J, e32 -> X, gl3 -> Q, gl4 -> R, own -> U, pB -> P, vB -> N, vI -> H
open Nat renaming le_of_ble_eq_true -> W
open Go.Gk.OE renaming bx -> Y
open Go.Gk.Rds renaming cons -> I
theorem wD {w0:World} {a0 a1 a2:Q1} {G T ab:Value} {r:Int}
  (h:F.Lw a0 a1 a2=some r) (hT:TB [] w0) (bZ:RP [] w0 e8 G a0) (b0:RP [] w0 e8 T a1) (b1:RP [] w0 e8 ab a2):Calls Tryz.prog 12 #[G,T,ab] w0 (Ret fun v w=>v=H r/\St [] w0 w []):=by
 refine ay 76 Tryz.func12 Z Z Z<|have a:=St.k w0;have m:=Fz.k (S:=[]) (w0:=w0);?_
 have hTT:TOk [] [] w0:=TOk.nil
 have p:Rds [] w0 [red e8 ab a2,red e8 T a1,red e8 G a0]:=I (RP.h (W Z) b1) (I (RP.h (W Z) b0) (I (RP.h (W Z) bZ) (Rds.nil)))
 have s:Off [] [red e8 ab a2,red e8 T a1,red e8 G a0]:=Off.emp
 refine ax [(0,G),(1,T),(2,ab)] Z ?_
 unfold F.Lw at h
 refine R<|V 1 Z<|gl2<|V 1 Z<|M h fun ac bW h=>bA a Z (pA  bW (hT.b (m.st a).fr) ((p.rp 0 Z).b a.fr).rp) Z fun aT q w a=>V 3 Z<|bl (bc (cs:=[Q3,Q3,N false]) jd Z a) Z fun bk w a=>bm (bp (i:=0) (us:=[aT,q,N ac.2.2.1]) Z cE Z Z Z ⟨(a.ro 1 Z).one,(a.ro 2 Z).one,Z,K⟩ Z a) fun w a=>V 1 Z<|gl1<|az ?_
 refine al<|V 2 Z<|Q ?_
 apply gl9 Z h<;>intro h
 ·refine R<|V 1 Z<|gl8 ?_
  cases h
  replace a:=m.st a
  exact au Z Z ⟨Z,a.d [] Z Z⟩
 refine gl5<|az<|R<|V 1 Z<|O (aD u25 Z ((p.rp 2 Z).b a.fr)) Z<|V 1 Z<|Q ?_
 apply gl9 Z h<;>intro h
 ·refine R<|V 1 Z<|gl8 ?_
  cases h
  replace a:=m.st a
  exact au Z Z ⟨Z,a.d [] Z Z⟩
 refine gl6<|V 1 Z<|M h fun ci br h=>O (oG u25 ti5 Z Z ((p.rp 2 Z).b a.fr) br) Z<|M h fun bo bX h=>aM a Z (lC  bX (((p.rp 2 Z).g_sll br).b a.fr).rp) Z fun a3 w a=>V 1 Z<|gl1<|R<|V 1 Z<|M h fun a4 bt h=>aM a Z (qi  bt (hT.b (m.st a).fr)) Z fun a5 w a=>M h fun ce bu h=>aS a Z (du  bu (a.ro 1 Z).rp (a.ro 0 Z).rp) Z fun w a=>V 1 Z<|Q ?_
 apply gl9 Z h<;>intro h
 ·refine R<|V 1 Z<|gl8 ?_
  cases h
  replace a:=m.st a
  exact au Z Z ⟨Z,a.d [] Z Z⟩
 refine gl6<|V 1 rfl<|M h fun cf a6 h=>O (mz u25 ti5 rfl rfl ((p.rp 2 rfl).b a.fr) a6) rfl<|V 2 rfl<|bn (bJ (e:=eV) (l:=([SV.of (slV ab e8.sz 0 ((32:Int).toNat)),SV.of G,SV.of T]:List SV)) (vs:=[slV ab e8.sz 0 ((32:Int).toNat),G,T]) u117 iy rfl rfl rfl (cb (((p.rp 2 rfl).g_slh a6).b a.fr).sv (cb ((p.rp 0 rfl).b a.fr).sv (cb ((p.rp 1 rfl).b a.fr).sv rfl))) (by decide) (by decide) a) rfl fun a7 w a=>M h fun a8 bv h=>aM a rfl (fE 3 bv (hT.b (m.st a).fr) (a.ro 0 rfl).rp ⟨(((p.rp 2 rfl).g_slh a6).b a.fr).svrp,((p.rp 0 rfl).b a.fr).svrp,((p.rp 1 rfl).b a.fr).svrp,trivial⟩) rfl fun a9 w a=>M h fun ba bw h=>aM a rfl (lC  bw (a.ro 0 rfl).rp) rfl fun bb w a=>M h fun bd bz h=>aM a rfl (qi  bz (hT.b (m.st a).fr)) rfl fun be w a=>M h fun aR bB h=>bA a rfl (kB  bB (a.ro 1 rfl).rp (a.ro 0 rfl).rp) rfl fun bf bg w a=>V 7 rfl<|gl1<|M h fun o bC h=>gm (es:=[red e8 ab a2,red e8 T a1,red e8 G a0]) (os:=[U X bf aR.1,U X bg aR.2.1,U X be bd,U X bb ba,U e8 a9 a8,U eV a7 ([SV.of (slV ab e8.sz 0 ((32:Int).toNat)),SV.of G,SV.of T]:List SV),U X a5 a4,U X a3 bo,Y bk [aT,q,N ac.2.2.1],U X aT ac.1,U X q ac.2.1]) (fun i=>[2,5,6,7].contains i) (fun i=>if i=2 then some 5 else if i=5 then some 7 else if i=6 then some 7 else none) (fun i=>[]) (fun i=>[]) (fun i=>[]) (fun i=>if i=5 then [2] else if i=7 then [2,6] else []) (fun i=>if i=2 then (fun h v x y=>∃b:Value,v=b/\x=[U X b o]/\y=[]) else if i=5 then (fun h v x y=>∃b:Value,h=[(b,[U X b o],[])]/\v=.agg #[b,q,N false]/\x=[U X b o]/\y=[]) else if i=6 then (fun h v x y=>∃j:Nat,v=P j 0/\x=[Y j [Q3,Q3,N false]]/\y=[]) else (fun h v x y=>∃b:Value,∃j:Nat,h=[(b,[U X b o],[]),(P j 0,[Y j [Q3,Q3,N false]],[])]/\v=undef/\x=[U X b o,Y j [b,q,N false]]/\y=[])) (SfT.mk' m p s a) (fun k hk=>rfl) hTT rfl (fun i=>(dl (by rintro h v x y ⟨_,rfl,rfl,rfl⟩; exact cx rfl) (dl (by rintro h v x y ⟨_,_,rfl,rfl,rfl⟩; exact cx rfl) (dl (by rintro h v x y ⟨_,rfl,rfl,rfl⟩; exact cx rfl) (by rintro h v x y ⟨_,_,_,rfl,rfl,rfl⟩; exact cx rfl))))) bK (by kernel_rfl) (by kernel_rfl) ?_
 show fj _ _ _ _ _ _ _ _ _ _ _ _ _ _ _ _ [0,1,2,3,4,5,6,7] _ _
 refine cG Z Z (fun w Sb wb m p s E=>ak (k:=0) u71 Z Z cO Z) Z<|cG Z Z (fun w Sb wb m p s E=>ar u58 Z Z (E.q 8 Z 0)) Z ?_
 refine et (fun h v x y=>∃b:Value,v=b/\x=[U X b o]/\y=[]) [] [] [] _ Z Z (fun h v x y=>Z) Z Z Z Z ⟨_,_,_,undef,Z,Z,Z⟩ (by kernel_rfl) Z (fun w Sl Tl E m hTT p s a=>?_) Z ?_
 ·refine cR (fF  bC (hT.b E) (RO.nil _ X).rp (a.ro 9 Z).rp) ?_
  rintro b w u
  have a:=a.e u
  exact⟨_,_,⟨b,Z,Z,Z⟩,SfT.mk' m Rds.nil Off.nil a⟩
 rintro b x_q y_q ⟨_,rfl,rfl,rfl⟩
 refine cG Z Z (fun w Sb wb m p s E=>ak (k:=1) u71 Z Z cO Z) Z<|cG Z Z (fun w Sb wb m p s E=>ar u58 Z Z (E.q 8 Z 1)) Z ?_
 refine gD (fun h v x y=>∃b:Value,h=[(b,[U X b o],[])]/\v=.agg #[b,q,N false]/\x=[U X b o]/\y=[]) [(b,[U X b o],[])] [U X b o] [] _ Z Z (fun h v x y=>Z) Z Z Z Z ⟨_,_,_,b,Z,Z,Z,Z⟩ (fun w Sl Tl m hTT p s a=>?_) Z ?_
 ·exact yl (bR (vs:=[(0,b,[b]),(1,q,[q])]) (cells:=[b,q,N false]) Z fL ⟨(bQ (a.ro 0 Z).one),(bQ (a.ro 11 Z).one),K⟩ Z) ⟨_,_,⟨b,Z,Z,Z,Z⟩,SfT.mk' m Rds.nil Off.nil a⟩
 rintro v_q x_q y_q ⟨v_34',hh,rfl,rfl,rfl⟩
 replace hh:([(b,[U X b o],[])]:List Th)=[(v_34',[U X v_34' o],[])]:=hh
 cases hh
 refine gD (fun h v x y=>∃j:Nat,v=P j 0/\x=[Y j [Q3,Q3,N false]]/\y=[]) [] [] [] _ Z Z (fun h v x y=>Z) Z Z Z Z ⟨_,_,_,0,Z,Z,Z⟩ (fun w Sl Tl m hTT p s a=>?_) Z ?_
 ·refine lS (bc (cs:=[Q3,Q3,N false]) jd Z a) ?_
  rintro _ w ⟨j,rfl,a⟩
  exact⟨_,_,⟨j,Z,Z,Z⟩,SfT.mk' m Rds.nil Off.nil a⟩
 rintro v_q x_q y_q ⟨j,rfl,rfl,rfl⟩
 refine nY (fun h v x y=>∃b:Value,∃j:Nat,h=[(b,[U X b o],[]),(P j 0,[Y j [Q3,Q3,N false]],[])]/\v=undef/\x=[U X b o,Y j [b,q,N false]]/\y=[]) [(b,[U X b o],[]),(P j 0,[Y j [Q3,Q3,N false]],[])] [U X b o,Y j [Q3,Q3,N false]] [] _ Z Z (fun h v x y=>Z) Z Z Z Z ⟨_,_,_,b,j,Z,Z,Z,Z⟩ (fun w Sl Tl m hTT p s a=>?_) ?_
 ·refine mn (bp (i:=1) (us:=[b,q,N false]) Z cE Z Z Z ⟨(a.ro 0 Z).one,(a.ro 12 Z).one,Z,K⟩ Z a) ?_
  intro w a
  exact⟨_,_,⟨b,j,Z,Z,Z,Z⟩,SfT.mk' m Rds.nil Off.nil a⟩
 rintro v_q x_q y_q ⟨v_34',b_36',hh,rfl,rfl,rfl⟩
 replace hh:([(b,[U X b o],[]),(P j 0,[Y j [Q3,Q3,N false]],[])]:List Th)=[(v_34',[U X v_34' o],[]),(P b_36' 0,[Y b_36' [Q3,Q3,N false]],[])]:=hh
 cases hh
 refine ji fun w hQ=>?_
 obtain⟨cg,b6,m,p,s,a⟩:=hQ
 refine am<|az<|M h fun ad bF h=>M h fun z bG h=>M h fun A bL h=>M h fun B bM h=>M h fun C bN h=>M h fun D bP h=>M h fun c bS h=>gm (es:=[red e8 ab a2,red e8 T a1,red e8 G a0]) (os:=[U X b o,Y j [b,q,N false],U X bf aR.1,U X bg aR.2.1,U X be bd,U X bb ba,U e8 a9 a8,U eV a7 ([SV.of (slV ab e8.sz 0 ((32:Int).toNat)),SV.of G,SV.of T]:List SV),U X a5 a4,U X a3 bo,Y bk [aT,q,N ac.2.2.1],U X aT ac.1,U X q ac.2.1]) (fun i=>[0,1,3,5,7,8,9,10,11].contains i) (fun i=>if i=0 then some 1 else if i=1 then some 3 else if i=3 then some 8 else if i=5 then some 7 else if i=7 then some 8 else if i=8 then some 9 else if i=9 then some 11 else if i=10 then some 11 else none) (fun i=>[]) (fun i=>[]) (fun i=>[]) (fun i=>if i=11 then [9,10] else []) (fun i=>if i=0 then (fun h v x y=>∃ae:Value,∃ah:Value,v=.agg #[ae,ah,N ad.2.2]/\x=[U X ae ad.1,U X ah ad.2.1]/\y=[]) else if i=1 then (fun h v x y=>∃J:Value,∃aj:Value,∃an:Value,∃ao:Value,v=.agg #[J,aj,an,ao]/\x=[U X J z.1,U X aj z.2.1,U X an z.2.2.1,U X ao z.2.2.2]/\y=[]) else if i=3 then (fun h v x y=>∃ap:Value,∃av:Value,∃aw:Value,∃aA:Value,v=.agg #[ap,av,aw,aA]/\x=[U X ap A.1,U X av A.2.1,U X aw A.2.2.1,U X aA A.2.2.2]/\y=[]) else if i=5 then (fun h v x y=>∃aC:Value,∃aE:Value,∃aF:Value,∃aG:Value,v=.agg #[aC,aE,aF,aG]/\x=[U X aC B.1,U X aE B.2.1,U X aF B.2.2.1,U X aG B.2.2.2]/\y=[]) else if i=7 then (fun h v x y=>∃aH:Value,∃aI:Value,∃aJ:Value,∃aK:Value,v=.agg #[aH,aI,aJ,aK]/\x=[U X aH C.1,U X aI C.2.1,U X aJ C.2.2.1,U X aK C.2.2.2]/\y=[]) else if i=8 then (fun h v x y=>∃aL:Value,∃aN:Value,∃aP:Value,∃aQ:Value,v=.agg #[aL,aN,aP,aQ]/\x=[U X aL D.1,U X aN D.2.1,U X aP D.2.2.1,U X aQ D.2.2.2]/\y=[]) else if i=9 then (fun h v x y=>∃d:Value,∃f:Value,v=.agg #[d,f,N c.2.2]/\x=[U X d c.1,U X f c.2.1]/\y=[]) else if i=10 then (fun h v x y=>∃n:Nat,v=P n 0/\x=[Y n [Q3,Q3,N false]]/\y=[]) else (fun h v x y=>∃d:Value,∃f:Value,∃n:Nat,h=[(.agg #[d,f,N c.2.2],[U X d c.1,U X f c.2.1],[]),(P n 0,[Y n [Q3,Q3,N false]],[])]/\v=undef/\x=[U X d c.1,U X f c.2.1,Y n [d,f,N c.2.2]]/\y=[])) (SfT.mk' m p s a) (fun k hk=>rfl) hTT rfl (fun i=>(dl (by rintro h v x y ⟨_,_,rfl,rfl,rfl⟩; exact cx rfl) (dl (by rintro h v x y ⟨_,_,_,_,rfl,rfl,rfl⟩; exact cx rfl) (dl (by rintro h v x y ⟨_,_,_,_,rfl,rfl,rfl⟩; exact cx rfl) (dl (by rintro h v x y ⟨_,_,_,_,rfl,rfl,rfl⟩; exact cx rfl) (dl (by rintro h v x y ⟨_,_,_,_,rfl,rfl,rfl⟩; exact cx rfl) (dl (by rintro h v x y ⟨_,_,_,_,rfl,rfl,rfl⟩; exact cx rfl) (dl (by rintro h v x y ⟨_,_,rfl,rfl,rfl⟩; exact cx rfl) (dl (by rintro h v x y ⟨_,rfl,rfl,rfl⟩; exact cx rfl) (by rintro h v x y ⟨_,_,_,_,rfl,rfl,rfl⟩; exact cx rfl)))))))))) bK (by kernel_rfl) (by kernel_rfl) ?_
 show fj _ _ _ _ _ _ _ _ _ _ _ _ _ _ _ _ [0,1,2,3,4,5,6,7,8,9,10,11] _ _
 refine et (fun h v x y=>∃ae:Value,∃ah:Value,v=.agg #[ae,ah,N ad.2.2]/\x=[U X ae ad.1,U X ah ad.2.1]/\y=[]) [] [] [] _ Z Z (fun h v x y=>Z) Z Z Z Z ⟨_,_,_,undef,undef,Z,Z,Z⟩ (by kernel_rfl) Z (fun w Sl Tl E m hTT p s a=>?_) Z ?_
 ·refine cR (AD  bF (hT.b E)) ?_
  rintro _ w ⟨ae,ah,rfl,u⟩
  have a:=a.e u
  exact⟨_,_,⟨ae,ah,Z,Z,Z⟩,SfT.mk' m Rds.nil Off.nil a⟩
 rintro v_q x_q y_q ⟨ae,ah,rfl,rfl,rfl⟩
 refine et (fun h v x y=>∃J:Value,∃aj:Value,∃an:Value,∃ao:Value,v=.agg #[J,aj,an,ao]/\x=[U X J z.1,U X aj z.2.1,U X an z.2.2.1,U X ao z.2.2.2]/\y=[]) [] [U X ae ad.1,U X ah ad.2.1] [] _ Z Z (fun h v x y=>Z) Z Z Z Z ⟨_,_,_,undef,undef,undef,undef,Z,Z,Z⟩ (by kernel_rfl) Z (fun w Sl Tl E m hTT p s a=>?_) Z ?_
 ·refine cR (pg ad.2.2 bG (hT.b E) (a.ro 0 Z).rp (a.ro 1 Z).rp) ?_
  rintro _ w ⟨J,aj,an,ao,rfl,u⟩
  have a:=a.e u
  exact⟨_,_,⟨J,aj,an,ao,Z,Z,Z⟩,SfT.mk' m Rds.nil Off.nil (a.d [0,1,2,3,6,7,8,9,10,11,12,13,14,15,16,17,18] Z Z)⟩
 rintro v_q x_q y_q ⟨J,aj,an,ao,rfl,rfl,rfl⟩
 refine eB 1 Z ?_
 refine et (fun h v x y=>∃ap:Value,∃av:Value,∃aw:Value,∃aA:Value,v=.agg #[ap,av,aw,aA]/\x=[U X ap A.1,U X av A.2.1,U X aw A.2.2.1,U X aA A.2.2.2]/\y=[]) [] [U X J z.1,U X aj z.2.1,U X an z.2.2.1,U X ao z.2.2.2] [] _ Z Z (fun h v x y=>Z) Z Z Z Z ⟨_,_,_,undef,undef,undef,undef,Z,Z,Z⟩ (by kernel_rfl) Z (fun w Sl Tl E m hTT p s a=>?_) Z ?_
 ·refine cR (kW  bL (hT.b E) (a.ro 0 Z).rp (a.ro 1 Z).rp (a.ro 2 Z).rp (a.ro 3 Z).rp (a.ro 13 Z).rp) ?_
  rintro _ w ⟨ap,av,aw,aA,rfl,u⟩
  have a:=a.e u
  exact⟨_,_,⟨ap,av,aw,aA,Z,Z,Z⟩,SfT.mk' m Rds.nil Off.nil (a.d [0,1,2,3,8,9,10,11,12,13,14,15,16,17,18,19,20] Z Z)⟩
 rintro v_q x_q y_q ⟨ap,av,aw,aA,rfl,rfl,rfl⟩
 refine cG Z Z (fun w Sb wb m p s E=>bO (us:=[b,q,N false]) u71 Z cE Z (E.p 1 Z Z)) Z ?_
 refine et (fun h v x y=>∃aC:Value,∃aE:Value,∃aF:Value,∃aG:Value,v=.agg #[aC,aE,aF,aG]/\x=[U X aC B.1,U X aE B.2.1,U X aF B.2.2.1,U X aG B.2.2.2]/\y=[]) [] [] [] _ Z Z (fun h v x y=>Z) Z Z Z Z ⟨_,_,_,undef,undef,undef,undef,Z,Z,Z⟩ (by kernel_rfl) Z (fun w Sl Tl E m hTT p s a=>?_) Z ?_
 ·refine cR (pg false bM (hT.b E) (a.ro 0 Z).rp (a.ro 12 Z).rp) ?_
  rintro _ w ⟨aC,aE,aF,aG,rfl,u⟩
  have a:=a.e u
  exact⟨_,_,⟨aC,aE,aF,aG,Z,Z,Z⟩,SfT.mk' m Rds.nil Off.nil a⟩
 rintro v_q x_q y_q ⟨aC,aE,aF,aG,rfl,rfl,rfl⟩
 refine eB 1 Z ?_
 refine et (fun h v x y=>∃aH:Value,∃aI:Value,∃aJ:Value,∃aK:Value,v=.agg #[aH,aI,aJ,aK]/\x=[U X aH C.1,U X aI C.2.1,U X aJ C.2.2.1,U X aK C.2.2.2]/\y=[]) [] [U X aC B.1,U X aE B.2.1,U X aF B.2.2.1,U X aG B.2.2.2] [] _ Z Z (fun h v x y=>Z) Z Z Z Z ⟨_,_,_,undef,undef,undef,undef,Z,Z,Z⟩ (by kernel_rfl) Z (fun w Sl Tl E m hTT p s a=>?_) Z ?_
 ·refine cR (kW  bN (hT.b E) (a.ro 0 Z).rp (a.ro 1 Z).rp (a.ro 2 Z).rp (a.ro 3 Z).rp (a.ro 7 Z).rp) ?_
  rintro _ w ⟨aH,aI,aJ,aK,rfl,u⟩
  have a:=a.e u
  exact⟨_,_,⟨aH,aI,aJ,aK,Z,Z,Z⟩,SfT.mk' m Rds.nil Off.nil (a.d [0,1,2,3,8,9,10,11,12,13,14,15,16,17,18,19,20] Z Z)⟩
 rintro v_q x_q y_q ⟨aH,aI,aJ,aK,rfl,rfl,rfl⟩
 refine et (fun h v x y=>∃aL:Value,∃aN:Value,∃aP:Value,∃aQ:Value,v=.agg #[aL,aN,aP,aQ]/\x=[U X aL D.1,U X aN D.2.1,U X aP D.2.2.1,U X aQ D.2.2.2]/\y=[]) [] [U X ap A.1,U X av A.2.1,U X aw A.2.2.1,U X aA A.2.2.2,U X aH C.1,U X aI C.2.1,U X aJ C.2.2.1,U X aK C.2.2.2] [] _ Z Z (fun h v x y=>Z) Z Z Z Z ⟨_,_,_,undef,undef,undef,undef,Z,Z,Z⟩ (by kernel_rfl) Z (fun w Sl Tl E m hTT p s a=>?_) Z ?_
 ·refine cR (lW  bP (hT.b E) (a.ro 0 Z).rp (a.ro 1 Z).rp (a.ro 2 Z).rp (a.ro 3 Z).rp (a.ro 4 Z).rp (a.ro 5 Z).rp (a.ro 6 Z).rp (a.ro 7 Z).rp) ?_
  rintro _ w ⟨aL,aN,aP,aQ,rfl,u⟩
  have a:=a.e u
  exact⟨_,_,⟨aL,aN,aP,aQ,Z,Z,Z⟩,SfT.mk' m Rds.nil Off.nil (a.d [0,1,2,3,12,13,14,15,16,17,18,19,20,21,22,23,24] Z Z)⟩
 rintro v_q x_q y_q ⟨aL,aN,aP,aQ,rfl,rfl,rfl⟩
 refine et (fun h v x y=>∃d:Value,∃f:Value,v=.agg #[d,f,N c.2.2]/\x=[U X d c.1,U X f c.2.1]/\y=[]) [] [U X aL D.1,U X aN D.2.1,U X aP D.2.2.1,U X aQ D.2.2.2] [] _ Z Z (fun h v x y=>Z) Z Z Z Z ⟨_,_,_,undef,undef,Z,Z,Z⟩ (by kernel_rfl) Z (fun w Sl Tl E m hTT p s a=>?_) Z ?_
 ·refine cR (qq  bS (hT.b E) (a.ro 0 Z).rp (a.ro 1 Z).rp (a.ro 2 Z).rp (a.ro 3 Z).rp) ?_
  rintro _ w ⟨d,f,rfl,u⟩
  have a:=a.e u
  exact⟨_,_,⟨d,f,Z,Z,Z⟩,SfT.mk' m Rds.nil Off.nil (a.d [0,1,6,7,8,9,10,11,12,13,14,15,16,17,18] Z Z)⟩
 rintro v_q x_q y_q ⟨d,f,rfl,rfl,rfl⟩
 refine gD (fun h v x y=>∃n:Nat,v=P n 0/\x=[Y n [Q3,Q3,N false]]/\y=[]) [] [] [] _ Z Z (fun h v x y=>Z) Z Z Z Z ⟨_,_,_,0,Z,Z,Z⟩ (fun w Sl Tl m hTT p s a=>?_) Z ?_
 ·refine lS (bc (cs:=[Q3,Q3,N false]) jd Z a) ?_
  rintro _ w ⟨n,rfl,a⟩
  exact⟨_,_,⟨n,Z,Z,Z⟩,SfT.mk' m Rds.nil Off.nil a⟩
 rintro v_q x_q y_q ⟨n,rfl,rfl,rfl⟩
 refine nY (fun h v x y=>∃d:Value,∃f:Value,∃n:Nat,h=[(.agg #[d,f,N c.2.2],[U X d c.1,U X f c.2.1],[]),(P n 0,[Y n [Q3,Q3,N false]],[])]/\v=undef/\x=[U X d c.1,U X f c.2.1,Y n [d,f,N c.2.2]]/\y=[]) [(.agg #[d,f,N c.2.2],[U X d c.1,U X f c.2.1],[]),(P n 0,[Y n [Q3,Q3,N false]],[])] [U X d c.1,U X f c.2.1,Y n [Q3,Q3,N false]] [] _ Z Z (fun h v x y=>Z) Z Z Z Z ⟨_,_,_,d,f,n,Z,Z,Z,Z⟩ (fun w Sl Tl m hTT p s a=>?_) ?_
 ·refine mn (bp (i:=2) (us:=[d,f,N c.2.2]) Z cE Z Z Z ⟨(a.ro 0 Z).one,(a.ro 1 Z).one,Z,K⟩ Z a) ?_
  intro w a
  exact⟨_,_,⟨d,f,n,Z,Z,Z,Z⟩,SfT.mk' m Rds.nil Off.nil a⟩
 rintro v_q x_q y_q ⟨v_91',v_93',b_95',hh,rfl,rfl,rfl⟩
 replace hh:([(.agg #[d,f,N c.2.2],[U X d c.1,U X f c.2.1],[]),(P n 0,[Y n [Q3,Q3,N false]],[])]:List Th)=[(.agg #[v_91',v_93',N c.2.2],[U X v_91' c.1,U X v_93' c.2.1],[]),(P b_95' 0,[Y b_95' [Q3,Q3,N false]],[])]:=hh
 cases hh
 refine ji fun w hQ=>?_
 obtain⟨ch,b7,m,p,s,a⟩:=hQ
 refine am<|R<|O (bO (us:=[d,f,N c.2.2]) u71 Z cE Z (a.p 2 Z Z)) Z<|M h fun bj bT h=>cU a Z (wN c.2.2 bT (hT.b (m.st a).fr) (a.ro 0 Z).rp (a.ro 1 Z).rp) Z fun bq w a=>V 5 Z<|gl1 ?_
 refine aU (r:=r) (fun (g:Bool) L w=>L=[(75,N g)]/\SfT [] [] w0 w [] []) (F.KV) ?_ ?_
 rotate_left
 ·intro bh
  refine al<|V 3 Z ?_
  cases aV:(bj.2 != 0)
  case true=>
   have h:=bH h aV
   try simp only[aV]
   refine V 6 Z<|Q ?_
   replace a:=a.pick (os':=[U e8 bq bj.1,U X d c.1,U X f c.2.1,U X b o,U X bf aR.1,U X bg aR.2.1,U X be bd,U X bb ba,U e8 a9 a8,U eV a7 ([SV.of (slV ab e8.sz 0 ((32:Int).toNat)),SV.of G,SV.of T]:List SV),U X a5 a4,U X a3 bo,U X aT ac.1,U X q ac.2.1]++[Y n [d,f,N c.2.2],Y j [b,q,N false],Y bk [aT,q,N ac.2.2.1]]) [0,1,2,4,6,7,8,9,10,11,12,13,15,16,3,5,14] (by decide) rfl
   obtain⟨b8,b2,m,p,s,a⟩:=m.frzT hTT p s a
   exact aB (bh true _ _ ⟨Z,(SfT.mk' m Rds.nil Off.nil (a.d [] Z Z))⟩ h) Z
  case false=>
   have h:=bI h aV
   try simp only[aV]
   refine V 2 Z<|M h fun b9 bi h=>aO (t:=69) Z Z (mz u25 ti5 Z Z ((p.rp 2 Z).b a.fr) bi) Z<|M h fun bV bs h=>bU (t:=69) Z Z (by kernel_rfl) Z (j1  bs (a.ro 0 Z).rp (((p.rp 2 Z).g_slh bi).b a.fr).rp) Z ?_
   rintro _ w ⟨rfl,u⟩
   have a:=a.e u
   refine V 2 Z<|Q ?_
   replace a:=a.pick (os':=[U e8 bq bj.1,U X d c.1,U X f c.2.1,U X b o,U X bf aR.1,U X bg aR.2.1,U X be bd,U X bb ba,U e8 a9 a8,U eV a7 ([SV.of (slV ab e8.sz 0 ((32:Int).toNat)),SV.of G,SV.of T]:List SV),U X a5 a4,U X a3 bo,U X aT ac.1,U X q ac.2.1]++[Y n [d,f,N c.2.2],Y j [b,q,N false],Y bk [aT,q,N ac.2.2.1]]) [0,1,2,4,6,7,8,9,10,11,12,13,15,16,3,5,14] (by decide) rfl
   obtain⟨ca,b3,m,p,s,a⟩:=m.frzT hTT p s a
   exact aB (bh (!bV) _ _ ⟨Z,(SfT.mk' m Rds.nil Off.nil (a.d [] Z Z))⟩ h) Z
 rintro cc L w hJ h
 try dsimp only at hJ
 obtain⟨rfl,⟨cd,b5,m,p,s,a⟩⟩:=hJ
 unfold F.KV at h
 apply gl9 Z h<;>intro h
 ·refine R<|V 1 Z<|gl8 ?_
  cases h
  replace a:=m.st a
  exact au Z Z ⟨Z,a⟩
 refine gl6<|V 1 Z<|Q<|aq ?_
 cases h
 replace a:=m.st a
 exact au Z Z ⟨Z,a⟩
end Go.Proofs
