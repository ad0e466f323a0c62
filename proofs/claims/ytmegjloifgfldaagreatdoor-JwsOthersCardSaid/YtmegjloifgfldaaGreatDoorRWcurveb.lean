import Derived.Test.YtmegjloifgfldaaGreatDoorRW0
import Derived.Test.YtmegjloifgfldaaGreatDoorGkFman
import Derived.Test.YtmegjloifgfldaaGreatDoorRWbignumc
import Derived.Test.YtmegjloifgfldaaGreatDoorRWcurvea
set_option linter.unusedVariables false
set_option linter.unusedSimpArgs false
set_option linter.unusedSectionVars false
set_option maxRecDepth 4000
namespace Go.Proofs
open Go Go.RowKit Go.Gk
open Go.Gk renaming aa -> V, af -> M, ag -> O, ai -> J, e32 -> X, gl3 -> Q, gl4 -> R, own -> U, pB -> P, vB -> N, vI -> H
open Nat renaming le_of_ble_eq_true -> W
open Go.Gk.OE renaming bx -> Y
open Go.Gk.Rds renaming cons -> I
theorem iU {z:World} {aJ aK aL aM aN aO aP aQ:Q0} {A B C D E p q s:Value} {a1 aw az aA aB aC m n o:Nat} {T:Q2} (d e f g j:Bool) (l:Int) (G L t:Bool) {r:Bool×Q0×Bool×Q0×Bool×Q0}
  (h:F.I5 d aJ e aK f aL g aM j aN l G aO L aP t aQ=some r) (hTT:TOk [] T z) (a8:RP T z X A aJ) (bh:RB T z aw [N d,A]) (a9:RP T z X B aK) (bi:RB T z az [N e,B]) (ba:RP T z X C aL) (bk:RB T z aA [N f,C]) (bb:RP T z X D aM) (bn:RB T z aB [N g,D]) (bd:RP T z X E aN) (bo:RB T z aC [N j,E]) (hBa0:RB T z a1 [P aw 0,P az 0,P aA 0,P aB 0,P aC 0,H l,.func (.func 159) #[] #[]]) (be:RP T z X p aO) (bq:RB T z m [N G,p]) (bf:RP T z X q aP) (br:RB T z n [N L,q]) (bg:RP T z X s aQ) (bs:RB T z o [N t,s]):Calls Tryz.prog 137 #[P a1 0,.agg #[P m 0,P n 0,P o 0]] z (Ret fun v w=>∃bt:Nat,∃a2:Value,∃bu:Nat,∃a3:Value,∃bv:Nat,∃a4:Value,v=.agg #[P bt 0,P bu 0,P bv 0]/\St [] z w []/\Rds T w [Y bv [N r.2.2.2.2.1,a4],red X a4 r.2.2.2.2.2,Y bu [N r.2.2.1,a3],red X a3 r.2.2.2.1,Y bt [N r.1,a2],red X a2 r.2.1]):=by
 refine ay 86 Tryz.func137 Z Z Z<|have a:=St.k z;have hZ:=Fz.k (S:=[]) (w0:=z);?_
 have hA0:Rds T z [Y o [N t,s],red X s aQ,Y n [N L,q],red X q aP,Y m [N G,p],red X p aO,Y a1 [P aw 0,P az 0,P aA 0,P aB 0,P aC 0,H l,.func (.func 159) #[] #[]],Y aC [N j,E],red X E aN,Y aB [N g,D],red X D aM,Y aA [N f,C],red X C aL,Y az [N e,B],red X B aK,Y aw [N d,A],red X A aJ]:=I bs.h (I (RP.h (W Z) bg) (I br.h (I (RP.h (W Z) bf) (I bq.h (I (RP.h (W Z) be) (I hBa0.h (I bo.h (I (RP.h (W Z) bd) (I bn.h (I (RP.h (W Z) bb) (I bk.h (I (RP.h (W Z) ba) (I bi.h (I (RP.h (W Z) a9) (I bh.h (I (RP.h (W Z) a8) (Rds.nil)))))))))))))))))
 have b:=hA0.all
 have hP:=hA0.off Z
 refine ax [(0,P a1 0),(1,.agg #[P m 0,P n 0,P o 0])] Z ?_
 unfold F.I5 at h
 refine R<|bl (cy (cs:=[P m 0,P n 0,P o 0]) Z Z a) Z fun bw w a=>bl (bc (cs:=[.pointer none,.pointer none,.pointer none]) gZ Z a) Z fun bz w a=>gl1<|R<|O (ak (k:=2) u136 Z Z cF Z) Z<|O (ar u124 Z Z (a.q 1 Z 2)) Z<|M h fun cI b3 h=>aS a Z (dq t b3 ((b.rp 15 Z).b a.fr).rp ((b.rb 16 Z).b a.fr)) Z fun w a=>V 1 Z<|Q ?_
 apply gl9 Z h<;>intro h
 ·refine R<|O (bO (us:=[P m 0,P n 0,P o 0]) u136 Z bV Z (a.p 1 Z Z)) Z<|bm (bp (i:=0) (us:=[P m 0,P n 0,P o 0]) Z bV Z Z Z ⟨Z,Z,Z,K⟩ Z a) fun w a=>gl8 ?_
  cases h
  obtain⟨bB,hR⟩:=hZ.outT hTT b hP a
  exact eu Z ⟨_,Z,bP (us:=[P m 0,P n 0,P o 0]) u136 Z bV (a.p 0 Z Z)⟩ ⟨m,p,n,q,o,s,Z,bB,(hR.pick [16,15,14,13,12,11] Z)⟩
 refine gl6<|V 1 Z<|O (ak (k:=2) u136 Z Z cF Z) Z<|O (ar u124 Z Z (a.q 1 Z 2)) Z<|O (ak (k:=2) u136 Z Z cF Z) Z<|O (ar u124 Z Z (a.q 1 Z 2)) Z<|M h fun aZ b5 h=>bA a Z (bj d e f g j l t t b5 ((b.rp 0 Z).b a.fr).rp ((b.rb 1 Z).b a.fr) ((b.rp 2 Z).b a.fr).rp ((b.rb 3 Z).b a.fr) ((b.rp 4 Z).b a.fr).rp ((b.rb 5 Z).b a.fr) ((b.rp 6 Z).b a.fr).rp ((b.rb 7 Z).b a.fr) ((b.rp 8 Z).b a.fr).rp ((b.rb 9 Z).b a.fr) ((b.rb 10 Z).b a.fr) ((b.rp 15 Z).b a.fr).rp ((b.rb 16 Z).b a.fr) ((b.rp 15 Z).b a.fr).rp ((b.rb 16 Z).b a.fr)) Z fun a0 bC w a=>V 1 Z<|gl2<|V 1 Z<|O (ak (k:=1) u136 Z Z cF Z) Z<|O (ar u124 Z Z (a.q 3 Z 1)) Z<|O (ak (k:=1) u136 Z Z cF Z) Z<|O (ar u124 Z Z (a.q 3 Z 1)) Z<|M h fun J bG h=>bA a Z (bj d e f g j l L L bG ((b.rp 0 Z).b a.fr).rp ((b.rb 1 Z).b a.fr) ((b.rp 2 Z).b a.fr).rp ((b.rb 3 Z).b a.fr) ((b.rp 4 Z).b a.fr).rp ((b.rb 5 Z).b a.fr) ((b.rp 6 Z).b a.fr).rp ((b.rb 7 Z).b a.fr) ((b.rp 8 Z).b a.fr).rp ((b.rb 9 Z).b a.fr) ((b.rb 10 Z).b a.fr) ((b.rp 13 Z).b a.fr).rp ((b.rb 14 Z).b a.fr) ((b.rp 13 Z).b a.fr).rp ((b.rb 14 Z).b a.fr)) Z ?_
 rintro aU a5 w a
 refine V 1 rfl<|gl2<|V 2 rfl<|O (ak (k:=0) u136 rfl rfl cF rfl) rfl<|O (ar u124 rfl rfl (a.q 5 rfl 0)) rfl<|V 1 rfl<|M h fun aE bH h=>bA a rfl (bj d e f g j l G J.1 bH ((b.rp 0 rfl).b a.fr).rp ((b.rb 1 rfl).b a.fr) ((b.rp 2 rfl).b a.fr).rp ((b.rb 3 rfl).b a.fr) ((b.rp 4 rfl).b a.fr).rp ((b.rb 5 rfl).b a.fr) ((b.rp 6 rfl).b a.fr).rp ((b.rb 7 rfl).b a.fr) ((b.rp 8 rfl).b a.fr).rp ((b.rb 9 rfl).b a.fr) ((b.rb 10 rfl).b a.fr) ((b.rp 11 rfl).b a.fr).rp ((b.rb 12 rfl).b a.fr) (a.ro 1 rfl).rp (a.rb 0 rfl)) rfl fun aV a6 w a=>M h fun ap bI h=>bA a rfl (dr d e f g j l 4 aE.1 bI ((b.rp 0 rfl).b a.fr).rp ((b.rb 1 rfl).b a.fr) ((b.rp 2 rfl).b a.fr).rp ((b.rb 3 rfl).b a.fr) ((b.rp 4 rfl).b a.fr).rp ((b.rb 5 rfl).b a.fr) ((b.rp 6 rfl).b a.fr).rp ((b.rb 7 rfl).b a.fr) ((b.rp 8 rfl).b a.fr).rp ((b.rb 9 rfl).b a.fr) ((b.rb 10 rfl).b a.fr) (a.ro 1 rfl).rp (a.rb 0 rfl)) rfl fun aW a7 w a=>V 1 rfl<|gl1<|M h fun aF bJ h=>M h fun aj bL h=>M h fun aG bM h=>M h fun aH bN h=>M h fun aI bQ h=>gm (es:=[Y o [N t,s],red X s aQ,Y n [N L,q],red X q aP,Y m [N G,p],red X p aO,Y a1 [P aw 0,P az 0,P aA 0,P aB 0,P aC 0,H l,.func (.func 159) #[] #[]],Y aC [N j,E],red X E aN,Y aB [N g,D],red X D aM,Y aA [N f,C],red X C aL,Y az [N e,B],red X B aK,Y aw [N d,A],red X A aJ]) (os:=[Y a7 [N ap.1,aW],U X aW ap.2,Y a6 [N aE.1,aV],U X aV aE.2,Y a5 [N J.1,aU],U X aU J.2,Y bC [N aZ.1,a0],U X a0 aZ.2,Y bz [.pointer none,.pointer none,.pointer none],Y bw [P m 0,P n 0,P o 0]]) (fun i=>[6,8,12,13,14,15].contains i) (fun i=>if i=6 then some 14 else if i=8 then some 12 else if i=12 then some 13 else if i=13 then some 14 else if i=14 then some 15 else none) (fun i=>[]) (fun i=>[]) (fun i=>[]) (fun i=>if i=12 then [8] else if i=13 then [8] else []) (fun i=>if i=6 then (fun h v x y=>∃an:Nat,∃ab:Value,v=P an 0/\x=[Y an [N aF.1,ab],U X ab aF.2]/\y=[]) else if i=8 then (fun h v x y=>∃c:Nat,v=P c 0/\x=[Y c [N false,Q3]]/\y=[]) else if i=12 then (fun h v x y=>∃u:Value,∃c:Nat,h=[(P c 0,[Y c [N false,Q3]],[])]/\v=P c 0/\x=[Y c [N aj.1,u],U X u aj.2]/\y=[]) else if i=13 then (fun h v x y=>∃ac:Value,∃c:Nat,h=[(P c 0,[Y c [N false,Q3]],[])]/\v=P c 0/\x=[Y c [N aG.1,ac],U X ac aG.2]/\y=[]) else if i=14 then (fun h v x y=>∃ao:Nat,∃ad:Value,v=P ao 0/\x=[Y ao [N aH.1,ad],U X ad aH.2]/\y=[]) else (fun h v x y=>∃au:Nat,∃av:Value,v=P au 0/\x=[Y au [N aI.1,av],U X av aI.2]/\y=[])) (SfT.mk' hZ b hP a) (fun k hk=>rfl) hTT rfl (fun i=>(dl (by rintro h v x y ⟨_,_,rfl,rfl,rfl⟩; exact cx rfl) (dl (by rintro h v x y ⟨_,rfl,rfl,rfl⟩; exact cx rfl) (dl (by rintro h v x y ⟨_,_,_,rfl,rfl,rfl⟩; exact cx rfl) (dl (by rintro h v x y ⟨_,_,_,rfl,rfl,rfl⟩; exact cx rfl) (dl (by rintro h v x y ⟨_,_,rfl,rfl,rfl⟩; exact cx rfl) (by rintro h v x y ⟨_,_,rfl,rfl,rfl⟩; exact cx rfl))))))) bK (by kernel_rfl) (by kernel_rfl) ?_
 show fj _ _ _ _ _ _ _ _ _ _ _ _ _ _ _ _ [0,1,2,3,4,5,6,7,8,9,10,11,12,13,14,15,16] _ _
 refine eB 3 Z<|cG Z Z (fun w Sb wb hZ b hP hF=>ak (k:=0) u136 Z Z cF Z) Z<|cG Z Z (fun w Sb wb hZ b hP hF=>ar u124 Z Z (hF.q 9 Z 0)) Z<|eB 1 Z ?_
 refine iC (fun h v x y=>∃an:Nat,∃ab:Value,v=P an 0/\x=[Y an [N aF.1,ab],U X ab aF.2]/\y=[]) [] [] [] _ Z Z (fun h v x y=>Z) Z Z Z Z ⟨_,_,_,0,undef,Z,Z,Z⟩ (by kernel_rfl) Z (fun w Sl Tl hZ hTT b hP a=>?_) Z ?_
 ·refine cR (cw d e f g j l G aZ.1 bJ ((b.rp 0 Z).b a.fr).rp ((b.rb 1 Z).b a.fr) ((b.rp 2 Z).b a.fr).rp ((b.rb 3 Z).b a.fr) ((b.rp 4 Z).b a.fr).rp ((b.rb 5 Z).b a.fr) ((b.rp 6 Z).b a.fr).rp ((b.rb 7 Z).b a.fr) ((b.rp 8 Z).b a.fr).rp ((b.rb 9 Z).b a.fr) ((b.rb 10 Z).b a.fr) ((b.rp 11 Z).b a.fr).rp ((b.rb 12 Z).b a.fr) (a.ro 7 Z).rp (a.rb 6 Z)) ?_
  rintro _ w ⟨ab,an,rfl,aT⟩
  have a:=a.e aT
  exact⟨_,_,⟨an,ab,Z,Z,Z⟩,SfT.mk' hZ Rds.nil Off.nil a⟩
 rintro v_q x_q y_q ⟨an,ab,rfl,rfl,rfl⟩
 refine eB 1 Z ?_
 refine gD (fun h v x y=>∃c:Nat,v=P c 0/\x=[Y c [N false,Q3]]/\y=[]) [] [] [] _ Z Z (fun h v x y=>Z) Z Z Z Z ⟨_,_,_,0,Z,Z,Z⟩ (fun w Sl Tl hZ hTT b hP a=>?_) Z ?_
 ·refine lS (bc (cs:=[N false,Q3]) dt Z a) ?_
  rintro _ w ⟨c,rfl,a⟩
  exact⟨_,_,⟨c,Z,Z,Z⟩,SfT.mk' hZ Rds.nil Off.nil a⟩
 rintro v_q x_q y_q ⟨c,rfl,rfl,rfl⟩
 refine cG Z Z (fun w Sb wb hZ b hP hF=>ak (k:=0) u136 Z Z cF Z) Z<|cG Z Z (fun w Sb wb hZ b hP hF=>ar u124 Z Z (hF.q 9 Z 0)) Z<|eB 1 Z ?_
 refine iC (fun h v x y=>∃u:Value,∃c:Nat,h=[(P c 0,[Y c [N false,Q3]],[])]/\v=P c 0/\x=[Y c [N aj.1,u],U X u aj.2]/\y=[]) [(P c 0,[Y c [N false,Q3]],[])] [Y c [N false,Q3]] [] _ Z Z (fun h v x y=>Z) Z Z Z Z ⟨_,_,_,undef,c,Z,Z,Z,Z⟩ (by kernel_rfl) Z (fun w Sl Tl hZ hTT b hP a=>?_) Z ?_
 ·replace a:=a.nil X
  have hG:=a.pick (os':=[Y c [N false,Q3],U X (.slice none 0 0) []]++[Y a7 [N ap.1,aW],U X aW ap.2,Y a6 [N aE.1,aV],U X aV aE.2,Y a5 [N J.1,aU],U X aU J.2,Y bC [N aZ.1,a0],U X a0 aZ.2,Y bz [.pointer none,.pointer none,.pointer none],Y bw [P m 0,P n 0,P o 0]]) [1,0,2,3,4,5,6,7,8,9,10,11] (by decide) Z
  refine cR (pV false G aZ.1 bL hG.f ((b.rp 11 Z).f (W Z) hG) ((b.rb 12 Z).f hG) (hG.giveO 7 Z) (hG.giveB 6 Z)) ?_
  rintro _ w ⟨u,rfl,aT⟩
  have a:=hG.g aT
  exact⟨_,_,⟨u,c,Z,Z,Z,Z⟩,SfT.mk' hZ Rds.nil Off.nil a⟩
 rintro v_q x_q y_q ⟨u,b_31',hh,rfl,rfl,rfl⟩
 replace hh:([(P c 0,[Y c [N false,Q3]],[])]:List Th)=[(P b_31' 0,[Y b_31' [N false,Q3]],[])]:=hh
 cases hh
 refine iC (fun h v x y=>∃ac:Value,∃c:Nat,h=[(P c 0,[Y c [N false,Q3]],[])]/\v=P c 0/\x=[Y c [N aG.1,ac],U X ac aG.2]/\y=[]) [(P c 0,[Y c [N false,Q3]],[])] [Y c [N aj.1,u],U X u aj.2] [] _ Z Z (fun h v x y=>Z) Z Z Z Z ⟨_,_,_,undef,c,Z,Z,Z,Z⟩ (by kernel_rfl) Z (fun w Sl Tl hZ hTT b hP a=>?_) Z ?_
 ·have hG:=a.pick (os':=[Y c [N aj.1,u],U X u aj.2]++[Y a7 [N ap.1,aW],U X aW ap.2,Y a6 [N aE.1,aV],U X aV aE.2,Y a5 [N J.1,aU],U X aU J.2,Y bC [N aZ.1,a0],U X a0 aZ.2,Y bz [.pointer none,.pointer none,.pointer none],Y bw [P m 0,P n 0,P o 0]]) [0,1,2,3,4,5,6,7,8,9,10,11] (by decide) Z
  refine cR (fK d e f g j l aj.1 bM hG.f ((b.rp 0 Z).f (W Z) hG) ((b.rb 1 Z).f hG) ((b.rp 2 Z).f (W Z) hG) ((b.rb 3 Z).f hG) ((b.rp 4 Z).f (W Z) hG) ((b.rb 5 Z).f hG) ((b.rp 6 Z).f (W Z) hG) ((b.rb 7 Z).f hG) ((b.rp 8 Z).f (W Z) hG) ((b.rb 9 Z).f hG) ((b.rb 10 Z).f hG)) ?_
  rintro _ w ⟨ac,rfl,aT⟩
  have a:=hG.g aT
  exact⟨_,_,⟨ac,c,Z,Z,Z,Z⟩,SfT.mk' hZ Rds.nil Off.nil a⟩
 rintro v_q x_q y_q ⟨ac,b_31',hh,rfl,rfl,rfl⟩
 replace hh:([(P c 0,[Y c [N false,Q3]],[])]:List Th)=[(P b_31' 0,[Y b_31' [N false,Q3]],[])]:=hh
 cases hh
 refine iC (fun h v x y=>∃ao:Nat,∃ad:Value,v=P ao 0/\x=[Y ao [N aH.1,ad],U X ad aH.2]/\y=[]) [] [Y an [N aF.1,ab],U X ab aF.2,Y c [N aG.1,ac],U X ac aG.2] [] _ Z Z (fun h v x y=>Z) Z Z Z Z ⟨_,_,_,0,undef,Z,Z,Z⟩ (by kernel_rfl) Z (fun w Sl Tl hZ hTT b hP a=>?_) Z ?_
 ·refine cR (bj d e f g j l aF.1 aG.1 bN ((b.rp 0 Z).b a.fr).rp ((b.rb 1 Z).b a.fr) ((b.rp 2 Z).b a.fr).rp ((b.rb 3 Z).b a.fr) ((b.rp 4 Z).b a.fr).rp ((b.rb 5 Z).b a.fr) ((b.rp 6 Z).b a.fr).rp ((b.rb 7 Z).b a.fr) ((b.rp 8 Z).b a.fr).rp ((b.rb 9 Z).b a.fr) ((b.rb 10 Z).b a.fr) (a.ro 1 Z).rp (a.rb 0 Z) (a.ro 3 Z).rp (a.rb 2 Z)) ?_
  rintro _ w ⟨ad,ao,rfl,aT⟩
  have a:=a.e aT
  exact⟨_,_,⟨ao,ad,Z,Z,Z⟩,SfT.mk' hZ Rds.nil Off.nil (a.d [0,1,6,7,8,9,10,11,12,13,14,15] Z Z)⟩
 rintro v_q x_q y_q ⟨ao,ad,rfl,rfl,rfl⟩
 refine iC (fun h v x y=>∃au:Nat,∃av:Value,v=P au 0/\x=[Y au [N aI.1,av],U X av aI.2]/\y=[]) [] [Y ao [N aH.1,ad],U X ad aH.2] [] _ Z Z (fun h v x y=>Z) Z Z Z Z ⟨_,_,_,0,undef,Z,Z,Z⟩ (by kernel_rfl) Z (fun w Sl Tl hZ hTT b hP a=>?_) Z ?_
 ·refine cR (dr d e f g j l 3 aH.1 bQ ((b.rp 0 Z).b a.fr).rp ((b.rb 1 Z).b a.fr) ((b.rp 2 Z).b a.fr).rp ((b.rb 3 Z).b a.fr) ((b.rp 4 Z).b a.fr).rp ((b.rb 5 Z).b a.fr) ((b.rp 6 Z).b a.fr).rp ((b.rb 7 Z).b a.fr) ((b.rp 8 Z).b a.fr).rp ((b.rb 9 Z).b a.fr) ((b.rb 10 Z).b a.fr) (a.ro 1 Z).rp (a.rb 0 Z)) ?_
  rintro _ w ⟨av,au,rfl,aT⟩
  have a:=a.e aT
  exact⟨_,_,⟨au,av,Z,Z,Z⟩,SfT.mk' hZ Rds.nil Off.nil (a.d [0,1,4,5,6,7,8,9,10,11,12,13] Z Z)⟩
 rintro v_q x_q y_q ⟨au,av,rfl,rfl,rfl⟩
 refine eB 1 Z<|ji fun w hQ=>?_
 obtain⟨cl,cj,hZ,b,hP,a⟩:=hQ
 refine am<|R<|V 4 Z<|M h fun b8 bS h=>bA a Z (bj d e f g j l aI.1 aI.1 bS ((b.rp 0 Z).b a.fr).rp ((b.rb 1 Z).b a.fr) ((b.rp 2 Z).b a.fr).rp ((b.rb 3 Z).b a.fr) ((b.rp 4 Z).b a.fr).rp ((b.rb 5 Z).b a.fr) ((b.rp 6 Z).b a.fr).rp ((b.rb 7 Z).b a.fr) ((b.rp 8 Z).b a.fr).rp ((b.rb 9 Z).b a.fr) ((b.rb 10 Z).b a.fr) (a.ro 1 Z).rp (a.rb 0 Z) (a.ro 1 Z).rp (a.rb 0 Z)) Z fun cm cn w a=>V 2 Z<|M h fun b9 bT h=>bA a Z (dr d e f g j l 2 ap.1 bT ((b.rp 0 Z).b a.fr).rp ((b.rb 1 Z).b a.fr) ((b.rp 2 Z).b a.fr).rp ((b.rb 3 Z).b a.fr) ((b.rp 4 Z).b a.fr).rp ((b.rb 5 Z).b a.fr) ((b.rp 6 Z).b a.fr).rp ((b.rb 7 Z).b a.fr) ((b.rp 8 Z).b a.fr).rp ((b.rb 9 Z).b a.fr) ((b.rb 10 Z).b a.fr) (a.ro 5 Z).rp (a.rb 4 Z)) Z fun co cp w a=>M h fun ca bU h=>bA a Z (cw d e f g j l b8.1 b9.1 bU ((b.rp 0 Z).b a.fr).rp ((b.rb 1 Z).b a.fr) ((b.rp 2 Z).b a.fr).rp ((b.rb 3 Z).b a.fr) ((b.rp 4 Z).b a.fr).rp ((b.rb 5 Z).b a.fr) ((b.rp 6 Z).b a.fr).rp ((b.rb 7 Z).b a.fr) ((b.rp 8 Z).b a.fr).rp ((b.rb 9 Z).b a.fr) ((b.rb 10 Z).b a.fr) (a.ro 3 Z).rp (a.rb 2 Z) (a.ro 1 Z).rp (a.rb 0 Z)) Z fun cb aX w a=>V 1 Z<|gl1 ?_
 refine al<|V 6 Z<|M h fun cc bW h=>bA a Z (cw d e f g j l ap.1 ca.1 bW ((b.rp 0 Z).b a.fr).rp ((b.rb 1 Z).b a.fr) ((b.rp 2 Z).b a.fr).rp ((b.rb 3 Z).b a.fr) ((b.rp 4 Z).b a.fr).rp ((b.rb 5 Z).b a.fr) ((b.rp 6 Z).b a.fr).rp ((b.rb 7 Z).b a.fr) ((b.rp 8 Z).b a.fr).rp ((b.rb 9 Z).b a.fr) ((b.rb 10 Z).b a.fr) (a.ro 9 Z).rp (a.rb 8 Z) (a.ro 1 Z).rp (a.rb 0 Z)) Z fun cq cr w a=>M h fun cd bX h=>bA a Z (bj d e f g j l aI.1 cc.1 bX ((b.rp 0 Z).b a.fr).rp ((b.rb 1 Z).b a.fr) ((b.rp 2 Z).b a.fr).rp ((b.rb 3 Z).b a.fr) ((b.rp 4 Z).b a.fr).rp ((b.rb 5 Z).b a.fr) ((b.rp 6 Z).b a.fr).rp ((b.rb 7 Z).b a.fr) ((b.rp 8 Z).b a.fr).rp ((b.rb 9 Z).b a.fr) ((b.rb 10 Z).b a.fr) (a.ro 9 Z).rp (a.rb 8 Z) (a.ro 1 Z).rp (a.rb 0 Z)) Z fun ct cu w a=>V 4 Z<|M h fun ce bY h=>bA a Z (bj d e f g j l J.1 J.1 bY ((b.rp 0 Z).b a.fr).rp ((b.rb 1 Z).b a.fr) ((b.rp 2 Z).b a.fr).rp ((b.rb 3 Z).b a.fr) ((b.rp 4 Z).b a.fr).rp ((b.rb 5 Z).b a.fr) ((b.rp 6 Z).b a.fr).rp ((b.rb 7 Z).b a.fr) ((b.rp 8 Z).b a.fr).rp ((b.rb 9 Z).b a.fr) ((b.rb 10 Z).b a.fr) (a.ro 17 Z).rp (a.rb 16 Z) (a.ro 17 Z).rp (a.rb 16 Z)) Z fun cv cz w a=>M h fun cf bZ h=>?_
 refine bA a Z (dr d e f g j l 8 ce.1 bZ ((b.rp 0 Z).b a.fr).rp ((b.rb 1 Z).b a.fr) ((b.rp 2 Z).b a.fr).rp ((b.rb 3 Z).b a.fr) ((b.rp 4 Z).b a.fr).rp ((b.rb 5 Z).b a.fr) ((b.rp 6 Z).b a.fr).rp ((b.rb 7 Z).b a.fr) ((b.rp 8 Z).b a.fr).rp ((b.rb 9 Z).b a.fr) ((b.rb 10 Z).b a.fr) (a.ro 1 Z).rp (a.rb 0 Z)) Z fun cA cB w a=>M h fun cC b0 h=>bA a Z (cw d e f g j l cd.1 cf.1 b0 ((b.rp 0 Z).b a.fr).rp ((b.rb 1 Z).b a.fr) ((b.rp 2 Z).b a.fr).rp ((b.rb 3 Z).b a.fr) ((b.rp 4 Z).b a.fr).rp ((b.rb 5 Z).b a.fr) ((b.rp 6 Z).b a.fr).rp ((b.rb 7 Z).b a.fr) ((b.rp 8 Z).b a.fr).rp ((b.rb 9 Z).b a.fr) ((b.rb 10 Z).b a.fr) (a.ro 5 Z).rp (a.rb 4 Z) (a.ro 1 Z).rp (a.rb 0 Z)) Z fun cg aY w a=>V 1 Z<|gl2<|V 4 Z<|O (ak (k:=1) u136 Z Z cF Z) Z<|O (ar u124 Z Z (a.q 27 Z 1)) Z<|O (ak (k:=2) u136 Z Z cF Z) Z<|O (ar u124 Z Z (a.q 27 Z 2)) Z<|M h fun ch b1 h=>bA a Z (bj d e f g j l L t b1 ((b.rp 0 Z).b a.fr).rp ((b.rb 1 Z).b a.fr) ((b.rp 2 Z).b a.fr).rp ((b.rb 3 Z).b a.fr) ((b.rp 4 Z).b a.fr).rp ((b.rb 5 Z).b a.fr) ((b.rp 6 Z).b a.fr).rp ((b.rb 7 Z).b a.fr) ((b.rp 8 Z).b a.fr).rp ((b.rb 9 Z).b a.fr) ((b.rb 10 Z).b a.fr) ((b.rp 13 Z).b a.fr).rp ((b.rb 14 Z).b a.fr) ((b.rp 15 Z).b a.fr).rp ((b.rb 16 Z).b a.fr)) Z ?_
 rintro cD cE w a
 refine M h fun cH b2 h=>bA a Z (dr d e f g j l 2 ch.1 b2 ((b.rp 0 Z).b a.fr).rp ((b.rb 1 Z).b a.fr) ((b.rp 2 Z).b a.fr).rp ((b.rb 3 Z).b a.fr) ((b.rp 4 Z).b a.fr).rp ((b.rb 5 Z).b a.fr) ((b.rp 6 Z).b a.fr).rp ((b.rb 7 Z).b a.fr) ((b.rp 8 Z).b a.fr).rp ((b.rb 9 Z).b a.fr) ((b.rb 10 Z).b a.fr) (a.ro 1 Z).rp (a.rb 0 Z)) Z fun ci aD w a=>O (bR (vs:=[(0,P aX 0,[P aX 0]),(1,P aY 0,[P aY 0]),(2,P aD 0,[P aD 0])]) (cells:=[P aX 0,P aY 0,P aD 0]) Z mh ⟨Z,Z,Z,K⟩ Z) Z<|bm (bp (i:=30) (us:=[P aX 0,P aY 0,P aD 0]) Z bV Z Z Z ⟨Z,Z,Z,K⟩ Z a) fun w a=>Q<|aq ?_
 cases h
 obtain⟨bB,hR⟩:=hZ.outT hTT b hP a
 exact eu Z ⟨_,Z,bP (us:=[P aX 0,P aY 0,P aD 0]) u136 Z bV (a.p 30 Z Z)⟩ ⟨aX,cb,aY,cg,aD,ci,Z,bB,(hR.pick [48,47,44,43,34,33] Z)⟩
theorem j8 {s:World} {aT aU aV aW aX aZ a0 a1 a2 a3 a4:Q0} {ad ae ah aj al A B C D E G:Value} {bw aL aM aO aP aR l m n o p q:Nat} {T:Q2} (c d e f g:Bool) (j:Int) (L ab t aw aA y:Bool) {r:Bool×Q0×Bool×Q0×Bool×Q0}
  (h:F.Hv c aT d aU e aV f aW g aX j L aZ ab a0 t a1 aw a2 aA a3 y a4=some r) (hTT:TOk [] T s) (bD:RP T s X ad aT) (bS:RB T s aL [N c,ad]) (bE:RP T s X ae aU) (bT:RB T s aM [N d,ae]) (bF:RP T s X ah aV) (bU:RB T s aO [N e,ah]) (bG:RP T s X aj aW) (bW:RB T s aP [N f,aj]) (bH:RP T s X al aX) (bX:RB T s aR [N g,al]) (hBa0:RB T s bw [P aL 0,P aM 0,P aO 0,P aP 0,P aR 0,H j,.func (.func 159) #[] #[]]) (bI:RP T s X A aZ) (bY:RB T s l [N L,A]) (bJ:RP T s X B a0) (bZ:RB T s m [N ab,B]) (bL:RP T s X C a1) (b0:RB T s n [N t,C]) (bM:RP T s X D a2) (b1:RB T s o [N aw,D]) (bN:RP T s X E a3) (b2:RB T s p [N aA,E]) (bQ:RP T s X G a4) (b3:RB T s q [N y,G]):Calls Tryz.prog 85 #[P bw 0,.agg #[P l 0,P m 0,P n 0],.agg #[P o 0,P p 0,P q 0]] s (Ret fun v w=>∃b4:Nat,∃be:Value,∃b5:Nat,∃bf:Value,∃b6:Nat,∃bg:Value,v=.agg #[P b4 0,P b5 0,P b6 0]/\St [] s w []/\Rds T w [Y b6 [N r.2.2.2.2.1,bg],red X bg r.2.2.2.2.2,Y b5 [N r.2.2.1,bf],red X bf r.2.2.2.1,Y b4 [N r.1,be],red X be r.2.1]):=by
 refine ay 137 Tryz.func85 Z Z Z<|have a:=St.k s;have hZ:=Fz.k (S:=[]) (w0:=s);?_
 have hA0:Rds T s [Y q [N y,G],red X G a4,Y p [N aA,E],red X E a3,Y o [N aw,D],red X D a2,Y n [N t,C],red X C a1,Y m [N ab,B],red X B a0,Y l [N L,A],red X A aZ,Y bw [P aL 0,P aM 0,P aO 0,P aP 0,P aR 0,H j,.func (.func 159) #[] #[]],Y aR [N g,al],red X al aX,Y aP [N f,aj],red X aj aW,Y aO [N e,ah],red X ah aV,Y aM [N d,ae],red X ae aU,Y aL [N c,ad],red X ad aT]:=I b3.h (I (RP.h (W Z) bQ) (I b2.h (I (RP.h (W Z) bN) (I b1.h (I (RP.h (W Z) bM) (I b0.h (I (RP.h (W Z) bL) (I bZ.h (I (RP.h (W Z) bJ) (I bY.h (I (RP.h (W Z) bI) (I hBa0.h (I bX.h (I (RP.h (W Z) bH) (I bW.h (I (RP.h (W Z) bG) (I bU.h (I (RP.h (W Z) bF) (I bT.h (I (RP.h (W Z) bE) (I bS.h (I (RP.h (W Z) bD) (Rds.nil)))))))))))))))))))))))
 have b:=hA0.all
 have z:=hA0.off Z
 refine ax [(0,P bw 0),(1,.agg #[P l 0,P m 0,P n 0]),(2,.agg #[P o 0,P p 0,P q 0])] Z ?_
 unfold F.Hv at h
 refine R<|bl (cy (cs:=[P l 0,P m 0,P n 0]) Z Z a) Z fun bz w a=>bl (cy (cs:=[P o 0,P p 0,P q 0]) Z Z a) Z fun bB w a=>bl (bc (cs:=[.pointer none,.pointer none,.pointer none]) gZ Z a) Z fun bC w a=>gl1<|R<|O (ak (k:=2) u136 Z Z cF Z) Z<|O (ar u124 Z Z (a.q 2 Z 2)) Z<|M h fun dF cW h=>aS a Z (dq t cW ((b.rp 15 Z).b a.fr).rp ((b.rb 16 Z).b a.fr)) Z fun w a=>V 1 Z<|Q ?_
 apply gl9 Z h<;>intro h
 ·refine R<|O (bO (us:=[P o 0,P p 0,P q 0]) u136 Z bV Z (a.p 1 Z Z)) Z<|bm (bp (i:=0) (us:=[P o 0,P p 0,P q 0]) Z bV Z Z Z ⟨Z,Z,Z,K⟩ Z a) fun w a=>gl8 ?_
  cases h
  obtain⟨aB,hR⟩:=hZ.outT hTT b z a
  exact eu Z ⟨_,Z,bP (us:=[P o 0,P p 0,P q 0]) u136 Z bV (a.p 0 Z Z)⟩ ⟨o,D,p,E,q,G,Z,aB,(hR.pick [22,21,20,19,18,17] Z)⟩
 refine gl5<|az<|R<|O (ak (k:=2) u136 Z Z cF Z) Z<|O (ar u124 Z Z (a.q 1 Z 2)) Z<|M h fun dG cX h=>aS a Z (dq y cX ((b.rp 21 Z).b a.fr).rp ((b.rb 22 Z).b a.fr)) Z fun w a=>V 1 Z<|Q ?_
 apply gl9 Z h<;>intro h
 ·refine R<|O (bO (us:=[P l 0,P m 0,P n 0]) u136 Z bV Z (a.p 2 Z Z)) Z<|bm (bp (i:=0) (us:=[P l 0,P m 0,P n 0]) Z bV Z Z Z ⟨Z,Z,Z,K⟩ Z a) fun w a=>gl8 ?_
  cases h
  obtain⟨aB,hR⟩:=hZ.outT hTT b z a
  exact eu Z ⟨_,Z,bP (us:=[P l 0,P m 0,P n 0]) u136 Z bV (a.p 0 Z Z)⟩ ⟨l,A,m,B,n,C,Z,aB,(hR.pick [16,15,14,13,12,11] Z)⟩
 refine gl5<|az<|aQ (fun w'=>St [] s w' [Y bC [.pointer none,.pointer none,.pointer none],Y bB [P o 0,P p 0,P q 0],Y bz [P l 0,P m 0,P n 0]]) (fun i=>!([5,11].contains i)) bK (fun _ _ _ hf=>hf.2) (fun _ _ hf=>hf) (by kernel_rfl)<|have a:=a.drew;show lxE _ _ _ _ _ _ _ [0,1,2,3,4,5,6,7,8,9,10,11,12,13] _ _ from an 1 Z a<|J a Z Z (fun w u=>ak (k:=2) u136 Z Z cF Z) Z<|J a Z Z (fun w u=>ar u124 Z Z (u.q 2 Z 2)) Z<|J a Z Z (fun w u=>ak (k:=2) u136 Z Z cF Z) Z<|J a Z Z (fun w u=>ar u124 Z Z (u.q 2 Z 2)) Z<|M h fun aK cY h=>aY a Z Z (by kernel_rfl) Z (bj c d e f g j t t cY ((b.rp 0 Z).b a.fr).rp ((b.rb 1 Z).b a.fr) ((b.rp 2 Z).b a.fr).rp ((b.rb 3 Z).b a.fr) ((b.rp 4 Z).b a.fr).rp ((b.rb 5 Z).b a.fr) ((b.rp 6 Z).b a.fr).rp ((b.rb 7 Z).b a.fr) ((b.rp 8 Z).b a.fr).rp ((b.rb 9 Z).b a.fr) ((b.rb 10 Z).b a.fr) ((b.rp 15 Z).b a.fr).rp ((b.rb 16 Z).b a.fr) ((b.rp 15 Z).b a.fr).rp ((b.rb 16 Z).b a.fr)) Z ?_
 rintro _ w ⟨aC,bn,rfl,x⟩
 have a:=a.e x
 refine an 1 Z (a.d [2,3,4] Z Z)<|J (a.d [2,3,4] Z Z) Z Z (fun w u=>ak (k:=2) u136 Z Z cF Z) Z<|J (a.d [2,3,4] Z Z) Z Z (fun w u=>ar u124 Z Z (u.q 1 Z 2)) Z<|J (a.d [2,3,4] Z Z) Z Z (fun w u=>ak (k:=2) u136 Z Z cF Z) Z<|J (a.d [2,3,4] Z Z) Z Z (fun w u=>ar u124 Z Z (u.q 1 Z 2)) Z<|M h fun ac cr h=>aY (a.d [2,3,4] Z Z) Z Z (by kernel_rfl) Z (bj c d e f g j y y cr ((b.rp 0 Z).b a.fr).rp ((b.rb 1 Z).b a.fr) ((b.rp 2 Z).b a.fr).rp ((b.rb 3 Z).b a.fr) ((b.rp 4 Z).b a.fr).rp ((b.rb 5 Z).b a.fr) ((b.rp 6 Z).b a.fr).rp ((b.rb 7 Z).b a.fr) ((b.rp 8 Z).b a.fr).rp ((b.rb 9 Z).b a.fr) ((b.rb 10 Z).b a.fr) ((b.rp 21 Z).b a.fr).rp ((b.rb 22 Z).b a.fr) ((b.rp 21 Z).b a.fr).rp ((b.rb 22 Z).b a.fr)) Z ?_
 rintro _ w ⟨aD,bo,rfl,x⟩
 have a:=a.e x
 refine an 2 Z (a.d [4,5,6] Z Z)<|a8 (a.d [4,5,6] Z Z)<|am<|az<|aQ (fun w'=>St [] s w' [Y bo [N ac.1,aD],U X aD ac.2,Y bn [N aK.1,aC],U X aC aK.2,Y bC [.pointer none,.pointer none,.pointer none],Y bB [P o 0,P p 0,P q 0],Y bz [P l 0,P m 0,P n 0]]) (fun i=>!([4,9].contains i)) bK (fun _ _ _ hf=>hf.2) (fun _ _ hf=>hf) (by kernel_rfl)<|have a:=a.drew;show lxE _ _ _ _ _ _ _ [0,1,2,3,4,5,6,7,8,9,10,11] _ _ from an 1 Z a<|J a Z Z (fun w u=>ak (k:=0) u136 Z Z cF Z) Z<|J a Z Z (fun w u=>ar u124 Z Z (u.q 6 Z 0)) Z<|an 1 Z a<|M h fun aE ct h=>aY a Z Z (by kernel_rfl) Z (bj c d e f g j L ac.1 ct ((b.rp 0 Z).b a.fr).rp ((b.rb 1 Z).b a.fr) ((b.rp 2 Z).b a.fr).rp ((b.rb 3 Z).b a.fr) ((b.rp 4 Z).b a.fr).rp ((b.rb 5 Z).b a.fr) ((b.rp 6 Z).b a.fr).rp ((b.rb 7 Z).b a.fr) ((b.rp 8 Z).b a.fr).rp ((b.rb 9 Z).b a.fr) ((b.rb 10 Z).b a.fr) ((b.rp 11 Z).b a.fr).rp ((b.rb 12 Z).b a.fr) (a.ro 1 Z).rp (a.rb 0 Z)) Z ?_
 rintro _ w ⟨ba,b7,rfl,x⟩
 have a:=a.e x
 refine an 1 Z (a.d [2,3,4,5,6,7,8] Z Z)<|J (a.d [2,3,4,5,6,7,8] Z Z) Z Z (fun w u=>ak (k:=0) u136 Z Z cF Z) Z<|J (a.d [2,3,4,5,6,7,8] Z Z) Z Z (fun w u=>ar u124 Z Z (u.q 5 Z 0)) Z<|an 1 Z (a.d [2,3,4,5,6,7,8] Z Z)<|M h fun a6 cu h=>aY (a.d [2,3,4,5,6,7,8] Z Z) Z Z (by kernel_rfl) Z (bj c d e f g j aw aK.1 cu ((b.rp 0 Z).b a.fr).rp ((b.rb 1 Z).b a.fr) ((b.rp 2 Z).b a.fr).rp ((b.rb 3 Z).b a.fr) ((b.rp 4 Z).b a.fr).rp ((b.rb 5 Z).b a.fr) ((b.rp 6 Z).b a.fr).rp ((b.rb 7 Z).b a.fr) ((b.rp 8 Z).b a.fr).rp ((b.rb 9 Z).b a.fr) ((b.rb 10 Z).b a.fr) ((b.rp 17 Z).b a.fr).rp ((b.rb 18 Z).b a.fr) (a.ro 5 Z).rp (a.rb 4 Z)) Z ?_
 rintro _ w ⟨bb,b8,rfl,x⟩
 have a:=a.e x
 refine an 2 Z (a.d [4,5,6,7,8,9,10] Z Z)<|a8 (a.d [4,5,6,7,8,9,10] Z Z)<|am<|az<|aQ (fun w'=>St [] s w' [Y b8 [N a6.1,bb],U X bb a6.2,Y b7 [N aE.1,ba],U X ba aE.2,Y bo [N ac.1,aD],U X aD ac.2,Y bn [N aK.1,aC],U X aC aK.2,Y bC [.pointer none,.pointer none,.pointer none],Y bB [P o 0,P p 0,P q 0],Y bz [P l 0,P m 0,P n 0]]) (fun i=>!([7,8,16,17].contains i)) bK (fun _ _ _ hf=>hf.2) (fun _ _ hf=>hf) (by kernel_rfl)<|have a:=a.drew;show lxE _ _ _ _ _ _ _ [0,1,2,3,4,5,6,7,8,9,10,11,12,13,14,15,16,17,18,19] _ _ from an 1 Z a<|J a Z Z (fun w u=>ak (k:=1) u136 Z Z cF Z) Z<|J a Z Z (fun w u=>ar u124 Z Z (u.q 10 Z 1)) Z<|an 1 Z a<|J a Z Z (fun w u=>ak (k:=2) u136 Z Z cF Z) Z<|J a Z Z (fun w u=>ar u124 Z Z (u.q 9 Z 2)) Z<|an 1 Z a<|M h fun bq cv h=>aY a Z Z (by kernel_rfl) Z (bj c d e f g j y ac.1 cv ((b.rp 0 Z).b a.fr).rp ((b.rb 1 Z).b a.fr) ((b.rp 2 Z).b a.fr).rp ((b.rb 3 Z).b a.fr) ((b.rp 4 Z).b a.fr).rp ((b.rb 5 Z).b a.fr) ((b.rp 6 Z).b a.fr).rp ((b.rb 7 Z).b a.fr) ((b.rp 8 Z).b a.fr).rp ((b.rb 9 Z).b a.fr) ((b.rb 10 Z).b a.fr) ((b.rp 21 Z).b a.fr).rp ((b.rb 22 Z).b a.fr) (a.ro 5 Z).rp (a.rb 4 Z)) Z ?_
 rintro _ w ⟨b9,cZ,rfl,x⟩
 have a:=a.e x
 refine M h fun bd cx h=>aY (a.d [2,3,4,5,6,7,8,9,10,11,12] Z Z) Z Z (by kernel_rfl) Z (bj c d e f g j ab bq.1 cx ((b.rp 0 Z).b a.fr).rp ((b.rb 1 Z).b a.fr) ((b.rp 2 Z).b a.fr).rp ((b.rb 3 Z).b a.fr) ((b.rp 4 Z).b a.fr).rp ((b.rb 5 Z).b a.fr) ((b.rp 6 Z).b a.fr).rp ((b.rb 7 Z).b a.fr) ((b.rp 8 Z).b a.fr).rp ((b.rb 9 Z).b a.fr) ((b.rb 10 Z).b a.fr) ((b.rp 13 Z).b a.fr).rp ((b.rb 14 Z).b a.fr) (a.ro 1 Z).rp (a.rb 0 Z)) Z ?_
 rintro _ w ⟨ca,c0,rfl,x⟩
 have a:=a.e x
 refine an 1 Z (a.d [4,5,6,7,8,9,10,11,12,13,14] Z Z)<|J (a.d [4,5,6,7,8,9,10,11,12,13,14] Z Z) Z Z (fun w u=>ak (k:=1) u136 Z Z cF Z) Z<|J (a.d [4,5,6,7,8,9,10,11,12,13,14] Z Z) Z Z (fun w u=>ar u124 Z Z (u.q 9 Z 1)) Z<|an 1 Z (a.d [4,5,6,7,8,9,10,11,12,13,14] Z Z)<|J (a.d [4,5,6,7,8,9,10,11,12,13,14] Z Z) Z Z (fun w u=>ak (k:=2) u136 Z Z cF Z) Z<|J (a.d [4,5,6,7,8,9,10,11,12,13,14] Z Z) Z Z (fun w u=>ar u124 Z Z (u.q 10 Z 2)) Z<|an 1 Z (a.d [4,5,6,7,8,9,10,11,12,13,14] Z Z)<|M h fun br cz h=>aY (a.d [4,5,6,7,8,9,10,11,12,13,14] Z Z) Z Z (by kernel_rfl) Z (bj c d e f g j t aK.1 cz ((b.rp 0 Z).b a.fr).rp ((b.rb 1 Z).b a.fr) ((b.rp 2 Z).b a.fr).rp ((b.rb 3 Z).b a.fr) ((b.rp 4 Z).b a.fr).rp ((b.rb 5 Z).b a.fr) ((b.rp 6 Z).b a.fr).rp ((b.rb 7 Z).b a.fr) ((b.rp 8 Z).b a.fr).rp ((b.rb 9 Z).b a.fr) ((b.rb 10 Z).b a.fr) ((b.rp 15 Z).b a.fr).rp ((b.rb 16 Z).b a.fr) (a.ro 11 Z).rp (a.rb 10 Z)) Z ?_
 rintro _ w ⟨cb,c1,rfl,x⟩
 have a:=a.e x
 refine M h fun bs cA h=>aY (a.d [6,7,8,9,10,11,12,13,14,15,16] Z Z) Z Z (by kernel_rfl) Z (bj c d e f g j aA br.1 cA ((b.rp 0 Z).b a.fr).rp ((b.rb 1 Z).b a.fr) ((b.rp 2 Z).b a.fr).rp ((b.rb 3 Z).b a.fr) ((b.rp 4 Z).b a.fr).rp ((b.rb 5 Z).b a.fr) ((b.rp 6 Z).b a.fr).rp ((b.rb 7 Z).b a.fr) ((b.rp 8 Z).b a.fr).rp ((b.rb 9 Z).b a.fr) ((b.rb 10 Z).b a.fr) ((b.rp 19 Z).b a.fr).rp ((b.rb 20 Z).b a.fr) (a.ro 1 Z).rp (a.rb 0 Z)) Z ?_
 rintro _ w ⟨cc,c2,rfl,x⟩
 have a:=a.e x
 refine an 2 Z (a.d [8,9,10,11,12,13,14,15,16,17,18] Z Z)<|a8 (a.d [8,9,10,11,12,13,14,15,16,17,18] Z Z)<|am<|R<|V 3 Z<|M h fun av cB h=>bA a Z (cw c d e f g j a6.1 aE.1 cB ((b.rp 0 Z).b a.fr).rp ((b.rb 1 Z).b a.fr) ((b.rp 2 Z).b a.fr).rp ((b.rb 3 Z).b a.fr) ((b.rp 4 Z).b a.fr).rp ((b.rb 5 Z).b a.fr) ((b.rp 6 Z).b a.fr).rp ((b.rb 7 Z).b a.fr) ((b.rp 8 Z).b a.fr).rp ((b.rb 9 Z).b a.fr) ((b.rb 10 Z).b a.fr) (a.ro 9 Z).rp (a.rb 8 Z) (a.ro 11 Z).rp (a.rb 10 Z)) Z fun cd c3 w a=>V 3 Z<|M h fun aF cC h=>bA a Z (cw c d e f g j bs.1 bd.1 cC ((b.rp 0 Z).b a.fr).rp ((b.rb 1 Z).b a.fr) ((b.rp 2 Z).b a.fr).rp ((b.rb 3 Z).b a.fr) ((b.rp 4 Z).b a.fr).rp ((b.rb 5 Z).b a.fr) ((b.rp 6 Z).b a.fr).rp ((b.rb 7 Z).b a.fr) ((b.rp 8 Z).b a.fr).rp ((b.rb 9 Z).b a.fr) ((b.rb 10 Z).b a.fr) (a.ro 3 Z).rp (a.rb 2 Z) (a.ro 7 Z).rp (a.rb 6 Z)) Z fun ce c4 w a=>V 2 Z<|gl1<|R<|V 1 Z<|M h fun ds cD h=>aS a Z (dq av.1 cD (a.ro 3 Z).rp (a.rb 2 Z)) Z fun w a=>V 1 Z<|Q ?_
 apply gl9 Z h<;>intro h
 ·refine az<|R<|V 1 Z<|M h fun dt cE h=>aS a Z (dq aF.1 cE (a.ro 1 Z).rp (a.rb 0 Z)) Z fun w a=>V 1 Z<|Q ?_
  apply gl9 Z h<;>intro h
  ·refine R<|V 1 Z<|O (bO (us:=[P l 0,P m 0,P n 0]) u136 Z bV Z (a.p 22 Z Z)) Z ?_
   replace a:=a.pick (os':=[Y c4 [N aF.1,ce],U X ce aF.2,Y c3 [N av.1,cd],U X cd av.2,Y c2 [N bs.1,cc],U X cc bs.2,Y c1 [N br.1,cb],U X cb br.2,Y c0 [N bd.1,ca],U X ca bd.2,Y cZ [N bq.1,b9],U X b9 bq.2,Y b8 [N a6.1,bb],U X bb a6.2,Y b7 [N aE.1,ba],U X ba aE.2,Y bo [N ac.1,aD],U X aD ac.2,Y bn [N aK.1,aC],U X aC aK.2]++[Y bC [.pointer none,.pointer none,.pointer none],Y bB [P o 0,P p 0,P q 0],Y bz [P l 0,P m 0,P n 0]]) [0,1,2,3,4,5,6,7,8,9,10,11,12,13,14,15,16,17,18,19,20,21,22] (by decide) rfl
   obtain⟨hZ,b,z,a⟩:=hZ.frzK hTT b z a
   refine M h fun du cG h=>aJ Z (iU c d e f g j L ab t cG (hZ.okT hTT a) (b.i z 0 Z) (b.j z 1 Z) (b.i z 2 Z) (b.j z 3 Z) (b.i z 4 Z) (b.j z 5 Z) (b.i z 6 Z) (b.j z 7 Z) (b.i z 8 Z) (b.j z 9 Z) (b.j z 10 Z) (b.i z 11 Z) (b.j z 12 Z) (b.i z 13 Z) (b.j z 14 Z) (b.i z 15 Z) (b.j z 16 Z)) Z ?_
   rintro _ w ⟨aG,bh,aH,bi,aI,bk,rfl,x,c9⟩
   obtain⟨dv,da,hZ,b,z,a⟩:=hZ.l b z a x c9 rfl
   refine bm (bp (i:=0) (us:=[P aG 0,P aH 0,P aI 0]) Z bV Z Z Z ⟨Z,Z,Z,K⟩ Z a) fun w a=>gl8<|aN ?_
   cases h
   obtain⟨aB,hR⟩:=hZ.outT hTT b z a
   exact eu Z ⟨_,Z,bP (us:=[P aG 0,P aH 0,P aI 0]) u136 Z bV (a.p 0 Z Z)⟩ ⟨aG,bh,aH,bi,aI,bk,Z,aB,(hR.pick [48,47,46,45,44,43] Z)⟩
  refine gl6<|M h fun dw cH h=>aJ Z (f9  cH ) Z ?_
  rintro _ w ⟨c5,c6,c7,bt,bu,bv,rfl,x⟩
  have a:=a.e x
  refine bm (bp (i:=26) (us:=[P bt 0,P bu 0,P bv 0]) Z bV Z Z Z ⟨Z,Z,Z,K⟩ Z a) fun w a=>gl8 ?_
  cases h
  obtain⟨aB,hR⟩:=hZ.outT hTT b z a
  exact eu Z ⟨_,Z,bP (us:=[P bt 0,P bu 0,P bv 0]) u136 Z bV (a.p 26 Z Z)⟩ ⟨bt,c5,bu,c6,bv,c7,Z,aB,(hR.pick [47,46,49,48,51,50] Z)⟩
 refine gl6<|V 3 Z<|M h fun cf cI h=>bA a Z (bj c d e f g j av.1 av.1 cI ((b.rp 0 Z).b a.fr).rp ((b.rb 1 Z).b a.fr) ((b.rp 2 Z).b a.fr).rp ((b.rb 3 Z).b a.fr) ((b.rp 4 Z).b a.fr).rp ((b.rb 5 Z).b a.fr) ((b.rp 6 Z).b a.fr).rp ((b.rb 7 Z).b a.fr) ((b.rp 8 Z).b a.fr).rp ((b.rb 9 Z).b a.fr) ((b.rb 10 Z).b a.fr) (a.ro 3 Z).rp (a.rb 2 Z) (a.ro 3 Z).rp (a.rb 2 Z)) Z fun dx dy w a=>V 1 Z<|gl2<|V 3 Z<|M h fun cg cJ h=>bA a Z (bj c d e f g j av.1 cf.1 cJ ((b.rp 0 Z).b a.fr).rp ((b.rb 1 Z).b a.fr) ((b.rp 2 Z).b a.fr).rp ((b.rb 3 Z).b a.fr) ((b.rp 4 Z).b a.fr).rp ((b.rb 5 Z).b a.fr) ((b.rp 6 Z).b a.fr).rp ((b.rb 7 Z).b a.fr) ((b.rp 8 Z).b a.fr).rp ((b.rb 9 Z).b a.fr) ((b.rb 10 Z).b a.fr) (a.ro 5 Z).rp (a.rb 4 Z) (a.ro 1 Z).rp (a.rb 0 Z)) Z fun dz dA w a=>V 3 Z<|M h fun ch cK h=>bA a Z (bj c d e f g j aE.1 cf.1 cK ((b.rp 0 Z).b a.fr).rp ((b.rb 1 Z).b a.fr) ((b.rp 2 Z).b a.fr).rp ((b.rb 3 Z).b a.fr) ((b.rp 4 Z).b a.fr).rp ((b.rb 5 Z).b a.fr) ((b.rp 6 Z).b a.fr).rp ((b.rb 7 Z).b a.fr) ((b.rp 8 Z).b a.fr).rp ((b.rb 9 Z).b a.fr) ((b.rb 10 Z).b a.fr) (a.ro 19 Z).rp (a.rb 18 Z) (a.ro 3 Z).rp (a.rb 2 Z)) Z ?_
 rintro dB dC w a
 refine V 2 Z<|gl2<|V 5 Z<|M h fun c8 cL h=>bA a Z (bj c d e f g j aF.1 aF.1 cL ((b.rp 0 Z).b a.fr).rp ((b.rb 1 Z).b a.fr) ((b.rp 2 Z).b a.fr).rp ((b.rb 3 Z).b a.fr) ((b.rp 4 Z).b a.fr).rp ((b.rb 5 Z).b a.fr) ((b.rp 6 Z).b a.fr).rp ((b.rb 7 Z).b a.fr) ((b.rp 8 Z).b a.fr).rp ((b.rb 9 Z).b a.fr) ((b.rb 10 Z).b a.fr) (a.ro 7 Z).rp (a.rb 6 Z) (a.ro 7 Z).rp (a.rb 6 Z)) Z fun dD dE w a=>V 1 Z<|M h fun cM ci h=>bA a Z (cw c d e f g j c8.1 cg.1 ci ((b.rp 0 Z).b a.fr).rp ((b.rb 1 Z).b a.fr) ((b.rp 2 Z).b a.fr).rp ((b.rb 3 Z).b a.fr) ((b.rp 4 Z).b a.fr).rp ((b.rb 5 Z).b a.fr) ((b.rp 6 Z).b a.fr).rp ((b.rb 7 Z).b a.fr) ((b.rp 8 Z).b a.fr).rp ((b.rb 9 Z).b a.fr) ((b.rb 10 Z).b a.fr) (a.ro 1 Z).rp (a.rb 0 Z) (a.ro 5 Z).rp (a.rb 4 Z)) Z fun db dc w a=>V 2 Z<|M h fun cN cj h=>bA a Z (dr c d e f g j 2 ch.1 cj ((b.rp 0 Z).b a.fr).rp ((b.rb 1 Z).b a.fr) ((b.rp 2 Z).b a.fr).rp ((b.rb 3 Z).b a.fr) ((b.rp 4 Z).b a.fr).rp ((b.rb 5 Z).b a.fr) ((b.rp 6 Z).b a.fr).rp ((b.rb 7 Z).b a.fr) ((b.rp 8 Z).b a.fr).rp ((b.rb 9 Z).b a.fr) ((b.rb 10 Z).b a.fr) (a.ro 5 Z).rp (a.rb 4 Z)) Z fun dd de w a=>?_
 refine M h fun cO ck h=>bA a Z (cw c d e f g j cM.1 cN.1 ck ((b.rp 0 Z).b a.fr).rp ((b.rb 1 Z).b a.fr) ((b.rp 2 Z).b a.fr).rp ((b.rb 3 Z).b a.fr) ((b.rp 4 Z).b a.fr).rp ((b.rb 5 Z).b a.fr) ((b.rp 6 Z).b a.fr).rp ((b.rb 7 Z).b a.fr) ((b.rp 8 Z).b a.fr).rp ((b.rb 9 Z).b a.fr) ((b.rb 10 Z).b a.fr) (a.ro 3 Z).rp (a.rb 2 Z) (a.ro 1 Z).rp (a.rb 0 Z)) Z fun cP ao w a=>V 1 Z<|gl2<|V 6 Z<|M h fun cQ cl h=>bA a Z (cw c d e f g j ch.1 cO.1 cl ((b.rp 0 Z).b a.fr).rp ((b.rb 1 Z).b a.fr) ((b.rp 2 Z).b a.fr).rp ((b.rb 3 Z).b a.fr) ((b.rp 4 Z).b a.fr).rp ((b.rb 5 Z).b a.fr) ((b.rp 6 Z).b a.fr).rp ((b.rb 7 Z).b a.fr) ((b.rp 8 Z).b a.fr).rp ((b.rb 9 Z).b a.fr) ((b.rb 10 Z).b a.fr) (a.ro 9 Z).rp (a.rb 8 Z) (a.ro 1 Z).rp (a.rb 0 Z)) Z fun df dg w a=>M h fun cR cm h=>bA a Z (bj c d e f g j aF.1 cQ.1 cm ((b.rp 0 Z).b a.fr).rp ((b.rb 1 Z).b a.fr) ((b.rp 2 Z).b a.fr).rp ((b.rb 3 Z).b a.fr) ((b.rp 4 Z).b a.fr).rp ((b.rb 5 Z).b a.fr) ((b.rp 6 Z).b a.fr).rp ((b.rb 7 Z).b a.fr) ((b.rp 8 Z).b a.fr).rp ((b.rb 9 Z).b a.fr) ((b.rb 10 Z).b a.fr) (a.ro 17 Z).rp (a.rb 16 Z) (a.ro 1 Z).rp (a.rb 0 Z)) Z fun dh di w a=>?_
 refine V 3 Z<|M h fun cS cn h=>bA a Z (bj c d e f g j bd.1 cg.1 cn ((b.rp 0 Z).b a.fr).rp ((b.rb 1 Z).b a.fr) ((b.rp 2 Z).b a.fr).rp ((b.rb 3 Z).b a.fr) ((b.rp 4 Z).b a.fr).rp ((b.rb 5 Z).b a.fr) ((b.rp 6 Z).b a.fr).rp ((b.rb 7 Z).b a.fr) ((b.rp 8 Z).b a.fr).rp ((b.rb 9 Z).b a.fr) ((b.rb 10 Z).b a.fr) (a.ro 27 Z).rp (a.rb 26 Z) (a.ro 15 Z).rp (a.rb 14 Z)) Z fun dj dk w a=>M h fun dl co h=>bA a Z (cw c d e f g j cR.1 cS.1 co ((b.rp 0 Z).b a.fr).rp ((b.rb 1 Z).b a.fr) ((b.rp 2 Z).b a.fr).rp ((b.rb 3 Z).b a.fr) ((b.rp 4 Z).b a.fr).rp ((b.rb 5 Z).b a.fr) ((b.rp 6 Z).b a.fr).rp ((b.rb 7 Z).b a.fr) ((b.rp 8 Z).b a.fr).rp ((b.rb 9 Z).b a.fr) ((b.rb 10 Z).b a.fr) (a.ro 3 Z).rp (a.rb 2 Z) (a.ro 1 Z).rp (a.rb 0 Z)) Z fun cT ap w a=>V 1 Z<|gl2<|V 5 Z<|O (ak (k:=2) u136 Z Z cF Z) Z<|O (ar u124 Z Z (a.q 44 Z 2)) Z<|O (ak (k:=2) u136 Z Z cF Z) Z<|O (ar u124 Z Z (a.q 43 Z 2)) Z<|M h fun cU cp h=>bA a Z (bj c d e f g j t y cp ((b.rp 0 Z).b a.fr).rp ((b.rb 1 Z).b a.fr) ((b.rp 2 Z).b a.fr).rp ((b.rb 3 Z).b a.fr) ((b.rp 4 Z).b a.fr).rp ((b.rb 5 Z).b a.fr) ((b.rp 6 Z).b a.fr).rp ((b.rb 7 Z).b a.fr) ((b.rp 8 Z).b a.fr).rp ((b.rb 9 Z).b a.fr) ((b.rb 10 Z).b a.fr) ((b.rp 15 Z).b a.fr).rp ((b.rb 16 Z).b a.fr) ((b.rp 21 Z).b a.fr).rp ((b.rb 22 Z).b a.fr)) Z ?_
 rintro dm dn w a
 refine M h fun dp cq h=>bA a Z (bj c d e f g j av.1 cU.1 cq ((b.rp 0 Z).b a.fr).rp ((b.rb 1 Z).b a.fr) ((b.rp 2 Z).b a.fr).rp ((b.rb 3 Z).b a.fr) ((b.rp 4 Z).b a.fr).rp ((b.rb 5 Z).b a.fr) ((b.rp 6 Z).b a.fr).rp ((b.rb 7 Z).b a.fr) ((b.rp 8 Z).b a.fr).rp ((b.rb 9 Z).b a.fr) ((b.rb 10 Z).b a.fr) (a.ro 27 Z).rp (a.rb 26 Z) (a.ro 1 Z).rp (a.rb 0 Z)) Z fun cV au w a=>O (bR (vs:=[(0,P ao 0,[P ao 0]),(1,P ap 0,[P ap 0]),(2,P au 0,[P au 0])]) (cells:=[P ao 0,P ap 0,P au 0]) Z mh ⟨Z,Z,Z,K⟩ Z) Z<|bm (bp (i:=46) (us:=[P ao 0,P ap 0,P au 0]) Z bV Z Z Z ⟨Z,Z,Z,K⟩ Z a) fun w a=>Q<|aq ?_
 cases h
 obtain⟨aB,hR⟩:=hZ.outT hTT b z a
 exact eu Z ⟨_,Z,bP (us:=[P ao 0,P ap 0,P au 0]) u136 Z bV (a.p 46 Z Z)⟩ ⟨ao,cP,ap,cT,au,cV,Z,aB,(hR.pick [71,70,67,66,59,58] Z)⟩
theorem ot {c:World} {au av aw aA aB aC aD aE:Q0} {T ab ac ad ae ah aj al:Value} {aT aI aJ aL aM aN l m n:Nat} (b d e f g:Bool) (C:Int) (L S x:Bool) {r:Q0×Q0×Bool}
  (h:F.HE b au d av e aw f aA g aB C L aC S aD x aE=some r) (j:RP [] c X T au) (o:RB [] c aI [N b,T]) (q:RP [] c X ab av) (y:RB [] c aJ [N d,ab]) (s:RP [] c X ac aw) (z:RB [] c aL [N e,ac]) (t:RP [] c X ad aA) (A:RB [] c aM [N f,ad]) (u:RP [] c X ae aB) (B:RB [] c aN [N g,ae]) (hBa0:RB [] c aT [P aI 0,P aJ 0,P aL 0,P aM 0,P aN 0,H C,.func (.func 159) #[] #[]]) (aO:RP [] c X ah aC) (aU:RB [] c l [N L,ah]) (aP:RP [] c X aj aD) (aV:RB [] c m [N S,aj]) (ao:RP [] c X al aE) (aF:RB [] c n [N x,al]):Calls Tryz.prog 89 #[P aT 0,.agg #[P l 0,P m 0,P n 0]] c (Ret fun v w=>∃aW aX:Value,v=.agg #[aW,aX,N r.2.2]/\St [] c w [U X aW r.1,U X aX r.2.1]):=by
 refine ay 40 Tryz.func89 Z Z Z<|have a:=St.k c;ax [(0,P aT 0),(1,.agg #[P l 0,P m 0,P n 0])] Z ?_
 unfold F.HE at h
 refine R<|bl (cy (cs:=[P l 0,P m 0,P n 0]) Z Z a) Z fun aZ w a=>bl (bc (cs:=[Q3,Q3,N false]) jd Z a) Z fun a0 w a=>gl1<|R<|O (ak (k:=2) u136 Z Z cF Z) Z<|O (ar u124 Z Z (a.q 1 Z 2)) Z<|M h fun bw be h=>aS a Z (dq x be (ao.b a.fr).rp (aF.b a.fr)) Z fun w a=>V 1 Z<|Q ?_
 apply gl9 Z h<;>intro h
 ·refine R<|O (bR (vs:=[(2,N true,[N true])]) (cells:=[Q3,Q3,N true]) Z fL ⟨Z,K⟩ Z) Z<|bm (bp (i:=0) (us:=[Q3,Q3,N true]) Z cE Z Z Z ⟨Z,Z,Z,K⟩ Z a) fun w a=>gl8 ?_
  cases h
  exact eu Z ⟨_,Z,bP (us:=[Q3,Q3,N true]) u71 Z cE (a.p 0 Z Z)⟩ ⟨Q3,Q3,Z,((a.nil X).nil X).d [1,0] Z Z⟩
 refine gl5<|az<|aQ (fun w'=>St [] c w' [Y a0 [Q3,Q3,N false],Y aZ [P l 0,P m 0,P n 0]]) (fun i=>!([0,7].contains i)) bK (fun _ _ _ hf=>hf.2) (fun _ _ hf=>hf) (by kernel_rfl)<|have a:=a.drew;show lxE _ _ _ _ _ _ _ [0,1,2,3,4,5,6,7,8] _ _ from mV a Z Z (bc (cs:=[N false,Q3]) dt Z a) Z ?_
 rintro _ w ⟨bd,rfl,a⟩
 refine J (a.d [1,2] Z Z) Z Z (fun w D=>ak (k:=2) u136 Z Z cF Z) Z<|J (a.d [1,2] Z Z) Z Z (fun w D=>ar u124 Z Z (D.q 1 Z 2)) Z<|an 1 Z (a.d [1,2] Z Z)<|J (a.d [1,2] Z Z) Z Z (fun w D=>aK Z) Z<|J (a.d [1,2] Z Z) Z Z (fun w D=>ak (k:=0) u127 Z Z cF Z) Z<|J (a.d [1,2] Z Z) Z Z (fun w D=>ar u124 Z Z (hBa0.cell D.fr 0 Z)) Z ?_
 replace a:=a.nil X
 have hG:=a.pick (os':=[Y bd [N false,Q3],U X (.slice none 0 0) []]++[Y a0 [Q3,Q3,N false],Y aZ [P l 0,P m 0,P n 0]]) [1,0,2,3] (by decide) Z
 refine M h fun aG bf h=>aY (a.d [2,3] Z Z) Z Z (by kernel_rfl) Z (kS false x b bf hG.f (ao.f (W Z) hG) (aF.f hG) (j.f (W Z) hG) (o.f hG)) Z ?_
 rintro _ w ⟨a1,rfl,p⟩
 have a:=hG.g p
 refine an 1 Z (a.d [2,3] Z Z)<|a8 (a.d [2,3] Z Z)<|am<|R<|V 3 Z<|M h fun ap a3 h=>bA a Z (bj b d e f g C aG.1 aG.1 a3 (j.b a.fr).rp (o.b a.fr) (q.b a.fr).rp (y.b a.fr) (s.b a.fr).rp (z.b a.fr) (t.b a.fr).rp (A.b a.fr) (u.b a.fr).rp (B.b a.fr) (hBa0.b a.fr) (a.ro 1 Z).rp (a.rb 0 Z) (a.ro 1 Z).rp (a.rb 0 Z)) Z fun a2 bg w a=>V 1 Z<|gl1<|dy (fun w'=>St [] c w' [Y bg [N ap.1,a2],U X a2 ap.2,Y bd [N aG.1,a1],U X a1 aG.2,Y a0 [Q3,Q3,N false],Y aZ [P l 0,P m 0,P n 0]]) (fun i=>!([4,5,12,13,14,16].contains i)) bK (fun _ _ _ hf=>hf.2) (fun _ _ hf=>hf) (by kernel_rfl)<|have a:=a.drew;show lxE _ _ _ _ _ _ _ [0,1,2,3,4,5,6,7,8,9,10,11,12,13,14,15,16] _ _ from an 1 Z a<|J a Z Z (fun w D=>ak (k:=0) u136 Z Z cF Z) Z<|J a Z Z (fun w D=>ar u124 Z Z (D.q 5 Z 0)) Z<|an 1 Z a<|M h fun bh a4 h=>aY a Z Z (by kernel_rfl) Z (bj b d e f g C L ap.1 a4 (j.b a.fr).rp (o.b a.fr) (q.b a.fr).rp (y.b a.fr) (s.b a.fr).rp (z.b a.fr) (t.b a.fr).rp (A.b a.fr) (u.b a.fr).rp (B.b a.fr) (hBa0.b a.fr) (aO.b a.fr).rp (aU.b a.fr) (a.ro 1 Z).rp (a.rb 0 Z)) Z ?_
 rintro _ w ⟨bn,bo,rfl,p⟩
 have a:=a.e p
 refine M h fun bq a5 h=>aY (a.d [2,3,4,5,6,7] Z Z) Z Z (by kernel_rfl) Z (lD bh.1 a5 (a.ro 1 Z).rp (a.rb 0 Z)) Z fun E w p=>have a:=a.e p;have a6:=(a.ro 0 Z).one;an 1 Z (a.d [3,4,5,6,7,8] Z Z)<|J (a.d [3,4,5,6,7,8] Z Z) Z Z (fun w D=>ak (k:=1) u136 Z Z cF Z) Z<|J (a.d [3,4,5,6,7,8] Z Z) Z Z (fun w D=>ar u124 Z Z (D.q 5 Z 1)) Z<|an 3 Z (a.d [3,4,5,6,7,8] Z Z)<|M h fun bi a7 h=>aY (a.d [3,4,5,6,7,8] Z Z) Z Z (by kernel_rfl) Z (bj b d e f g C aG.1 ap.1 a7 (j.b a.fr).rp (o.b a.fr) (q.b a.fr).rp (y.b a.fr) (s.b a.fr).rp (z.b a.fr) (t.b a.fr).rp (A.b a.fr) (u.b a.fr).rp (B.b a.fr) (hBa0.b a.fr) (a.ro 6 Z).rp (a.rb 5 Z) (a.ro 4 Z).rp (a.rb 3 Z)) Z ?_
 rintro _ w ⟨br,bs,rfl,p⟩
 have a:=a.e p
 refine M h fun bk a9 h=>aY (a.d [5,6,7,8,9,10] Z Z) Z Z (by kernel_rfl) Z (bj b d e f g C S bi.1 a9 (j.b a.fr).rp (o.b a.fr) (q.b a.fr).rp (y.b a.fr) (s.b a.fr).rp (z.b a.fr) (t.b a.fr).rp (A.b a.fr) (u.b a.fr).rp (B.b a.fr) (hBa0.b a.fr) (aP.b a.fr).rp (aV.b a.fr) (a.ro 1 Z).rp (a.rb 0 Z)) Z ?_
 rintro _ w ⟨bt,bu,rfl,p⟩
 have a:=a.e p
 refine M h fun bv ba h=>aY (a.d [7,8,9,10,11,12] Z Z) Z Z (by kernel_rfl) Z (lD bk.1 ba (a.ro 1 Z).rp (a.rb 0 Z)) Z fun G w p=>have a:=a.e p;have bb:=(a.ro 0 Z).one;J (a.d [8,9,10,11,12,13] Z Z) Z Z (fun w D=>bR (vs:=[(0,E,[E]),(1,G,[G])]) (cells:=[E,G,N false]) Z fL ⟨(bQ a6),(bQ bb),K⟩ Z) Z<|gu (a.d [8,9,10,11,12,13] Z Z) Z Z (bp (i:=12) (us:=[E,G,N false]) Z cE Z Z Z ⟨(a.ro 5 Z).one,(a.ro 0 Z).one,Z,K⟩ Z a) fun w a=>a8 K<|am<|aq ?_
 cases h
 exact eu Z ⟨_,Z,bP (us:=[E,G,N false]) u71 Z cE (a.p 12 Z Z)⟩ ⟨E,G,Z,a.d [5,0] Z Z⟩
theorem uG {d:World} {aE aF aG aH aI aK aL aM aN aO aP:Q0} {t u x y z A B C D E G:Value} {a8 aw az aA aC aD k l m e f j:Nat} {T:Q2} (n o p q s:Bool) (aQ:Int) (ae ah J a2 aj ak am:Bool) {r:Bool×Q0×Bool×Q0×Bool×Q0}
  (h:F.HD n aE o aF p aG q aH s aI aQ ae aK ah aL J aM a2 aj aN ak aO am aP=some r) (hTT:TOk [] T d) (bd:RP T d X t aE) (br:RB T d aw [N n,t]) (be:RP T d X u aF) (bs:RB T d az [N o,u]) (bf:RP T d X x aG) (bt:RB T d aA [N p,x]) (bg:RP T d X y aH) (bu:RB T d aC [N q,y]) (bh:RP T d X z aI) (bv:RB T d aD [N s,z]) (hBa0:RB T d a8 [P aw 0,P az 0,P aA 0,P aC 0,P aD 0,H aQ,.func (.func 159) #[] #[]]) (bi:RP T d X A aK) (bw:RB T d k [N ae,A]) (bj:RP T d X B aL) (bz:RB T d l [N ah,B]) (bk:RP T d X C aM) (bA:RB T d m [N J,C]) (bn:RP T d X D aN) (bB:RB T d e [N aj,D]) (bo:RP T d X E aO) (bC:RB T d f [N ak,E]) (bq:RP T d X G aP) (bD:RB T d j [N am,G]):Calls Tryz.prog 159 #[P a8 0,.agg #[P k 0,P l 0,P m 0],N a2,.agg #[P e 0,P f 0,P j 0]] d (Ret fun v w=>∃bE:Nat,∃aY:Value,∃bF:Nat,∃aZ:Value,∃bG:Nat,∃a0:Value,v=.agg #[P bE 0,P bF 0,P bG 0]/\St [] d w []/\Rds T w [Y bG [N r.2.2.2.2.1,a0],red X a0 r.2.2.2.2.2,Y bF [N r.2.2.1,aZ],red X aZ r.2.2.2.1,Y bE [N r.1,aY],red X aY r.2.1]):=by
 refine ay 18 Tryz.func159 Z Z Z<|have c:=St.k d;have hZ:=Fz.k (S:=[]) (w0:=d);?_
 have hA0:Rds T d [Y j [N am,G],red X G aP,Y f [N ak,E],red X E aO,Y e [N aj,D],red X D aN,Y m [N J,C],red X C aM,Y l [N ah,B],red X B aL,Y k [N ae,A],red X A aK,Y a8 [P aw 0,P az 0,P aA 0,P aC 0,P aD 0,H aQ,.func (.func 159) #[] #[]],Y aD [N s,z],red X z aI,Y aC [N q,y],red X y aH,Y aA [N p,x],red X x aG,Y az [N o,u],red X u aF,Y aw [N n,t],red X t aE]:=I bD.h (I (RP.h (W Z) bq) (I bC.h (I (RP.h (W Z) bo) (I bB.h (I (RP.h (W Z) bn) (I bA.h (I (RP.h (W Z) bk) (I bz.h (I (RP.h (W Z) bj) (I bw.h (I (RP.h (W Z) bi) (I hBa0.h (I bv.h (I (RP.h (W Z) bh) (I bu.h (I (RP.h (W Z) bg) (I bt.h (I (RP.h (W Z) bf) (I bs.h (I (RP.h (W Z) be) (I br.h (I (RP.h (W Z) bd) (Rds.nil)))))))))))))))))))))))
 have a:=hA0.all
 have b:=hA0.off Z
 refine ax [(0,P a8 0),(1,.agg #[P k 0,P l 0,P m 0]),(2,N a2),(3,.agg #[P e 0,P f 0,P j 0])] Z ?_
 unfold F.HD at h
 refine R<|bl (cy (cs:=[P k 0,P l 0,P m 0]) Z Z c) Z fun a9 w c=>bl (cy (cs:=[P e 0,P f 0,P j 0]) Z Z c) Z fun bK w c=>bl (bc (cs:=[.pointer none,.pointer none,.pointer none]) gZ Z c) Z fun ba w c=>gl2<|V 1 Z<|O (bO (us:=[P k 0,P l 0,P m 0]) u136 Z bV Z (c.p 2 Z Z)) Z ?_
 replace c:=c.pick (os':=[]++[Y ba [.pointer none,.pointer none,.pointer none],Y bK [P e 0,P f 0,P j 0],Y a9 [P k 0,P l 0,P m 0]]) [0,1,2] (by decide) rfl
 obtain⟨hZ,a,b,c⟩:=hZ.frzK hTT a b c
 refine M h fun ao bL h=>aJ Z (iU n o p q s aQ ae ah J bL (hZ.okT hTT c) (a.i b 0 Z) (a.j b 1 Z) (a.i b 2 Z) (a.j b 3 Z) (a.i b 4 Z) (a.j b 5 Z) (a.i b 6 Z) (a.j b 7 Z) (a.i b 8 Z) (a.j b 9 Z) (a.j b 10 Z) (a.i b 11 Z) (a.j b 12 Z) (a.i b 13 Z) (a.j b 14 Z) (a.i b 15 Z) (a.j b 16 Z)) Z ?_
 rintro _ w ⟨ap,a5,ar,a6,au,a7,rfl,bH,bI⟩
 obtain⟨bT,bQ,hZ,a,b,c⟩:=hZ.l a b c bH bI rfl
 refine bm (bp (i:=2) (us:=[P ap 0,P ar 0,P au 0]) Z bV Z Z Z ⟨Z,Z,Z,K⟩ Z c) fun w c=>Q ?_
 refine aU (r:=r) (fun (g:Bool×Q0×Bool×Q0×Bool×Q0) L w=>∃(ab:Nat) (aV:Value) (ac:Nat) (aW:Value) (ad:Nat) (aX:Value),L=[(5,P a9 0),(8,P ba 0)]/\SfT [] T d w [Y ad [N g.2.2.2.2.1,aX],red X aX g.2.2.2.2.2,Y ac [N g.2.2.1,aW],red X aW g.2.2.2.1,Y ab [N g.1,aV],red X aV g.2.1] [Y a9 [P ab 0,P ac 0,P ad 0],Y ba [.pointer none,.pointer none,.pointer none]]) (F.LF) ?_ ?_
 rotate_left
 ·intro bb
  refine R<|V 1 Z<|Q ?_
  apply gl9 Z h<;>intro h
  ·refine al<|V 1 Z<|O (bO (us:=[P ap 0,P ar 0,P au 0]) u136 Z bV Z (c.p 2 Z Z)) Z<|O (bO (us:=[P e 0,P f 0,P j 0]) u136 Z bV Z (c.p 1 Z Z)) Z ?_
   replace c:=c.pick (os':=[]++[Y ba [.pointer none,.pointer none,.pointer none],Y bK [P e 0,P f 0,P j 0],Y a9 [P ap 0,P ar 0,P au 0]]) [0,1,2] (by decide) rfl
   obtain⟨hZ,a,b,c⟩:=hZ.frzK hTT a b c
   refine M h fun av bJ h=>aJ Z (j8 n o p q s aQ ao.1 ao.2.2.1 ao.2.2.2.2.1 aj ak am bJ (hZ.okT hTT c) (a.i b 0 Z) (a.j b 1 Z) (a.i b 2 Z) (a.j b 3 Z) (a.i b 4 Z) (a.j b 5 Z) (a.i b 6 Z) (a.j b 7 Z) (a.i b 8 Z) (a.j b 9 Z) (a.j b 10 Z) (a.i b 23 Z) (a.j b 24 Z) (a.i b 25 Z) (a.j b 26 Z) (a.i b 27 Z) (a.j b 28 Z) (a.i b 17 Z) (a.j b 18 Z) (a.i b 19 Z) (a.j b 20 Z) (a.i b 21 Z) (a.j b 22 Z)) Z ?_
   rintro _ w ⟨aR,a1,aS,a3,aT,a4,rfl,bH,bI⟩
   obtain⟨bU,bR,hZ,a,b,c⟩:=hZ.l a b c bH bI rfl
   refine bm (bp (i:=2) (us:=[P aR 0,P aS 0,P aT 0]) Z bV Z Z Z ⟨Z,Z,Z,K⟩ Z c) fun w c=>Q ?_
   exact aB (bb (av.1,av.2.1,av.2.2.1,av.2.2.2.1,av.2.2.2.2.1,av.2.2.2.2.2) _ _ ⟨aR,a1,aS,a3,aT,a4,Z,(SfT.mk' hZ (a.pick [34,33,32,31,30,29] Z) (b.pick [34,33,32,31,30,29] Z) (c.d [2,0] Z Z))⟩ h) Z
  exact gl5<|aB (bb (ao.1,ao.2.1,ao.2.2.1,ao.2.2.2.1,ao.2.2.2.2.1,ao.2.2.2.2.2) _ _ ⟨ap,a5,ar,a6,au,a7,Z,(SfT.mk' hZ (a.pick [28,27,26,25,24,23] Z) (b.pick [28,27,26,25,24,23] Z) (c.d [2,0] Z Z))⟩ h) Z
 rintro⟨bW,bX,bY,bZ,b0,b1⟩ L w hJ h
 try dsimp only at hJ
 obtain⟨ab,aV,ac,aW,ad,aX,rfl,⟨b2,bS,hZ,a,b,c⟩⟩:=hJ
 unfold F.LF at h
 refine R<|O (bO (us:=[P ab 0,P ac 0,P ad 0]) u136 Z bV Z (c.p 0 Z Z)) Z<|bm (bp (i:=1) (us:=[P ab 0,P ac 0,P ad 0]) Z bV Z Z Z ⟨Z,Z,Z,K⟩ Z c) fun w c=>Q<|aq ?_
 cases h
 obtain⟨bN,hR⟩:=hZ.outT hTT a b c
 exact eu Z ⟨_,Z,bP (us:=[P ab 0,P ac 0,P ad 0]) u136 Z bV (c.p 1 Z Z)⟩ ⟨ab,aV,ac,aW,ad,aX,Z,bN,(hR.pick [5,4,3,2,1,0] Z)⟩
end Go.Proofs
