import Derived.Test.YtkickcbphbgldaaGreatDoorTW0
import Derived.Test.YtkickcbphbgldaaGreatDoorGkFman
import Derived.Test.YtkickcbphbgldaaGreatDoorTWbignumc
import Derived.Test.YtkickcbphbgldaaGreatDoorTWcurvea
set_option linter.unusedVariables false
set_option linter.unusedSimpArgs false
set_option linter.unusedSectionVars false
set_option maxRecDepth 4000
namespace Go.Proofs
open Go Go.RowKit Go.Gk
open Go.Gk renaming Off → I, Rds → P, aa → Q, ae → N, af → H, ah → M, ai → J, e32 → U, own → O, pB → K
open Nat renaming le_of_ble_eq_true → R
open Go.Gk.OE renaming bx → X
open Go.Gk.Off renaming cons → W
open Go.Gk.Rds renaming cons → Y
theorem gp {A:World} {aV aW aX aY aZ a0 a1 a2:List UInt32} {B C D E G q s t:Value} {bb aE aF aK aL aM n o p:Nat} {T:List Nat} (d e f g j:Bool) (m:Int) (L ab u:Bool) {r:Bool×List UInt32×Bool×List UInt32×Bool×List UInt32}
  (h:F.Dl d aV e aW f aX g aY j aZ m L a0 ab a1 u a2=some r) (hTT:TOk [] T A) (bk:RP T A U B aV) (bt:RB T A aE [vB d,B]) (bl:RP T A U C aW) (bu:RB T A aF [vB e,C]) (bm:RP T A U D aX) (bv:RB T A aK [vB f,D]) (bo:RP T A U E aY) (bw:RB T A aL [vB g,E]) (bp:RP T A U G aZ) (bz:RB T A aM [vB j,G]) (hBa0:RB T A bb [K aE 0,K aF 0,K aK 0,K aL 0,K aM 0,vI m,.func (.func 168) #[] #[]]) (bq:RP T A U q a0) (bB:RB T A n [vB L,q]) (br:RP T A U s a1) (bC:RB T A o [vB ab,s]) (bs:RP T A U t a2) (bD:RB T A p [vB u,t]):Calls Tryz.prog 149 #[K bb 0,.agg #[K n 0,K o 0,K p 0]] A (Ret fun v w=>∃bE:Nat,∃bd:Value,∃bF:Nat,∃be:Value,∃bG:Nat,∃bf:Value,v=.agg #[K bE 0,K bF 0,K bG 0]∧St [] A w []∧P T w [X bG [vB r.2.2.2.2.1,bf],red U bf r.2.2.2.2.2,X bF [vB r.2.2.1,be],red U be r.2.2.2.1,X bE [vB r.1,bd],red U bd r.2.1]):=by
 refine aN 86 Tryz.func149 Z Z Z ?_
 have a:=St.l A
 have hZ:=Fz.l (S:=[]) (w0:=A)
 have hA0:P T A [X p [vB u,t],red U t a2,X o [vB ab,s],red U s a1,X n [vB L,q],red U q a0,X bb [K aE 0,K aF 0,K aK 0,K aL 0,K aM 0,vI m,.func (.func 168) #[] #[]],X aM [vB j,G],red U G aZ,X aL [vB g,E],red U E aY,X aK [vB f,D],red U D aX,X aF [vB e,C],red U C aW,X aE [vB d,B],red U B aV]:=Y bD.i (Y (RP.i (R Z) bs) (Y bC.i (Y (RP.i (R Z) br) (Y bB.i (Y (RP.i (R Z) bq) (Y hBa0.i (Y bz.i (Y (RP.i (R Z) bp) (Y bw.i (Y (RP.i (R Z) bo) (Y bv.i (Y (RP.i (R Z) bm) (Y bu.i (Y (RP.i (R Z) bl) (Y bt.i (Y (RP.i (R Z) bk) (P.nil)))))))))))))))))
 have b:=hA0.all
 have hP:=hA0.off Z
 refine ar [(0,K bb 0),(1,.agg #[K n 0,K o 0,K p 0])] ⟨Z,Z,V⟩ ?_
 unfold F.Dl at h
 refine M (H (aU (dy (cs:=[K n 0,K o 0,K p 0]) Z Z a) Z ?_))
 rintro _ w ⟨bH,rfl,a⟩
 refine aU (bg (cs:=[.pointer none,.pointer none,.pointer none]) ft Z a) Z ?_
 rintro _ w ⟨bI,rfl,a⟩
 refine J (N (M (M (H (al (ax (k:=2) u91 Z Z cC Z) Z (al (aH u73 Z Z (a.r 1 Z 2)) Z ?_))))))
 obtain ⟨cI,b7,h⟩:=aj h
 refine ao Z (cE u b7 ((b.rp 15 Z).d a.fr).rp ((b.rb 16 Z).d a.fr)) Z ?_
 rintro _ w ⟨rfl,l⟩
 have a:=a.f l
 refine Q 1 Z ?_
 refine J (N ?_)
 refine av Z (fun a9=>?_) (fun a9=>?_)
 ·have h:=aJ h a9
  refine M (H (al (bO (us:=[K n 0,K o 0,K p 0]) u91 Z bV Z (a.q 1 Z Z)) Z (bn (bA (i:=0) (us:=[K n 0,K o 0,K p 0]) Z bV Z Z Z ⟨Z,Z,Z,V⟩ Z a) ?_)))
  intro w a
  refine J (N (ay (aG ?_)))
  cases h
  obtain ⟨hS0,hR⟩:=hZ.outT hTT b hP a
  exact eK Z ⟨_,Z,bY (us:=[K n 0,K o 0,K p 0]) u91 Z bV (a.q 0 Z Z)⟩ ⟨n,q,o,s,p,t,Z,hS0,(Y (hR.b 16 Z) (Y (hR.b 15 Z) (Y (hR.b 14 Z) (Y (hR.b 13 Z) (Y (hR.b 12 Z) (Y (hR.b 11 Z) P.nil))))))⟩
 have h:=aI h a9
 refine aw (N (M (H (Q 1 Z ?_))))
 refine al (ax (k:=2) u91 Z Z cC Z) Z (al (aH u73 Z Z (a.r 1 Z 2)) Z (al (ax (k:=2) u91 Z Z cC Z) Z (al (aH u73 Z Z (a.r 1 Z 2)) Z ?_)))
 obtain ⟨a8,b8,h⟩:=aj h
 refine ao Z (bc d e f g j m u u b8 ((b.rp 0 Z).d a.fr).rp ((b.rb 1 Z).d a.fr) ((b.rp 2 Z).d a.fr).rp ((b.rb 3 Z).d a.fr) ((b.rp 4 Z).d a.fr).rp ((b.rb 5 Z).d a.fr) ((b.rp 6 Z).d a.fr).rp ((b.rb 7 Z).d a.fr) ((b.rp 8 Z).d a.fr).rp ((b.rb 9 Z).d a.fr) ((b.rb 10 Z).d a.fr) ((b.rp 15 Z).d a.fr).rp ((b.rb 16 Z).d a.fr) ((b.rp 15 Z).d a.fr).rp ((b.rb 16 Z).d a.fr)) Z ?_
 rintro _ w ⟨ba,bJ,rfl,l⟩
 have a:=a.f l
 refine Q 1 Z ?_
 refine J (N (M (H (Q 1 Z ?_))))
 refine al (ax (k:=1) u91 Z Z cC Z) Z (al (aH u73 Z Z (a.r 3 Z 1)) Z (al (ax (k:=1) u91 Z Z cC Z) Z (al (aH u73 Z Z (a.r 3 Z 1)) Z ?_)))
 obtain ⟨an,bK,h⟩:=aj h
 refine ao Z (bc d e f g j m ab ab bK ((b.rp 0 Z).d a.fr).rp ((b.rb 1 Z).d a.fr) ((b.rp 2 Z).d a.fr).rp ((b.rb 3 Z).d a.fr) ((b.rp 4 Z).d a.fr).rp ((b.rb 5 Z).d a.fr) ((b.rp 6 Z).d a.fr).rp ((b.rb 7 Z).d a.fr) ((b.rp 8 Z).d a.fr).rp ((b.rb 9 Z).d a.fr) ((b.rb 10 Z).d a.fr) ((b.rp 13 Z).d a.fr).rp ((b.rb 14 Z).d a.fr) ((b.rp 13 Z).d a.fr).rp ((b.rb 14 Z).d a.fr)) Z ?_
 rintro _ w ⟨a3,bh,rfl,l⟩
 have a:=a.f l
 refine Q 1 Z ?_
 refine J (N (M (H (Q 2 Z ?_))))
 refine al (ax (k:=0) u91 Z Z cC Z) Z (al (aH u73 Z Z (a.r 5 Z 0)) Z (Q 1 Z ?_))
 obtain ⟨aP,bL,h⟩:=aj h
 refine ao Z (bc d e f g j m L an.1 bL ((b.rp 0 Z).d a.fr).rp ((b.rb 1 Z).d a.fr) ((b.rp 2 Z).d a.fr).rp ((b.rb 3 Z).d a.fr) ((b.rp 4 Z).d a.fr).rp ((b.rb 5 Z).d a.fr) ((b.rp 6 Z).d a.fr).rp ((b.rb 7 Z).d a.fr) ((b.rp 8 Z).d a.fr).rp ((b.rb 9 Z).d a.fr) ((b.rb 10 Z).d a.fr) ((b.rp 11 Z).d a.fr).rp ((b.rb 12 Z).d a.fr) (a.ro 1 Z).rp (a.rb 0 Z)) Z ?_
 rintro _ w ⟨a4,bi,rfl,l⟩
 have a:=a.f l
 obtain ⟨aA,bM,h⟩:=aj h
 refine ao Z (cU d e f g j m 4 aP.1 bM ((b.rp 0 Z).d a.fr).rp ((b.rb 1 Z).d a.fr) ((b.rp 2 Z).d a.fr).rp ((b.rb 3 Z).d a.fr) ((b.rp 4 Z).d a.fr).rp ((b.rb 5 Z).d a.fr) ((b.rp 6 Z).d a.fr).rp ((b.rb 7 Z).d a.fr) ((b.rp 8 Z).d a.fr).rp ((b.rb 9 Z).d a.fr) ((b.rb 10 Z).d a.fr) (a.ro 1 Z).rp (a.rb 0 Z)) Z ?_
 rintro _ w ⟨a5,bj,rfl,l⟩
 have a:=a.f l
 refine Q 1 Z ?_
 refine J (N (M ?_))
 obtain ⟨aQ,bN,h⟩:=aj h
 obtain ⟨ap,bP,h⟩:=aj h
 obtain ⟨aR,bQ,h⟩:=aj h
 obtain ⟨aS,bS,h⟩:=aj h
 obtain ⟨aT,bT,h⟩:=aj h
 refine ia (es:=[X p [vB u,t],red U t a2,X o [vB ab,s],red U s a1,X n [vB L,q],red U q a0,X bb [K aE 0,K aF 0,K aK 0,K aL 0,K aM 0,vI m,.func (.func 168) #[] #[]],X aM [vB j,G],red U G aZ,X aL [vB g,E],red U E aY,X aK [vB f,D],red U D aX,X aF [vB e,C],red U C aW,X aE [vB d,B],red U B aV]) (os:=[X bj [vB aA.1,a5],O U a5 aA.2,X bi [vB aP.1,a4],O U a4 aP.2,X bh [vB an.1,a3],O U a3 an.2,X bJ [vB a8.1,ba],O U ba a8.2,X bI [.pointer none,.pointer none,.pointer none],X bH [K n 0,K o 0,K p 0]]) (fun i=>[6,8,12,13,14,15].contains i) (fun i=>if i=6 then some 14 else if i=8 then some 12 else if i=12 then some 13 else if i=13 then some 14 else if i=14 then some 15 else none) (fun i=>[]) (fun i=>[]) (fun i=>[]) (fun i=>if i=12 then [8] else if i=13 then [8] else []) (fun i=>if i=6 then (fun h v x y=>∃aq:Nat,∃ad:Value,v=K aq 0∧x=[X aq [vB aQ.1,ad],O U ad aQ.2]∧y=[]) else if i=8 then (fun h v x y=>∃c:Nat,v=K c 0∧x=[X c [vB false,.slice none 0 0]]∧y=[]) else if i=12 then (fun h v x y=>∃z:Value,∃c:Nat,h=[(K c 0,[X c [vB false,.slice none 0 0]],[])]∧v=K c 0∧x=[X c [vB ap.1,z],O U z ap.2]∧y=[]) else if i=13 then (fun h v x y=>∃ag:Value,∃c:Nat,h=[(K c 0,[X c [vB false,.slice none 0 0]],[])]∧v=K c 0∧x=[X c [vB aR.1,ag],O U ag aR.2]∧y=[]) else if i=14 then (fun h v x y=>∃az:Nat,∃ak:Value,v=K az 0∧x=[X az [vB aS.1,ak],O U ak aS.2]∧y=[]) else (fun h v x y=>∃aB:Nat,∃aC:Value,v=K aB 0∧x=[X aB [vB aT.1,aC],O U aC aT.2]∧y=[])) (SfT.mk' hZ b hP a) (fun k hk=>rfl) hTT rfl (fun i=>(eZ (by rintro h v x y ⟨_,_,rfl,rfl,rfl⟩; exact dF rfl) (eZ (by rintro h v x y ⟨_,rfl,rfl,rfl⟩; exact dF rfl) (eZ (by rintro h v x y ⟨_,_,_,rfl,rfl,rfl⟩; exact dF rfl) (eZ (by rintro h v x y ⟨_,_,_,rfl,rfl,rfl⟩; exact dF rfl) (eZ (by rintro h v x y ⟨_,_,rfl,rfl,rfl⟩; exact dF rfl) (by rintro h v x y ⟨_,_,rfl,rfl,rfl⟩; exact dF rfl))))))) bR (by kernel_rfl) (by kernel_rfl) ?_
 show fL _ _ _ _ _ _ _ _ _ _ _ _ _ _ _ _ [0,1,2,3,4,5,6,7,8,9,10,11,12,13,14,15,16] _ _
 refine bU Z Z (fun w Sb wb hZ b hP hF=>au Z) Z (bU Z Z (fun w Sb wb hZ b hP hF=>au Z) Z (bU Z Z (fun w Sb wb hZ b hP hF=>au Z) Z (bU Z Z (fun w Sb wb hZ b hP hF=>ax (k:=0) u91 Z Z cC Z) Z (bU Z Z (fun w Sb wb hZ b hP hF=>aH u73 Z Z (hF.r 9 Z 0)) Z (bU Z Z (fun w Sb wb hZ b hP hF=>au Z) Z ?_)))))
 refine eP (fun h v x y=>∃aq:Nat,∃ad:Value,v=K aq 0∧x=[X aq [vB aQ.1,ad],O U ad aQ.2]∧y=[]) [] [] [] _ Z Z (fun h v x y=>Z) Z Z Z Z ⟨_,_,_,0,undef,Z,Z,Z⟩ (by kernel_rfl) Z (fun w Sl Tl hZ hTT b hP a=>?_) Z ?_
 ·refine ep (cp d e f g j m L a8.1 bN ((b.rp 0 Z).d a.fr).rp ((b.rb 1 Z).d a.fr) ((b.rp 2 Z).d a.fr).rp ((b.rb 3 Z).d a.fr) ((b.rp 4 Z).d a.fr).rp ((b.rb 5 Z).d a.fr) ((b.rp 6 Z).d a.fr).rp ((b.rb 7 Z).d a.fr) ((b.rp 8 Z).d a.fr).rp ((b.rb 9 Z).d a.fr) ((b.rb 10 Z).d a.fr) ((b.rp 11 Z).d a.fr).rp ((b.rb 12 Z).d a.fr) (a.ro 7 Z).rp (a.rb 6 Z)) ?_
  rintro _ w ⟨ad,aq,rfl,l⟩
  have a:=a.f l
  exact ⟨_,_,⟨aq,ad,Z,Z,Z⟩,SfT.mk' hZ P.nil I.nil a⟩
 rintro v_q x_q y_q ⟨aq,ad,rfl,rfl,rfl⟩
 refine bU Z Z (fun w Sb wb hZ b hP hF=>au Z) Z ?_
 refine jb (fun h v x y=>∃c:Nat,v=K c 0∧x=[X c [vB false,.slice none 0 0]]∧y=[]) [] [] [] _ Z Z (fun h v x y=>Z) Z Z Z Z ⟨_,_,_,0,Z,Z,Z⟩ (fun w Sl Tl hZ hTT b hP a=>?_) Z ?_
 ·refine mq (bg (cs:=[vB false,.slice none 0 0]) cW Z a) ?_
  rintro _ w ⟨c,rfl,a⟩
  exact ⟨_,_,⟨c,Z,Z,Z⟩,SfT.mk' hZ P.nil I.nil a⟩
 rintro v_q x_q y_q ⟨c,rfl,rfl,rfl⟩
 refine bU Z Z (fun w Sb wb hZ b hP hF=>ax (k:=0) u91 Z Z cC Z) Z (bU Z Z (fun w Sb wb hZ b hP hF=>aH u73 Z Z (hF.r 9 Z 0)) Z (bU Z Z (fun w Sb wb hZ b hP hF=>au Z) Z ?_))
 refine eP (fun h v x y=>∃z:Value,∃c:Nat,h=[(K c 0,[X c [vB false,.slice none 0 0]],[])]∧v=K c 0∧x=[X c [vB ap.1,z],O U z ap.2]∧y=[]) [(K c 0,[X c [vB false,.slice none 0 0]],[])] [X c [vB false,.slice none 0 0]] [] _ Z Z (fun h v x y=>Z) Z Z Z Z ⟨_,_,_,undef,c,Z,Z,Z,Z⟩ (by kernel_rfl) Z (fun w Sl Tl hZ hTT b hP a=>?_) Z ?_
 ·replace a:=a.nil U
  have hG:=a.pick (os':=[X c [vB false,.slice none 0 0],O U (.slice none 0 0) []]++[X bj [vB aA.1,a5],O U a5 aA.2,X bi [vB aP.1,a4],O U a4 aP.2,X bh [vB an.1,a3],O U a3 an.2,X bJ [vB a8.1,ba],O U ba a8.2,X bI [.pointer none,.pointer none,.pointer none],X bH [K n 0,K o 0,K p 0]]) [1,0,2,3,4,5,6,7,8,9,10,11] (by decide) Z
  refine ep (nu false L a8.1 bP hG.g ((b.rp 11 Z).g (R Z) hG) ((b.rb 12 Z).g hG) (hG.giveO 7 Z) (hG.giveB 6 Z)) ?_
  rintro _ w ⟨z,rfl,l⟩
  have a:=hG.h l
  exact ⟨_,_,⟨z,c,Z,Z,Z,Z⟩,SfT.mk' hZ P.nil I.nil a⟩
 rintro v_q x_q y_q ⟨z,b_31',hh,rfl,rfl,rfl⟩
 replace hh:([(K c 0,[X c [vB false,.slice none 0 0]],[])]:List Th)=[(K b_31' 0,[X b_31' [vB false,.slice none 0 0]],[])]:=hh
 cases hh
 refine eP (fun h v x y=>∃ag:Value,∃c:Nat,h=[(K c 0,[X c [vB false,.slice none 0 0]],[])]∧v=K c 0∧x=[X c [vB aR.1,ag],O U ag aR.2]∧y=[]) [(K c 0,[X c [vB false,.slice none 0 0]],[])] [X c [vB ap.1,z],O U z ap.2] [] _ Z Z (fun h v x y=>Z) Z Z Z Z ⟨_,_,_,undef,c,Z,Z,Z,Z⟩ (by kernel_rfl) Z (fun w Sl Tl hZ hTT b hP a=>?_) Z ?_
 ·have hG:=a.pick (os':=[X c [vB ap.1,z],O U z ap.2]++[X bj [vB aA.1,a5],O U a5 aA.2,X bi [vB aP.1,a4],O U a4 aP.2,X bh [vB an.1,a3],O U a3 an.2,X bJ [vB a8.1,ba],O U ba a8.2,X bI [.pointer none,.pointer none,.pointer none],X bH [K n 0,K o 0,K p 0]]) [0,1,2,3,4,5,6,7,8,9,10,11] (by decide) Z
  refine ep (ez d e f g j m ap.1 bQ hG.g ((b.rp 0 Z).g (R Z) hG) ((b.rb 1 Z).g hG) ((b.rp 2 Z).g (R Z) hG) ((b.rb 3 Z).g hG) ((b.rp 4 Z).g (R Z) hG) ((b.rb 5 Z).g hG) ((b.rp 6 Z).g (R Z) hG) ((b.rb 7 Z).g hG) ((b.rp 8 Z).g (R Z) hG) ((b.rb 9 Z).g hG) ((b.rb 10 Z).g hG)) ?_
  rintro _ w ⟨ag,rfl,l⟩
  have a:=hG.h l
  exact ⟨_,_,⟨ag,c,Z,Z,Z,Z⟩,SfT.mk' hZ P.nil I.nil a⟩
 rintro v_q x_q y_q ⟨ag,b_31',hh,rfl,rfl,rfl⟩
 replace hh:([(K c 0,[X c [vB false,.slice none 0 0]],[])]:List Th)=[(K b_31' 0,[X b_31' [vB false,.slice none 0 0]],[])]:=hh
 cases hh
 refine eP (fun h v x y=>∃az:Nat,∃ak:Value,v=K az 0∧x=[X az [vB aS.1,ak],O U ak aS.2]∧y=[]) [] [X aq [vB aQ.1,ad],O U ad aQ.2,X c [vB aR.1,ag],O U ag aR.2] [] _ Z Z (fun h v x y=>Z) Z Z Z Z ⟨_,_,_,0,undef,Z,Z,Z⟩ (by kernel_rfl) Z (fun w Sl Tl hZ hTT b hP a=>?_) Z ?_
 ·refine ep (bc d e f g j m aQ.1 aR.1 bS ((b.rp 0 Z).d a.fr).rp ((b.rb 1 Z).d a.fr) ((b.rp 2 Z).d a.fr).rp ((b.rb 3 Z).d a.fr) ((b.rp 4 Z).d a.fr).rp ((b.rb 5 Z).d a.fr) ((b.rp 6 Z).d a.fr).rp ((b.rb 7 Z).d a.fr) ((b.rp 8 Z).d a.fr).rp ((b.rb 9 Z).d a.fr) ((b.rb 10 Z).d a.fr) (a.ro 1 Z).rp (a.rb 0 Z) (a.ro 3 Z).rp (a.rb 2 Z)) ?_
  rintro _ w ⟨ak,az,rfl,l⟩
  have a:=a.f l
  exact ⟨_,_,⟨az,ak,Z,Z,Z⟩,SfT.mk' hZ P.nil I.nil (a.e [0,1,6,7,8,9,10,11,12,13,14,15] Z Z)⟩
 rintro v_q x_q y_q ⟨az,ak,rfl,rfl,rfl⟩
 refine eP (fun h v x y=>∃aB:Nat,∃aC:Value,v=K aB 0∧x=[X aB [vB aT.1,aC],O U aC aT.2]∧y=[]) [] [X az [vB aS.1,ak],O U ak aS.2] [] _ Z Z (fun h v x y=>Z) Z Z Z Z ⟨_,_,_,0,undef,Z,Z,Z⟩ (by kernel_rfl) Z (fun w Sl Tl hZ hTT b hP a=>?_) Z ?_
 ·refine ep (cU d e f g j m 3 aS.1 bT ((b.rp 0 Z).d a.fr).rp ((b.rb 1 Z).d a.fr) ((b.rp 2 Z).d a.fr).rp ((b.rb 3 Z).d a.fr) ((b.rp 4 Z).d a.fr).rp ((b.rb 5 Z).d a.fr) ((b.rp 6 Z).d a.fr).rp ((b.rb 7 Z).d a.fr) ((b.rp 8 Z).d a.fr).rp ((b.rb 9 Z).d a.fr) ((b.rb 10 Z).d a.fr) (a.ro 1 Z).rp (a.rb 0 Z)) ?_
  rintro _ w ⟨aC,aB,rfl,l⟩
  have a:=a.f l
  exact ⟨_,_,⟨aB,aC,Z,Z,Z⟩,SfT.mk' hZ P.nil I.nil (a.e [0,1,4,5,6,7,8,9,10,11,12,13] Z Z)⟩
 rintro v_q x_q y_q ⟨aB,aC,rfl,rfl,rfl⟩
 refine bU Z Z (fun w Sb wb hZ b hP hF=>aD Z) Z (kv fun w hQ=>?_)
 obtain ⟨cn,ck,hZ,b,hP,a⟩:=hQ
 refine N (M (H (Q 4 Z ?_)))
 obtain ⟨b9,bW,h⟩:=aj h
 refine ao Z (bc d e f g j m aT.1 aT.1 bW ((b.rp 0 Z).d a.fr).rp ((b.rb 1 Z).d a.fr) ((b.rp 2 Z).d a.fr).rp ((b.rb 3 Z).d a.fr) ((b.rp 4 Z).d a.fr).rp ((b.rb 5 Z).d a.fr) ((b.rp 6 Z).d a.fr).rp ((b.rb 7 Z).d a.fr) ((b.rp 8 Z).d a.fr).rp ((b.rb 9 Z).d a.fr) ((b.rb 10 Z).d a.fr) (a.ro 1 Z).rp (a.rb 0 Z) (a.ro 1 Z).rp (a.rb 0 Z)) Z ?_
 rintro _ w ⟨co,cq,rfl,l⟩
 have a:=a.f l
 refine Q 2 Z ?_
 obtain ⟨ca,bX,h⟩:=aj h
 refine ao Z (cU d e f g j m 2 aA.1 bX ((b.rp 0 Z).d a.fr).rp ((b.rb 1 Z).d a.fr) ((b.rp 2 Z).d a.fr).rp ((b.rb 3 Z).d a.fr) ((b.rp 4 Z).d a.fr).rp ((b.rb 5 Z).d a.fr) ((b.rp 6 Z).d a.fr).rp ((b.rb 7 Z).d a.fr) ((b.rp 8 Z).d a.fr).rp ((b.rb 9 Z).d a.fr) ((b.rb 10 Z).d a.fr) (a.ro 5 Z).rp (a.rb 4 Z)) Z ?_
 rintro _ w ⟨cr,ct,rfl,l⟩
 have a:=a.f l
 obtain ⟨cb,bZ,h⟩:=aj h
 refine ao Z (cp d e f g j m b9.1 ca.1 bZ ((b.rp 0 Z).d a.fr).rp ((b.rb 1 Z).d a.fr) ((b.rp 2 Z).d a.fr).rp ((b.rb 3 Z).d a.fr) ((b.rp 4 Z).d a.fr).rp ((b.rb 5 Z).d a.fr) ((b.rp 6 Z).d a.fr).rp ((b.rb 7 Z).d a.fr) ((b.rp 8 Z).d a.fr).rp ((b.rb 9 Z).d a.fr) ((b.rb 10 Z).d a.fr) (a.ro 3 Z).rp (a.rb 2 Z) (a.ro 1 Z).rp (a.rb 0 Z)) Z ?_
 rintro _ w ⟨cc,a6,rfl,l⟩
 have a:=a.f l
 refine Q 1 Z ?_
 refine J (N (M (H (Q 6 Z ?_))))
 obtain ⟨cd,b0,h⟩:=aj h
 refine ao Z (cp d e f g j m aA.1 cb.1 b0 ((b.rp 0 Z).d a.fr).rp ((b.rb 1 Z).d a.fr) ((b.rp 2 Z).d a.fr).rp ((b.rb 3 Z).d a.fr) ((b.rp 4 Z).d a.fr).rp ((b.rb 5 Z).d a.fr) ((b.rp 6 Z).d a.fr).rp ((b.rb 7 Z).d a.fr) ((b.rp 8 Z).d a.fr).rp ((b.rb 9 Z).d a.fr) ((b.rb 10 Z).d a.fr) (a.ro 9 Z).rp (a.rb 8 Z) (a.ro 1 Z).rp (a.rb 0 Z)) Z ?_
 rintro _ w ⟨cu,cv,rfl,l⟩
 have a:=a.f l
 obtain ⟨ce,b1,h⟩:=aj h
 refine ao Z (bc d e f g j m aT.1 cd.1 b1 ((b.rp 0 Z).d a.fr).rp ((b.rb 1 Z).d a.fr) ((b.rp 2 Z).d a.fr).rp ((b.rb 3 Z).d a.fr) ((b.rp 4 Z).d a.fr).rp ((b.rb 5 Z).d a.fr) ((b.rp 6 Z).d a.fr).rp ((b.rb 7 Z).d a.fr) ((b.rp 8 Z).d a.fr).rp ((b.rb 9 Z).d a.fr) ((b.rb 10 Z).d a.fr) (a.ro 9 Z).rp (a.rb 8 Z) (a.ro 1 Z).rp (a.rb 0 Z)) Z ?_
 rintro _ w ⟨cw,cx,rfl,l⟩
 have a:=a.f l
 refine Q 4 Z ?_
 obtain ⟨cf,b2,h⟩:=aj h
 refine ao Z (bc d e f g j m an.1 an.1 b2 ((b.rp 0 Z).d a.fr).rp ((b.rb 1 Z).d a.fr) ((b.rp 2 Z).d a.fr).rp ((b.rb 3 Z).d a.fr) ((b.rp 4 Z).d a.fr).rp ((b.rb 5 Z).d a.fr) ((b.rp 6 Z).d a.fr).rp ((b.rb 7 Z).d a.fr) ((b.rp 8 Z).d a.fr).rp ((b.rb 9 Z).d a.fr) ((b.rb 10 Z).d a.fr) (a.ro 17 Z).rp (a.rb 16 Z) (a.ro 17 Z).rp (a.rb 16 Z)) Z ?_
 rintro _ w ⟨cy,cz,rfl,l⟩
 have a:=a.f l
 obtain ⟨cg,b3,h⟩:=aj h
 refine ao Z (cU d e f g j m 8 cf.1 b3 ((b.rp 0 Z).d a.fr).rp ((b.rb 1 Z).d a.fr) ((b.rp 2 Z).d a.fr).rp ((b.rb 3 Z).d a.fr) ((b.rp 4 Z).d a.fr).rp ((b.rb 5 Z).d a.fr) ((b.rp 6 Z).d a.fr).rp ((b.rb 7 Z).d a.fr) ((b.rp 8 Z).d a.fr).rp ((b.rb 9 Z).d a.fr) ((b.rb 10 Z).d a.fr) (a.ro 1 Z).rp (a.rb 0 Z)) Z ?_
 rintro _ w ⟨cA,cB,rfl,l⟩
 have a:=a.f l
 obtain ⟨cD,b4,h⟩:=aj h
 refine ao Z (cp d e f g j m ce.1 cg.1 b4 ((b.rp 0 Z).d a.fr).rp ((b.rb 1 Z).d a.fr) ((b.rp 2 Z).d a.fr).rp ((b.rb 3 Z).d a.fr) ((b.rp 4 Z).d a.fr).rp ((b.rb 5 Z).d a.fr) ((b.rp 6 Z).d a.fr).rp ((b.rb 7 Z).d a.fr) ((b.rp 8 Z).d a.fr).rp ((b.rb 9 Z).d a.fr) ((b.rb 10 Z).d a.fr) (a.ro 5 Z).rp (a.rb 4 Z) (a.ro 1 Z).rp (a.rb 0 Z)) Z ?_
 rintro _ w ⟨ch,a7,rfl,l⟩
 have a:=a.f l
 refine Q 1 Z ?_
 refine J (N (M (H (Q 4 Z ?_))))
 refine al (ax (k:=1) u91 Z Z cC Z) Z (al (aH u73 Z Z (a.r 27 Z 1)) Z (al (ax (k:=2) u91 Z Z cC Z) Z (al (aH u73 Z Z (a.r 27 Z 2)) Z ?_)))
 obtain ⟨ci,b5,h⟩:=aj h
 refine ao Z (bc d e f g j m ab u b5 ((b.rp 0 Z).d a.fr).rp ((b.rb 1 Z).d a.fr) ((b.rp 2 Z).d a.fr).rp ((b.rb 3 Z).d a.fr) ((b.rp 4 Z).d a.fr).rp ((b.rb 5 Z).d a.fr) ((b.rp 6 Z).d a.fr).rp ((b.rb 7 Z).d a.fr) ((b.rp 8 Z).d a.fr).rp ((b.rb 9 Z).d a.fr) ((b.rb 10 Z).d a.fr) ((b.rp 13 Z).d a.fr).rp ((b.rb 14 Z).d a.fr) ((b.rp 15 Z).d a.fr).rp ((b.rb 16 Z).d a.fr)) Z ?_
 rintro _ w ⟨cF,cG,rfl,l⟩
 have a:=a.f l
 obtain ⟨cH,b6,h⟩:=aj h
 refine ao Z (cU d e f g j m 2 ci.1 b6 ((b.rp 0 Z).d a.fr).rp ((b.rb 1 Z).d a.fr) ((b.rp 2 Z).d a.fr).rp ((b.rb 3 Z).d a.fr) ((b.rp 4 Z).d a.fr).rp ((b.rb 5 Z).d a.fr) ((b.rp 6 Z).d a.fr).rp ((b.rb 7 Z).d a.fr) ((b.rp 8 Z).d a.fr).rp ((b.rb 9 Z).d a.fr) ((b.rb 10 Z).d a.fr) (a.ro 1 Z).rp (a.rb 0 Z)) Z ?_
 rintro _ w ⟨cj,aO,rfl,l⟩
 have a:=a.f l
 refine al (cl (vs:=[(0,K a6 0,[K a6 0]),(1,K a7 0,[K a7 0]),(2,K aO 0,[K aO 0])]) (cells:=[K a6 0,K a7 0,K aO 0]) Z mp ⟨Z,Z,Z,V⟩ Z) Z ?_
 refine bn (bA (i:=30) (us:=[K a6 0,K a7 0,K aO 0]) Z bV Z Z Z ⟨Z,Z,Z,V⟩ Z a) ?_
 intro w a
 refine J (N (ay ?_))
 cases h
 obtain ⟨hS0,hR⟩:=hZ.outT hTT b hP a
 exact eK Z ⟨_,Z,bY (us:=[K a6 0,K a7 0,K aO 0]) u91 Z bV (a.q 30 Z Z)⟩ ⟨a6,cc,a7,ch,aO,cj,Z,hS0,(Y (hR.b 48 Z) (Y (hR.b 47 Z) (Y (hR.b 44 Z) (Y (hR.b 43 Z) (Y (hR.b 34 Z) (Y (hR.b 33 Z) P.nil))))))⟩
theorem iG {t:World} {aX aY aZ a0 a1 a2 a3 a4 a5 a6 a7:List UInt32} {ac ad ag ak an z A B C D E:Value} {bE aR aS aT aV aW m n o p q s:Nat} {T:List Nat} (d e f g j:Bool) (l:Int) (G L u aB aC x:Bool) {r:Bool×List UInt32×Bool×List UInt32×Bool×List UInt32}
  (h:F.Ca d aX e aY f aZ g a0 j a1 l G a2 L a3 u a4 aB a5 aC a6 x a7=some r) (hTT:TOk [] T t) (bI:RP T t U ac aX) (bW:RB T t aR [vB d,ac]) (bJ:RP T t U ad aY) (bX:RB T t aS [vB e,ad]) (bK:RP T t U ag aZ) (bZ:RB T t aT [vB f,ag]) (bL:RP T t U ak a0) (b0:RB T t aV [vB g,ak]) (bM:RP T t U an a1) (b1:RB T t aW [vB j,an]) (hBa0:RB T t bE [K aR 0,K aS 0,K aT 0,K aV 0,K aW 0,vI l,.func (.func 168) #[] #[]]) (bN:RP T t U z a2) (b2:RB T t m [vB G,z]) (bP:RP T t U A a3) (b3:RB T t n [vB L,A]) (bQ:RP T t U B a4) (b4:RB T t o [vB u,B]) (bS:RP T t U C a5) (b5:RB T t p [vB aB,C]) (bT:RP T t U D a6) (b6:RB T t q [vB aC,D]) (bU:RP T t U E a7) (b7:RB T t s [vB x,E]):Calls Tryz.prog 84 #[K bE 0,.agg #[K m 0,K n 0,K o 0],.agg #[K p 0,K q 0,K s 0]] t (Ret fun v w=>∃b8:Nat,∃bl:Value,∃b9:Nat,∃bm:Value,∃ca:Nat,∃bo:Value,v=.agg #[K b8 0,K b9 0,K ca 0]∧St [] t w []∧P T w [X ca [vB r.2.2.2.2.1,bo],red U bo r.2.2.2.2.2,X b9 [vB r.2.2.1,bm],red U bm r.2.2.2.1,X b8 [vB r.1,bl],red U bl r.2.1]):=by
 refine aN 137 Tryz.func84 Z Z Z ?_
 have a:=St.l t
 have hZ:=Fz.l (S:=[]) (w0:=t)
 have hA0:P T t [X s [vB x,E],red U E a7,X q [vB aC,D],red U D a6,X p [vB aB,C],red U C a5,X o [vB u,B],red U B a4,X n [vB L,A],red U A a3,X m [vB G,z],red U z a2,X bE [K aR 0,K aS 0,K aT 0,K aV 0,K aW 0,vI l,.func (.func 168) #[] #[]],X aW [vB j,an],red U an a1,X aV [vB g,ak],red U ak a0,X aT [vB f,ag],red U ag aZ,X aS [vB e,ad],red U ad aY,X aR [vB d,ac],red U ac aX]:=Y b7.i (Y (RP.i (R Z) bU) (Y b6.i (Y (RP.i (R Z) bT) (Y b5.i (Y (RP.i (R Z) bS) (Y b4.i (Y (RP.i (R Z) bQ) (Y b3.i (Y (RP.i (R Z) bP) (Y b2.i (Y (RP.i (R Z) bN) (Y hBa0.i (Y b1.i (Y (RP.i (R Z) bM) (Y b0.i (Y (RP.i (R Z) bL) (Y bZ.i (Y (RP.i (R Z) bK) (Y bX.i (Y (RP.i (R Z) bJ) (Y bW.i (Y (RP.i (R Z) bI) (P.nil)))))))))))))))))))))))
 have b:=hA0.all
 have y:=hA0.off Z
 refine ar [(0,K bE 0),(1,.agg #[K m 0,K n 0,K o 0]),(2,.agg #[K p 0,K q 0,K s 0])] ⟨Z,Z,Z,V⟩ ?_
 unfold F.Ca at h
 refine M (H (aU (dy (cs:=[K m 0,K n 0,K o 0]) Z Z a) Z ?_))
 rintro _ w ⟨bF,rfl,a⟩
 refine aU (dy (cs:=[K p 0,K q 0,K s 0]) Z Z a) Z ?_
 rintro _ w ⟨bG,rfl,a⟩
 refine aU (bg (cs:=[.pointer none,.pointer none,.pointer none]) ft Z a) Z ?_
 rintro _ w ⟨bH,rfl,a⟩
 refine J (N (M (M (H (al (ax (k:=2) u91 Z Z cC Z) Z (al (aH u73 Z Z (a.r 2 Z 2)) Z ?_))))))
 obtain ⟨dK,c2,h⟩:=aj h
 refine ao Z (cE u c2 ((b.rp 15 Z).d a.fr).rp ((b.rb 16 Z).d a.fr)) Z ?_
 rintro _ w ⟨rfl,c⟩
 have a:=a.f c
 refine Q 1 Z ?_
 refine J (N ?_)
 refine av Z (fun a8=>?_) (fun a8=>?_)
 ·have h:=aJ h a8
  refine M (H (al (bO (us:=[K p 0,K q 0,K s 0]) u91 Z bV Z (a.q 1 Z Z)) Z (bn (bA (i:=0) (us:=[K p 0,K q 0,K s 0]) Z bV Z Z Z ⟨Z,Z,Z,V⟩ Z a) ?_)))
  intro w a
  refine J (N (ay (aG ?_)))
  cases h
  obtain ⟨hS0,hR⟩:=hZ.outT hTT b y a
  exact eK Z ⟨_,Z,bY (us:=[K p 0,K q 0,K s 0]) u91 Z bV (a.q 0 Z Z)⟩ ⟨p,C,q,D,s,E,Z,hS0,(Y (hR.b 22 Z) (Y (hR.b 21 Z) (Y (hR.b 20 Z) (Y (hR.b 19 Z) (Y (hR.b 18 Z) (Y (hR.b 17 Z) P.nil))))))⟩
 have h:=aI h a8
 refine aw (N (M (M (H (al (ax (k:=2) u91 Z Z cC Z) Z (al (aH u73 Z Z (a.r 1 Z 2)) Z ?_))))))
 obtain ⟨dL,c3,h⟩:=aj h
 refine ao Z (cE x c3 ((b.rp 21 Z).d a.fr).rp ((b.rb 22 Z).d a.fr)) Z ?_
 rintro _ w ⟨rfl,c⟩
 have a:=a.f c
 refine Q 1 Z ?_
 refine J (N ?_)
 refine av Z (fun a9=>?_) (fun a9=>?_)
 ·have h:=aJ h a9
  refine M (H (al (bO (us:=[K m 0,K n 0,K o 0]) u91 Z bV Z (a.q 2 Z Z)) Z (bn (bA (i:=0) (us:=[K m 0,K n 0,K o 0]) Z bV Z Z Z ⟨Z,Z,Z,V⟩ Z a) ?_)))
  intro w a
  refine J (N (ay (aG ?_)))
  cases h
  obtain ⟨hS0,hR⟩:=hZ.outT hTT b y a
  exact eK Z ⟨_,Z,bY (us:=[K m 0,K n 0,K o 0]) u91 Z bV (a.q 0 Z Z)⟩ ⟨m,z,n,A,o,B,Z,hS0,(Y (hR.b 16 Z) (Y (hR.b 15 Z) (Y (hR.b 14 Z) (Y (hR.b 13 Z) (Y (hR.b 12 Z) (Y (hR.b 11 Z) P.nil))))))⟩
 have h:=aI h a9
 refine aw (N (M ?_))
 refine bb (fun w'=>St [] t w' [X bH [.pointer none,.pointer none,.pointer none],X bG [K p 0,K q 0,K s 0],X bF [K m 0,K n 0,K o 0]]) (fun i=>!([5,11].contains i)) bR (fun _ _ _ hf=>hf.2) (fun _ _ hf=>hf) (by kernel_rfl) ?_
 have a:=a.drew
 show lxE _ _ _ _ _ _ _ [0,1,2,3,4,5,6,7,8,9,10,11,12,13] _ _
 refine am a Z Z (fun w hF=>au Z) Z (am a Z Z (fun w hF=>ax (k:=2) u91 Z Z cC Z) Z (am a Z Z (fun w hF=>aH u73 Z Z (hF.r 2 Z 2)) Z (am a Z Z (fun w hF=>ax (k:=2) u91 Z Z cC Z) Z (am a Z Z (fun w hF=>aH u73 Z Z (hF.r 2 Z 2)) Z ?_))))
 obtain ⟨aQ,c4,h⟩:=aj h
 refine bk a Z Z (by kernel_rfl) Z (bc d e f g j l u u c4 ((b.rp 0 Z).d a.fr).rp ((b.rb 1 Z).d a.fr) ((b.rp 2 Z).d a.fr).rp ((b.rb 3 Z).d a.fr) ((b.rp 4 Z).d a.fr).rp ((b.rb 5 Z).d a.fr) ((b.rp 6 Z).d a.fr).rp ((b.rb 7 Z).d a.fr) ((b.rp 8 Z).d a.fr).rp ((b.rb 9 Z).d a.fr) ((b.rb 10 Z).d a.fr) ((b.rp 15 Z).d a.fr).rp ((b.rb 16 Z).d a.fr) ((b.rp 15 Z).d a.fr).rp ((b.rb 16 Z).d a.fr)) Z ?_
 rintro _ w ⟨aE,bt,rfl,c⟩
 have a:=a.f c
 refine am (a.e [2,3,4] Z Z) Z Z (fun w hF=>au Z) Z (am (a.e [2,3,4] Z Z) Z Z (fun w hF=>ax (k:=2) u91 Z Z cC Z) Z (am (a.e [2,3,4] Z Z) Z Z (fun w hF=>aH u73 Z Z (hF.r 1 Z 2)) Z (am (a.e [2,3,4] Z Z) Z Z (fun w hF=>ax (k:=2) u91 Z Z cC Z) Z (am (a.e [2,3,4] Z Z) Z Z (fun w hF=>aH u73 Z Z (hF.r 1 Z 2)) Z ?_))))
 obtain ⟨ab,cy,h⟩:=aj h
 refine bk (a.e [2,3,4] Z Z) Z Z (by kernel_rfl) Z (bc d e f g j l x x cy ((b.rp 0 Z).d a.fr).rp ((b.rb 1 Z).d a.fr) ((b.rp 2 Z).d a.fr).rp ((b.rb 3 Z).d a.fr) ((b.rp 4 Z).d a.fr).rp ((b.rb 5 Z).d a.fr) ((b.rp 6 Z).d a.fr).rp ((b.rb 7 Z).d a.fr) ((b.rp 8 Z).d a.fr).rp ((b.rb 9 Z).d a.fr) ((b.rb 10 Z).d a.fr) ((b.rp 21 Z).d a.fr).rp ((b.rb 22 Z).d a.fr) ((b.rp 21 Z).d a.fr).rp ((b.rb 22 Z).d a.fr)) Z ?_
 rintro _ w ⟨aF,bu,rfl,c⟩
 have a:=a.f c
 refine am (a.e [4,5,6] Z Z) Z Z (fun w hF=>aD Z) Z (am (a.e [4,5,6] Z Z) Z Z (fun w hF=>aD Z) Z (bp (a.e [4,5,6] Z Z) ?_))
 refine N (M ?_)
 refine bb (fun w'=>St [] t w' [X bu [vB ab.1,aF],O U aF ab.2,X bt [vB aQ.1,aE],O U aE aQ.2,X bH [.pointer none,.pointer none,.pointer none],X bG [K p 0,K q 0,K s 0],X bF [K m 0,K n 0,K o 0]]) (fun i=>!([4,9].contains i)) bR (fun _ _ _ hf=>hf.2) (fun _ _ hf=>hf) (by kernel_rfl) ?_
 have a:=a.drew
 show lxE _ _ _ _ _ _ _ [0,1,2,3,4,5,6,7,8,9,10,11] _ _
 refine am a Z Z (fun w hF=>au Z) Z (am a Z Z (fun w hF=>ax (k:=0) u91 Z Z cC Z) Z (am a Z Z (fun w hF=>aH u73 Z Z (hF.r 6 Z 0)) Z (am a Z Z (fun w hF=>au Z) Z ?_)))
 obtain ⟨aK,cz,h⟩:=aj h
 refine bk a Z Z (by kernel_rfl) Z (bc d e f g j l G ab.1 cz ((b.rp 0 Z).d a.fr).rp ((b.rb 1 Z).d a.fr) ((b.rp 2 Z).d a.fr).rp ((b.rb 3 Z).d a.fr) ((b.rp 4 Z).d a.fr).rp ((b.rb 5 Z).d a.fr) ((b.rp 6 Z).d a.fr).rp ((b.rb 7 Z).d a.fr) ((b.rp 8 Z).d a.fr).rp ((b.rb 9 Z).d a.fr) ((b.rb 10 Z).d a.fr) ((b.rp 11 Z).d a.fr).rp ((b.rb 12 Z).d a.fr) (a.ro 1 Z).rp (a.rb 0 Z)) Z ?_
 rintro _ w ⟨bf,cb,rfl,c⟩
 have a:=a.f c
 refine am (a.e [2,3,4,5,6,7,8] Z Z) Z Z (fun w hF=>au Z) Z (am (a.e [2,3,4,5,6,7,8] Z Z) Z Z (fun w hF=>ax (k:=0) u91 Z Z cC Z) Z (am (a.e [2,3,4,5,6,7,8] Z Z) Z Z (fun w hF=>aH u73 Z Z (hF.r 5 Z 0)) Z (am (a.e [2,3,4,5,6,7,8] Z Z) Z Z (fun w hF=>au Z) Z ?_)))
 obtain ⟨bd,cA,h⟩:=aj h
 refine bk (a.e [2,3,4,5,6,7,8] Z Z) Z Z (by kernel_rfl) Z (bc d e f g j l aB aQ.1 cA ((b.rp 0 Z).d a.fr).rp ((b.rb 1 Z).d a.fr) ((b.rp 2 Z).d a.fr).rp ((b.rb 3 Z).d a.fr) ((b.rp 4 Z).d a.fr).rp ((b.rb 5 Z).d a.fr) ((b.rp 6 Z).d a.fr).rp ((b.rb 7 Z).d a.fr) ((b.rp 8 Z).d a.fr).rp ((b.rb 9 Z).d a.fr) ((b.rb 10 Z).d a.fr) ((b.rp 17 Z).d a.fr).rp ((b.rb 18 Z).d a.fr) (a.ro 5 Z).rp (a.rb 4 Z)) Z ?_
 rintro _ w ⟨bh,cc,rfl,c⟩
 have a:=a.f c
 refine am (a.e [4,5,6,7,8,9,10] Z Z) Z Z (fun w hF=>aD Z) Z (am (a.e [4,5,6,7,8,9,10] Z Z) Z Z (fun w hF=>aD Z) Z (bp (a.e [4,5,6,7,8,9,10] Z Z) ?_))
 refine N (M ?_)
 refine bb (fun w'=>St [] t w' [X cc [vB bd.1,bh],O U bh bd.2,X cb [vB aK.1,bf],O U bf aK.2,X bu [vB ab.1,aF],O U aF ab.2,X bt [vB aQ.1,aE],O U aE aQ.2,X bH [.pointer none,.pointer none,.pointer none],X bG [K p 0,K q 0,K s 0],X bF [K m 0,K n 0,K o 0]]) (fun i=>!([7,8,16,17].contains i)) bR (fun _ _ _ hf=>hf.2) (fun _ _ hf=>hf) (by kernel_rfl) ?_
 have a:=a.drew
 show lxE _ _ _ _ _ _ _ [0,1,2,3,4,5,6,7,8,9,10,11,12,13,14,15,16,17,18,19] _ _
 refine am a Z Z (fun w hF=>au Z) Z (am a Z Z (fun w hF=>ax (k:=1) u91 Z Z cC Z) Z (am a Z Z (fun w hF=>aH u73 Z Z (hF.r 10 Z 1)) Z (am a Z Z (fun w hF=>au Z) Z (am a Z Z (fun w hF=>ax (k:=2) u91 Z Z cC Z) Z (am a Z Z (fun w hF=>aH u73 Z Z (hF.r 9 Z 2)) Z (am a Z Z (fun w hF=>au Z) Z ?_))))))
 obtain ⟨bv,cB,h⟩:=aj h
 refine bk a Z Z (by kernel_rfl) Z (bc d e f g j l x ab.1 cB ((b.rp 0 Z).d a.fr).rp ((b.rb 1 Z).d a.fr) ((b.rp 2 Z).d a.fr).rp ((b.rb 3 Z).d a.fr) ((b.rp 4 Z).d a.fr).rp ((b.rb 5 Z).d a.fr) ((b.rp 6 Z).d a.fr).rp ((b.rb 7 Z).d a.fr) ((b.rp 8 Z).d a.fr).rp ((b.rb 9 Z).d a.fr) ((b.rb 10 Z).d a.fr) ((b.rp 21 Z).d a.fr).rp ((b.rb 22 Z).d a.fr) (a.ro 5 Z).rp (a.rb 4 Z)) Z ?_
 rintro _ w ⟨cd,c5,rfl,c⟩
 have a:=a.f c
 obtain ⟨bi,cD,h⟩:=aj h
 refine bk (a.e [2,3,4,5,6,7,8,9,10,11,12] Z Z) Z Z (by kernel_rfl) Z (bc d e f g j l L bv.1 cD ((b.rp 0 Z).d a.fr).rp ((b.rb 1 Z).d a.fr) ((b.rp 2 Z).d a.fr).rp ((b.rb 3 Z).d a.fr) ((b.rp 4 Z).d a.fr).rp ((b.rb 5 Z).d a.fr) ((b.rp 6 Z).d a.fr).rp ((b.rb 7 Z).d a.fr) ((b.rp 8 Z).d a.fr).rp ((b.rb 9 Z).d a.fr) ((b.rb 10 Z).d a.fr) ((b.rp 13 Z).d a.fr).rp ((b.rb 14 Z).d a.fr) (a.ro 1 Z).rp (a.rb 0 Z)) Z ?_
 rintro _ w ⟨ce,c6,rfl,c⟩
 have a:=a.f c
 refine am (a.e [4,5,6,7,8,9,10,11,12,13,14] Z Z) Z Z (fun w hF=>au Z) Z (am (a.e [4,5,6,7,8,9,10,11,12,13,14] Z Z) Z Z (fun w hF=>ax (k:=1) u91 Z Z cC Z) Z (am (a.e [4,5,6,7,8,9,10,11,12,13,14] Z Z) Z Z (fun w hF=>aH u73 Z Z (hF.r 9 Z 1)) Z (am (a.e [4,5,6,7,8,9,10,11,12,13,14] Z Z) Z Z (fun w hF=>au Z) Z (am (a.e [4,5,6,7,8,9,10,11,12,13,14] Z Z) Z Z (fun w hF=>ax (k:=2) u91 Z Z cC Z) Z (am (a.e [4,5,6,7,8,9,10,11,12,13,14] Z Z) Z Z (fun w hF=>aH u73 Z Z (hF.r 10 Z 2)) Z (am (a.e [4,5,6,7,8,9,10,11,12,13,14] Z Z) Z Z (fun w hF=>au Z) Z ?_))))))
 obtain ⟨bw,cF,h⟩:=aj h
 refine bk (a.e [4,5,6,7,8,9,10,11,12,13,14] Z Z) Z Z (by kernel_rfl) Z (bc d e f g j l u aQ.1 cF ((b.rp 0 Z).d a.fr).rp ((b.rb 1 Z).d a.fr) ((b.rp 2 Z).d a.fr).rp ((b.rb 3 Z).d a.fr) ((b.rp 4 Z).d a.fr).rp ((b.rb 5 Z).d a.fr) ((b.rp 6 Z).d a.fr).rp ((b.rb 7 Z).d a.fr) ((b.rp 8 Z).d a.fr).rp ((b.rb 9 Z).d a.fr) ((b.rb 10 Z).d a.fr) ((b.rp 15 Z).d a.fr).rp ((b.rb 16 Z).d a.fr) (a.ro 11 Z).rp (a.rb 10 Z)) Z ?_
 rintro _ w ⟨cf,c7,rfl,c⟩
 have a:=a.f c
 obtain ⟨bz,cG,h⟩:=aj h
 refine bk (a.e [6,7,8,9,10,11,12,13,14,15,16] Z Z) Z Z (by kernel_rfl) Z (bc d e f g j l aC bw.1 cG ((b.rp 0 Z).d a.fr).rp ((b.rb 1 Z).d a.fr) ((b.rp 2 Z).d a.fr).rp ((b.rb 3 Z).d a.fr) ((b.rp 4 Z).d a.fr).rp ((b.rb 5 Z).d a.fr) ((b.rp 6 Z).d a.fr).rp ((b.rb 7 Z).d a.fr) ((b.rp 8 Z).d a.fr).rp ((b.rb 9 Z).d a.fr) ((b.rb 10 Z).d a.fr) ((b.rp 19 Z).d a.fr).rp ((b.rb 20 Z).d a.fr) (a.ro 1 Z).rp (a.rb 0 Z)) Z ?_
 rintro _ w ⟨cg,c8,rfl,c⟩
 have a:=a.f c
 refine am (a.e [8,9,10,11,12,13,14,15,16,17,18] Z Z) Z Z (fun w hF=>aD Z) Z (am (a.e [8,9,10,11,12,13,14,15,16,17,18] Z Z) Z Z (fun w hF=>aD Z) Z (bp (a.e [8,9,10,11,12,13,14,15,16,17,18] Z Z) ?_))
 refine N (M (H (Q 3 Z ?_)))
 obtain ⟨aA,cH,h⟩:=aj h
 refine ao Z (cp d e f g j l bd.1 aK.1 cH ((b.rp 0 Z).d a.fr).rp ((b.rb 1 Z).d a.fr) ((b.rp 2 Z).d a.fr).rp ((b.rb 3 Z).d a.fr) ((b.rp 4 Z).d a.fr).rp ((b.rb 5 Z).d a.fr) ((b.rp 6 Z).d a.fr).rp ((b.rb 7 Z).d a.fr) ((b.rp 8 Z).d a.fr).rp ((b.rb 9 Z).d a.fr) ((b.rb 10 Z).d a.fr) (a.ro 9 Z).rp (a.rb 8 Z) (a.ro 11 Z).rp (a.rb 10 Z)) Z ?_
 rintro _ w ⟨ch,c9,rfl,c⟩
 have a:=a.f c
 refine Q 3 Z ?_
 obtain ⟨aL,cI,h⟩:=aj h
 refine ao Z (cp d e f g j l bz.1 bi.1 cI ((b.rp 0 Z).d a.fr).rp ((b.rb 1 Z).d a.fr) ((b.rp 2 Z).d a.fr).rp ((b.rb 3 Z).d a.fr) ((b.rp 4 Z).d a.fr).rp ((b.rb 5 Z).d a.fr) ((b.rp 6 Z).d a.fr).rp ((b.rb 7 Z).d a.fr) ((b.rp 8 Z).d a.fr).rp ((b.rb 9 Z).d a.fr) ((b.rb 10 Z).d a.fr) (a.ro 3 Z).rp (a.rb 2 Z) (a.ro 7 Z).rp (a.rb 6 Z)) Z ?_
 rintro _ w ⟨ci,da,rfl,c⟩
 have a:=a.f c
 refine Q 2 Z ?_
 refine J (N (M (M (H (Q 1 Z ?_)))))
 obtain ⟨dw,cJ,h⟩:=aj h
 refine ao Z (cE aA.1 cJ (a.ro 3 Z).rp (a.rb 2 Z)) Z ?_
 rintro _ w ⟨rfl,c⟩
 have a:=a.f c
 refine Q 1 Z ?_
 refine J (N ?_)
 refine av Z (fun be=>?_) (fun be=>?_)
 ·have h:=aJ h be
  refine M (M (H (Q 1 Z ?_)))
  obtain ⟨dx,cK,h⟩:=aj h
  refine ao Z (cE aL.1 cK (a.ro 1 Z).rp (a.rb 0 Z)) Z ?_
  rintro _ w ⟨rfl,c⟩
  have a:=a.f c
  refine Q 1 Z ?_
  refine J (N ?_)
  refine av Z (fun bj=>?_) (fun bj=>?_)
  ·have h:=aJ h bj
   refine M (H (Q 1 Z ?_))
   refine al (bO (us:=[K m 0,K n 0,K o 0]) u91 Z bV Z (a.q 22 Z Z)) Z ?_
   replace a:=a.pick (os':=[X da [vB aL.1,ci],O U ci aL.2,X c9 [vB aA.1,ch],O U ch aA.2,X c8 [vB bz.1,cg],O U cg bz.2,X c7 [vB bw.1,cf],O U cf bw.2,X c6 [vB bi.1,ce],O U ce bi.2,X c5 [vB bv.1,cd],O U cd bv.2,X cc [vB bd.1,bh],O U bh bd.2,X cb [vB aK.1,bf],O U bf aK.2,X bu [vB ab.1,aF],O U aF ab.2,X bt [vB aQ.1,aE],O U aE aQ.2]++[X bH [.pointer none,.pointer none,.pointer none],X bG [K p 0,K q 0,K s 0],X bF [K m 0,K n 0,K o 0]]) [0,1,2,3,4,5,6,7,8,9,10,11,12,13,14,15,16,17,18,19,20,21,22] (by decide) rfl
   obtain ⟨hZ,b,y,a⟩:=hZ.frzK hTT b y a
   obtain ⟨dz,cL,h⟩:=aj h
   refine ao Z (gp d e f g j l G L u cL (hZ.okT hTT a) (b.j y 0 Z) (b.k y 1 Z) (b.j y 2 Z) (b.k y 3 Z) (b.j y 4 Z) (b.k y 5 Z) (b.j y 6 Z) (b.k y 7 Z) (b.j y 8 Z) (b.k y 9 Z) (b.k y 10 Z) (b.j y 11 Z) (b.k y 12 Z) (b.j y 13 Z) (b.k y 14 Z) (b.j y 15 Z) (b.k y 16 Z)) Z ?_
   rintro _ w ⟨aM,bq,aO,br,aP,bs,rfl,c,df⟩
   obtain ⟨dA,dg,hZ,b,y,a⟩:=hZ.m b y a c df rfl
   refine bn (bA (i:=0) (us:=[K aM 0,K aO 0,K aP 0]) Z bV Z Z Z ⟨Z,Z,Z,V⟩ Z a) ?_
   intro w a
   refine J (N (ay (aG (aG ?_))))
   cases h
   obtain ⟨hS0,hR⟩:=hZ.outT hTT b y a
   exact eK Z ⟨_,Z,bY (us:=[K aM 0,K aO 0,K aP 0]) u91 Z bV (a.q 0 Z Z)⟩ ⟨aM,bq,aO,br,aP,bs,Z,hS0,(Y (hR.b 48 Z) (Y (hR.b 47 Z) (Y (hR.b 46 Z) (Y (hR.b 45 Z) (Y (hR.b 44 Z) (Y (hR.b 43 Z) P.nil))))))⟩
  have h:=aI h bj
  refine aw (N (M (H ?_)))
  obtain ⟨dB,cM,h⟩:=aj h
  refine ao Z (eR  cM ) Z ?_
  rintro _ w ⟨db,dc,dd,bB,bC,bD,rfl,c⟩
  have a:=a.f c
  refine bn (bA (i:=26) (us:=[K bB 0,K bC 0,K bD 0]) Z bV Z Z Z ⟨Z,Z,Z,V⟩ Z a) ?_
  intro w a
  refine J (N (ay (aG ?_)))
  cases h
  obtain ⟨hS0,hR⟩:=hZ.outT hTT b y a
  exact eK Z ⟨_,Z,bY (us:=[K bB 0,K bC 0,K bD 0]) u91 Z bV (a.q 26 Z Z)⟩ ⟨bB,db,bC,dc,bD,dd,Z,hS0,(Y (hR.b 47 Z) (Y (hR.b 46 Z) (Y (hR.b 49 Z) (Y (hR.b 48 Z) (Y (hR.b 51 Z) (Y (hR.b 50 Z) P.nil))))))⟩
 have h:=aI h be
 refine aw (N (M (H (Q 3 Z ?_))))
 obtain ⟨cj,cN,h⟩:=aj h
 refine ao Z (bc d e f g j l aA.1 aA.1 cN ((b.rp 0 Z).d a.fr).rp ((b.rb 1 Z).d a.fr) ((b.rp 2 Z).d a.fr).rp ((b.rb 3 Z).d a.fr) ((b.rp 4 Z).d a.fr).rp ((b.rb 5 Z).d a.fr) ((b.rp 6 Z).d a.fr).rp ((b.rb 7 Z).d a.fr) ((b.rp 8 Z).d a.fr).rp ((b.rb 9 Z).d a.fr) ((b.rb 10 Z).d a.fr) (a.ro 3 Z).rp (a.rb 2 Z) (a.ro 3 Z).rp (a.rb 2 Z)) Z ?_
 rintro _ w ⟨dC,dD,rfl,c⟩
 have a:=a.f c
 refine Q 1 Z ?_
 refine J (N (M (H (Q 3 Z ?_))))
 obtain ⟨ck,cO,h⟩:=aj h
 refine ao Z (bc d e f g j l aA.1 cj.1 cO ((b.rp 0 Z).d a.fr).rp ((b.rb 1 Z).d a.fr) ((b.rp 2 Z).d a.fr).rp ((b.rb 3 Z).d a.fr) ((b.rp 4 Z).d a.fr).rp ((b.rb 5 Z).d a.fr) ((b.rp 6 Z).d a.fr).rp ((b.rb 7 Z).d a.fr) ((b.rp 8 Z).d a.fr).rp ((b.rb 9 Z).d a.fr) ((b.rb 10 Z).d a.fr) (a.ro 5 Z).rp (a.rb 4 Z) (a.ro 1 Z).rp (a.rb 0 Z)) Z ?_
 rintro _ w ⟨dE,dF,rfl,c⟩
 have a:=a.f c
 refine Q 3 Z ?_
 obtain ⟨cm,cP,h⟩:=aj h
 refine ao Z (bc d e f g j l aK.1 cj.1 cP ((b.rp 0 Z).d a.fr).rp ((b.rb 1 Z).d a.fr) ((b.rp 2 Z).d a.fr).rp ((b.rb 3 Z).d a.fr) ((b.rp 4 Z).d a.fr).rp ((b.rb 5 Z).d a.fr) ((b.rp 6 Z).d a.fr).rp ((b.rb 7 Z).d a.fr) ((b.rp 8 Z).d a.fr).rp ((b.rb 9 Z).d a.fr) ((b.rb 10 Z).d a.fr) (a.ro 19 Z).rp (a.rb 18 Z) (a.ro 3 Z).rp (a.rb 2 Z)) Z ?_
 rintro _ w ⟨dG,dH,rfl,c⟩
 have a:=a.f c
 refine Q 2 Z ?_
 refine J (N (M (H (Q 5 Z ?_))))
 obtain ⟨de,cQ,h⟩:=aj h
 refine ao Z (bc d e f g j l aL.1 aL.1 cQ ((b.rp 0 Z).d a.fr).rp ((b.rb 1 Z).d a.fr) ((b.rp 2 Z).d a.fr).rp ((b.rb 3 Z).d a.fr) ((b.rp 4 Z).d a.fr).rp ((b.rb 5 Z).d a.fr) ((b.rp 6 Z).d a.fr).rp ((b.rb 7 Z).d a.fr) ((b.rp 8 Z).d a.fr).rp ((b.rb 9 Z).d a.fr) ((b.rb 10 Z).d a.fr) (a.ro 7 Z).rp (a.rb 6 Z) (a.ro 7 Z).rp (a.rb 6 Z)) Z ?_
 rintro _ w ⟨dI,dJ,rfl,c⟩
 have a:=a.f c
 refine Q 1 Z ?_
 obtain ⟨cR,cn,h⟩:=aj h
 refine ao Z (cp d e f g j l de.1 ck.1 cn ((b.rp 0 Z).d a.fr).rp ((b.rb 1 Z).d a.fr) ((b.rp 2 Z).d a.fr).rp ((b.rb 3 Z).d a.fr) ((b.rp 4 Z).d a.fr).rp ((b.rb 5 Z).d a.fr) ((b.rp 6 Z).d a.fr).rp ((b.rb 7 Z).d a.fr) ((b.rp 8 Z).d a.fr).rp ((b.rb 9 Z).d a.fr) ((b.rb 10 Z).d a.fr) (a.ro 1 Z).rp (a.rb 0 Z) (a.ro 5 Z).rp (a.rb 4 Z)) Z ?_
 rintro _ w ⟨dh,di,rfl,c⟩
 have a:=a.f c
 refine Q 2 Z ?_
 obtain ⟨cS,co,h⟩:=aj h
 refine ao Z (cU d e f g j l 2 cm.1 co ((b.rp 0 Z).d a.fr).rp ((b.rb 1 Z).d a.fr) ((b.rp 2 Z).d a.fr).rp ((b.rb 3 Z).d a.fr) ((b.rp 4 Z).d a.fr).rp ((b.rb 5 Z).d a.fr) ((b.rp 6 Z).d a.fr).rp ((b.rb 7 Z).d a.fr) ((b.rp 8 Z).d a.fr).rp ((b.rb 9 Z).d a.fr) ((b.rb 10 Z).d a.fr) (a.ro 5 Z).rp (a.rb 4 Z)) Z ?_
 rintro _ w ⟨dj,dk,rfl,c⟩
 have a:=a.f c
 obtain ⟨cT,cq,h⟩:=aj h
 refine ao Z (cp d e f g j l cR.1 cS.1 cq ((b.rp 0 Z).d a.fr).rp ((b.rb 1 Z).d a.fr) ((b.rp 2 Z).d a.fr).rp ((b.rb 3 Z).d a.fr) ((b.rp 4 Z).d a.fr).rp ((b.rb 5 Z).d a.fr) ((b.rp 6 Z).d a.fr).rp ((b.rb 7 Z).d a.fr) ((b.rp 8 Z).d a.fr).rp ((b.rb 9 Z).d a.fr) ((b.rb 10 Z).d a.fr) (a.ro 3 Z).rp (a.rb 2 Z) (a.ro 1 Z).rp (a.rb 0 Z)) Z ?_
 rintro _ w ⟨cV,ap,rfl,c⟩
 have a:=a.f c
 refine Q 1 Z ?_
 refine J (N (M (H (Q 6 Z ?_))))
 obtain ⟨cW,cr,h⟩:=aj h
 refine ao Z (cp d e f g j l cm.1 cT.1 cr ((b.rp 0 Z).d a.fr).rp ((b.rb 1 Z).d a.fr) ((b.rp 2 Z).d a.fr).rp ((b.rb 3 Z).d a.fr) ((b.rp 4 Z).d a.fr).rp ((b.rb 5 Z).d a.fr) ((b.rp 6 Z).d a.fr).rp ((b.rb 7 Z).d a.fr) ((b.rp 8 Z).d a.fr).rp ((b.rb 9 Z).d a.fr) ((b.rb 10 Z).d a.fr) (a.ro 9 Z).rp (a.rb 8 Z) (a.ro 1 Z).rp (a.rb 0 Z)) Z ?_
 rintro _ w ⟨dl,dm,rfl,c⟩
 have a:=a.f c
 obtain ⟨cX,ct,h⟩:=aj h
 refine ao Z (bc d e f g j l aL.1 cW.1 ct ((b.rp 0 Z).d a.fr).rp ((b.rb 1 Z).d a.fr) ((b.rp 2 Z).d a.fr).rp ((b.rb 3 Z).d a.fr) ((b.rp 4 Z).d a.fr).rp ((b.rb 5 Z).d a.fr) ((b.rp 6 Z).d a.fr).rp ((b.rb 7 Z).d a.fr) ((b.rp 8 Z).d a.fr).rp ((b.rb 9 Z).d a.fr) ((b.rb 10 Z).d a.fr) (a.ro 17 Z).rp (a.rb 16 Z) (a.ro 1 Z).rp (a.rb 0 Z)) Z ?_
 rintro _ w ⟨dn,dp,rfl,c⟩
 have a:=a.f c
 refine Q 3 Z ?_
 obtain ⟨cY,cu,h⟩:=aj h
 refine ao Z (bc d e f g j l bi.1 ck.1 cu ((b.rp 0 Z).d a.fr).rp ((b.rb 1 Z).d a.fr) ((b.rp 2 Z).d a.fr).rp ((b.rb 3 Z).d a.fr) ((b.rp 4 Z).d a.fr).rp ((b.rb 5 Z).d a.fr) ((b.rp 6 Z).d a.fr).rp ((b.rb 7 Z).d a.fr) ((b.rp 8 Z).d a.fr).rp ((b.rb 9 Z).d a.fr) ((b.rb 10 Z).d a.fr) (a.ro 27 Z).rp (a.rb 26 Z) (a.ro 15 Z).rp (a.rb 14 Z)) Z ?_
 rintro _ w ⟨dq,dr,rfl,c⟩
 have a:=a.f c
 obtain ⟨ds,cv,h⟩:=aj h
 refine ao Z (cp d e f g j l cX.1 cY.1 cv ((b.rp 0 Z).d a.fr).rp ((b.rb 1 Z).d a.fr) ((b.rp 2 Z).d a.fr).rp ((b.rb 3 Z).d a.fr) ((b.rp 4 Z).d a.fr).rp ((b.rb 5 Z).d a.fr) ((b.rp 6 Z).d a.fr).rp ((b.rb 7 Z).d a.fr) ((b.rp 8 Z).d a.fr).rp ((b.rb 9 Z).d a.fr) ((b.rb 10 Z).d a.fr) (a.ro 3 Z).rp (a.rb 2 Z) (a.ro 1 Z).rp (a.rb 0 Z)) Z ?_
 rintro _ w ⟨cZ,aq,rfl,c⟩
 have a:=a.f c
 refine Q 1 Z ?_
 refine J (N (M (H (Q 5 Z ?_))))
 refine al (ax (k:=2) u91 Z Z cC Z) Z (al (aH u73 Z Z (a.r 44 Z 2)) Z (al (ax (k:=2) u91 Z Z cC Z) Z (al (aH u73 Z Z (a.r 43 Z 2)) Z ?_)))
 obtain ⟨c0,cw,h⟩:=aj h
 refine ao Z (bc d e f g j l u x cw ((b.rp 0 Z).d a.fr).rp ((b.rb 1 Z).d a.fr) ((b.rp 2 Z).d a.fr).rp ((b.rb 3 Z).d a.fr) ((b.rp 4 Z).d a.fr).rp ((b.rb 5 Z).d a.fr) ((b.rp 6 Z).d a.fr).rp ((b.rb 7 Z).d a.fr) ((b.rp 8 Z).d a.fr).rp ((b.rb 9 Z).d a.fr) ((b.rb 10 Z).d a.fr) ((b.rp 15 Z).d a.fr).rp ((b.rb 16 Z).d a.fr) ((b.rp 21 Z).d a.fr).rp ((b.rb 22 Z).d a.fr)) Z ?_
 rintro _ w ⟨dt,du,rfl,c⟩
 have a:=a.f c
 obtain ⟨dv,cx,h⟩:=aj h
 refine ao Z (bc d e f g j l aA.1 c0.1 cx ((b.rp 0 Z).d a.fr).rp ((b.rb 1 Z).d a.fr) ((b.rp 2 Z).d a.fr).rp ((b.rb 3 Z).d a.fr) ((b.rp 4 Z).d a.fr).rp ((b.rb 5 Z).d a.fr) ((b.rp 6 Z).d a.fr).rp ((b.rb 7 Z).d a.fr) ((b.rp 8 Z).d a.fr).rp ((b.rb 9 Z).d a.fr) ((b.rb 10 Z).d a.fr) (a.ro 27 Z).rp (a.rb 26 Z) (a.ro 1 Z).rp (a.rb 0 Z)) Z ?_
 rintro _ w ⟨c1,az,rfl,c⟩
 have a:=a.f c
 refine al (cl (vs:=[(0,K ap 0,[K ap 0]),(1,K aq 0,[K aq 0]),(2,K az 0,[K az 0])]) (cells:=[K ap 0,K aq 0,K az 0]) Z mp ⟨Z,Z,Z,V⟩ Z) Z ?_
 refine bn (bA (i:=46) (us:=[K ap 0,K aq 0,K az 0]) Z bV Z Z Z ⟨Z,Z,Z,V⟩ Z a) ?_
 intro w a
 refine J (N (ay ?_))
 cases h
 obtain ⟨hS0,hR⟩:=hZ.outT hTT b y a
 exact eK Z ⟨_,Z,bY (us:=[K ap 0,K aq 0,K az 0]) u91 Z bV (a.q 46 Z Z)⟩ ⟨ap,cV,aq,cZ,az,c1,Z,hS0,(Y (hR.b 71 Z) (Y (hR.b 70 Z) (Y (hR.b 67 Z) (Y (hR.b 66 Z) (Y (hR.b 59 Z) (Y (hR.b 58 Z) P.nil))))))⟩
theorem lV {d:World} {aA aB aC aE aF aK aL aM:List UInt32} {S T ab ac ad ag ak an:Value} {a1 aS aT aV aW aX m n o:Nat} (b e f g j:Bool) (C:Int) (G L x:Bool) {r:List UInt32×List UInt32×Bool}
  (h:F.Co b aA e aB f aC g aE j aF C G aK L aL x aM=some r) (l:RP [] d U S aA) (p:RB [] d aS [vB b,S]) (q:RP [] d U T aB) (y:RB [] d aT [vB e,T]) (s:RP [] d U ab aC) (z:RB [] d aV [vB f,ab]) (t:RP [] d U ac aE) (A:RB [] d aW [vB g,ac]) (u:RP [] d U ad aF) (B:RB [] d aX [vB j,ad]) (hBa0:RB [] d a1 [K aS 0,K aT 0,K aV 0,K aW 0,K aX 0,vI C,.func (.func 168) #[] #[]]) (aY:RP [] d U ag aK) (a2:RB [] d m [vB G,ag]) (aZ:RP [] d U ak aL) (a3:RB [] d n [vB L,ak]) (ap:RP [] d U an aM) (aP:RB [] d o [vB x,an]):Calls Tryz.prog 73 #[K a1 0,.agg #[K m 0,K n 0,K o 0]] d (Ret fun v w=>∃a4 a5:Value,v=.agg #[a4,a5,vB r.2.2]∧St [] d w [O U a4 r.1,O U a5 r.2.1]):=by
 refine aN 40 Tryz.func73 Z Z Z ?_
 have a:=St.l d
 refine ar [(0,K a1 0),(1,.agg #[K m 0,K n 0,K o 0])] ⟨Z,Z,V⟩ ?_
 unfold F.Co at h
 refine M (H (aU (dy (cs:=[K m 0,K n 0,K o 0]) Z Z a) Z ?_))
 rintro _ w ⟨a6,rfl,a⟩
 refine aU (bg (cs:=[.slice none 0 0,.slice none 0 0,vB false]) kE Z a) Z ?_
 rintro _ w ⟨a7,rfl,a⟩
 refine J (N (M (M (H (al (ax (k:=2) u91 Z Z cC Z) Z (al (aH u73 Z Z (a.r 1 Z 2)) Z ?_))))))
 obtain ⟨bG,bo,h⟩:=aj h
 refine ao Z (cE x bo (ap.d a.fr).rp (aP.d a.fr)) Z ?_
 rintro _ w ⟨rfl,c⟩
 have a:=a.f c
 refine Q 1 Z ?_
 refine J (N ?_)
 refine av Z (fun aq=>?_) (fun aq=>?_)
 ·have h:=aJ h aq
  refine M (H (al (cl (vs:=[(2,vB true,[vB true])]) (cells:=[.slice none 0 0,.slice none 0 0,vB true]) Z gr ⟨Z,V⟩ Z) Z (bn (bA (i:=0) (us:=[.slice none 0 0,.slice none 0 0,vB true]) Z cx Z Z Z ⟨Z,Z,Z,V⟩ Z a) ?_)))
  intro w a
  refine J (N (ay (aG ?_)))
  cases h
  exact eK Z ⟨_,Z,bY (us:=[.slice none 0 0,.slice none 0 0,vB true]) u33 Z cx (a.q 0 Z Z)⟩ ⟨.slice none 0 0,.slice none 0 0,Z,((a.nil U).nil U).e [1,0] Z Z⟩
 have h:=aI h aq
 refine aw (N (M ?_))
 refine bb (fun w'=>St [] d w' [X a7 [.slice none 0 0,.slice none 0 0,vB false],X a6 [K m 0,K n 0,K o 0]]) (fun i=>!([0,7].contains i)) bR (fun _ _ _ hf=>hf.2) (fun _ _ hf=>hf) (by kernel_rfl) ?_
 have a:=a.drew
 show lxE _ _ _ _ _ _ _ [0,1,2,3,4,5,6,7,8] _ _
 refine A9 a Z Z (bg (cs:=[vB false,.slice none 0 0]) cW Z a) Z ?_
 rintro _ w ⟨bm,rfl,a⟩
 refine am (a.e [1,2] Z Z) Z Z (fun w hF=>ax (k:=2) u91 Z Z cC Z) Z (am (a.e [1,2] Z Z) Z Z (fun w hF=>aH u73 Z Z (hF.r 1 Z 2)) Z (am (a.e [1,2] Z Z) Z Z (fun w hF=>au Z) Z (am (a.e [1,2] Z Z) Z Z (fun w hF=>aO Z) Z (am (a.e [1,2] Z Z) Z Z (fun w hF=>ax (k:=0) u76 Z Z cC Z) Z (am (a.e [1,2] Z Z) Z Z (fun w hF=>aH u73 Z Z (hBa0.cell hF.fr 0 Z)) Z ?_)))))
 replace a:=a.nil U
 have hG:=a.pick (os':=[X bm [vB false,.slice none 0 0],O U (.slice none 0 0) []]++[X a7 [.slice none 0 0,.slice none 0 0,vB false],X a6 [K m 0,K n 0,K o 0]]) [1,0,2,3] (by decide) Z
 obtain ⟨aQ,bq,h⟩:=aj h
 refine bk (a.e [2,3] Z Z) Z Z (by kernel_rfl) Z (js false x b bq hG.g (ap.g (R Z) hG) (aP.g hG) (l.g (R Z) hG) (p.g hG)) Z ?_
 rintro _ w ⟨a8,rfl,c⟩
 have a:=hG.h c
 refine am (a.e [2,3] Z Z) Z Z (fun w hF=>aD Z) Z (bp (a.e [2,3] Z Z) ?_)
 refine N (M (H (Q 3 Z ?_)))
 obtain ⟨az,ba,h⟩:=aj h
 refine ao Z (bc b e f g j C aQ.1 aQ.1 ba (l.d a.fr).rp (p.d a.fr) (q.d a.fr).rp (y.d a.fr) (s.d a.fr).rp (z.d a.fr) (t.d a.fr).rp (A.d a.fr) (u.d a.fr).rp (B.d a.fr) (hBa0.d a.fr) (a.ro 1 Z).rp (a.rb 0 Z) (a.ro 1 Z).rp (a.rb 0 Z)) Z ?_
 rintro _ w ⟨a9,br,rfl,c⟩
 have a:=a.f c
 refine Q 1 Z ?_
 refine J (N (M ?_))
 refine dU (fun w'=>St [] d w' [X br [vB az.1,a9],O U a9 az.2,X bm [vB aQ.1,a8],O U a8 aQ.2,X a7 [.slice none 0 0,.slice none 0 0,vB false],X a6 [K m 0,K n 0,K o 0]]) (fun i=>!([4,5,12,13,14,16].contains i)) bR (fun _ _ _ hf=>hf.2) (fun _ _ hf=>hf) (by kernel_rfl) ?_
 have a:=a.drew
 show lxE _ _ _ _ _ _ _ [0,1,2,3,4,5,6,7,8,9,10,11,12,13,14,15,16] _ _
 refine am a Z Z (fun w hF=>au Z) Z (am a Z Z (fun w hF=>ax (k:=0) u91 Z Z cC Z) Z (am a Z Z (fun w hF=>aH u73 Z Z (hF.r 5 Z 0)) Z (am a Z Z (fun w hF=>au Z) Z ?_)))
 obtain ⟨bs,bd,h⟩:=aj h
 refine bk a Z Z (by kernel_rfl) Z (bc b e f g j C G az.1 bd (l.d a.fr).rp (p.d a.fr) (q.d a.fr).rp (y.d a.fr) (s.d a.fr).rp (z.d a.fr) (t.d a.fr).rp (A.d a.fr) (u.d a.fr).rp (B.d a.fr) (hBa0.d a.fr) (aY.d a.fr).rp (a2.d a.fr) (a.ro 1 Z).rp (a.rb 0 Z)) Z ?_
 rintro _ w ⟨bv,bw,rfl,c⟩
 have a:=a.f c
 obtain ⟨bz,be,h⟩:=aj h
 refine bk (a.e [2,3,4,5,6,7] Z Z) Z Z (by kernel_rfl) Z (fR bs.1 be (a.ro 1 Z).rp (a.rb 0 Z)) Z ?_
 rintro D w c
 have a:=a.f c
 have bf:=(a.ro 0 Z).one
 refine am (a.e [3,4,5,6,7,8] Z Z) Z Z (fun w hF=>au Z) Z (am (a.e [3,4,5,6,7,8] Z Z) Z Z (fun w hF=>ax (k:=1) u91 Z Z cC Z) Z (am (a.e [3,4,5,6,7,8] Z Z) Z Z (fun w hF=>aH u73 Z Z (hF.r 5 Z 1)) Z (am (a.e [3,4,5,6,7,8] Z Z) Z Z (fun w hF=>au Z) Z (am (a.e [3,4,5,6,7,8] Z Z) Z Z (fun w hF=>au Z) Z (am (a.e [3,4,5,6,7,8] Z Z) Z Z (fun w hF=>au Z) Z ?_)))))
 obtain ⟨bt,bh,h⟩:=aj h
 refine bk (a.e [3,4,5,6,7,8] Z Z) Z Z (by kernel_rfl) Z (bc b e f g j C aQ.1 az.1 bh (l.d a.fr).rp (p.d a.fr) (q.d a.fr).rp (y.d a.fr) (s.d a.fr).rp (z.d a.fr) (t.d a.fr).rp (A.d a.fr) (u.d a.fr).rp (B.d a.fr) (hBa0.d a.fr) (a.ro 6 Z).rp (a.rb 5 Z) (a.ro 4 Z).rp (a.rb 3 Z)) Z ?_
 rintro _ w ⟨bB,bC,rfl,c⟩
 have a:=a.f c
 obtain ⟨bu,bi,h⟩:=aj h
 refine bk (a.e [5,6,7,8,9,10] Z Z) Z Z (by kernel_rfl) Z (bc b e f g j C L bt.1 bi (l.d a.fr).rp (p.d a.fr) (q.d a.fr).rp (y.d a.fr) (s.d a.fr).rp (z.d a.fr) (t.d a.fr).rp (A.d a.fr) (u.d a.fr).rp (B.d a.fr) (hBa0.d a.fr) (aZ.d a.fr).rp (a3.d a.fr) (a.ro 1 Z).rp (a.rb 0 Z)) Z ?_
 rintro _ w ⟨bD,bE,rfl,c⟩
 have a:=a.f c
 obtain ⟨bF,bj,h⟩:=aj h
 refine bk (a.e [7,8,9,10,11,12] Z Z) Z Z (by kernel_rfl) Z (fR bu.1 bj (a.ro 1 Z).rp (a.rb 0 Z)) Z ?_
 rintro E w c
 have a:=a.f c
 have bl:=(a.ro 0 Z).one
 refine am (a.e [8,9,10,11,12,13] Z Z) Z Z (fun w hF=>cl (vs:=[(0,D,[D]),(1,E,[E])]) (cells:=[D,E,vB false]) Z gr ⟨(fo bf),(fo bl),V⟩ Z) Z ?_
 refine iK (a.e [8,9,10,11,12,13] Z Z) Z Z (bA (i:=12) (us:=[D,E,vB false]) Z cx Z Z Z ⟨(a.ro 5 Z).one,(a.ro 0 Z).one,Z,V⟩ Z a) ?_
 intro w a
 refine bp V ?_
 refine N (ay ?_)
 cases h
 exact eK Z ⟨_,Z,bY (us:=[D,E,vB false]) u33 Z cx (a.q 12 Z Z)⟩ ⟨D,E,Z,a.e [5,0] Z Z⟩
theorem qV {d:World} {aH aK aL aM aO aP aQ aR aS aT aV:List UInt32} {t u x y z A B C D E G:Value} {be aC aD aE aF aG k l m e f j:Nat} {T:List Nat} (n o p q s:Bool) (aW:Int) (ag ak am a2 an ap aq:Bool) {r:Bool×List UInt32×Bool×List UInt32×Bool×List UInt32}
  (h:F.CQ n aH o aK p aL q aM s aO aW ag aP ak aQ am aR a2 an aS ap aT aq aV=some r) (hTT:TOk [] T d) (bk:RP T d U t aH) (bw:RB T d aC [vB n,t]) (bl:RP T d U u aK) (bz:RB T d aD [vB o,u]) (bm:RP T d U x aL) (bB:RB T d aE [vB p,x]) (bo:RP T d U y aM) (bC:RB T d aF [vB q,y]) (bp:RP T d U z aO) (bD:RB T d aG [vB s,z]) (hBa0:RB T d be [K aC 0,K aD 0,K aE 0,K aF 0,K aG 0,vI aW,.func (.func 168) #[] #[]]) (bq:RP T d U A aP) (bE:RB T d k [vB ag,A]) (br:RP T d U B aQ) (bF:RB T d l [vB ak,B]) (bs:RP T d U C aR) (bG:RB T d m [vB am,C]) (bt:RP T d U D aS) (bH:RB T d e [vB an,D]) (bu:RP T d U E aT) (bI:RB T d f [vB ap,E]) (bv:RP T d U G aV) (bJ:RB T d j [vB aq,G]):Calls Tryz.prog 168 #[K be 0,.agg #[K k 0,K l 0,K m 0],vB a2,.agg #[K e 0,K f 0,K j 0]] d (Ret fun v w=>∃bK:Nat,∃a5:Value,∃bL:Nat,∃a6:Value,∃bM:Nat,∃a7:Value,v=.agg #[K bK 0,K bL 0,K bM 0]∧St [] d w []∧P T w [X bM [vB r.2.2.2.2.1,a7],red U a7 r.2.2.2.2.2,X bL [vB r.2.2.1,a6],red U a6 r.2.2.2.1,X bK [vB r.1,a5],red U a5 r.2.1]):=by
 refine aN 18 Tryz.func168 Z Z Z ?_
 have c:=St.l d
 have hZ:=Fz.l (S:=[]) (w0:=d)
 have hA0:P T d [X j [vB aq,G],red U G aV,X f [vB ap,E],red U E aT,X e [vB an,D],red U D aS,X m [vB am,C],red U C aR,X l [vB ak,B],red U B aQ,X k [vB ag,A],red U A aP,X be [K aC 0,K aD 0,K aE 0,K aF 0,K aG 0,vI aW,.func (.func 168) #[] #[]],X aG [vB s,z],red U z aO,X aF [vB q,y],red U y aM,X aE [vB p,x],red U x aL,X aD [vB o,u],red U u aK,X aC [vB n,t],red U t aH]:=Y bJ.i (Y (RP.i (R Z) bv) (Y bI.i (Y (RP.i (R Z) bu) (Y bH.i (Y (RP.i (R Z) bt) (Y bG.i (Y (RP.i (R Z) bs) (Y bF.i (Y (RP.i (R Z) br) (Y bE.i (Y (RP.i (R Z) bq) (Y hBa0.i (Y bD.i (Y (RP.i (R Z) bp) (Y bC.i (Y (RP.i (R Z) bo) (Y bB.i (Y (RP.i (R Z) bm) (Y bz.i (Y (RP.i (R Z) bl) (Y bw.i (Y (RP.i (R Z) bk) (P.nil)))))))))))))))))))))))
 have a:=hA0.all
 have b:=hA0.off Z
 refine ar [(0,K be 0),(1,.agg #[K k 0,K l 0,K m 0]),(2,vB a2),(3,.agg #[K e 0,K f 0,K j 0])] ⟨Z,Z,Z,Z,V⟩ ?_
 unfold F.CQ at h
 refine M (H (aU (dy (cs:=[K k 0,K l 0,K m 0]) Z Z c) Z ?_))
 rintro _ w ⟨bh,rfl,c⟩
 refine aU (dy (cs:=[K e 0,K f 0,K j 0]) Z Z c) Z ?_
 rintro _ w ⟨bR,rfl,c⟩
 refine aU (bg (cs:=[.pointer none,.pointer none,.pointer none]) ft Z c) Z ?_
 rintro _ w ⟨bi,rfl,c⟩
 refine J (N (M (H (Q 1 Z ?_))))
 refine al (bO (us:=[K k 0,K l 0,K m 0]) u91 Z bV Z (c.q 2 Z Z)) Z ?_
 replace c:=c.pick (os':=[]++[X bi [.pointer none,.pointer none,.pointer none],X bR [K e 0,K f 0,K j 0],X bh [K k 0,K l 0,K m 0]]) [0,1,2] (by decide) rfl
 obtain ⟨hZ,a,b,c⟩:=hZ.frzK hTT a b c
 obtain ⟨au,bS,h⟩:=aj h
 refine ao Z (gp n o p q s aW ag ak am bS (hZ.okT hTT c) (a.j b 0 Z) (a.k b 1 Z) (a.j b 2 Z) (a.k b 3 Z) (a.j b 4 Z) (a.k b 5 Z) (a.j b 6 Z) (a.k b 7 Z) (a.j b 8 Z) (a.k b 9 Z) (a.k b 10 Z) (a.j b 11 Z) (a.k b 12 Z) (a.j b 13 Z) (a.k b 14 Z) (a.j b 15 Z) (a.k b 16 Z)) Z ?_
 rintro _ w ⟨ax,bb,az,bc,aA,bd,rfl,bN,bP⟩
 obtain ⟨bX,bT,hZ,a,b,c⟩:=hZ.m a b c bN bP rfl
 refine bn (bA (i:=2) (us:=[K ax 0,K az 0,K aA 0]) Z bV Z Z Z ⟨Z,Z,Z,V⟩ Z c) ?_
 intro w c
 refine J (N ?_)
 refine bf (r:=r) (fun (g:Bool×List UInt32×Bool×List UInt32×Bool×List UInt32) L w=>∃(ab:Nat) (a0:Value) (ac:Nat) (a1:Value) (ad:Nat) (a3:Value),L=[(5,K bh 0),(8,K bi 0)]∧SfT [] T d w [X ad [vB g.2.2.2.2.1,a3],red U a3 g.2.2.2.2.2,X ac [vB g.2.2.1,a1],red U a1 g.2.2.2.1,X ab [vB g.1,a0],red U a0 g.2.1] [X bh [K ab 0,K ac 0,K ad 0],X bi [.pointer none,.pointer none,.pointer none]]) (F.E3) ?_ ?_
 rotate_left
 ·intro bj
  refine M (H (Q 1 Z ?_))
  refine J (N ?_)
  refine av Z (fun a4=>?_) (fun a4=>?_)
  ·have h:=aJ h a4
   refine H (Q 1 Z ?_)
   refine al (bO (us:=[K ax 0,K az 0,K aA 0]) u91 Z bV Z (c.q 2 Z Z)) Z (al (bO (us:=[K e 0,K f 0,K j 0]) u91 Z bV Z (c.q 1 Z Z)) Z ?_)
   replace c:=c.pick (os':=[]++[X bi [.pointer none,.pointer none,.pointer none],X bR [K e 0,K f 0,K j 0],X bh [K ax 0,K az 0,K aA 0]]) [0,1,2] (by decide) rfl
   obtain ⟨hZ,a,b,c⟩:=hZ.frzK hTT a b c
   obtain ⟨aB,bQ,h⟩:=aj h
   refine ao Z (iG n o p q s aW au.1 au.2.2.1 au.2.2.2.2.1 an ap aq bQ (hZ.okT hTT c) (a.j b 0 Z) (a.k b 1 Z) (a.j b 2 Z) (a.k b 3 Z) (a.j b 4 Z) (a.k b 5 Z) (a.j b 6 Z) (a.k b 7 Z) (a.j b 8 Z) (a.k b 9 Z) (a.k b 10 Z) (a.j b 23 Z) (a.k b 24 Z) (a.j b 25 Z) (a.k b 26 Z) (a.j b 27 Z) (a.k b 28 Z) (a.j b 17 Z) (a.k b 18 Z) (a.j b 19 Z) (a.k b 20 Z) (a.j b 21 Z) (a.k b 22 Z)) Z ?_
   rintro _ w ⟨aX,a8,aY,a9,aZ,ba,rfl,bN,bP⟩
   obtain ⟨bZ,bU,hZ,a,b,c⟩:=hZ.m a b c bN bP rfl
   refine bn (bA (i:=2) (us:=[K aX 0,K aY 0,K aZ 0]) Z bV Z Z Z ⟨Z,Z,Z,V⟩ Z c) ?_
   intro w c
   refine J (N ?_)
   exact ar _ (by exact ⟨Z,Z,V⟩) (bj (aB.1,aB.2.1,aB.2.2.1,aB.2.2.2.1,aB.2.2.2.2.1,aB.2.2.2.2.2) _ _ ⟨aX,a8,aY,a9,aZ,ba,Z,(SfT.mk' hZ (Y (a.b 34 Z) (Y (a.b 33 Z) (Y (a.b 32 Z) (Y (a.b 31 Z) (Y (a.b 30 Z) (Y (a.b 29 Z) P.nil)))))) (W (b.b 34 Z) (W (b.b 33 Z) (W (b.b 32 Z) (W (b.b 31 Z) (W (b.b 30 Z) (W (b.b 29 Z) I.nil)))))) (c.e [2,0] Z Z))⟩ h)
  have h:=aI h a4
  refine aw (N ?_)
  exact ar _ (by exact ⟨Z,Z,V⟩) (bj (au.1,au.2.1,au.2.2.1,au.2.2.2.1,au.2.2.2.2.1,au.2.2.2.2.2) _ _ ⟨ax,bb,az,bc,aA,bd,Z,(SfT.mk' hZ (Y (a.b 28 Z) (Y (a.b 27 Z) (Y (a.b 26 Z) (Y (a.b 25 Z) (Y (a.b 24 Z) (Y (a.b 23 Z) P.nil)))))) (W (b.b 28 Z) (W (b.b 27 Z) (W (b.b 26 Z) (W (b.b 25 Z) (W (b.b 24 Z) (W (b.b 23 Z) I.nil)))))) (c.e [2,0] Z Z))⟩ h)
 rintro ⟨b0,b1,b2,b3,b4,b5⟩ L w hJ h
 try dsimp only at hJ
 obtain ⟨ab,a0,ac,a1,ad,a3,rfl,⟨b6,bW,hZ,a,b,c⟩⟩:=hJ
 unfold F.E3 at h
 refine M (H (al (bO (us:=[K ab 0,K ac 0,K ad 0]) u91 Z bV Z (c.q 0 Z Z)) Z (bn (bA (i:=1) (us:=[K ab 0,K ac 0,K ad 0]) Z bV Z Z Z ⟨Z,Z,Z,V⟩ Z c) ?_)))
 intro w c
 refine J (N (ay ?_))
 cases h
 obtain ⟨hS0,hR⟩:=hZ.outT hTT a b c
 exact eK Z ⟨_,Z,bY (us:=[K ab 0,K ac 0,K ad 0]) u91 Z bV (c.q 1 Z Z)⟩ ⟨ab,a0,ac,a1,ad,a3,Z,hS0,(Y (hR.b 5 Z) (Y (hR.b 4 Z) (Y (hR.b 3 Z) (Y (hR.b 2 Z) (Y (hR.b 1 Z) (Y (hR.b 0 Z) P.nil))))))⟩
end Go.Proofs
