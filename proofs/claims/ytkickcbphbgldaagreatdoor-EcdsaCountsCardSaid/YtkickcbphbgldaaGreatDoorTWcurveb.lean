import Derived.Test.YtkickcbphbgldaaGreatDoorTW0
import Derived.Test.YtkickcbphbgldaaGreatDoorGkFman
import Derived.Test.YtkickcbphbgldaaGreatDoorTWbignumc
import Derived.Test.YtkickcbphbgldaaGreatDoorTWcurvea
set_option linter.unusedVariables false
set_option linter.unusedSimpArgs false
set_option linter.unusedSectionVars false
set_option maxRecDepth 4000
namespace Go.Proofs
open Go Go.RowKit Go.Gk
open Go.Gk renaming Off → K, Rds → Q, aa → P, ae → O, af → H, ah → J, ai → I, e32 → U, own → N, pB → M
open Nat renaming le_of_ble_eq_true → R
open Go.Gk.OE renaming bx → W
open Go.Gk.Off renaming cons → X
open Go.Gk.Rds renaming cons → Y
theorem gl {A:World} {aU aW aX aY a0 a1 a2 a3:List UInt32} {B C D E G q s t:Value} {bd aG aK aL aM aN n o p:Nat} {T:List Nat} (d e f g j:Bool) (m:Int) (L ab u:Bool) {r:Bool×List UInt32×Bool×List UInt32×Bool×List UInt32}
  (h:F.Dg d aU e aW f aX g aY j a0 m L a1 ab a2 u a3=some r) (hTT:TOk [] T A) (bk:RP T A U B aU) (bu:RB T A aG [vB d,B]) (bl:RP T A U C aW) (bv:RB T A aK [vB e,C]) (bm:RP T A U D aX) (bw:RB T A aL [vB f,D]) (bo:RP T A U E aY) (bz:RB T A aM [vB g,E]) (bp:RP T A U G a0) (bA:RB T A aN [vB j,G]) (hBa0:RB T A bd [M aG 0,M aK 0,M aL 0,M aM 0,M aN 0,vI m,.func (.func 168) #[] #[]]) (bq:RP T A U q a1) (bB:RB T A n [vB L,q]) (bs:RP T A U s a2) (bC:RB T A o [vB ab,s]) (bt:RP T A U t a3) (bD:RB T A p [vB u,t]):Calls Tryz.prog 149 #[M bd 0,.agg #[M n 0,M o 0,M p 0]] A (Ret fun v w=>∃bE:Nat,∃be:Value,∃bF:Nat,∃bf:Value,∃bG:Nat,∃bg:Value,v=.agg #[M bE 0,M bF 0,M bG 0]∧St [] A w []∧Q T w [W bG [vB r.2.2.2.2.1,bg],red U bg r.2.2.2.2.2,W bF [vB r.2.2.1,bf],red U bf r.2.2.2.1,W bE [vB r.1,be],red U be r.2.1]):=by
 refine aH 86 Tryz.func149 Z Z Z ?_
 have a:=St.l A
 have hZ:=Fz.l (S:=[]) (w0:=A)
 have hA0:Q T A [W p [vB u,t],red U t a3,W o [vB ab,s],red U s a2,W n [vB L,q],red U q a1,W bd [M aG 0,M aK 0,M aL 0,M aM 0,M aN 0,vI m,.func (.func 168) #[] #[]],W aN [vB j,G],red U G a0,W aM [vB g,E],red U E aY,W aL [vB f,D],red U D aX,W aK [vB e,C],red U C aW,W aG [vB d,B],red U B aU]:=Y bD.i (Y (RP.i (R Z) bt) (Y bC.i (Y (RP.i (R Z) bs) (Y bB.i (Y (RP.i (R Z) bq) (Y hBa0.i (Y bA.i (Y (RP.i (R Z) bp) (Y bz.i (Y (RP.i (R Z) bo) (Y bw.i (Y (RP.i (R Z) bm) (Y bv.i (Y (RP.i (R Z) bl) (Y bu.i (Y (RP.i (R Z) bk) (Q.nil)))))))))))))))))
 have b:=hA0.all
 have hP:=hA0.off Z
 refine au [(0,M bd 0),(1,.agg #[M n 0,M o 0,M p 0])] ⟨Z,Z,V⟩ ?_
 unfold F.Dg at h
 refine J (H (aV (dv (cs:=[M n 0,M o 0,M p 0]) Z Z a) Z ?_))
 rintro _ w ⟨bH,rfl,a⟩
 refine aV (ba (cs:=[.pointer none,.pointer none,.pointer none]) fp Z a) Z ?_
 rintro _ w ⟨bI,rfl,a⟩
 refine I (O (J (J (H (am (av (k:=2) u91 Z Z cx Z) Z (am (aC u73 Z Z (a.r 1 Z 2)) Z ?_))))))
 obtain ⟨cI,b7,h⟩:=aj h
 refine ao Z (cz u b7 ((b.rp 15 Z).d a.fr).rp ((b.rb 16 Z).d a.fr)) Z ?_
 rintro _ w ⟨rfl,l⟩
 have a:=a.f l
 refine P 1 Z ?_
 refine I (O ?_)
 refine aw Z (fun bb=>?_) (fun bb=>?_)
 ·have h:=aJ h bb
  refine J (H (am (bY (us:=[M n 0,M o 0,M p 0]) u91 Z bR Z (a.q 1 Z Z)) Z (bn (br (i:=0) (us:=[M n 0,M o 0,M p 0]) Z bR Z Z Z ⟨Z,Z,Z,V⟩ Z a) ?_)))
  intro w a
  refine I (O (ax (aE ?_)))
  cases h
  obtain ⟨hS0,hR⟩:=hZ.outT hTT b hP a
  exact eK Z ⟨_,Z,bW (us:=[M n 0,M o 0,M p 0]) u91 Z bR (a.q 0 Z Z)⟩ ⟨n,q,o,s,p,t,Z,hS0,(Y (hR.b 16 Z) (Y (hR.b 15 Z) (Y (hR.b 14 Z) (Y (hR.b 13 Z) (Y (hR.b 12 Z) (Y (hR.b 11 Z) Q.nil))))))⟩
 have h:=aI h bb
 refine az (O (J (H (P 1 Z ?_))))
 refine am (av (k:=2) u91 Z Z cx Z) Z (am (aC u73 Z Z (a.r 1 Z 2)) Z (am (av (k:=2) u91 Z Z cx Z) Z (am (aC u73 Z Z (a.r 1 Z 2)) Z ?_)))
 obtain ⟨a9,b8,h⟩:=aj h
 refine ao Z (aZ d e f g j m u u b8 ((b.rp 0 Z).d a.fr).rp ((b.rb 1 Z).d a.fr) ((b.rp 2 Z).d a.fr).rp ((b.rb 3 Z).d a.fr) ((b.rp 4 Z).d a.fr).rp ((b.rb 5 Z).d a.fr) ((b.rp 6 Z).d a.fr).rp ((b.rb 7 Z).d a.fr) ((b.rp 8 Z).d a.fr).rp ((b.rb 9 Z).d a.fr) ((b.rb 10 Z).d a.fr) ((b.rp 15 Z).d a.fr).rp ((b.rb 16 Z).d a.fr) ((b.rp 15 Z).d a.fr).rp ((b.rb 16 Z).d a.fr)) Z ?_
 rintro _ w ⟨bc,bJ,rfl,l⟩
 have a:=a.f l
 refine P 1 Z ?_
 refine I (O (J (H (P 1 Z ?_))))
 refine am (av (k:=1) u91 Z Z cx Z) Z (am (aC u73 Z Z (a.r 3 Z 1)) Z (am (av (k:=1) u91 Z Z cx Z) Z (am (aC u73 Z Z (a.r 3 Z 1)) Z ?_)))
 obtain ⟨an,bK,h⟩:=aj h
 refine ao Z (aZ d e f g j m ab ab bK ((b.rp 0 Z).d a.fr).rp ((b.rb 1 Z).d a.fr) ((b.rp 2 Z).d a.fr).rp ((b.rb 3 Z).d a.fr) ((b.rp 4 Z).d a.fr).rp ((b.rb 5 Z).d a.fr) ((b.rp 6 Z).d a.fr).rp ((b.rb 7 Z).d a.fr) ((b.rp 8 Z).d a.fr).rp ((b.rb 9 Z).d a.fr) ((b.rb 10 Z).d a.fr) ((b.rp 13 Z).d a.fr).rp ((b.rb 14 Z).d a.fr) ((b.rp 13 Z).d a.fr).rp ((b.rb 14 Z).d a.fr)) Z ?_
 rintro _ w ⟨a4,bh,rfl,l⟩
 have a:=a.f l
 refine P 1 Z ?_
 refine I (O (J (H (P 2 Z ?_))))
 refine am (av (k:=0) u91 Z Z cx Z) Z (am (aC u73 Z Z (a.r 5 Z 0)) Z (P 1 Z ?_))
 obtain ⟨aP,bL,h⟩:=aj h
 refine ao Z (aZ d e f g j m L an.1 bL ((b.rp 0 Z).d a.fr).rp ((b.rb 1 Z).d a.fr) ((b.rp 2 Z).d a.fr).rp ((b.rb 3 Z).d a.fr) ((b.rp 4 Z).d a.fr).rp ((b.rb 5 Z).d a.fr) ((b.rp 6 Z).d a.fr).rp ((b.rb 7 Z).d a.fr) ((b.rp 8 Z).d a.fr).rp ((b.rb 9 Z).d a.fr) ((b.rb 10 Z).d a.fr) ((b.rp 11 Z).d a.fr).rp ((b.rb 12 Z).d a.fr) (a.ro 1 Z).rp (a.rb 0 Z)) Z ?_
 rintro _ w ⟨a5,bi,rfl,l⟩
 have a:=a.f l
 obtain ⟨aB,bM,h⟩:=aj h
 refine ao Z (cR d e f g j m 4 aP.1 bM ((b.rp 0 Z).d a.fr).rp ((b.rb 1 Z).d a.fr) ((b.rp 2 Z).d a.fr).rp ((b.rb 3 Z).d a.fr) ((b.rp 4 Z).d a.fr).rp ((b.rb 5 Z).d a.fr) ((b.rp 6 Z).d a.fr).rp ((b.rb 7 Z).d a.fr) ((b.rp 8 Z).d a.fr).rp ((b.rb 9 Z).d a.fr) ((b.rb 10 Z).d a.fr) (a.ro 1 Z).rp (a.rb 0 Z)) Z ?_
 rintro _ w ⟨a6,bj,rfl,l⟩
 have a:=a.f l
 refine P 1 Z ?_
 refine I (O (J ?_))
 obtain ⟨aQ,bN,h⟩:=aj h
 obtain ⟨ap,bO,h⟩:=aj h
 obtain ⟨aR,bP,h⟩:=aj h
 obtain ⟨aS,bT,h⟩:=aj h
 obtain ⟨aT,bU,h⟩:=aj h
 refine gR (es:=[W p [vB u,t],red U t a3,W o [vB ab,s],red U s a2,W n [vB L,q],red U q a1,W bd [M aG 0,M aK 0,M aL 0,M aM 0,M aN 0,vI m,.func (.func 168) #[] #[]],W aN [vB j,G],red U G a0,W aM [vB g,E],red U E aY,W aL [vB f,D],red U D aX,W aK [vB e,C],red U C aW,W aG [vB d,B],red U B aU]) (os:=[W bj [vB aB.1,a6],N U a6 aB.2,W bi [vB aP.1,a5],N U a5 aP.2,W bh [vB an.1,a4],N U a4 an.2,W bJ [vB a9.1,bc],N U bc a9.2,W bI [.pointer none,.pointer none,.pointer none],W bH [M n 0,M o 0,M p 0]]) (fun i=>[6,8,12,13,14,15].contains i) (fun i=>if i=6 then some 14 else if i=8 then some 12 else if i=12 then some 13 else if i=13 then some 14 else if i=14 then some 15 else none) (fun i=>[]) (fun i=>[]) (fun i=>[]) (fun i=>if i=12 then [8] else if i=13 then [8] else []) (fun i=>if i=6 then (fun h v x y=>∃aq:Nat,∃ad:Value,v=M aq 0∧x=[W aq [vB aQ.1,ad],N U ad aQ.2]∧y=[]) else if i=8 then (fun h v x y=>∃c:Nat,v=M c 0∧x=[W c [vB false,.slice none 0 0]]∧y=[]) else if i=12 then (fun h v x y=>∃z:Value,∃c:Nat,h=[(M c 0,[W c [vB false,.slice none 0 0]],[])]∧v=M c 0∧x=[W c [vB ap.1,z],N U z ap.2]∧y=[]) else if i=13 then (fun h v x y=>∃ag:Value,∃c:Nat,h=[(M c 0,[W c [vB false,.slice none 0 0]],[])]∧v=M c 0∧x=[W c [vB aR.1,ag],N U ag aR.2]∧y=[]) else if i=14 then (fun h v x y=>∃ay:Nat,∃ak:Value,v=M ay 0∧x=[W ay [vB aS.1,ak],N U ak aS.2]∧y=[]) else (fun h v x y=>∃aD:Nat,∃aF:Value,v=M aD 0∧x=[W aD [vB aT.1,aF],N U aF aT.2]∧y=[])) (SfT.mk' hZ b hP a) (fun k hk=>rfl) hTT rfl (fun i=>(eY (by rintro h v x y ⟨_,_,rfl,rfl,rfl⟩; exact dE rfl) (eY (by rintro h v x y ⟨_,rfl,rfl,rfl⟩; exact dE rfl) (eY (by rintro h v x y ⟨_,_,_,rfl,rfl,rfl⟩; exact dE rfl) (eY (by rintro h v x y ⟨_,_,_,rfl,rfl,rfl⟩; exact dE rfl) (eY (by rintro h v x y ⟨_,_,rfl,rfl,rfl⟩; exact dE rfl) (by rintro h v x y ⟨_,_,rfl,rfl,rfl⟩; exact dE rfl))))))) bQ (by kernel_rfl) (by kernel_rfl) ?_
 show fI _ _ _ _ _ _ _ _ _ _ _ _ _ _ _ _ [0,1,2,3,4,5,6,7,8,9,10,11,12,13,14,15,16] _ _
 refine bS Z Z (fun w Sb wb hZ b hP hF=>ar Z) Z (bS Z Z (fun w Sb wb hZ b hP hF=>ar Z) Z (bS Z Z (fun w Sb wb hZ b hP hF=>ar Z) Z (bS Z Z (fun w Sb wb hZ b hP hF=>av (k:=0) u91 Z Z cx Z) Z (bS Z Z (fun w Sb wb hZ b hP hF=>aC u73 Z Z (hF.r 9 Z 0)) Z (bS Z Z (fun w Sb wb hZ b hP hF=>ar Z) Z ?_)))))
 refine eN (fun h v x y=>∃aq:Nat,∃ad:Value,v=M aq 0∧x=[W aq [vB aQ.1,ad],N U ad aQ.2]∧y=[]) [] [] [] _ Z Z (fun h v x y=>Z) Z Z Z Z ⟨_,_,_,0,undef,Z,Z,Z⟩ (by kernel_rfl) Z (fun w Sl Tl hZ hTT b hP a=>?_) Z ?_
 ·refine em (cj d e f g j m L a9.1 bN ((b.rp 0 Z).d a.fr).rp ((b.rb 1 Z).d a.fr) ((b.rp 2 Z).d a.fr).rp ((b.rb 3 Z).d a.fr) ((b.rp 4 Z).d a.fr).rp ((b.rb 5 Z).d a.fr) ((b.rp 6 Z).d a.fr).rp ((b.rb 7 Z).d a.fr) ((b.rp 8 Z).d a.fr).rp ((b.rb 9 Z).d a.fr) ((b.rb 10 Z).d a.fr) ((b.rp 11 Z).d a.fr).rp ((b.rb 12 Z).d a.fr) (a.ro 7 Z).rp (a.rb 6 Z)) ?_
  rintro _ w ⟨ad,aq,rfl,l⟩
  have a:=a.f l
  exact ⟨_,_,⟨aq,ad,Z,Z,Z⟩,SfT.mk' hZ Q.nil K.nil a⟩
 rintro v_q x_q y_q ⟨aq,ad,rfl,rfl,rfl⟩
 refine bS Z Z (fun w Sb wb hZ b hP hF=>ar Z) Z ?_
 refine iZ (fun h v x y=>∃c:Nat,v=M c 0∧x=[W c [vB false,.slice none 0 0]]∧y=[]) [] [] [] _ Z Z (fun h v x y=>Z) Z Z Z Z ⟨_,_,_,0,Z,Z,Z⟩ (fun w Sl Tl hZ hTT b hP a=>?_) Z ?_
 ·refine l8 (ba (cs:=[vB false,.slice none 0 0]) cT Z a) ?_
  rintro _ w ⟨c,rfl,a⟩
  exact ⟨_,_,⟨c,Z,Z,Z⟩,SfT.mk' hZ Q.nil K.nil a⟩
 rintro v_q x_q y_q ⟨c,rfl,rfl,rfl⟩
 refine bS Z Z (fun w Sb wb hZ b hP hF=>av (k:=0) u91 Z Z cx Z) Z (bS Z Z (fun w Sb wb hZ b hP hF=>aC u73 Z Z (hF.r 9 Z 0)) Z (bS Z Z (fun w Sb wb hZ b hP hF=>ar Z) Z ?_))
 refine eN (fun h v x y=>∃z:Value,∃c:Nat,h=[(M c 0,[W c [vB false,.slice none 0 0]],[])]∧v=M c 0∧x=[W c [vB ap.1,z],N U z ap.2]∧y=[]) [(M c 0,[W c [vB false,.slice none 0 0]],[])] [W c [vB false,.slice none 0 0]] [] _ Z Z (fun h v x y=>Z) Z Z Z Z ⟨_,_,_,undef,c,Z,Z,Z,Z⟩ (by kernel_rfl) Z (fun w Sl Tl hZ hTT b hP a=>?_) Z ?_
 ·replace a:=a.nil U
  have hG:=a.pick (os':=[W c [vB false,.slice none 0 0],N U (.slice none 0 0) []]++[W bj [vB aB.1,a6],N U a6 aB.2,W bi [vB aP.1,a5],N U a5 aP.2,W bh [vB an.1,a4],N U a4 an.2,W bJ [vB a9.1,bc],N U bc a9.2,W bI [.pointer none,.pointer none,.pointer none],W bH [M n 0,M o 0,M p 0]]) [1,0,2,3,4,5,6,7,8,9,10,11] (by decide) Z
  refine em (ng false L a9.1 bO hG.g ((b.rp 11 Z).g (R Z) hG) ((b.rb 12 Z).g hG) (hG.giveO 7 Z) (hG.giveB 6 Z)) ?_
  rintro _ w ⟨z,rfl,l⟩
  have a:=hG.h l
  exact ⟨_,_,⟨z,c,Z,Z,Z,Z⟩,SfT.mk' hZ Q.nil K.nil a⟩
 rintro v_q x_q y_q ⟨z,b_31',hh,rfl,rfl,rfl⟩
 replace hh:([(M c 0,[W c [vB false,.slice none 0 0]],[])]:List Th)=[(M b_31' 0,[W b_31' [vB false,.slice none 0 0]],[])]:=hh
 cases hh
 refine eN (fun h v x y=>∃ag:Value,∃c:Nat,h=[(M c 0,[W c [vB false,.slice none 0 0]],[])]∧v=M c 0∧x=[W c [vB aR.1,ag],N U ag aR.2]∧y=[]) [(M c 0,[W c [vB false,.slice none 0 0]],[])] [W c [vB ap.1,z],N U z ap.2] [] _ Z Z (fun h v x y=>Z) Z Z Z Z ⟨_,_,_,undef,c,Z,Z,Z,Z⟩ (by kernel_rfl) Z (fun w Sl Tl hZ hTT b hP a=>?_) Z ?_
 ·have hG:=a.pick (os':=[W c [vB ap.1,z],N U z ap.2]++[W bj [vB aB.1,a6],N U a6 aB.2,W bi [vB aP.1,a5],N U a5 aP.2,W bh [vB an.1,a4],N U a4 an.2,W bJ [vB a9.1,bc],N U bc a9.2,W bI [.pointer none,.pointer none,.pointer none],W bH [M n 0,M o 0,M p 0]]) [0,1,2,3,4,5,6,7,8,9,10,11] (by decide) Z
  refine em (eu d e f g j m ap.1 bP hG.g ((b.rp 0 Z).g (R Z) hG) ((b.rb 1 Z).g hG) ((b.rp 2 Z).g (R Z) hG) ((b.rb 3 Z).g hG) ((b.rp 4 Z).g (R Z) hG) ((b.rb 5 Z).g hG) ((b.rp 6 Z).g (R Z) hG) ((b.rb 7 Z).g hG) ((b.rp 8 Z).g (R Z) hG) ((b.rb 9 Z).g hG) ((b.rb 10 Z).g hG)) ?_
  rintro _ w ⟨ag,rfl,l⟩
  have a:=hG.h l
  exact ⟨_,_,⟨ag,c,Z,Z,Z,Z⟩,SfT.mk' hZ Q.nil K.nil a⟩
 rintro v_q x_q y_q ⟨ag,b_31',hh,rfl,rfl,rfl⟩
 replace hh:([(M c 0,[W c [vB false,.slice none 0 0]],[])]:List Th)=[(M b_31' 0,[W b_31' [vB false,.slice none 0 0]],[])]:=hh
 cases hh
 refine eN (fun h v x y=>∃ay:Nat,∃ak:Value,v=M ay 0∧x=[W ay [vB aS.1,ak],N U ak aS.2]∧y=[]) [] [W aq [vB aQ.1,ad],N U ad aQ.2,W c [vB aR.1,ag],N U ag aR.2] [] _ Z Z (fun h v x y=>Z) Z Z Z Z ⟨_,_,_,0,undef,Z,Z,Z⟩ (by kernel_rfl) Z (fun w Sl Tl hZ hTT b hP a=>?_) Z ?_
 ·refine em (aZ d e f g j m aQ.1 aR.1 bT ((b.rp 0 Z).d a.fr).rp ((b.rb 1 Z).d a.fr) ((b.rp 2 Z).d a.fr).rp ((b.rb 3 Z).d a.fr) ((b.rp 4 Z).d a.fr).rp ((b.rb 5 Z).d a.fr) ((b.rp 6 Z).d a.fr).rp ((b.rb 7 Z).d a.fr) ((b.rp 8 Z).d a.fr).rp ((b.rb 9 Z).d a.fr) ((b.rb 10 Z).d a.fr) (a.ro 1 Z).rp (a.rb 0 Z) (a.ro 3 Z).rp (a.rb 2 Z)) ?_
  rintro _ w ⟨ak,ay,rfl,l⟩
  have a:=a.f l
  exact ⟨_,_,⟨ay,ak,Z,Z,Z⟩,SfT.mk' hZ Q.nil K.nil (a.e [0,1,6,7,8,9,10,11,12,13,14,15] Z Z)⟩
 rintro v_q x_q y_q ⟨ay,ak,rfl,rfl,rfl⟩
 refine eN (fun h v x y=>∃aD:Nat,∃aF:Value,v=M aD 0∧x=[W aD [vB aT.1,aF],N U aF aT.2]∧y=[]) [] [W ay [vB aS.1,ak],N U ak aS.2] [] _ Z Z (fun h v x y=>Z) Z Z Z Z ⟨_,_,_,0,undef,Z,Z,Z⟩ (by kernel_rfl) Z (fun w Sl Tl hZ hTT b hP a=>?_) Z ?_
 ·refine em (cR d e f g j m 3 aS.1 bU ((b.rp 0 Z).d a.fr).rp ((b.rb 1 Z).d a.fr) ((b.rp 2 Z).d a.fr).rp ((b.rb 3 Z).d a.fr) ((b.rp 4 Z).d a.fr).rp ((b.rb 5 Z).d a.fr) ((b.rp 6 Z).d a.fr).rp ((b.rb 7 Z).d a.fr) ((b.rp 8 Z).d a.fr).rp ((b.rb 9 Z).d a.fr) ((b.rb 10 Z).d a.fr) (a.ro 1 Z).rp (a.rb 0 Z)) ?_
  rintro _ w ⟨aF,aD,rfl,l⟩
  have a:=a.f l
  exact ⟨_,_,⟨aD,aF,Z,Z,Z⟩,SfT.mk' hZ Q.nil K.nil (a.e [0,1,4,5,6,7,8,9,10,11,12,13] Z Z)⟩
 rintro v_q x_q y_q ⟨aD,aF,rfl,rfl,rfl⟩
 refine bS Z Z (fun w Sb wb hZ b hP hF=>aA Z) Z (kk fun w hQ=>?_)
 obtain ⟨co,cm,hZ,b,hP,a⟩:=hQ
 refine O (J (H (P 4 Z ?_)))
 obtain ⟨b9,bV,h⟩:=aj h
 refine ao Z (aZ d e f g j m aT.1 aT.1 bV ((b.rp 0 Z).d a.fr).rp ((b.rb 1 Z).d a.fr) ((b.rp 2 Z).d a.fr).rp ((b.rb 3 Z).d a.fr) ((b.rp 4 Z).d a.fr).rp ((b.rb 5 Z).d a.fr) ((b.rp 6 Z).d a.fr).rp ((b.rb 7 Z).d a.fr) ((b.rp 8 Z).d a.fr).rp ((b.rb 9 Z).d a.fr) ((b.rb 10 Z).d a.fr) (a.ro 1 Z).rp (a.rb 0 Z) (a.ro 1 Z).rp (a.rb 0 Z)) Z ?_
 rintro _ w ⟨cp,cq,rfl,l⟩
 have a:=a.f l
 refine P 2 Z ?_
 obtain ⟨ca,bX,h⟩:=aj h
 refine ao Z (cR d e f g j m 2 aB.1 bX ((b.rp 0 Z).d a.fr).rp ((b.rb 1 Z).d a.fr) ((b.rp 2 Z).d a.fr).rp ((b.rb 3 Z).d a.fr) ((b.rp 4 Z).d a.fr).rp ((b.rb 5 Z).d a.fr) ((b.rp 6 Z).d a.fr).rp ((b.rb 7 Z).d a.fr) ((b.rp 8 Z).d a.fr).rp ((b.rb 9 Z).d a.fr) ((b.rb 10 Z).d a.fr) (a.ro 5 Z).rp (a.rb 4 Z)) Z ?_
 rintro _ w ⟨cr,ct,rfl,l⟩
 have a:=a.f l
 obtain ⟨cb,bZ,h⟩:=aj h
 refine ao Z (cj d e f g j m b9.1 ca.1 bZ ((b.rp 0 Z).d a.fr).rp ((b.rb 1 Z).d a.fr) ((b.rp 2 Z).d a.fr).rp ((b.rb 3 Z).d a.fr) ((b.rp 4 Z).d a.fr).rp ((b.rb 5 Z).d a.fr) ((b.rp 6 Z).d a.fr).rp ((b.rb 7 Z).d a.fr) ((b.rp 8 Z).d a.fr).rp ((b.rb 9 Z).d a.fr) ((b.rb 10 Z).d a.fr) (a.ro 3 Z).rp (a.rb 2 Z) (a.ro 1 Z).rp (a.rb 0 Z)) Z ?_
 rintro _ w ⟨cc,a7,rfl,l⟩
 have a:=a.f l
 refine P 1 Z ?_
 refine I (O (J (H (P 6 Z ?_))))
 obtain ⟨cd,b0,h⟩:=aj h
 refine ao Z (cj d e f g j m aB.1 cb.1 b0 ((b.rp 0 Z).d a.fr).rp ((b.rb 1 Z).d a.fr) ((b.rp 2 Z).d a.fr).rp ((b.rb 3 Z).d a.fr) ((b.rp 4 Z).d a.fr).rp ((b.rb 5 Z).d a.fr) ((b.rp 6 Z).d a.fr).rp ((b.rb 7 Z).d a.fr) ((b.rp 8 Z).d a.fr).rp ((b.rb 9 Z).d a.fr) ((b.rb 10 Z).d a.fr) (a.ro 9 Z).rp (a.rb 8 Z) (a.ro 1 Z).rp (a.rb 0 Z)) Z ?_
 rintro _ w ⟨cu,cv,rfl,l⟩
 have a:=a.f l
 obtain ⟨ce,b1,h⟩:=aj h
 refine ao Z (aZ d e f g j m aT.1 cd.1 b1 ((b.rp 0 Z).d a.fr).rp ((b.rb 1 Z).d a.fr) ((b.rp 2 Z).d a.fr).rp ((b.rb 3 Z).d a.fr) ((b.rp 4 Z).d a.fr).rp ((b.rb 5 Z).d a.fr) ((b.rp 6 Z).d a.fr).rp ((b.rb 7 Z).d a.fr) ((b.rp 8 Z).d a.fr).rp ((b.rb 9 Z).d a.fr) ((b.rb 10 Z).d a.fr) (a.ro 9 Z).rp (a.rb 8 Z) (a.ro 1 Z).rp (a.rb 0 Z)) Z ?_
 rintro _ w ⟨cw,cy,rfl,l⟩
 have a:=a.f l
 refine P 4 Z ?_
 obtain ⟨cf,b2,h⟩:=aj h
 refine ao Z (aZ d e f g j m an.1 an.1 b2 ((b.rp 0 Z).d a.fr).rp ((b.rb 1 Z).d a.fr) ((b.rp 2 Z).d a.fr).rp ((b.rb 3 Z).d a.fr) ((b.rp 4 Z).d a.fr).rp ((b.rb 5 Z).d a.fr) ((b.rp 6 Z).d a.fr).rp ((b.rb 7 Z).d a.fr) ((b.rp 8 Z).d a.fr).rp ((b.rb 9 Z).d a.fr) ((b.rb 10 Z).d a.fr) (a.ro 17 Z).rp (a.rb 16 Z) (a.ro 17 Z).rp (a.rb 16 Z)) Z ?_
 rintro _ w ⟨cA,cB,rfl,l⟩
 have a:=a.f l
 obtain ⟨cg,b3,h⟩:=aj h
 refine ao Z (cR d e f g j m 8 cf.1 b3 ((b.rp 0 Z).d a.fr).rp ((b.rb 1 Z).d a.fr) ((b.rp 2 Z).d a.fr).rp ((b.rb 3 Z).d a.fr) ((b.rp 4 Z).d a.fr).rp ((b.rb 5 Z).d a.fr) ((b.rp 6 Z).d a.fr).rp ((b.rb 7 Z).d a.fr) ((b.rp 8 Z).d a.fr).rp ((b.rb 9 Z).d a.fr) ((b.rb 10 Z).d a.fr) (a.ro 1 Z).rp (a.rb 0 Z)) Z ?_
 rintro _ w ⟨cC,cD,rfl,l⟩
 have a:=a.f l
 obtain ⟨cE,b4,h⟩:=aj h
 refine ao Z (cj d e f g j m ce.1 cg.1 b4 ((b.rp 0 Z).d a.fr).rp ((b.rb 1 Z).d a.fr) ((b.rp 2 Z).d a.fr).rp ((b.rb 3 Z).d a.fr) ((b.rp 4 Z).d a.fr).rp ((b.rb 5 Z).d a.fr) ((b.rp 6 Z).d a.fr).rp ((b.rb 7 Z).d a.fr) ((b.rp 8 Z).d a.fr).rp ((b.rb 9 Z).d a.fr) ((b.rb 10 Z).d a.fr) (a.ro 5 Z).rp (a.rb 4 Z) (a.ro 1 Z).rp (a.rb 0 Z)) Z ?_
 rintro _ w ⟨ch,a8,rfl,l⟩
 have a:=a.f l
 refine P 1 Z ?_
 refine I (O (J (H (P 4 Z ?_))))
 refine am (av (k:=1) u91 Z Z cx Z) Z (am (aC u73 Z Z (a.r 27 Z 1)) Z (am (av (k:=2) u91 Z Z cx Z) Z (am (aC u73 Z Z (a.r 27 Z 2)) Z ?_)))
 obtain ⟨ck,b5,h⟩:=aj h
 refine ao Z (aZ d e f g j m ab u b5 ((b.rp 0 Z).d a.fr).rp ((b.rb 1 Z).d a.fr) ((b.rp 2 Z).d a.fr).rp ((b.rb 3 Z).d a.fr) ((b.rp 4 Z).d a.fr).rp ((b.rb 5 Z).d a.fr) ((b.rp 6 Z).d a.fr).rp ((b.rb 7 Z).d a.fr) ((b.rp 8 Z).d a.fr).rp ((b.rb 9 Z).d a.fr) ((b.rb 10 Z).d a.fr) ((b.rp 13 Z).d a.fr).rp ((b.rb 14 Z).d a.fr) ((b.rp 15 Z).d a.fr).rp ((b.rb 16 Z).d a.fr)) Z ?_
 rintro _ w ⟨cF,cG,rfl,l⟩
 have a:=a.f l
 obtain ⟨cH,b6,h⟩:=aj h
 refine ao Z (cR d e f g j m 2 ck.1 b6 ((b.rp 0 Z).d a.fr).rp ((b.rb 1 Z).d a.fr) ((b.rp 2 Z).d a.fr).rp ((b.rb 3 Z).d a.fr) ((b.rp 4 Z).d a.fr).rp ((b.rb 5 Z).d a.fr) ((b.rp 6 Z).d a.fr).rp ((b.rb 7 Z).d a.fr) ((b.rp 8 Z).d a.fr).rp ((b.rb 9 Z).d a.fr) ((b.rb 10 Z).d a.fr) (a.ro 1 Z).rp (a.rb 0 Z)) Z ?_
 rintro _ w ⟨cl,aO,rfl,l⟩
 have a:=a.f l
 refine am (ci (vs:=[(0,M a7 0,[M a7 0]),(1,M a8 0,[M a8 0]),(2,M aO 0,[M aO 0])]) (cells:=[M a7 0,M a8 0,M aO 0]) Z ma ⟨Z,Z,Z,V⟩ Z) Z ?_
 refine bn (br (i:=30) (us:=[M a7 0,M a8 0,M aO 0]) Z bR Z Z Z ⟨Z,Z,Z,V⟩ Z a) ?_
 intro w a
 refine I (O (ax ?_))
 cases h
 obtain ⟨hS0,hR⟩:=hZ.outT hTT b hP a
 exact eK Z ⟨_,Z,bW (us:=[M a7 0,M a8 0,M aO 0]) u91 Z bR (a.q 30 Z Z)⟩ ⟨a7,cc,a8,ch,aO,cl,Z,hS0,(Y (hR.b 48 Z) (Y (hR.b 47 Z) (Y (hR.b 44 Z) (Y (hR.b 43 Z) (Y (hR.b 34 Z) (Y (hR.b 33 Z) Q.nil))))))⟩
theorem iz {t:World} {aX a0 a1 a2 a3 a4 a5 a6 a7 a8 a9:List UInt32} {ac ad ag ak an z A B C D E:Value} {bE aR aS aT aU aW m n o p q s:Nat} {T:List Nat} (d e f g j:Bool) (l:Int) (G L u aD aF x:Bool) {r:Bool×List UInt32×Bool×List UInt32×Bool×List UInt32}
  (h:F.B0 d aX e a0 f a1 g a2 j a3 l G a4 L a5 u a6 aD a7 aF a8 x a9=some r) (hTT:TOk [] T t) (bI:RP T t U ac aX) (bV:RB T t aR [vB d,ac]) (bJ:RP T t U ad a0) (bX:RB T t aS [vB e,ad]) (bK:RP T t U ag a1) (bZ:RB T t aT [vB f,ag]) (bL:RP T t U ak a2) (b0:RB T t aU [vB g,ak]) (bM:RP T t U an a3) (b1:RB T t aW [vB j,an]) (hBa0:RB T t bE [M aR 0,M aS 0,M aT 0,M aU 0,M aW 0,vI l,.func (.func 168) #[] #[]]) (bN:RP T t U z a4) (b2:RB T t m [vB G,z]) (bO:RP T t U A a5) (b3:RB T t n [vB L,A]) (bP:RP T t U B a6) (b4:RB T t o [vB u,B]) (bS:RP T t U C a7) (b5:RB T t p [vB aD,C]) (bT:RP T t U D a8) (b6:RB T t q [vB aF,D]) (bU:RP T t U E a9) (b7:RB T t s [vB x,E]):Calls Tryz.prog 84 #[M bE 0,.agg #[M m 0,M n 0,M o 0],.agg #[M p 0,M q 0,M s 0]] t (Ret fun v w=>∃b8:Nat,∃bm:Value,∃b9:Nat,∃bo:Value,∃ca:Nat,∃bp:Value,v=.agg #[M b8 0,M b9 0,M ca 0]∧St [] t w []∧Q T w [W ca [vB r.2.2.2.2.1,bp],red U bp r.2.2.2.2.2,W b9 [vB r.2.2.1,bo],red U bo r.2.2.2.1,W b8 [vB r.1,bm],red U bm r.2.1]):=by
 refine aH 137 Tryz.func84 Z Z Z ?_
 have a:=St.l t
 have hZ:=Fz.l (S:=[]) (w0:=t)
 have hA0:Q T t [W s [vB x,E],red U E a9,W q [vB aF,D],red U D a8,W p [vB aD,C],red U C a7,W o [vB u,B],red U B a6,W n [vB L,A],red U A a5,W m [vB G,z],red U z a4,W bE [M aR 0,M aS 0,M aT 0,M aU 0,M aW 0,vI l,.func (.func 168) #[] #[]],W aW [vB j,an],red U an a3,W aU [vB g,ak],red U ak a2,W aT [vB f,ag],red U ag a1,W aS [vB e,ad],red U ad a0,W aR [vB d,ac],red U ac aX]:=Y b7.i (Y (RP.i (R Z) bU) (Y b6.i (Y (RP.i (R Z) bT) (Y b5.i (Y (RP.i (R Z) bS) (Y b4.i (Y (RP.i (R Z) bP) (Y b3.i (Y (RP.i (R Z) bO) (Y b2.i (Y (RP.i (R Z) bN) (Y hBa0.i (Y b1.i (Y (RP.i (R Z) bM) (Y b0.i (Y (RP.i (R Z) bL) (Y bZ.i (Y (RP.i (R Z) bK) (Y bX.i (Y (RP.i (R Z) bJ) (Y bV.i (Y (RP.i (R Z) bI) (Q.nil)))))))))))))))))))))))
 have b:=hA0.all
 have y:=hA0.off Z
 refine au [(0,M bE 0),(1,.agg #[M m 0,M n 0,M o 0]),(2,.agg #[M p 0,M q 0,M s 0])] ⟨Z,Z,Z,V⟩ ?_
 unfold F.B0 at h
 refine J (H (aV (dv (cs:=[M m 0,M n 0,M o 0]) Z Z a) Z ?_))
 rintro _ w ⟨bF,rfl,a⟩
 refine aV (dv (cs:=[M p 0,M q 0,M s 0]) Z Z a) Z ?_
 rintro _ w ⟨bG,rfl,a⟩
 refine aV (ba (cs:=[.pointer none,.pointer none,.pointer none]) fp Z a) Z ?_
 rintro _ w ⟨bH,rfl,a⟩
 refine I (O (J (J (H (am (av (k:=2) u91 Z Z cx Z) Z (am (aC u73 Z Z (a.r 2 Z 2)) Z ?_))))))
 obtain ⟨dK,c2,h⟩:=aj h
 refine ao Z (cz u c2 ((b.rp 15 Z).d a.fr).rp ((b.rb 16 Z).d a.fr)) Z ?_
 rintro _ w ⟨rfl,c⟩
 have a:=a.f c
 refine P 1 Z ?_
 refine I (O ?_)
 refine aw Z (fun bb=>?_) (fun bb=>?_)
 ·have h:=aJ h bb
  refine J (H (am (bY (us:=[M p 0,M q 0,M s 0]) u91 Z bR Z (a.q 1 Z Z)) Z (bn (br (i:=0) (us:=[M p 0,M q 0,M s 0]) Z bR Z Z Z ⟨Z,Z,Z,V⟩ Z a) ?_)))
  intro w a
  refine I (O (ax (aE ?_)))
  cases h
  obtain ⟨hS0,hR⟩:=hZ.outT hTT b y a
  exact eK Z ⟨_,Z,bW (us:=[M p 0,M q 0,M s 0]) u91 Z bR (a.q 0 Z Z)⟩ ⟨p,C,q,D,s,E,Z,hS0,(Y (hR.b 22 Z) (Y (hR.b 21 Z) (Y (hR.b 20 Z) (Y (hR.b 19 Z) (Y (hR.b 18 Z) (Y (hR.b 17 Z) Q.nil))))))⟩
 have h:=aI h bb
 refine az (O (J (J (H (am (av (k:=2) u91 Z Z cx Z) Z (am (aC u73 Z Z (a.r 1 Z 2)) Z ?_))))))
 obtain ⟨dL,c3,h⟩:=aj h
 refine ao Z (cz x c3 ((b.rp 21 Z).d a.fr).rp ((b.rb 22 Z).d a.fr)) Z ?_
 rintro _ w ⟨rfl,c⟩
 have a:=a.f c
 refine P 1 Z ?_
 refine I (O ?_)
 refine aw Z (fun bc=>?_) (fun bc=>?_)
 ·have h:=aJ h bc
  refine J (H (am (bY (us:=[M m 0,M n 0,M o 0]) u91 Z bR Z (a.q 2 Z Z)) Z (bn (br (i:=0) (us:=[M m 0,M n 0,M o 0]) Z bR Z Z Z ⟨Z,Z,Z,V⟩ Z a) ?_)))
  intro w a
  refine I (O (ax (aE ?_)))
  cases h
  obtain ⟨hS0,hR⟩:=hZ.outT hTT b y a
  exact eK Z ⟨_,Z,bW (us:=[M m 0,M n 0,M o 0]) u91 Z bR (a.q 0 Z Z)⟩ ⟨m,z,n,A,o,B,Z,hS0,(Y (hR.b 16 Z) (Y (hR.b 15 Z) (Y (hR.b 14 Z) (Y (hR.b 13 Z) (Y (hR.b 12 Z) (Y (hR.b 11 Z) Q.nil))))))⟩
 have h:=aI h bc
 refine az (O (J ?_))
 refine aY (fun w'=>St [] t w' [W bH [.pointer none,.pointer none,.pointer none],W bG [M p 0,M q 0,M s 0],W bF [M m 0,M n 0,M o 0]]) (fun i=>!([5,11].contains i)) bQ (fun _ _ _ hf=>hf.2) (fun _ _ hf=>hf) (by kernel_rfl) ?_
 have a:=a.drew
 show lxE _ _ _ _ _ _ _ [0,1,2,3,4,5,6,7,8,9,10,11,12,13] _ _
 refine al a Z Z (fun w hF=>ar Z) Z (al a Z Z (fun w hF=>av (k:=2) u91 Z Z cx Z) Z (al a Z Z (fun w hF=>aC u73 Z Z (hF.r 2 Z 2)) Z (al a Z Z (fun w hF=>av (k:=2) u91 Z Z cx Z) Z (al a Z Z (fun w hF=>aC u73 Z Z (hF.r 2 Z 2)) Z ?_))))
 obtain ⟨aQ,c4,h⟩:=aj h
 refine bf a Z Z (by kernel_rfl) Z (aZ d e f g j l u u c4 ((b.rp 0 Z).d a.fr).rp ((b.rb 1 Z).d a.fr) ((b.rp 2 Z).d a.fr).rp ((b.rb 3 Z).d a.fr) ((b.rp 4 Z).d a.fr).rp ((b.rb 5 Z).d a.fr) ((b.rp 6 Z).d a.fr).rp ((b.rb 7 Z).d a.fr) ((b.rp 8 Z).d a.fr).rp ((b.rb 9 Z).d a.fr) ((b.rb 10 Z).d a.fr) ((b.rp 15 Z).d a.fr).rp ((b.rb 16 Z).d a.fr) ((b.rp 15 Z).d a.fr).rp ((b.rb 16 Z).d a.fr)) Z ?_
 rintro _ w ⟨aG,bu,rfl,c⟩
 have a:=a.f c
 refine al (a.e [2,3,4] Z Z) Z Z (fun w hF=>ar Z) Z (al (a.e [2,3,4] Z Z) Z Z (fun w hF=>av (k:=2) u91 Z Z cx Z) Z (al (a.e [2,3,4] Z Z) Z Z (fun w hF=>aC u73 Z Z (hF.r 1 Z 2)) Z (al (a.e [2,3,4] Z Z) Z Z (fun w hF=>av (k:=2) u91 Z Z cx Z) Z (al (a.e [2,3,4] Z Z) Z Z (fun w hF=>aC u73 Z Z (hF.r 1 Z 2)) Z ?_))))
 obtain ⟨ab,cA,h⟩:=aj h
 refine bf (a.e [2,3,4] Z Z) Z Z (by kernel_rfl) Z (aZ d e f g j l x x cA ((b.rp 0 Z).d a.fr).rp ((b.rb 1 Z).d a.fr) ((b.rp 2 Z).d a.fr).rp ((b.rb 3 Z).d a.fr) ((b.rp 4 Z).d a.fr).rp ((b.rb 5 Z).d a.fr) ((b.rp 6 Z).d a.fr).rp ((b.rb 7 Z).d a.fr) ((b.rp 8 Z).d a.fr).rp ((b.rb 9 Z).d a.fr) ((b.rb 10 Z).d a.fr) ((b.rp 21 Z).d a.fr).rp ((b.rb 22 Z).d a.fr) ((b.rp 21 Z).d a.fr).rp ((b.rb 22 Z).d a.fr)) Z ?_
 rintro _ w ⟨aK,bv,rfl,c⟩
 have a:=a.f c
 refine al (a.e [4,5,6] Z Z) Z Z (fun w hF=>aA Z) Z (al (a.e [4,5,6] Z Z) Z Z (fun w hF=>aA Z) Z (bl (a.e [4,5,6] Z Z) ?_))
 refine O (J ?_)
 refine aY (fun w'=>St [] t w' [W bv [vB ab.1,aK],N U aK ab.2,W bu [vB aQ.1,aG],N U aG aQ.2,W bH [.pointer none,.pointer none,.pointer none],W bG [M p 0,M q 0,M s 0],W bF [M m 0,M n 0,M o 0]]) (fun i=>!([4,9].contains i)) bQ (fun _ _ _ hf=>hf.2) (fun _ _ hf=>hf) (by kernel_rfl) ?_
 have a:=a.drew
 show lxE _ _ _ _ _ _ _ [0,1,2,3,4,5,6,7,8,9,10,11] _ _
 refine al a Z Z (fun w hF=>ar Z) Z (al a Z Z (fun w hF=>av (k:=0) u91 Z Z cx Z) Z (al a Z Z (fun w hF=>aC u73 Z Z (hF.r 6 Z 0)) Z (al a Z Z (fun w hF=>ar Z) Z ?_)))
 obtain ⟨aL,cB,h⟩:=aj h
 refine bf a Z Z (by kernel_rfl) Z (aZ d e f g j l G ab.1 cB ((b.rp 0 Z).d a.fr).rp ((b.rb 1 Z).d a.fr) ((b.rp 2 Z).d a.fr).rp ((b.rb 3 Z).d a.fr) ((b.rp 4 Z).d a.fr).rp ((b.rb 5 Z).d a.fr) ((b.rp 6 Z).d a.fr).rp ((b.rb 7 Z).d a.fr) ((b.rp 8 Z).d a.fr).rp ((b.rb 9 Z).d a.fr) ((b.rb 10 Z).d a.fr) ((b.rp 11 Z).d a.fr).rp ((b.rb 12 Z).d a.fr) (a.ro 1 Z).rp (a.rb 0 Z)) Z ?_
 rintro _ w ⟨bh,cb,rfl,c⟩
 have a:=a.f c
 refine al (a.e [2,3,4,5,6,7,8] Z Z) Z Z (fun w hF=>ar Z) Z (al (a.e [2,3,4,5,6,7,8] Z Z) Z Z (fun w hF=>av (k:=0) u91 Z Z cx Z) Z (al (a.e [2,3,4,5,6,7,8] Z Z) Z Z (fun w hF=>aC u73 Z Z (hF.r 5 Z 0)) Z (al (a.e [2,3,4,5,6,7,8] Z Z) Z Z (fun w hF=>ar Z) Z ?_)))
 obtain ⟨be,cC,h⟩:=aj h
 refine bf (a.e [2,3,4,5,6,7,8] Z Z) Z Z (by kernel_rfl) Z (aZ d e f g j l aD aQ.1 cC ((b.rp 0 Z).d a.fr).rp ((b.rb 1 Z).d a.fr) ((b.rp 2 Z).d a.fr).rp ((b.rb 3 Z).d a.fr) ((b.rp 4 Z).d a.fr).rp ((b.rb 5 Z).d a.fr) ((b.rp 6 Z).d a.fr).rp ((b.rb 7 Z).d a.fr) ((b.rp 8 Z).d a.fr).rp ((b.rb 9 Z).d a.fr) ((b.rb 10 Z).d a.fr) ((b.rp 17 Z).d a.fr).rp ((b.rb 18 Z).d a.fr) (a.ro 5 Z).rp (a.rb 4 Z)) Z ?_
 rintro _ w ⟨bi,cc,rfl,c⟩
 have a:=a.f c
 refine al (a.e [4,5,6,7,8,9,10] Z Z) Z Z (fun w hF=>aA Z) Z (al (a.e [4,5,6,7,8,9,10] Z Z) Z Z (fun w hF=>aA Z) Z (bl (a.e [4,5,6,7,8,9,10] Z Z) ?_))
 refine O (J ?_)
 refine aY (fun w'=>St [] t w' [W cc [vB be.1,bi],N U bi be.2,W cb [vB aL.1,bh],N U bh aL.2,W bv [vB ab.1,aK],N U aK ab.2,W bu [vB aQ.1,aG],N U aG aQ.2,W bH [.pointer none,.pointer none,.pointer none],W bG [M p 0,M q 0,M s 0],W bF [M m 0,M n 0,M o 0]]) (fun i=>!([7,8,16,17].contains i)) bQ (fun _ _ _ hf=>hf.2) (fun _ _ hf=>hf) (by kernel_rfl) ?_
 have a:=a.drew
 show lxE _ _ _ _ _ _ _ [0,1,2,3,4,5,6,7,8,9,10,11,12,13,14,15,16,17,18,19] _ _
 refine al a Z Z (fun w hF=>ar Z) Z (al a Z Z (fun w hF=>av (k:=1) u91 Z Z cx Z) Z (al a Z Z (fun w hF=>aC u73 Z Z (hF.r 10 Z 1)) Z (al a Z Z (fun w hF=>ar Z) Z (al a Z Z (fun w hF=>av (k:=2) u91 Z Z cx Z) Z (al a Z Z (fun w hF=>aC u73 Z Z (hF.r 9 Z 2)) Z (al a Z Z (fun w hF=>ar Z) Z ?_))))))
 obtain ⟨bw,cD,h⟩:=aj h
 refine bf a Z Z (by kernel_rfl) Z (aZ d e f g j l x ab.1 cD ((b.rp 0 Z).d a.fr).rp ((b.rb 1 Z).d a.fr) ((b.rp 2 Z).d a.fr).rp ((b.rb 3 Z).d a.fr) ((b.rp 4 Z).d a.fr).rp ((b.rb 5 Z).d a.fr) ((b.rp 6 Z).d a.fr).rp ((b.rb 7 Z).d a.fr) ((b.rp 8 Z).d a.fr).rp ((b.rb 9 Z).d a.fr) ((b.rb 10 Z).d a.fr) ((b.rp 21 Z).d a.fr).rp ((b.rb 22 Z).d a.fr) (a.ro 5 Z).rp (a.rb 4 Z)) Z ?_
 rintro _ w ⟨cd,c5,rfl,c⟩
 have a:=a.f c
 obtain ⟨bj,cE,h⟩:=aj h
 refine bf (a.e [2,3,4,5,6,7,8,9,10,11,12] Z Z) Z Z (by kernel_rfl) Z (aZ d e f g j l L bw.1 cE ((b.rp 0 Z).d a.fr).rp ((b.rb 1 Z).d a.fr) ((b.rp 2 Z).d a.fr).rp ((b.rb 3 Z).d a.fr) ((b.rp 4 Z).d a.fr).rp ((b.rb 5 Z).d a.fr) ((b.rp 6 Z).d a.fr).rp ((b.rb 7 Z).d a.fr) ((b.rp 8 Z).d a.fr).rp ((b.rb 9 Z).d a.fr) ((b.rb 10 Z).d a.fr) ((b.rp 13 Z).d a.fr).rp ((b.rb 14 Z).d a.fr) (a.ro 1 Z).rp (a.rb 0 Z)) Z ?_
 rintro _ w ⟨ce,c6,rfl,c⟩
 have a:=a.f c
 refine al (a.e [4,5,6,7,8,9,10,11,12,13,14] Z Z) Z Z (fun w hF=>ar Z) Z (al (a.e [4,5,6,7,8,9,10,11,12,13,14] Z Z) Z Z (fun w hF=>av (k:=1) u91 Z Z cx Z) Z (al (a.e [4,5,6,7,8,9,10,11,12,13,14] Z Z) Z Z (fun w hF=>aC u73 Z Z (hF.r 9 Z 1)) Z (al (a.e [4,5,6,7,8,9,10,11,12,13,14] Z Z) Z Z (fun w hF=>ar Z) Z (al (a.e [4,5,6,7,8,9,10,11,12,13,14] Z Z) Z Z (fun w hF=>av (k:=2) u91 Z Z cx Z) Z (al (a.e [4,5,6,7,8,9,10,11,12,13,14] Z Z) Z Z (fun w hF=>aC u73 Z Z (hF.r 10 Z 2)) Z (al (a.e [4,5,6,7,8,9,10,11,12,13,14] Z Z) Z Z (fun w hF=>ar Z) Z ?_))))))
 obtain ⟨bz,cF,h⟩:=aj h
 refine bf (a.e [4,5,6,7,8,9,10,11,12,13,14] Z Z) Z Z (by kernel_rfl) Z (aZ d e f g j l u aQ.1 cF ((b.rp 0 Z).d a.fr).rp ((b.rb 1 Z).d a.fr) ((b.rp 2 Z).d a.fr).rp ((b.rb 3 Z).d a.fr) ((b.rp 4 Z).d a.fr).rp ((b.rb 5 Z).d a.fr) ((b.rp 6 Z).d a.fr).rp ((b.rb 7 Z).d a.fr) ((b.rp 8 Z).d a.fr).rp ((b.rb 9 Z).d a.fr) ((b.rb 10 Z).d a.fr) ((b.rp 15 Z).d a.fr).rp ((b.rb 16 Z).d a.fr) (a.ro 11 Z).rp (a.rb 10 Z)) Z ?_
 rintro _ w ⟨cf,c7,rfl,c⟩
 have a:=a.f c
 obtain ⟨bA,cG,h⟩:=aj h
 refine bf (a.e [6,7,8,9,10,11,12,13,14,15,16] Z Z) Z Z (by kernel_rfl) Z (aZ d e f g j l aF bz.1 cG ((b.rp 0 Z).d a.fr).rp ((b.rb 1 Z).d a.fr) ((b.rp 2 Z).d a.fr).rp ((b.rb 3 Z).d a.fr) ((b.rp 4 Z).d a.fr).rp ((b.rb 5 Z).d a.fr) ((b.rp 6 Z).d a.fr).rp ((b.rb 7 Z).d a.fr) ((b.rp 8 Z).d a.fr).rp ((b.rb 9 Z).d a.fr) ((b.rb 10 Z).d a.fr) ((b.rp 19 Z).d a.fr).rp ((b.rb 20 Z).d a.fr) (a.ro 1 Z).rp (a.rb 0 Z)) Z ?_
 rintro _ w ⟨cg,c8,rfl,c⟩
 have a:=a.f c
 refine al (a.e [8,9,10,11,12,13,14,15,16,17,18] Z Z) Z Z (fun w hF=>aA Z) Z (al (a.e [8,9,10,11,12,13,14,15,16,17,18] Z Z) Z Z (fun w hF=>aA Z) Z (bl (a.e [8,9,10,11,12,13,14,15,16,17,18] Z Z) ?_))
 refine O (J (H (P 3 Z ?_)))
 obtain ⟨aB,cH,h⟩:=aj h
 refine ao Z (cj d e f g j l be.1 aL.1 cH ((b.rp 0 Z).d a.fr).rp ((b.rb 1 Z).d a.fr) ((b.rp 2 Z).d a.fr).rp ((b.rb 3 Z).d a.fr) ((b.rp 4 Z).d a.fr).rp ((b.rb 5 Z).d a.fr) ((b.rp 6 Z).d a.fr).rp ((b.rb 7 Z).d a.fr) ((b.rp 8 Z).d a.fr).rp ((b.rb 9 Z).d a.fr) ((b.rb 10 Z).d a.fr) (a.ro 9 Z).rp (a.rb 8 Z) (a.ro 11 Z).rp (a.rb 10 Z)) Z ?_
 rintro _ w ⟨ch,c9,rfl,c⟩
 have a:=a.f c
 refine P 3 Z ?_
 obtain ⟨aM,cI,h⟩:=aj h
 refine ao Z (cj d e f g j l bA.1 bj.1 cI ((b.rp 0 Z).d a.fr).rp ((b.rb 1 Z).d a.fr) ((b.rp 2 Z).d a.fr).rp ((b.rb 3 Z).d a.fr) ((b.rp 4 Z).d a.fr).rp ((b.rb 5 Z).d a.fr) ((b.rp 6 Z).d a.fr).rp ((b.rb 7 Z).d a.fr) ((b.rp 8 Z).d a.fr).rp ((b.rb 9 Z).d a.fr) ((b.rb 10 Z).d a.fr) (a.ro 3 Z).rp (a.rb 2 Z) (a.ro 7 Z).rp (a.rb 6 Z)) Z ?_
 rintro _ w ⟨ck,da,rfl,c⟩
 have a:=a.f c
 refine P 2 Z ?_
 refine I (O (J (J (H (P 1 Z ?_)))))
 obtain ⟨dx,cJ,h⟩:=aj h
 refine ao Z (cz aB.1 cJ (a.ro 3 Z).rp (a.rb 2 Z)) Z ?_
 rintro _ w ⟨rfl,c⟩
 have a:=a.f c
 refine P 1 Z ?_
 refine I (O ?_)
 refine aw Z (fun bg=>?_) (fun bg=>?_)
 ·have h:=aJ h bg
  refine J (J (H (P 1 Z ?_)))
  obtain ⟨dy,cK,h⟩:=aj h
  refine ao Z (cz aM.1 cK (a.ro 1 Z).rp (a.rb 0 Z)) Z ?_
  rintro _ w ⟨rfl,c⟩
  have a:=a.f c
  refine P 1 Z ?_
  refine I (O ?_)
  refine aw Z (fun bk=>?_) (fun bk=>?_)
  ·have h:=aJ h bk
   refine J (H (P 1 Z ?_))
   refine am (bY (us:=[M m 0,M n 0,M o 0]) u91 Z bR Z (a.q 22 Z Z)) Z ?_
   replace a:=a.pick (os':=[W da [vB aM.1,ck],N U ck aM.2,W c9 [vB aB.1,ch],N U ch aB.2,W c8 [vB bA.1,cg],N U cg bA.2,W c7 [vB bz.1,cf],N U cf bz.2,W c6 [vB bj.1,ce],N U ce bj.2,W c5 [vB bw.1,cd],N U cd bw.2,W cc [vB be.1,bi],N U bi be.2,W cb [vB aL.1,bh],N U bh aL.2,W bv [vB ab.1,aK],N U aK ab.2,W bu [vB aQ.1,aG],N U aG aQ.2]++[W bH [.pointer none,.pointer none,.pointer none],W bG [M p 0,M q 0,M s 0],W bF [M m 0,M n 0,M o 0]]) [0,1,2,3,4,5,6,7,8,9,10,11,12,13,14,15,16,17,18,19,20,21,22] (by decide) rfl
   obtain ⟨hZ,b,y,a⟩:=hZ.frzK hTT b y a
   obtain ⟨dz,cL,h⟩:=aj h
   refine ao Z (gl d e f g j l G L u cL (hZ.okT hTT a) (b.j y 0 Z) (b.k y 1 Z) (b.j y 2 Z) (b.k y 3 Z) (b.j y 4 Z) (b.k y 5 Z) (b.j y 6 Z) (b.k y 7 Z) (b.j y 8 Z) (b.k y 9 Z) (b.k y 10 Z) (b.j y 11 Z) (b.k y 12 Z) (b.j y 13 Z) (b.k y 14 Z) (b.j y 15 Z) (b.k y 16 Z)) Z ?_
   rintro _ w ⟨aN,bq,aO,bs,aP,bt,rfl,c,df⟩
   obtain ⟨dA,dg,hZ,b,y,a⟩:=hZ.m b y a c df rfl
   refine bn (br (i:=0) (us:=[M aN 0,M aO 0,M aP 0]) Z bR Z Z Z ⟨Z,Z,Z,V⟩ Z a) ?_
   intro w a
   refine I (O (ax (aE (aE ?_))))
   cases h
   obtain ⟨hS0,hR⟩:=hZ.outT hTT b y a
   exact eK Z ⟨_,Z,bW (us:=[M aN 0,M aO 0,M aP 0]) u91 Z bR (a.q 0 Z Z)⟩ ⟨aN,bq,aO,bs,aP,bt,Z,hS0,(Y (hR.b 48 Z) (Y (hR.b 47 Z) (Y (hR.b 46 Z) (Y (hR.b 45 Z) (Y (hR.b 44 Z) (Y (hR.b 43 Z) Q.nil))))))⟩
  have h:=aI h bk
  refine az (O (J (H ?_)))
  obtain ⟨dB,cM,h⟩:=aj h
  refine ao Z (eO  cM ) Z ?_
  rintro _ w ⟨db,dc,dd,bB,bC,bD,rfl,c⟩
  have a:=a.f c
  refine bn (br (i:=26) (us:=[M bB 0,M bC 0,M bD 0]) Z bR Z Z Z ⟨Z,Z,Z,V⟩ Z a) ?_
  intro w a
  refine I (O (ax (aE ?_)))
  cases h
  obtain ⟨hS0,hR⟩:=hZ.outT hTT b y a
  exact eK Z ⟨_,Z,bW (us:=[M bB 0,M bC 0,M bD 0]) u91 Z bR (a.q 26 Z Z)⟩ ⟨bB,db,bC,dc,bD,dd,Z,hS0,(Y (hR.b 47 Z) (Y (hR.b 46 Z) (Y (hR.b 49 Z) (Y (hR.b 48 Z) (Y (hR.b 51 Z) (Y (hR.b 50 Z) Q.nil))))))⟩
 have h:=aI h bg
 refine az (O (J (H (P 3 Z ?_))))
 obtain ⟨cl,cN,h⟩:=aj h
 refine ao Z (aZ d e f g j l aB.1 aB.1 cN ((b.rp 0 Z).d a.fr).rp ((b.rb 1 Z).d a.fr) ((b.rp 2 Z).d a.fr).rp ((b.rb 3 Z).d a.fr) ((b.rp 4 Z).d a.fr).rp ((b.rb 5 Z).d a.fr) ((b.rp 6 Z).d a.fr).rp ((b.rb 7 Z).d a.fr) ((b.rp 8 Z).d a.fr).rp ((b.rb 9 Z).d a.fr) ((b.rb 10 Z).d a.fr) (a.ro 3 Z).rp (a.rb 2 Z) (a.ro 3 Z).rp (a.rb 2 Z)) Z ?_
 rintro _ w ⟨dC,dD,rfl,c⟩
 have a:=a.f c
 refine P 1 Z ?_
 refine I (O (J (H (P 3 Z ?_))))
 obtain ⟨cm,cO,h⟩:=aj h
 refine ao Z (aZ d e f g j l aB.1 cl.1 cO ((b.rp 0 Z).d a.fr).rp ((b.rb 1 Z).d a.fr) ((b.rp 2 Z).d a.fr).rp ((b.rb 3 Z).d a.fr) ((b.rp 4 Z).d a.fr).rp ((b.rb 5 Z).d a.fr) ((b.rp 6 Z).d a.fr).rp ((b.rb 7 Z).d a.fr) ((b.rp 8 Z).d a.fr).rp ((b.rb 9 Z).d a.fr) ((b.rb 10 Z).d a.fr) (a.ro 5 Z).rp (a.rb 4 Z) (a.ro 1 Z).rp (a.rb 0 Z)) Z ?_
 rintro _ w ⟨dE,dF,rfl,c⟩
 have a:=a.f c
 refine P 3 Z ?_
 obtain ⟨cn,cP,h⟩:=aj h
 refine ao Z (aZ d e f g j l aL.1 cl.1 cP ((b.rp 0 Z).d a.fr).rp ((b.rb 1 Z).d a.fr) ((b.rp 2 Z).d a.fr).rp ((b.rb 3 Z).d a.fr) ((b.rp 4 Z).d a.fr).rp ((b.rb 5 Z).d a.fr) ((b.rp 6 Z).d a.fr).rp ((b.rb 7 Z).d a.fr) ((b.rp 8 Z).d a.fr).rp ((b.rb 9 Z).d a.fr) ((b.rb 10 Z).d a.fr) (a.ro 19 Z).rp (a.rb 18 Z) (a.ro 3 Z).rp (a.rb 2 Z)) Z ?_
 rintro _ w ⟨dG,dH,rfl,c⟩
 have a:=a.f c
 refine P 2 Z ?_
 refine I (O (J (H (P 5 Z ?_))))
 obtain ⟨de,cQ,h⟩:=aj h
 refine ao Z (aZ d e f g j l aM.1 aM.1 cQ ((b.rp 0 Z).d a.fr).rp ((b.rb 1 Z).d a.fr) ((b.rp 2 Z).d a.fr).rp ((b.rb 3 Z).d a.fr) ((b.rp 4 Z).d a.fr).rp ((b.rb 5 Z).d a.fr) ((b.rp 6 Z).d a.fr).rp ((b.rb 7 Z).d a.fr) ((b.rp 8 Z).d a.fr).rp ((b.rb 9 Z).d a.fr) ((b.rb 10 Z).d a.fr) (a.ro 7 Z).rp (a.rb 6 Z) (a.ro 7 Z).rp (a.rb 6 Z)) Z ?_
 rintro _ w ⟨dI,dJ,rfl,c⟩
 have a:=a.f c
 refine P 1 Z ?_
 obtain ⟨cS,co,h⟩:=aj h
 refine ao Z (cj d e f g j l de.1 cm.1 co ((b.rp 0 Z).d a.fr).rp ((b.rb 1 Z).d a.fr) ((b.rp 2 Z).d a.fr).rp ((b.rb 3 Z).d a.fr) ((b.rp 4 Z).d a.fr).rp ((b.rb 5 Z).d a.fr) ((b.rp 6 Z).d a.fr).rp ((b.rb 7 Z).d a.fr) ((b.rp 8 Z).d a.fr).rp ((b.rb 9 Z).d a.fr) ((b.rb 10 Z).d a.fr) (a.ro 1 Z).rp (a.rb 0 Z) (a.ro 5 Z).rp (a.rb 4 Z)) Z ?_
 rintro _ w ⟨dh,di,rfl,c⟩
 have a:=a.f c
 refine P 2 Z ?_
 obtain ⟨cT,cp,h⟩:=aj h
 refine ao Z (cR d e f g j l 2 cn.1 cp ((b.rp 0 Z).d a.fr).rp ((b.rb 1 Z).d a.fr) ((b.rp 2 Z).d a.fr).rp ((b.rb 3 Z).d a.fr) ((b.rp 4 Z).d a.fr).rp ((b.rb 5 Z).d a.fr) ((b.rp 6 Z).d a.fr).rp ((b.rb 7 Z).d a.fr) ((b.rp 8 Z).d a.fr).rp ((b.rb 9 Z).d a.fr) ((b.rb 10 Z).d a.fr) (a.ro 5 Z).rp (a.rb 4 Z)) Z ?_
 rintro _ w ⟨dj,dk,rfl,c⟩
 have a:=a.f c
 obtain ⟨cU,cq,h⟩:=aj h
 refine ao Z (cj d e f g j l cS.1 cT.1 cq ((b.rp 0 Z).d a.fr).rp ((b.rb 1 Z).d a.fr) ((b.rp 2 Z).d a.fr).rp ((b.rb 3 Z).d a.fr) ((b.rp 4 Z).d a.fr).rp ((b.rb 5 Z).d a.fr) ((b.rp 6 Z).d a.fr).rp ((b.rb 7 Z).d a.fr) ((b.rp 8 Z).d a.fr).rp ((b.rb 9 Z).d a.fr) ((b.rb 10 Z).d a.fr) (a.ro 3 Z).rp (a.rb 2 Z) (a.ro 1 Z).rp (a.rb 0 Z)) Z ?_
 rintro _ w ⟨cV,ap,rfl,c⟩
 have a:=a.f c
 refine P 1 Z ?_
 refine I (O (J (H (P 6 Z ?_))))
 obtain ⟨cW,cr,h⟩:=aj h
 refine ao Z (cj d e f g j l cn.1 cU.1 cr ((b.rp 0 Z).d a.fr).rp ((b.rb 1 Z).d a.fr) ((b.rp 2 Z).d a.fr).rp ((b.rb 3 Z).d a.fr) ((b.rp 4 Z).d a.fr).rp ((b.rb 5 Z).d a.fr) ((b.rp 6 Z).d a.fr).rp ((b.rb 7 Z).d a.fr) ((b.rp 8 Z).d a.fr).rp ((b.rb 9 Z).d a.fr) ((b.rb 10 Z).d a.fr) (a.ro 9 Z).rp (a.rb 8 Z) (a.ro 1 Z).rp (a.rb 0 Z)) Z ?_
 rintro _ w ⟨dl,dm,rfl,c⟩
 have a:=a.f c
 obtain ⟨cX,ct,h⟩:=aj h
 refine ao Z (aZ d e f g j l aM.1 cW.1 ct ((b.rp 0 Z).d a.fr).rp ((b.rb 1 Z).d a.fr) ((b.rp 2 Z).d a.fr).rp ((b.rb 3 Z).d a.fr) ((b.rp 4 Z).d a.fr).rp ((b.rb 5 Z).d a.fr) ((b.rp 6 Z).d a.fr).rp ((b.rb 7 Z).d a.fr) ((b.rp 8 Z).d a.fr).rp ((b.rb 9 Z).d a.fr) ((b.rb 10 Z).d a.fr) (a.ro 17 Z).rp (a.rb 16 Z) (a.ro 1 Z).rp (a.rb 0 Z)) Z ?_
 rintro _ w ⟨dn,dp,rfl,c⟩
 have a:=a.f c
 refine P 3 Z ?_
 obtain ⟨cY,cu,h⟩:=aj h
 refine ao Z (aZ d e f g j l bj.1 cm.1 cu ((b.rp 0 Z).d a.fr).rp ((b.rb 1 Z).d a.fr) ((b.rp 2 Z).d a.fr).rp ((b.rb 3 Z).d a.fr) ((b.rp 4 Z).d a.fr).rp ((b.rb 5 Z).d a.fr) ((b.rp 6 Z).d a.fr).rp ((b.rb 7 Z).d a.fr) ((b.rp 8 Z).d a.fr).rp ((b.rb 9 Z).d a.fr) ((b.rb 10 Z).d a.fr) (a.ro 27 Z).rp (a.rb 26 Z) (a.ro 15 Z).rp (a.rb 14 Z)) Z ?_
 rintro _ w ⟨dq,dr,rfl,c⟩
 have a:=a.f c
 obtain ⟨ds,cv,h⟩:=aj h
 refine ao Z (cj d e f g j l cX.1 cY.1 cv ((b.rp 0 Z).d a.fr).rp ((b.rb 1 Z).d a.fr) ((b.rp 2 Z).d a.fr).rp ((b.rb 3 Z).d a.fr) ((b.rp 4 Z).d a.fr).rp ((b.rb 5 Z).d a.fr) ((b.rp 6 Z).d a.fr).rp ((b.rb 7 Z).d a.fr) ((b.rp 8 Z).d a.fr).rp ((b.rb 9 Z).d a.fr) ((b.rb 10 Z).d a.fr) (a.ro 3 Z).rp (a.rb 2 Z) (a.ro 1 Z).rp (a.rb 0 Z)) Z ?_
 rintro _ w ⟨cZ,aq,rfl,c⟩
 have a:=a.f c
 refine P 1 Z ?_
 refine I (O (J (H (P 5 Z ?_))))
 refine am (av (k:=2) u91 Z Z cx Z) Z (am (aC u73 Z Z (a.r 44 Z 2)) Z (am (av (k:=2) u91 Z Z cx Z) Z (am (aC u73 Z Z (a.r 43 Z 2)) Z ?_)))
 obtain ⟨c0,cw,h⟩:=aj h
 refine ao Z (aZ d e f g j l u x cw ((b.rp 0 Z).d a.fr).rp ((b.rb 1 Z).d a.fr) ((b.rp 2 Z).d a.fr).rp ((b.rb 3 Z).d a.fr) ((b.rp 4 Z).d a.fr).rp ((b.rb 5 Z).d a.fr) ((b.rp 6 Z).d a.fr).rp ((b.rb 7 Z).d a.fr) ((b.rp 8 Z).d a.fr).rp ((b.rb 9 Z).d a.fr) ((b.rb 10 Z).d a.fr) ((b.rp 15 Z).d a.fr).rp ((b.rb 16 Z).d a.fr) ((b.rp 21 Z).d a.fr).rp ((b.rb 22 Z).d a.fr)) Z ?_
 rintro _ w ⟨dt,du,rfl,c⟩
 have a:=a.f c
 obtain ⟨dw,cy,h⟩:=aj h
 refine ao Z (aZ d e f g j l aB.1 c0.1 cy ((b.rp 0 Z).d a.fr).rp ((b.rb 1 Z).d a.fr) ((b.rp 2 Z).d a.fr).rp ((b.rb 3 Z).d a.fr) ((b.rp 4 Z).d a.fr).rp ((b.rb 5 Z).d a.fr) ((b.rp 6 Z).d a.fr).rp ((b.rb 7 Z).d a.fr) ((b.rp 8 Z).d a.fr).rp ((b.rb 9 Z).d a.fr) ((b.rb 10 Z).d a.fr) (a.ro 27 Z).rp (a.rb 26 Z) (a.ro 1 Z).rp (a.rb 0 Z)) Z ?_
 rintro _ w ⟨c1,ay,rfl,c⟩
 have a:=a.f c
 refine am (ci (vs:=[(0,M ap 0,[M ap 0]),(1,M aq 0,[M aq 0]),(2,M ay 0,[M ay 0])]) (cells:=[M ap 0,M aq 0,M ay 0]) Z ma ⟨Z,Z,Z,V⟩ Z) Z ?_
 refine bn (br (i:=46) (us:=[M ap 0,M aq 0,M ay 0]) Z bR Z Z Z ⟨Z,Z,Z,V⟩ Z a) ?_
 intro w a
 refine I (O (ax ?_))
 cases h
 obtain ⟨hS0,hR⟩:=hZ.outT hTT b y a
 exact eK Z ⟨_,Z,bW (us:=[M ap 0,M aq 0,M ay 0]) u91 Z bR (a.q 46 Z Z)⟩ ⟨ap,cV,aq,cZ,ay,c1,Z,hS0,(Y (hR.b 71 Z) (Y (hR.b 70 Z) (Y (hR.b 67 Z) (Y (hR.b 66 Z) (Y (hR.b 59 Z) (Y (hR.b 58 Z) Q.nil))))))⟩
theorem lc {d:World} {aB aD aF aG aK aM aN aO:List UInt32} {S T ab ac ad ag ak an:Value} {a3 aS aT aU aW aX m n o:Nat} (b e f g j:Bool) (C:Int) (G L x:Bool) {r:List UInt32×List UInt32×Bool}
  (h:F.Cq b aB e aD f aF g aG j aK C G aM L aN x aO=some r) (l:RP [] d U S aB) (p:RB [] d aS [vB b,S]) (q:RP [] d U T aD) (y:RB [] d aT [vB e,T]) (s:RP [] d U ab aF) (z:RB [] d aU [vB f,ab]) (t:RP [] d U ac aG) (A:RB [] d aW [vB g,ac]) (u:RP [] d U ad aK) (B:RB [] d aX [vB j,ad]) (hBa0:RB [] d a3 [M aS 0,M aT 0,M aU 0,M aW 0,M aX 0,vI C,.func (.func 168) #[] #[]]) (a0:RP [] d U ag aM) (a4:RB [] d m [vB G,ag]) (a1:RP [] d U ak aN) (a5:RB [] d n [vB L,ak]) (ap:RP [] d U an aO) (aP:RB [] d o [vB x,an]):Calls Tryz.prog 73 #[M a3 0,.agg #[M m 0,M n 0,M o 0]] d (Ret fun v w=>∃a6 a7:Value,v=.agg #[a6,a7,vB r.2.2]∧St [] d w [N U a6 r.1,N U a7 r.2.1]):=by
 refine aH 40 Tryz.func73 Z Z Z ?_
 have a:=St.l d
 refine au [(0,M a3 0),(1,.agg #[M m 0,M n 0,M o 0])] ⟨Z,Z,V⟩ ?_
 unfold F.Cq at h
 refine J (H (aV (dv (cs:=[M m 0,M n 0,M o 0]) Z Z a) Z ?_))
 rintro _ w ⟨a8,rfl,a⟩
 refine aV (ba (cs:=[.slice none 0 0,.slice none 0 0,vB false]) lj Z a) Z ?_
 rintro _ w ⟨a9,rfl,a⟩
 refine I (O (J (J (H (am (av (k:=2) u91 Z Z cx Z) Z (am (aC u73 Z Z (a.r 1 Z 2)) Z ?_))))))
 obtain ⟨bG,bp,h⟩:=aj h
 refine ao Z (cz x bp (ap.d a.fr).rp (aP.d a.fr)) Z ?_
 rintro _ w ⟨rfl,c⟩
 have a:=a.f c
 refine P 1 Z ?_
 refine I (O ?_)
 refine aw Z (fun aq=>?_) (fun aq=>?_)
 ·have h:=aJ h aq
  refine J (H (am (ci (vs:=[(2,vB true,[vB true])]) (cells:=[.slice none 0 0,.slice none 0 0,vB true]) Z gm ⟨Z,V⟩ Z) Z (bn (br (i:=0) (us:=[.slice none 0 0,.slice none 0 0,vB true]) Z cI Z Z Z ⟨Z,Z,Z,V⟩ Z a) ?_)))
  intro w a
  refine I (O (ax (aE ?_)))
  cases h
  exact eK Z ⟨_,Z,bW (us:=[.slice none 0 0,.slice none 0 0,vB true]) u33 Z cI (a.q 0 Z Z)⟩ ⟨.slice none 0 0,.slice none 0 0,Z,((a.nil U).nil U).e [1,0] Z Z⟩
 have h:=aI h aq
 refine az (O (J ?_))
 refine aY (fun w'=>St [] d w' [W a9 [.slice none 0 0,.slice none 0 0,vB false],W a8 [M m 0,M n 0,M o 0]]) (fun i=>!([0,7].contains i)) bQ (fun _ _ _ hf=>hf.2) (fun _ _ hf=>hf) (by kernel_rfl) ?_
 have a:=a.drew
 show lxE _ _ _ _ _ _ _ [0,1,2,3,4,5,6,7,8] _ _
 refine A5 a Z Z (ba (cs:=[vB false,.slice none 0 0]) cT Z a) Z ?_
 rintro _ w ⟨bo,rfl,a⟩
 refine al (a.e [1,2] Z Z) Z Z (fun w hF=>av (k:=2) u91 Z Z cx Z) Z (al (a.e [1,2] Z Z) Z Z (fun w hF=>aC u73 Z Z (hF.r 1 Z 2)) Z (al (a.e [1,2] Z Z) Z Z (fun w hF=>ar Z) Z (al (a.e [1,2] Z Z) Z Z (fun w hF=>aL Z) Z (al (a.e [1,2] Z Z) Z Z (fun w hF=>av (k:=0) u76 Z Z cx Z) Z (al (a.e [1,2] Z Z) Z Z (fun w hF=>aC u73 Z Z (hBa0.cell hF.fr 0 Z)) Z ?_)))))
 replace a:=a.nil U
 have hG:=a.pick (os':=[W bo [vB false,.slice none 0 0],N U (.slice none 0 0) []]++[W a9 [.slice none 0 0,.slice none 0 0,vB false],W a8 [M m 0,M n 0,M o 0]]) [1,0,2,3] (by decide) Z
 obtain ⟨aQ,bq,h⟩:=aj h
 refine bf (a.e [2,3] Z Z) Z Z (by kernel_rfl) Z (jm false x b bq hG.g (ap.g (R Z) hG) (aP.g hG) (l.g (R Z) hG) (p.g hG)) Z ?_
 rintro _ w ⟨bb,rfl,c⟩
 have a:=hG.h c
 refine al (a.e [2,3] Z Z) Z Z (fun w hF=>aA Z) Z (bl (a.e [2,3] Z Z) ?_)
 refine O (J (H (P 3 Z ?_)))
 obtain ⟨ay,bd,h⟩:=aj h
 refine ao Z (aZ b e f g j C aQ.1 aQ.1 bd (l.d a.fr).rp (p.d a.fr) (q.d a.fr).rp (y.d a.fr) (s.d a.fr).rp (z.d a.fr) (t.d a.fr).rp (A.d a.fr) (u.d a.fr).rp (B.d a.fr) (hBa0.d a.fr) (a.ro 1 Z).rp (a.rb 0 Z) (a.ro 1 Z).rp (a.rb 0 Z)) Z ?_
 rintro _ w ⟨bc,bs,rfl,c⟩
 have a:=a.f c
 refine P 1 Z ?_
 refine I (O (J ?_))
 refine dK (fun w'=>St [] d w' [W bs [vB ay.1,bc],N U bc ay.2,W bo [vB aQ.1,bb],N U bb aQ.2,W a9 [.slice none 0 0,.slice none 0 0,vB false],W a8 [M m 0,M n 0,M o 0]]) (fun i=>!([4,5,12,13,14,16].contains i)) bQ (fun _ _ _ hf=>hf.2) (fun _ _ hf=>hf) (by kernel_rfl) ?_
 have a:=a.drew
 show lxE _ _ _ _ _ _ _ [0,1,2,3,4,5,6,7,8,9,10,11,12,13,14,15,16] _ _
 refine al a Z Z (fun w hF=>ar Z) Z (al a Z Z (fun w hF=>av (k:=0) u91 Z Z cx Z) Z (al a Z Z (fun w hF=>aC u73 Z Z (hF.r 5 Z 0)) Z (al a Z Z (fun w hF=>ar Z) Z ?_)))
 obtain ⟨bt,be,h⟩:=aj h
 refine bf a Z Z (by kernel_rfl) Z (aZ b e f g j C G ay.1 be (l.d a.fr).rp (p.d a.fr) (q.d a.fr).rp (y.d a.fr) (s.d a.fr).rp (z.d a.fr) (t.d a.fr).rp (A.d a.fr) (u.d a.fr).rp (B.d a.fr) (hBa0.d a.fr) (a0.d a.fr).rp (a4.d a.fr) (a.ro 1 Z).rp (a.rb 0 Z)) Z ?_
 rintro _ w ⟨bw,bz,rfl,c⟩
 have a:=a.f c
 obtain ⟨bA,bg,h⟩:=aj h
 refine bf (a.e [2,3,4,5,6,7] Z Z) Z Z (by kernel_rfl) Z (fL bt.1 bg (a.ro 1 Z).rp (a.rb 0 Z)) Z ?_
 rintro D w c
 have a:=a.f c
 have bh:=(a.ro 0 Z).one
 refine al (a.e [3,4,5,6,7,8] Z Z) Z Z (fun w hF=>ar Z) Z (al (a.e [3,4,5,6,7,8] Z Z) Z Z (fun w hF=>av (k:=1) u91 Z Z cx Z) Z (al (a.e [3,4,5,6,7,8] Z Z) Z Z (fun w hF=>aC u73 Z Z (hF.r 5 Z 1)) Z (al (a.e [3,4,5,6,7,8] Z Z) Z Z (fun w hF=>ar Z) Z (al (a.e [3,4,5,6,7,8] Z Z) Z Z (fun w hF=>ar Z) Z (al (a.e [3,4,5,6,7,8] Z Z) Z Z (fun w hF=>ar Z) Z ?_)))))
 obtain ⟨bu,bi,h⟩:=aj h
 refine bf (a.e [3,4,5,6,7,8] Z Z) Z Z (by kernel_rfl) Z (aZ b e f g j C aQ.1 ay.1 bi (l.d a.fr).rp (p.d a.fr) (q.d a.fr).rp (y.d a.fr) (s.d a.fr).rp (z.d a.fr) (t.d a.fr).rp (A.d a.fr) (u.d a.fr).rp (B.d a.fr) (hBa0.d a.fr) (a.ro 6 Z).rp (a.rb 5 Z) (a.ro 4 Z).rp (a.rb 3 Z)) Z ?_
 rintro _ w ⟨bB,bC,rfl,c⟩
 have a:=a.f c
 obtain ⟨bv,bj,h⟩:=aj h
 refine bf (a.e [5,6,7,8,9,10] Z Z) Z Z (by kernel_rfl) Z (aZ b e f g j C L bu.1 bj (l.d a.fr).rp (p.d a.fr) (q.d a.fr).rp (y.d a.fr) (s.d a.fr).rp (z.d a.fr) (t.d a.fr).rp (A.d a.fr) (u.d a.fr).rp (B.d a.fr) (hBa0.d a.fr) (a1.d a.fr).rp (a5.d a.fr) (a.ro 1 Z).rp (a.rb 0 Z)) Z ?_
 rintro _ w ⟨bD,bE,rfl,c⟩
 have a:=a.f c
 obtain ⟨bF,bk,h⟩:=aj h
 refine bf (a.e [7,8,9,10,11,12] Z Z) Z Z (by kernel_rfl) Z (fL bv.1 bk (a.ro 1 Z).rp (a.rb 0 Z)) Z ?_
 rintro E w c
 have a:=a.f c
 have bm:=(a.ro 0 Z).one
 refine al (a.e [8,9,10,11,12,13] Z Z) Z Z (fun w hF=>ci (vs:=[(0,D,[D]),(1,E,[E])]) (cells:=[D,E,vB false]) Z gm ⟨(fo bh),(fo bm),V⟩ Z) Z ?_
 refine iH (a.e [8,9,10,11,12,13] Z Z) Z Z (br (i:=12) (us:=[D,E,vB false]) Z cI Z Z Z ⟨(a.ro 5 Z).one,(a.ro 0 Z).one,Z,V⟩ Z a) ?_
 intro w a
 refine bl V ?_
 refine O (ax ?_)
 cases h
 exact eK Z ⟨_,Z,bW (us:=[D,E,vB false]) u33 Z cI (a.q 12 Z Z)⟩ ⟨D,E,Z,a.e [5,0] Z Z⟩
theorem rc {d:World} {aK aL aM aN aO aP aQ aR aS aT aU:List UInt32} {t u x y z A B C D E G:Value} {bg aC aD aE aF aG k l m e f j:Nat} {T:List Nat} (n o p q s:Bool) (aW:Int) (ag ak al a2 an ap aq:Bool) {r:Bool×List UInt32×Bool×List UInt32×Bool×List UInt32}
  (h:F.Cy n aK o aL p aM q aN s aO aW ag aP ak aQ al aR a2 an aS ap aT aq aU=some r) (hTT:TOk [] T d) (bk:RP T d U t aK) (bz:RB T d aC [vB n,t]) (bl:RP T d U u aL) (bA:RB T d aD [vB o,u]) (bm:RP T d U x aM) (bB:RB T d aE [vB p,x]) (bo:RP T d U y aN) (bC:RB T d aF [vB q,y]) (bp:RP T d U z aO) (bD:RB T d aG [vB s,z]) (hBa0:RB T d bg [M aC 0,M aD 0,M aE 0,M aF 0,M aG 0,vI aW,.func (.func 168) #[] #[]]) (bq:RP T d U A aP) (bE:RB T d k [vB ag,A]) (bs:RP T d U B aQ) (bF:RB T d l [vB ak,B]) (bt:RP T d U C aR) (bG:RB T d m [vB al,C]) (bu:RP T d U D aS) (bH:RB T d e [vB an,D]) (bv:RP T d U E aT) (bI:RB T d f [vB ap,E]) (bw:RP T d U G aU) (bJ:RB T d j [vB aq,G]):Calls Tryz.prog 168 #[M bg 0,.agg #[M k 0,M l 0,M m 0],vB a2,.agg #[M e 0,M f 0,M j 0]] d (Ret fun v w=>∃bK:Nat,∃a5:Value,∃bL:Nat,∃a6:Value,∃bM:Nat,∃a7:Value,v=.agg #[M bK 0,M bL 0,M bM 0]∧St [] d w []∧Q T w [W bM [vB r.2.2.2.2.1,a7],red U a7 r.2.2.2.2.2,W bL [vB r.2.2.1,a6],red U a6 r.2.2.2.1,W bK [vB r.1,a5],red U a5 r.2.1]):=by
 refine aH 18 Tryz.func168 Z Z Z ?_
 have c:=St.l d
 have hZ:=Fz.l (S:=[]) (w0:=d)
 have hA0:Q T d [W j [vB aq,G],red U G aU,W f [vB ap,E],red U E aT,W e [vB an,D],red U D aS,W m [vB al,C],red U C aR,W l [vB ak,B],red U B aQ,W k [vB ag,A],red U A aP,W bg [M aC 0,M aD 0,M aE 0,M aF 0,M aG 0,vI aW,.func (.func 168) #[] #[]],W aG [vB s,z],red U z aO,W aF [vB q,y],red U y aN,W aE [vB p,x],red U x aM,W aD [vB o,u],red U u aL,W aC [vB n,t],red U t aK]:=Y bJ.i (Y (RP.i (R Z) bw) (Y bI.i (Y (RP.i (R Z) bv) (Y bH.i (Y (RP.i (R Z) bu) (Y bG.i (Y (RP.i (R Z) bt) (Y bF.i (Y (RP.i (R Z) bs) (Y bE.i (Y (RP.i (R Z) bq) (Y hBa0.i (Y bD.i (Y (RP.i (R Z) bp) (Y bC.i (Y (RP.i (R Z) bo) (Y bB.i (Y (RP.i (R Z) bm) (Y bA.i (Y (RP.i (R Z) bl) (Y bz.i (Y (RP.i (R Z) bk) (Q.nil)))))))))))))))))))))))
 have a:=hA0.all
 have b:=hA0.off Z
 refine au [(0,M bg 0),(1,.agg #[M k 0,M l 0,M m 0]),(2,vB a2),(3,.agg #[M e 0,M f 0,M j 0])] ⟨Z,Z,Z,Z,V⟩ ?_
 unfold F.Cy at h
 refine J (H (aV (dv (cs:=[M k 0,M l 0,M m 0]) Z Z c) Z ?_))
 rintro _ w ⟨bh,rfl,c⟩
 refine aV (dv (cs:=[M e 0,M f 0,M j 0]) Z Z c) Z ?_
 rintro _ w ⟨bQ,rfl,c⟩
 refine aV (ba (cs:=[.pointer none,.pointer none,.pointer none]) fp Z c) Z ?_
 rintro _ w ⟨bi,rfl,c⟩
 refine I (O (J (H (P 1 Z ?_))))
 refine am (bY (us:=[M k 0,M l 0,M m 0]) u91 Z bR Z (c.q 2 Z Z)) Z ?_
 replace c:=c.pick (os':=[]++[W bi [.pointer none,.pointer none,.pointer none],W bQ [M e 0,M f 0,M j 0],W bh [M k 0,M l 0,M m 0]]) [0,1,2] (by decide) rfl
 obtain ⟨hZ,a,b,c⟩:=hZ.frzK hTT a b c
 obtain ⟨ar,bS,h⟩:=aj h
 refine ao Z (gl n o p q s aW ag ak al bS (hZ.okT hTT c) (a.j b 0 Z) (a.k b 1 Z) (a.j b 2 Z) (a.k b 3 Z) (a.j b 4 Z) (a.k b 5 Z) (a.j b 6 Z) (a.k b 7 Z) (a.j b 8 Z) (a.k b 9 Z) (a.k b 10 Z) (a.j b 11 Z) (a.k b 12 Z) (a.j b 13 Z) (a.k b 14 Z) (a.j b 15 Z) (a.k b 16 Z)) Z ?_
 rintro _ w ⟨av,bd,ay,be,aA,bf,rfl,bN,bO⟩
 obtain ⟨bX,bT,hZ,a,b,c⟩:=hZ.m a b c bN bO rfl
 refine bn (br (i:=2) (us:=[M av 0,M ay 0,M aA 0]) Z bR Z Z Z ⟨Z,Z,Z,V⟩ Z c) ?_
 intro w c
 refine I (O ?_)
 refine a9 (r:=r) (fun (g:Bool×List UInt32×Bool×List UInt32×Bool×List UInt32) L w=>∃(ab:Nat) (a0:Value) (ac:Nat) (a1:Value) (ad:Nat) (a3:Value),L=[(5,M bh 0),(8,M bi 0)]∧SfT [] T d w [W ad [vB g.2.2.2.2.1,a3],red U a3 g.2.2.2.2.2,W ac [vB g.2.2.1,a1],red U a1 g.2.2.2.1,W ab [vB g.1,a0],red U a0 g.2.1] [W bh [M ab 0,M ac 0,M ad 0],W bi [.pointer none,.pointer none,.pointer none]]) (F.Fu) ?_ ?_
 rotate_left
 ·intro bj
  refine J (H (P 1 Z ?_))
  refine I (O ?_)
  refine aw Z (fun a4=>?_) (fun a4=>?_)
  ·have h:=aJ h a4
   refine H (P 1 Z ?_)
   refine am (bY (us:=[M av 0,M ay 0,M aA 0]) u91 Z bR Z (c.q 2 Z Z)) Z (am (bY (us:=[M e 0,M f 0,M j 0]) u91 Z bR Z (c.q 1 Z Z)) Z ?_)
   replace c:=c.pick (os':=[]++[W bi [.pointer none,.pointer none,.pointer none],W bQ [M e 0,M f 0,M j 0],W bh [M av 0,M ay 0,M aA 0]]) [0,1,2] (by decide) rfl
   obtain ⟨hZ,a,b,c⟩:=hZ.frzK hTT a b c
   obtain ⟨aB,bP,h⟩:=aj h
   refine ao Z (iz n o p q s aW ar.1 ar.2.2.1 ar.2.2.2.2.1 an ap aq bP (hZ.okT hTT c) (a.j b 0 Z) (a.k b 1 Z) (a.j b 2 Z) (a.k b 3 Z) (a.j b 4 Z) (a.k b 5 Z) (a.j b 6 Z) (a.k b 7 Z) (a.j b 8 Z) (a.k b 9 Z) (a.k b 10 Z) (a.j b 23 Z) (a.k b 24 Z) (a.j b 25 Z) (a.k b 26 Z) (a.j b 27 Z) (a.k b 28 Z) (a.j b 17 Z) (a.k b 18 Z) (a.j b 19 Z) (a.k b 20 Z) (a.j b 21 Z) (a.k b 22 Z)) Z ?_
   rintro _ w ⟨aX,a8,aY,bb,aZ,bc,rfl,bN,bO⟩
   obtain ⟨bZ,bU,hZ,a,b,c⟩:=hZ.m a b c bN bO rfl
   refine bn (br (i:=2) (us:=[M aX 0,M aY 0,M aZ 0]) Z bR Z Z Z ⟨Z,Z,Z,V⟩ Z c) ?_
   intro w c
   refine I (O ?_)
   exact au _ (by exact ⟨Z,Z,V⟩) (bj (aB.1,aB.2.1,aB.2.2.1,aB.2.2.2.1,aB.2.2.2.2.1,aB.2.2.2.2.2) _ _ ⟨aX,a8,aY,bb,aZ,bc,Z,(SfT.mk' hZ (Y (a.b 34 Z) (Y (a.b 33 Z) (Y (a.b 32 Z) (Y (a.b 31 Z) (Y (a.b 30 Z) (Y (a.b 29 Z) Q.nil)))))) (X (b.b 34 Z) (X (b.b 33 Z) (X (b.b 32 Z) (X (b.b 31 Z) (X (b.b 30 Z) (X (b.b 29 Z) K.nil)))))) (c.e [2,0] Z Z))⟩ h)
  have h:=aI h a4
  refine az (O ?_)
  exact au _ (by exact ⟨Z,Z,V⟩) (bj (ar.1,ar.2.1,ar.2.2.1,ar.2.2.2.1,ar.2.2.2.2.1,ar.2.2.2.2.2) _ _ ⟨av,bd,ay,be,aA,bf,Z,(SfT.mk' hZ (Y (a.b 28 Z) (Y (a.b 27 Z) (Y (a.b 26 Z) (Y (a.b 25 Z) (Y (a.b 24 Z) (Y (a.b 23 Z) Q.nil)))))) (X (b.b 28 Z) (X (b.b 27 Z) (X (b.b 26 Z) (X (b.b 25 Z) (X (b.b 24 Z) (X (b.b 23 Z) K.nil)))))) (c.e [2,0] Z Z))⟩ h)
 rintro ⟨b0,b1,b2,b3,b4,b5⟩ L w hJ h
 try dsimp only at hJ
 obtain ⟨ab,a0,ac,a1,ad,a3,rfl,⟨b6,bV,hZ,a,b,c⟩⟩:=hJ
 unfold F.Fu at h
 refine J (H (am (bY (us:=[M ab 0,M ac 0,M ad 0]) u91 Z bR Z (c.q 0 Z Z)) Z (bn (br (i:=1) (us:=[M ab 0,M ac 0,M ad 0]) Z bR Z Z Z ⟨Z,Z,Z,V⟩ Z c) ?_)))
 intro w c
 refine I (O (ax ?_))
 cases h
 obtain ⟨hS0,hR⟩:=hZ.outT hTT a b c
 exact eK Z ⟨_,Z,bW (us:=[M ab 0,M ac 0,M ad 0]) u91 Z bR (c.q 1 Z Z)⟩ ⟨ab,a0,ac,a1,ad,a3,Z,hS0,(Y (hR.b 5 Z) (Y (hR.b 4 Z) (Y (hR.b 3 Z) (Y (hR.b 2 Z) (Y (hR.b 1 Z) (Y (hR.b 0 Z) Q.nil))))))⟩
end Go.Proofs
