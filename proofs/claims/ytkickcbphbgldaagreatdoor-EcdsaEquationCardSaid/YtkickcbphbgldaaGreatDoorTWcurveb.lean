import Derived.Test.YtkickcbphbgldaaGreatDoorTW0
import Derived.Test.YtkickcbphbgldaaGreatDoorGkFman
import Derived.Test.YtkickcbphbgldaaGreatDoorTWbignumc
import Derived.Test.YtkickcbphbgldaaGreatDoorTWcurvea
set_option linter.unusedVariables false
set_option linter.unusedSimpArgs false
set_option linter.unusedSectionVars false
set_option maxRecDepth 4000
namespace Go.Proofs
open Go Go.RowKit Go.Gk
open Go.Gk renaming Off → O, Rds → Q, aa → P, ae → M, ah → I, ai → H, e32 → U, own → K, pB → N, vB → J
open Nat renaming le_of_ble_eq_true → R
open Go.Gk.OE renaming bx → W
open Go.Gk.Off renaming cons → X
open Go.Gk.Rds renaming cons → Y
theorem gq {A:World} {aW aX aY aZ a0 a1 a2 a3:List UInt32} {B C D E G q s t:Value} {bf aI aK aL aM aN n o p:Nat} {T:List Nat} (d e f g j:Bool) (m:Int) (L ab u:Bool) {r:Bool×List UInt32×Bool×List UInt32×Bool×List UInt32}
  (h:F.Dk d aW e aX f aY g aZ j a0 m L a1 ab a2 u a3=some r) (hTT:TOk [] T A) (bm:RP T A U B aW) (bw:RB T A aI [J d,B]) (bn:RP T A U C aX) (bz:RB T A aK [J e,C]) (bp:RP T A U D aY) (bA:RB T A aL [J f,D]) (bq:RP T A U E aZ) (bD:RB T A aM [J g,E]) (br:RP T A U G a0) (bE:RB T A aN [J j,G]) (hBa0:RB T A bf [N aI 0,N aK 0,N aL 0,N aM 0,N aN 0,vI m,.func (.func 168) #[] #[]]) (bs:RP T A U q a1) (bF:RB T A n [J L,q]) (bt:RP T A U s a2) (bG:RB T A o [J ab,s]) (bv:RP T A U t a3) (bH:RB T A p [J u,t]):Calls Tryz.prog 149 #[N bf 0,.agg #[N n 0,N o 0,N p 0]] A (Ret fun v w=>∃bI:Nat,∃bg:Value,∃bJ:Nat,∃bh:Value,∃bK:Nat,∃bi:Value,v=.agg #[N bI 0,N bJ 0,N bK 0]∧St [] A w []∧Q T w [W bK [J r.2.2.2.2.1,bi],red U bi r.2.2.2.2.2,W bJ [J r.2.2.1,bh],red U bh r.2.2.2.1,W bI [J r.1,bg],red U bg r.2.1]):=by
 refine aJ 86 Tryz.func149 Z Z Z ?_
 have a:=St.l A
 have hZ:=Fz.l (S:=[]) (w0:=A)
 have hA0:Q T A [W p [J u,t],red U t a3,W o [J ab,s],red U s a2,W n [J L,q],red U q a1,W bf [N aI 0,N aK 0,N aL 0,N aM 0,N aN 0,vI m,.func (.func 168) #[] #[]],W aN [J j,G],red U G a0,W aM [J g,E],red U E aZ,W aL [J f,D],red U D aY,W aK [J e,C],red U C aX,W aI [J d,B],red U B aW]:=Y bH.i (Y (RP.i (R Z) bv) (Y bG.i (Y (RP.i (R Z) bt) (Y bF.i (Y (RP.i (R Z) bs) (Y hBa0.i (Y bE.i (Y (RP.i (R Z) br) (Y bD.i (Y (RP.i (R Z) bq) (Y bA.i (Y (RP.i (R Z) bp) (Y bz.i (Y (RP.i (R Z) bn) (Y bw.i (Y (RP.i (R Z) bm) (Q.nil)))))))))))))))))
 have b:=hA0.all
 have hP:=hA0.off Z
 refine au [(0,N bf 0),(1,.agg #[N n 0,N o 0,N p 0])] ⟨Z,Z,V⟩ ?_
 unfold F.Dk at h
 refine I (af (aP (cZ (cs:=[N n 0,N o 0,N p 0]) Z Z a) Z ?_))
 rintro _ w ⟨bL,rfl,a⟩
 refine aP (aT (cs:=[.pointer none,.pointer none,.pointer none]) dK Z a) Z ?_
 rintro _ w ⟨bM,rfl,a⟩
 refine H (M (I (I (af (am (av (k:=2) u91 Z Z cx Z) Z (am (aC u73 Z Z (a.r 1 Z 2)) Z ?_))))))
 obtain ⟨cI,b8,h⟩:=aj h
 refine ao Z (cC u b8 ((b.rp 15 Z).d a.fr).rp ((b.rb 16 Z).d a.fr)) Z ?_
 rintro _ w ⟨rfl,l⟩
 have a:=a.f l
 refine P 1 Z ?_
 refine H (M ?_)
 refine ax Z (fun bd=>?_) (fun bd=>?_)
 ·have h:=aG h bd
  refine I (af (am (bo (us:=[N n 0,N o 0,N p 0]) u91 Z bB Z (a.q 1 Z Z)) Z (bb (a7 (i:=0) (us:=[N n 0,N o 0,N p 0]) Z bB Z Z Z ⟨Z,Z,Z,V⟩ Z a) ?_)))
  intro w a
  refine H (M (aw (aD ?_)))
  cases h
  obtain ⟨hS0,hR⟩:=hZ.outT hTT b hP a
  exact eJ Z ⟨_,Z,bC (us:=[N n 0,N o 0,N p 0]) u91 Z bB (a.q 0 Z Z)⟩ ⟨n,q,o,s,p,t,Z,hS0,(Y (hR.b 16 Z) (Y (hR.b 15 Z) (Y (hR.b 14 Z) (Y (hR.b 13 Z) (Y (hR.b 12 Z) (Y (hR.b 11 Z) Q.nil))))))⟩
 have h:=aH h bd
 refine az (M (I (af (P 1 Z ?_))))
 refine am (av (k:=2) u91 Z Z cx Z) Z (am (aC u73 Z Z (a.r 1 Z 2)) Z (am (av (k:=2) u91 Z Z cx Z) Z (am (aC u73 Z Z (a.r 1 Z 2)) Z ?_)))
 obtain ⟨bc,b9,h⟩:=aj h
 refine ao Z (a8 d e f g j m u u b9 ((b.rp 0 Z).d a.fr).rp ((b.rb 1 Z).d a.fr) ((b.rp 2 Z).d a.fr).rp ((b.rb 3 Z).d a.fr) ((b.rp 4 Z).d a.fr).rp ((b.rb 5 Z).d a.fr) ((b.rp 6 Z).d a.fr).rp ((b.rb 7 Z).d a.fr) ((b.rp 8 Z).d a.fr).rp ((b.rb 9 Z).d a.fr) ((b.rb 10 Z).d a.fr) ((b.rp 15 Z).d a.fr).rp ((b.rb 16 Z).d a.fr) ((b.rp 15 Z).d a.fr).rp ((b.rb 16 Z).d a.fr)) Z ?_
 rintro _ w ⟨be,bO,rfl,l⟩
 have a:=a.f l
 refine P 1 Z ?_
 refine H (M (I (af (P 1 Z ?_))))
 refine am (av (k:=1) u91 Z Z cx Z) Z (am (aC u73 Z Z (a.r 3 Z 1)) Z (am (av (k:=1) u91 Z Z cx Z) Z (am (aC u73 Z Z (a.r 3 Z 1)) Z ?_)))
 obtain ⟨an,bP,h⟩:=aj h
 refine ao Z (a8 d e f g j m ab ab bP ((b.rp 0 Z).d a.fr).rp ((b.rb 1 Z).d a.fr) ((b.rp 2 Z).d a.fr).rp ((b.rb 3 Z).d a.fr) ((b.rp 4 Z).d a.fr).rp ((b.rb 5 Z).d a.fr) ((b.rp 6 Z).d a.fr).rp ((b.rb 7 Z).d a.fr) ((b.rp 8 Z).d a.fr).rp ((b.rb 9 Z).d a.fr) ((b.rb 10 Z).d a.fr) ((b.rp 13 Z).d a.fr).rp ((b.rb 14 Z).d a.fr) ((b.rp 13 Z).d a.fr).rp ((b.rb 14 Z).d a.fr)) Z ?_
 rintro _ w ⟨a4,bj,rfl,l⟩
 have a:=a.f l
 refine P 1 Z ?_
 refine H (M (I (af (P 2 Z ?_))))
 refine am (av (k:=0) u91 Z Z cx Z) Z (am (aC u73 Z Z (a.r 5 Z 0)) Z (P 1 Z ?_))
 obtain ⟨aQ,bQ,h⟩:=aj h
 refine ao Z (a8 d e f g j m L an.1 bQ ((b.rp 0 Z).d a.fr).rp ((b.rb 1 Z).d a.fr) ((b.rp 2 Z).d a.fr).rp ((b.rb 3 Z).d a.fr) ((b.rp 4 Z).d a.fr).rp ((b.rb 5 Z).d a.fr) ((b.rp 6 Z).d a.fr).rp ((b.rb 7 Z).d a.fr) ((b.rp 8 Z).d a.fr).rp ((b.rb 9 Z).d a.fr) ((b.rb 10 Z).d a.fr) ((b.rp 11 Z).d a.fr).rp ((b.rb 12 Z).d a.fr) (a.ro 1 Z).rp (a.rb 0 Z)) Z ?_
 rintro _ w ⟨a5,bk,rfl,l⟩
 have a:=a.f l
 obtain ⟨aA,bR,h⟩:=aj h
 refine ao Z (cU d e f g j m 4 aQ.1 bR ((b.rp 0 Z).d a.fr).rp ((b.rb 1 Z).d a.fr) ((b.rp 2 Z).d a.fr).rp ((b.rb 3 Z).d a.fr) ((b.rp 4 Z).d a.fr).rp ((b.rb 5 Z).d a.fr) ((b.rp 6 Z).d a.fr).rp ((b.rb 7 Z).d a.fr) ((b.rp 8 Z).d a.fr).rp ((b.rb 9 Z).d a.fr) ((b.rb 10 Z).d a.fr) (a.ro 1 Z).rp (a.rb 0 Z)) Z ?_
 rintro _ w ⟨a6,bl,rfl,l⟩
 have a:=a.f l
 refine P 1 Z ?_
 refine H (M (I ?_))
 obtain ⟨aR,bT,h⟩:=aj h
 obtain ⟨ap,bU,h⟩:=aj h
 obtain ⟨aS,bV,h⟩:=aj h
 obtain ⟨aU,bW,h⟩:=aj h
 obtain ⟨aV,bX,h⟩:=aj h
 refine fq (es:=[W p [J u,t],red U t a3,W o [J ab,s],red U s a2,W n [J L,q],red U q a1,W bf [N aI 0,N aK 0,N aL 0,N aM 0,N aN 0,vI m,.func (.func 168) #[] #[]],W aN [J j,G],red U G a0,W aM [J g,E],red U E aZ,W aL [J f,D],red U D aY,W aK [J e,C],red U C aX,W aI [J d,B],red U B aW]) (os:=[W bl [J aA.1,a6],K U a6 aA.2,W bk [J aQ.1,a5],K U a5 aQ.2,W bj [J an.1,a4],K U a4 an.2,W bO [J bc.1,be],K U be bc.2,W bM [.pointer none,.pointer none,.pointer none],W bL [N n 0,N o 0,N p 0]]) (fun i=>[6,8,12,13,14,15].contains i) (fun i=>if i=6 then some 14 else if i=8 then some 12 else if i=12 then some 13 else if i=13 then some 14 else if i=14 then some 15 else none) (fun i=>[]) (fun i=>[]) (fun i=>[]) (fun i=>if i=12 then [8] else if i=13 then [8] else []) (fun i=>if i=6 then (fun h v x y=>∃aq:Nat,∃ad:Value,v=N aq 0∧x=[W aq [J aR.1,ad],K U ad aR.2]∧y=[]) else if i=8 then (fun h v x y=>∃c:Nat,v=N c 0∧x=[W c [J false,.slice none 0 0]]∧y=[]) else if i=12 then (fun h v x y=>∃z:Value,∃c:Nat,h=[(N c 0,[W c [J false,.slice none 0 0]],[])]∧v=N c 0∧x=[W c [J ap.1,z],K U z ap.2]∧y=[]) else if i=13 then (fun h v x y=>∃ag:Value,∃c:Nat,h=[(N c 0,[W c [J false,.slice none 0 0]],[])]∧v=N c 0∧x=[W c [J aS.1,ag],K U ag aS.2]∧y=[]) else if i=14 then (fun h v x y=>∃ay:Nat,∃ak:Value,v=N ay 0∧x=[W ay [J aU.1,ak],K U ak aU.2]∧y=[]) else (fun h v x y=>∃aE:Nat,∃aF:Value,v=N aE 0∧x=[W aE [J aV.1,aF],K U aF aV.2]∧y=[])) (SfT.mk' hZ b hP a) (fun k hk=>rfl) hTT rfl (fun i=>(dH (by rintro h v x y ⟨_,_,rfl,rfl,rfl⟩; exact cM rfl) (dH (by rintro h v x y ⟨_,rfl,rfl,rfl⟩; exact cM rfl) (dH (by rintro h v x y ⟨_,_,_,rfl,rfl,rfl⟩; exact cM rfl) (dH (by rintro h v x y ⟨_,_,_,rfl,rfl,rfl⟩; exact cM rfl) (dH (by rintro h v x y ⟨_,_,rfl,rfl,rfl⟩; exact cM rfl) (by rintro h v x y ⟨_,_,rfl,rfl,rfl⟩; exact cM rfl))))))) bS (by kernel_rfl) (by kernel_rfl) ?_
 show fv _ _ _ _ _ _ _ _ _ _ _ _ _ _ _ _ [0,1,2,3,4,5,6,7,8,9,10,11,12,13,14,15,16] _ _
 refine bu Z Z (fun w Sb wb hZ b hP hF=>ar Z) Z (bu Z Z (fun w Sb wb hZ b hP hF=>ar Z) Z (bu Z Z (fun w Sb wb hZ b hP hF=>ar Z) Z (bu Z Z (fun w Sb wb hZ b hP hF=>av (k:=0) u91 Z Z cx Z) Z (bu Z Z (fun w Sb wb hZ b hP hF=>aC u73 Z Z (hF.r 9 Z 0)) Z (bu Z Z (fun w Sb wb hZ b hP hF=>ar Z) Z ?_)))))
 refine dE (fun h v x y=>∃aq:Nat,∃ad:Value,v=N aq 0∧x=[W aq [J aR.1,ad],K U ad aR.2]∧y=[]) [] [] [] _ Z Z (fun h v x y=>Z) Z Z Z Z ⟨_,_,_,0,undef,Z,Z,Z⟩ (by kernel_rfl) Z (fun w Sl Tl hZ hTT b hP a=>?_) Z ?_
 ·refine dh (cj d e f g j m L bc.1 bT ((b.rp 0 Z).d a.fr).rp ((b.rb 1 Z).d a.fr) ((b.rp 2 Z).d a.fr).rp ((b.rb 3 Z).d a.fr) ((b.rp 4 Z).d a.fr).rp ((b.rb 5 Z).d a.fr) ((b.rp 6 Z).d a.fr).rp ((b.rb 7 Z).d a.fr) ((b.rp 8 Z).d a.fr).rp ((b.rb 9 Z).d a.fr) ((b.rb 10 Z).d a.fr) ((b.rp 11 Z).d a.fr).rp ((b.rb 12 Z).d a.fr) (a.ro 7 Z).rp (a.rb 6 Z)) ?_
  rintro _ w ⟨ad,aq,rfl,l⟩
  have a:=a.f l
  exact ⟨_,_,⟨aq,ad,Z,Z,Z⟩,SfT.mk' hZ Q.nil O.nil a⟩
 rintro v_q x_q y_q ⟨aq,ad,rfl,rfl,rfl⟩
 refine bu Z Z (fun w Sb wb hZ b hP hF=>ar Z) Z ?_
 refine gO (fun h v x y=>∃c:Nat,v=N c 0∧x=[W c [J false,.slice none 0 0]]∧y=[]) [] [] [] _ Z Z (fun h v x y=>Z) Z Z Z Z ⟨_,_,_,0,Z,Z,Z⟩ (fun w Sl Tl hZ hTT b hP a=>?_) Z ?_
 ·refine ms (aT (cs:=[J false,.slice none 0 0]) c6 Z a) ?_
  rintro _ w ⟨c,rfl,a⟩
  exact ⟨_,_,⟨c,Z,Z,Z⟩,SfT.mk' hZ Q.nil O.nil a⟩
 rintro v_q x_q y_q ⟨c,rfl,rfl,rfl⟩
 refine bu Z Z (fun w Sb wb hZ b hP hF=>av (k:=0) u91 Z Z cx Z) Z (bu Z Z (fun w Sb wb hZ b hP hF=>aC u73 Z Z (hF.r 9 Z 0)) Z (bu Z Z (fun w Sb wb hZ b hP hF=>ar Z) Z ?_))
 refine dE (fun h v x y=>∃z:Value,∃c:Nat,h=[(N c 0,[W c [J false,.slice none 0 0]],[])]∧v=N c 0∧x=[W c [J ap.1,z],K U z ap.2]∧y=[]) [(N c 0,[W c [J false,.slice none 0 0]],[])] [W c [J false,.slice none 0 0]] [] _ Z Z (fun h v x y=>Z) Z Z Z Z ⟨_,_,_,undef,c,Z,Z,Z,Z⟩ (by kernel_rfl) Z (fun w Sl Tl hZ hTT b hP a=>?_) Z ?_
 ·replace a:=a.nil U
  have hG:=a.pick (os':=[W c [J false,.slice none 0 0],K U (.slice none 0 0) []]++[W bl [J aA.1,a6],K U a6 aA.2,W bk [J aQ.1,a5],K U a5 aQ.2,W bj [J an.1,a4],K U a4 an.2,W bO [J bc.1,be],K U be bc.2,W bM [.pointer none,.pointer none,.pointer none],W bL [N n 0,N o 0,N p 0]]) [1,0,2,3,4,5,6,7,8,9,10,11] (by decide) Z
  refine dh (nA false L bc.1 bU hG.g ((b.rp 11 Z).g (R Z) hG) ((b.rb 12 Z).g hG) (hG.giveO 7 Z) (hG.giveB 6 Z)) ?_
  rintro _ w ⟨z,rfl,l⟩
  have a:=hG.h l
  exact ⟨_,_,⟨z,c,Z,Z,Z,Z⟩,SfT.mk' hZ Q.nil O.nil a⟩
 rintro v_q x_q y_q ⟨z,b_31',hh,rfl,rfl,rfl⟩
 replace hh:([(N c 0,[W c [J false,.slice none 0 0]],[])]:List Th)=[(N b_31' 0,[W b_31' [J false,.slice none 0 0]],[])]:=hh
 cases hh
 refine dE (fun h v x y=>∃ag:Value,∃c:Nat,h=[(N c 0,[W c [J false,.slice none 0 0]],[])]∧v=N c 0∧x=[W c [J aS.1,ag],K U ag aS.2]∧y=[]) [(N c 0,[W c [J false,.slice none 0 0]],[])] [W c [J ap.1,z],K U z ap.2] [] _ Z Z (fun h v x y=>Z) Z Z Z Z ⟨_,_,_,undef,c,Z,Z,Z,Z⟩ (by kernel_rfl) Z (fun w Sl Tl hZ hTT b hP a=>?_) Z ?_
 ·have hG:=a.pick (os':=[W c [J ap.1,z],K U z ap.2]++[W bl [J aA.1,a6],K U a6 aA.2,W bk [J aQ.1,a5],K U a5 aQ.2,W bj [J an.1,a4],K U a4 an.2,W bO [J bc.1,be],K U be bc.2,W bM [.pointer none,.pointer none,.pointer none],W bL [N n 0,N o 0,N p 0]]) [0,1,2,3,4,5,6,7,8,9,10,11] (by decide) Z
  refine dh (eN d e f g j m ap.1 bV hG.g ((b.rp 0 Z).g (R Z) hG) ((b.rb 1 Z).g hG) ((b.rp 2 Z).g (R Z) hG) ((b.rb 3 Z).g hG) ((b.rp 4 Z).g (R Z) hG) ((b.rb 5 Z).g hG) ((b.rp 6 Z).g (R Z) hG) ((b.rb 7 Z).g hG) ((b.rp 8 Z).g (R Z) hG) ((b.rb 9 Z).g hG) ((b.rb 10 Z).g hG)) ?_
  rintro _ w ⟨ag,rfl,l⟩
  have a:=hG.h l
  exact ⟨_,_,⟨ag,c,Z,Z,Z,Z⟩,SfT.mk' hZ Q.nil O.nil a⟩
 rintro v_q x_q y_q ⟨ag,b_31',hh,rfl,rfl,rfl⟩
 replace hh:([(N c 0,[W c [J false,.slice none 0 0]],[])]:List Th)=[(N b_31' 0,[W b_31' [J false,.slice none 0 0]],[])]:=hh
 cases hh
 refine dE (fun h v x y=>∃ay:Nat,∃ak:Value,v=N ay 0∧x=[W ay [J aU.1,ak],K U ak aU.2]∧y=[]) [] [W aq [J aR.1,ad],K U ad aR.2,W c [J aS.1,ag],K U ag aS.2] [] _ Z Z (fun h v x y=>Z) Z Z Z Z ⟨_,_,_,0,undef,Z,Z,Z⟩ (by kernel_rfl) Z (fun w Sl Tl hZ hTT b hP a=>?_) Z ?_
 ·refine dh (a8 d e f g j m aR.1 aS.1 bW ((b.rp 0 Z).d a.fr).rp ((b.rb 1 Z).d a.fr) ((b.rp 2 Z).d a.fr).rp ((b.rb 3 Z).d a.fr) ((b.rp 4 Z).d a.fr).rp ((b.rb 5 Z).d a.fr) ((b.rp 6 Z).d a.fr).rp ((b.rb 7 Z).d a.fr) ((b.rp 8 Z).d a.fr).rp ((b.rb 9 Z).d a.fr) ((b.rb 10 Z).d a.fr) (a.ro 1 Z).rp (a.rb 0 Z) (a.ro 3 Z).rp (a.rb 2 Z)) ?_
  rintro _ w ⟨ak,ay,rfl,l⟩
  have a:=a.f l
  exact ⟨_,_,⟨ay,ak,Z,Z,Z⟩,SfT.mk' hZ Q.nil O.nil (a.e [0,1,6,7,8,9,10,11,12,13,14,15] Z Z)⟩
 rintro v_q x_q y_q ⟨ay,ak,rfl,rfl,rfl⟩
 refine dE (fun h v x y=>∃aE:Nat,∃aF:Value,v=N aE 0∧x=[W aE [J aV.1,aF],K U aF aV.2]∧y=[]) [] [W ay [J aU.1,ak],K U ak aU.2] [] _ Z Z (fun h v x y=>Z) Z Z Z Z ⟨_,_,_,0,undef,Z,Z,Z⟩ (by kernel_rfl) Z (fun w Sl Tl hZ hTT b hP a=>?_) Z ?_
 ·refine dh (cU d e f g j m 3 aU.1 bX ((b.rp 0 Z).d a.fr).rp ((b.rb 1 Z).d a.fr) ((b.rp 2 Z).d a.fr).rp ((b.rb 3 Z).d a.fr) ((b.rp 4 Z).d a.fr).rp ((b.rb 5 Z).d a.fr) ((b.rp 6 Z).d a.fr).rp ((b.rb 7 Z).d a.fr) ((b.rp 8 Z).d a.fr).rp ((b.rb 9 Z).d a.fr) ((b.rb 10 Z).d a.fr) (a.ro 1 Z).rp (a.rb 0 Z)) ?_
  rintro _ w ⟨aF,aE,rfl,l⟩
  have a:=a.f l
  exact ⟨_,_,⟨aE,aF,Z,Z,Z⟩,SfT.mk' hZ Q.nil O.nil (a.e [0,1,4,5,6,7,8,9,10,11,12,13] Z Z)⟩
 rintro v_q x_q y_q ⟨aE,aF,rfl,rfl,rfl⟩
 refine bu Z Z (fun w Sb wb hZ b hP hF=>aB Z) Z (gN fun w hQ=>?_)
 obtain ⟨co,cm,hZ,b,hP,a⟩:=hQ
 refine M (I (af (P 4 Z ?_)))
 obtain ⟨ca,bY,h⟩:=aj h
 refine ao Z (a8 d e f g j m aV.1 aV.1 bY ((b.rp 0 Z).d a.fr).rp ((b.rb 1 Z).d a.fr) ((b.rp 2 Z).d a.fr).rp ((b.rb 3 Z).d a.fr) ((b.rp 4 Z).d a.fr).rp ((b.rb 5 Z).d a.fr) ((b.rp 6 Z).d a.fr).rp ((b.rb 7 Z).d a.fr) ((b.rp 8 Z).d a.fr).rp ((b.rb 9 Z).d a.fr) ((b.rb 10 Z).d a.fr) (a.ro 1 Z).rp (a.rb 0 Z) (a.ro 1 Z).rp (a.rb 0 Z)) Z ?_
 rintro _ w ⟨cp,cq,rfl,l⟩
 have a:=a.f l
 refine P 2 Z ?_
 obtain ⟨cb,bZ,h⟩:=aj h
 refine ao Z (cU d e f g j m 2 aA.1 bZ ((b.rp 0 Z).d a.fr).rp ((b.rb 1 Z).d a.fr) ((b.rp 2 Z).d a.fr).rp ((b.rb 3 Z).d a.fr) ((b.rp 4 Z).d a.fr).rp ((b.rb 5 Z).d a.fr) ((b.rp 6 Z).d a.fr).rp ((b.rb 7 Z).d a.fr) ((b.rp 8 Z).d a.fr).rp ((b.rb 9 Z).d a.fr) ((b.rb 10 Z).d a.fr) (a.ro 5 Z).rp (a.rb 4 Z)) Z ?_
 rintro _ w ⟨cr,ct,rfl,l⟩
 have a:=a.f l
 obtain ⟨cc,b0,h⟩:=aj h
 refine ao Z (cj d e f g j m ca.1 cb.1 b0 ((b.rp 0 Z).d a.fr).rp ((b.rb 1 Z).d a.fr) ((b.rp 2 Z).d a.fr).rp ((b.rb 3 Z).d a.fr) ((b.rp 4 Z).d a.fr).rp ((b.rb 5 Z).d a.fr) ((b.rp 6 Z).d a.fr).rp ((b.rb 7 Z).d a.fr) ((b.rp 8 Z).d a.fr).rp ((b.rb 9 Z).d a.fr) ((b.rb 10 Z).d a.fr) (a.ro 3 Z).rp (a.rb 2 Z) (a.ro 1 Z).rp (a.rb 0 Z)) Z ?_
 rintro _ w ⟨cd,a9,rfl,l⟩
 have a:=a.f l
 refine P 1 Z ?_
 refine H (M (I (af (P 6 Z ?_))))
 obtain ⟨ce,b1,h⟩:=aj h
 refine ao Z (cj d e f g j m aA.1 cc.1 b1 ((b.rp 0 Z).d a.fr).rp ((b.rb 1 Z).d a.fr) ((b.rp 2 Z).d a.fr).rp ((b.rb 3 Z).d a.fr) ((b.rp 4 Z).d a.fr).rp ((b.rb 5 Z).d a.fr) ((b.rp 6 Z).d a.fr).rp ((b.rb 7 Z).d a.fr) ((b.rp 8 Z).d a.fr).rp ((b.rb 9 Z).d a.fr) ((b.rb 10 Z).d a.fr) (a.ro 9 Z).rp (a.rb 8 Z) (a.ro 1 Z).rp (a.rb 0 Z)) Z ?_
 rintro _ w ⟨cu,cv,rfl,l⟩
 have a:=a.f l
 obtain ⟨cf,b2,h⟩:=aj h
 refine ao Z (a8 d e f g j m aV.1 ce.1 b2 ((b.rp 0 Z).d a.fr).rp ((b.rb 1 Z).d a.fr) ((b.rp 2 Z).d a.fr).rp ((b.rb 3 Z).d a.fr) ((b.rp 4 Z).d a.fr).rp ((b.rb 5 Z).d a.fr) ((b.rp 6 Z).d a.fr).rp ((b.rb 7 Z).d a.fr) ((b.rp 8 Z).d a.fr).rp ((b.rb 9 Z).d a.fr) ((b.rb 10 Z).d a.fr) (a.ro 9 Z).rp (a.rb 8 Z) (a.ro 1 Z).rp (a.rb 0 Z)) Z ?_
 rintro _ w ⟨cw,cy,rfl,l⟩
 have a:=a.f l
 refine P 4 Z ?_
 obtain ⟨cg,b3,h⟩:=aj h
 refine ao Z (a8 d e f g j m an.1 an.1 b3 ((b.rp 0 Z).d a.fr).rp ((b.rb 1 Z).d a.fr) ((b.rp 2 Z).d a.fr).rp ((b.rb 3 Z).d a.fr) ((b.rp 4 Z).d a.fr).rp ((b.rb 5 Z).d a.fr) ((b.rp 6 Z).d a.fr).rp ((b.rb 7 Z).d a.fr) ((b.rp 8 Z).d a.fr).rp ((b.rb 9 Z).d a.fr) ((b.rb 10 Z).d a.fr) (a.ro 17 Z).rp (a.rb 16 Z) (a.ro 17 Z).rp (a.rb 16 Z)) Z ?_
 rintro _ w ⟨cz,cA,rfl,l⟩
 have a:=a.f l
 obtain ⟨ch,b4,h⟩:=aj h
 refine ao Z (cU d e f g j m 8 cg.1 b4 ((b.rp 0 Z).d a.fr).rp ((b.rb 1 Z).d a.fr) ((b.rp 2 Z).d a.fr).rp ((b.rb 3 Z).d a.fr) ((b.rp 4 Z).d a.fr).rp ((b.rb 5 Z).d a.fr) ((b.rp 6 Z).d a.fr).rp ((b.rb 7 Z).d a.fr) ((b.rp 8 Z).d a.fr).rp ((b.rb 9 Z).d a.fr) ((b.rb 10 Z).d a.fr) (a.ro 1 Z).rp (a.rb 0 Z)) Z ?_
 rintro _ w ⟨cB,cD,rfl,l⟩
 have a:=a.f l
 obtain ⟨cE,b5,h⟩:=aj h
 refine ao Z (cj d e f g j m cf.1 ch.1 b5 ((b.rp 0 Z).d a.fr).rp ((b.rb 1 Z).d a.fr) ((b.rp 2 Z).d a.fr).rp ((b.rb 3 Z).d a.fr) ((b.rp 4 Z).d a.fr).rp ((b.rb 5 Z).d a.fr) ((b.rp 6 Z).d a.fr).rp ((b.rb 7 Z).d a.fr) ((b.rp 8 Z).d a.fr).rp ((b.rb 9 Z).d a.fr) ((b.rb 10 Z).d a.fr) (a.ro 5 Z).rp (a.rb 4 Z) (a.ro 1 Z).rp (a.rb 0 Z)) Z ?_
 rintro _ w ⟨ci,ba,rfl,l⟩
 have a:=a.f l
 refine P 1 Z ?_
 refine H (M (I (af (P 4 Z ?_))))
 refine am (av (k:=1) u91 Z Z cx Z) Z (am (aC u73 Z Z (a.r 27 Z 1)) Z (am (av (k:=2) u91 Z Z cx Z) Z (am (aC u73 Z Z (a.r 27 Z 2)) Z ?_)))
 obtain ⟨ck,b6,h⟩:=aj h
 refine ao Z (a8 d e f g j m ab u b6 ((b.rp 0 Z).d a.fr).rp ((b.rb 1 Z).d a.fr) ((b.rp 2 Z).d a.fr).rp ((b.rb 3 Z).d a.fr) ((b.rp 4 Z).d a.fr).rp ((b.rb 5 Z).d a.fr) ((b.rp 6 Z).d a.fr).rp ((b.rb 7 Z).d a.fr) ((b.rp 8 Z).d a.fr).rp ((b.rb 9 Z).d a.fr) ((b.rb 10 Z).d a.fr) ((b.rp 13 Z).d a.fr).rp ((b.rb 14 Z).d a.fr) ((b.rp 15 Z).d a.fr).rp ((b.rb 16 Z).d a.fr)) Z ?_
 rintro _ w ⟨cF,cG,rfl,l⟩
 have a:=a.f l
 obtain ⟨cH,b7,h⟩:=aj h
 refine ao Z (cU d e f g j m 2 ck.1 b7 ((b.rp 0 Z).d a.fr).rp ((b.rb 1 Z).d a.fr) ((b.rp 2 Z).d a.fr).rp ((b.rb 3 Z).d a.fr) ((b.rp 4 Z).d a.fr).rp ((b.rb 5 Z).d a.fr) ((b.rp 6 Z).d a.fr).rp ((b.rb 7 Z).d a.fr) ((b.rp 8 Z).d a.fr).rp ((b.rb 9 Z).d a.fr) ((b.rb 10 Z).d a.fr) (a.ro 1 Z).rp (a.rb 0 Z)) Z ?_
 rintro _ w ⟨cl,aO,rfl,l⟩
 have a:=a.f l
 refine am (bN (vs:=[(0,N a9 0,[N a9 0]),(1,N ba 0,[N ba 0]),(2,N aO 0,[N aO 0])]) (cells:=[N a9 0,N ba 0,N aO 0]) Z mp ⟨Z,Z,Z,V⟩ Z) Z ?_
 refine bb (a7 (i:=30) (us:=[N a9 0,N ba 0,N aO 0]) Z bB Z Z Z ⟨Z,Z,Z,V⟩ Z a) ?_
 intro w a
 refine H (M (aw ?_))
 cases h
 obtain ⟨hS0,hR⟩:=hZ.outT hTT b hP a
 exact eJ Z ⟨_,Z,bC (us:=[N a9 0,N ba 0,N aO 0]) u91 Z bB (a.q 30 Z Z)⟩ ⟨a9,cd,ba,ci,aO,cl,Z,hS0,(Y (hR.b 48 Z) (Y (hR.b 47 Z) (Y (hR.b 44 Z) (Y (hR.b 43 Z) (Y (hR.b 34 Z) (Y (hR.b 33 Z) Q.nil))))))⟩
theorem fS {t:World} {aY a0 a1 a2 a3 a4 a5 a6 a9 ba bc:List UInt32} {ac ad ag ak an z A B C D E:Value} {bH aS aU aV aW aX m n o p q s:Nat} {T:List Nat} (d e f g j:Bool) (l:Int) (G L u aE aF x:Bool) {r:Bool×List UInt32×Bool×List UInt32×Bool×List UInt32}
  (h:F.Cc d aY e a0 f a1 g a2 j a3 l G a4 L a5 u a6 aE a9 aF ba x bc=some r) (hTT:TOk [] T t) (bL:RP T t U ac aY) (bY:RB T t aS [J d,ac]) (bM:RP T t U ad a0) (bZ:RB T t aU [J e,ad]) (bO:RP T t U ag a1) (b0:RB T t aV [J f,ag]) (bP:RP T t U ak a2) (b1:RB T t aW [J g,ak]) (bQ:RP T t U an a3) (b2:RB T t aX [J j,an]) (hBa0:RB T t bH [N aS 0,N aU 0,N aV 0,N aW 0,N aX 0,vI l,.func (.func 168) #[] #[]]) (bR:RP T t U z a4) (b3:RB T t m [J G,z]) (bT:RP T t U A a5) (b4:RB T t n [J L,A]) (bU:RP T t U B a6) (b5:RB T t o [J u,B]) (bV:RP T t U C a9) (b6:RB T t p [J aE,C]) (bW:RP T t U D ba) (b7:RB T t q [J aF,D]) (bX:RP T t U E bc) (b8:RB T t s [J x,E]):Calls Tryz.prog 84 #[N bH 0,.agg #[N m 0,N n 0,N o 0],.agg #[N p 0,N q 0,N s 0]] t (Ret fun v w=>∃b9:Nat,∃bp:Value,∃ca:Nat,∃bq:Value,∃cb:Nat,∃br:Value,v=.agg #[N b9 0,N ca 0,N cb 0]∧St [] t w []∧Q T w [W cb [J r.2.2.2.2.1,br],red U br r.2.2.2.2.2,W ca [J r.2.2.1,bq],red U bq r.2.2.2.1,W b9 [J r.1,bp],red U bp r.2.1]):=by
 refine aJ 137 Tryz.func84 Z Z Z ?_
 have a:=St.l t
 have hZ:=Fz.l (S:=[]) (w0:=t)
 have hA0:Q T t [W s [J x,E],red U E bc,W q [J aF,D],red U D ba,W p [J aE,C],red U C a9,W o [J u,B],red U B a6,W n [J L,A],red U A a5,W m [J G,z],red U z a4,W bH [N aS 0,N aU 0,N aV 0,N aW 0,N aX 0,vI l,.func (.func 168) #[] #[]],W aX [J j,an],red U an a3,W aW [J g,ak],red U ak a2,W aV [J f,ag],red U ag a1,W aU [J e,ad],red U ad a0,W aS [J d,ac],red U ac aY]:=Y b8.i (Y (RP.i (R Z) bX) (Y b7.i (Y (RP.i (R Z) bW) (Y b6.i (Y (RP.i (R Z) bV) (Y b5.i (Y (RP.i (R Z) bU) (Y b4.i (Y (RP.i (R Z) bT) (Y b3.i (Y (RP.i (R Z) bR) (Y hBa0.i (Y b2.i (Y (RP.i (R Z) bQ) (Y b1.i (Y (RP.i (R Z) bP) (Y b0.i (Y (RP.i (R Z) bO) (Y bZ.i (Y (RP.i (R Z) bM) (Y bY.i (Y (RP.i (R Z) bL) (Q.nil)))))))))))))))))))))))
 have b:=hA0.all
 have y:=hA0.off Z
 refine au [(0,N bH 0),(1,.agg #[N m 0,N n 0,N o 0]),(2,.agg #[N p 0,N q 0,N s 0])] ⟨Z,Z,Z,V⟩ ?_
 unfold F.Cc at h
 refine I (af (aP (cZ (cs:=[N m 0,N n 0,N o 0]) Z Z a) Z ?_))
 rintro _ w ⟨bI,rfl,a⟩
 refine aP (cZ (cs:=[N p 0,N q 0,N s 0]) Z Z a) Z ?_
 rintro _ w ⟨bJ,rfl,a⟩
 refine aP (aT (cs:=[.pointer none,.pointer none,.pointer none]) dK Z a) Z ?_
 rintro _ w ⟨bK,rfl,a⟩
 refine H (M (I (I (af (am (av (k:=2) u91 Z Z cx Z) Z (am (aC u73 Z Z (a.r 2 Z 2)) Z ?_))))))
 obtain ⟨dL,c3,h⟩:=aj h
 refine ao Z (cC u c3 ((b.rp 15 Z).d a.fr).rp ((b.rb 16 Z).d a.fr)) Z ?_
 rintro _ w ⟨rfl,c⟩
 have a:=a.f c
 refine P 1 Z ?_
 refine H (M ?_)
 refine ax Z (fun bd=>?_) (fun bd=>?_)
 ·have h:=aG h bd
  refine I (af (am (bo (us:=[N p 0,N q 0,N s 0]) u91 Z bB Z (a.q 1 Z Z)) Z (bb (a7 (i:=0) (us:=[N p 0,N q 0,N s 0]) Z bB Z Z Z ⟨Z,Z,Z,V⟩ Z a) ?_)))
  intro w a
  refine H (M (aw (aD ?_)))
  cases h
  obtain ⟨hS0,hR⟩:=hZ.outT hTT b y a
  exact eJ Z ⟨_,Z,bC (us:=[N p 0,N q 0,N s 0]) u91 Z bB (a.q 0 Z Z)⟩ ⟨p,C,q,D,s,E,Z,hS0,(Y (hR.b 22 Z) (Y (hR.b 21 Z) (Y (hR.b 20 Z) (Y (hR.b 19 Z) (Y (hR.b 18 Z) (Y (hR.b 17 Z) Q.nil))))))⟩
 have h:=aH h bd
 refine az (M (I (I (af (am (av (k:=2) u91 Z Z cx Z) Z (am (aC u73 Z Z (a.r 1 Z 2)) Z ?_))))))
 obtain ⟨dM,c4,h⟩:=aj h
 refine ao Z (cC x c4 ((b.rp 21 Z).d a.fr).rp ((b.rb 22 Z).d a.fr)) Z ?_
 rintro _ w ⟨rfl,c⟩
 have a:=a.f c
 refine P 1 Z ?_
 refine H (M ?_)
 refine ax Z (fun be=>?_) (fun be=>?_)
 ·have h:=aG h be
  refine I (af (am (bo (us:=[N m 0,N n 0,N o 0]) u91 Z bB Z (a.q 2 Z Z)) Z (bb (a7 (i:=0) (us:=[N m 0,N n 0,N o 0]) Z bB Z Z Z ⟨Z,Z,Z,V⟩ Z a) ?_)))
  intro w a
  refine H (M (aw (aD ?_)))
  cases h
  obtain ⟨hS0,hR⟩:=hZ.outT hTT b y a
  exact eJ Z ⟨_,Z,bC (us:=[N m 0,N n 0,N o 0]) u91 Z bB (a.q 0 Z Z)⟩ ⟨m,z,n,A,o,B,Z,hS0,(Y (hR.b 16 Z) (Y (hR.b 15 Z) (Y (hR.b 14 Z) (Y (hR.b 13 Z) (Y (hR.b 12 Z) (Y (hR.b 11 Z) Q.nil))))))⟩
 have h:=aH h be
 refine az (M (I ?_))
 refine aZ (fun w'=>St [] t w' [W bK [.pointer none,.pointer none,.pointer none],W bJ [N p 0,N q 0,N s 0],W bI [N m 0,N n 0,N o 0]]) (fun i=>!([5,11].contains i)) bS (fun _ _ _ hf=>hf.2) (fun _ _ hf=>hf) (by kernel_rfl) ?_
 have a:=a.drew
 show lxE _ _ _ _ _ _ _ [0,1,2,3,4,5,6,7,8,9,10,11,12,13] _ _
 refine al a Z Z (fun w hF=>ar Z) Z (al a Z Z (fun w hF=>av (k:=2) u91 Z Z cx Z) Z (al a Z Z (fun w hF=>aC u73 Z Z (hF.r 2 Z 2)) Z (al a Z Z (fun w hF=>av (k:=2) u91 Z Z cx Z) Z (al a Z Z (fun w hF=>aC u73 Z Z (hF.r 2 Z 2)) Z ?_))))
 obtain ⟨aR,c5,h⟩:=aj h
 refine bj a Z Z (by kernel_rfl) Z (a8 d e f g j l u u c5 ((b.rp 0 Z).d a.fr).rp ((b.rb 1 Z).d a.fr) ((b.rp 2 Z).d a.fr).rp ((b.rb 3 Z).d a.fr) ((b.rp 4 Z).d a.fr).rp ((b.rb 5 Z).d a.fr) ((b.rp 6 Z).d a.fr).rp ((b.rb 7 Z).d a.fr) ((b.rp 8 Z).d a.fr).rp ((b.rb 9 Z).d a.fr) ((b.rb 10 Z).d a.fr) ((b.rp 15 Z).d a.fr).rp ((b.rb 16 Z).d a.fr) ((b.rp 15 Z).d a.fr).rp ((b.rb 16 Z).d a.fr)) Z ?_
 rintro _ w ⟨aI,bv,rfl,c⟩
 have a:=a.f c
 refine al (a.e [2,3,4] Z Z) Z Z (fun w hF=>ar Z) Z (al (a.e [2,3,4] Z Z) Z Z (fun w hF=>av (k:=2) u91 Z Z cx Z) Z (al (a.e [2,3,4] Z Z) Z Z (fun w hF=>aC u73 Z Z (hF.r 1 Z 2)) Z (al (a.e [2,3,4] Z Z) Z Z (fun w hF=>av (k:=2) u91 Z Z cx Z) Z (al (a.e [2,3,4] Z Z) Z Z (fun w hF=>aC u73 Z Z (hF.r 1 Z 2)) Z ?_))))
 obtain ⟨ab,cz,h⟩:=aj h
 refine bj (a.e [2,3,4] Z Z) Z Z (by kernel_rfl) Z (a8 d e f g j l x x cz ((b.rp 0 Z).d a.fr).rp ((b.rb 1 Z).d a.fr) ((b.rp 2 Z).d a.fr).rp ((b.rb 3 Z).d a.fr) ((b.rp 4 Z).d a.fr).rp ((b.rb 5 Z).d a.fr) ((b.rp 6 Z).d a.fr).rp ((b.rb 7 Z).d a.fr) ((b.rp 8 Z).d a.fr).rp ((b.rb 9 Z).d a.fr) ((b.rb 10 Z).d a.fr) ((b.rp 21 Z).d a.fr).rp ((b.rb 22 Z).d a.fr) ((b.rp 21 Z).d a.fr).rp ((b.rb 22 Z).d a.fr)) Z ?_
 rintro _ w ⟨aK,bw,rfl,c⟩
 have a:=a.f c
 refine al (a.e [4,5,6] Z Z) Z Z (fun w hF=>aB Z) Z (al (a.e [4,5,6] Z Z) Z Z (fun w hF=>aB Z) Z (bn (a.e [4,5,6] Z Z) ?_))
 refine M (I ?_)
 refine aZ (fun w'=>St [] t w' [W bw [J ab.1,aK],K U aK ab.2,W bv [J aR.1,aI],K U aI aR.2,W bK [.pointer none,.pointer none,.pointer none],W bJ [N p 0,N q 0,N s 0],W bI [N m 0,N n 0,N o 0]]) (fun i=>!([4,9].contains i)) bS (fun _ _ _ hf=>hf.2) (fun _ _ hf=>hf) (by kernel_rfl) ?_
 have a:=a.drew
 show lxE _ _ _ _ _ _ _ [0,1,2,3,4,5,6,7,8,9,10,11] _ _
 refine al a Z Z (fun w hF=>ar Z) Z (al a Z Z (fun w hF=>av (k:=0) u91 Z Z cx Z) Z (al a Z Z (fun w hF=>aC u73 Z Z (hF.r 6 Z 0)) Z (al a Z Z (fun w hF=>ar Z) Z ?_)))
 obtain ⟨aL,cA,h⟩:=aj h
 refine bj a Z Z (by kernel_rfl) Z (a8 d e f g j l G ab.1 cA ((b.rp 0 Z).d a.fr).rp ((b.rb 1 Z).d a.fr) ((b.rp 2 Z).d a.fr).rp ((b.rb 3 Z).d a.fr) ((b.rp 4 Z).d a.fr).rp ((b.rb 5 Z).d a.fr) ((b.rp 6 Z).d a.fr).rp ((b.rb 7 Z).d a.fr) ((b.rp 8 Z).d a.fr).rp ((b.rb 9 Z).d a.fr) ((b.rb 10 Z).d a.fr) ((b.rp 11 Z).d a.fr).rp ((b.rb 12 Z).d a.fr) (a.ro 1 Z).rp (a.rb 0 Z)) Z ?_
 rintro _ w ⟨bi,cc,rfl,c⟩
 have a:=a.f c
 refine al (a.e [2,3,4,5,6,7,8] Z Z) Z Z (fun w hF=>ar Z) Z (al (a.e [2,3,4,5,6,7,8] Z Z) Z Z (fun w hF=>av (k:=0) u91 Z Z cx Z) Z (al (a.e [2,3,4,5,6,7,8] Z Z) Z Z (fun w hF=>aC u73 Z Z (hF.r 5 Z 0)) Z (al (a.e [2,3,4,5,6,7,8] Z Z) Z Z (fun w hF=>ar Z) Z ?_)))
 obtain ⟨bg,cB,h⟩:=aj h
 refine bj (a.e [2,3,4,5,6,7,8] Z Z) Z Z (by kernel_rfl) Z (a8 d e f g j l aE aR.1 cB ((b.rp 0 Z).d a.fr).rp ((b.rb 1 Z).d a.fr) ((b.rp 2 Z).d a.fr).rp ((b.rb 3 Z).d a.fr) ((b.rp 4 Z).d a.fr).rp ((b.rb 5 Z).d a.fr) ((b.rp 6 Z).d a.fr).rp ((b.rb 7 Z).d a.fr) ((b.rp 8 Z).d a.fr).rp ((b.rb 9 Z).d a.fr) ((b.rb 10 Z).d a.fr) ((b.rp 17 Z).d a.fr).rp ((b.rb 18 Z).d a.fr) (a.ro 5 Z).rp (a.rb 4 Z)) Z ?_
 rintro _ w ⟨bk,cd,rfl,c⟩
 have a:=a.f c
 refine al (a.e [4,5,6,7,8,9,10] Z Z) Z Z (fun w hF=>aB Z) Z (al (a.e [4,5,6,7,8,9,10] Z Z) Z Z (fun w hF=>aB Z) Z (bn (a.e [4,5,6,7,8,9,10] Z Z) ?_))
 refine M (I ?_)
 refine aZ (fun w'=>St [] t w' [W cd [J bg.1,bk],K U bk bg.2,W cc [J aL.1,bi],K U bi aL.2,W bw [J ab.1,aK],K U aK ab.2,W bv [J aR.1,aI],K U aI aR.2,W bK [.pointer none,.pointer none,.pointer none],W bJ [N p 0,N q 0,N s 0],W bI [N m 0,N n 0,N o 0]]) (fun i=>!([7,8,16,17].contains i)) bS (fun _ _ _ hf=>hf.2) (fun _ _ hf=>hf) (by kernel_rfl) ?_
 have a:=a.drew
 show lxE _ _ _ _ _ _ _ [0,1,2,3,4,5,6,7,8,9,10,11,12,13,14,15,16,17,18,19] _ _
 refine al a Z Z (fun w hF=>ar Z) Z (al a Z Z (fun w hF=>av (k:=1) u91 Z Z cx Z) Z (al a Z Z (fun w hF=>aC u73 Z Z (hF.r 10 Z 1)) Z (al a Z Z (fun w hF=>ar Z) Z (al a Z Z (fun w hF=>av (k:=2) u91 Z Z cx Z) Z (al a Z Z (fun w hF=>aC u73 Z Z (hF.r 9 Z 2)) Z (al a Z Z (fun w hF=>ar Z) Z ?_))))))
 obtain ⟨bz,cD,h⟩:=aj h
 refine bj a Z Z (by kernel_rfl) Z (a8 d e f g j l x ab.1 cD ((b.rp 0 Z).d a.fr).rp ((b.rb 1 Z).d a.fr) ((b.rp 2 Z).d a.fr).rp ((b.rb 3 Z).d a.fr) ((b.rp 4 Z).d a.fr).rp ((b.rb 5 Z).d a.fr) ((b.rp 6 Z).d a.fr).rp ((b.rb 7 Z).d a.fr) ((b.rp 8 Z).d a.fr).rp ((b.rb 9 Z).d a.fr) ((b.rb 10 Z).d a.fr) ((b.rp 21 Z).d a.fr).rp ((b.rb 22 Z).d a.fr) (a.ro 5 Z).rp (a.rb 4 Z)) Z ?_
 rintro _ w ⟨ce,c6,rfl,c⟩
 have a:=a.f c
 obtain ⟨bl,cE,h⟩:=aj h
 refine bj (a.e [2,3,4,5,6,7,8,9,10,11,12] Z Z) Z Z (by kernel_rfl) Z (a8 d e f g j l L bz.1 cE ((b.rp 0 Z).d a.fr).rp ((b.rb 1 Z).d a.fr) ((b.rp 2 Z).d a.fr).rp ((b.rb 3 Z).d a.fr) ((b.rp 4 Z).d a.fr).rp ((b.rb 5 Z).d a.fr) ((b.rp 6 Z).d a.fr).rp ((b.rb 7 Z).d a.fr) ((b.rp 8 Z).d a.fr).rp ((b.rb 9 Z).d a.fr) ((b.rb 10 Z).d a.fr) ((b.rp 13 Z).d a.fr).rp ((b.rb 14 Z).d a.fr) (a.ro 1 Z).rp (a.rb 0 Z)) Z ?_
 rintro _ w ⟨cf,c7,rfl,c⟩
 have a:=a.f c
 refine al (a.e [4,5,6,7,8,9,10,11,12,13,14] Z Z) Z Z (fun w hF=>ar Z) Z (al (a.e [4,5,6,7,8,9,10,11,12,13,14] Z Z) Z Z (fun w hF=>av (k:=1) u91 Z Z cx Z) Z (al (a.e [4,5,6,7,8,9,10,11,12,13,14] Z Z) Z Z (fun w hF=>aC u73 Z Z (hF.r 9 Z 1)) Z (al (a.e [4,5,6,7,8,9,10,11,12,13,14] Z Z) Z Z (fun w hF=>ar Z) Z (al (a.e [4,5,6,7,8,9,10,11,12,13,14] Z Z) Z Z (fun w hF=>av (k:=2) u91 Z Z cx Z) Z (al (a.e [4,5,6,7,8,9,10,11,12,13,14] Z Z) Z Z (fun w hF=>aC u73 Z Z (hF.r 10 Z 2)) Z (al (a.e [4,5,6,7,8,9,10,11,12,13,14] Z Z) Z Z (fun w hF=>ar Z) Z ?_))))))
 obtain ⟨bA,cF,h⟩:=aj h
 refine bj (a.e [4,5,6,7,8,9,10,11,12,13,14] Z Z) Z Z (by kernel_rfl) Z (a8 d e f g j l u aR.1 cF ((b.rp 0 Z).d a.fr).rp ((b.rb 1 Z).d a.fr) ((b.rp 2 Z).d a.fr).rp ((b.rb 3 Z).d a.fr) ((b.rp 4 Z).d a.fr).rp ((b.rb 5 Z).d a.fr) ((b.rp 6 Z).d a.fr).rp ((b.rb 7 Z).d a.fr) ((b.rp 8 Z).d a.fr).rp ((b.rb 9 Z).d a.fr) ((b.rb 10 Z).d a.fr) ((b.rp 15 Z).d a.fr).rp ((b.rb 16 Z).d a.fr) (a.ro 11 Z).rp (a.rb 10 Z)) Z ?_
 rintro _ w ⟨cg,c8,rfl,c⟩
 have a:=a.f c
 obtain ⟨bD,cG,h⟩:=aj h
 refine bj (a.e [6,7,8,9,10,11,12,13,14,15,16] Z Z) Z Z (by kernel_rfl) Z (a8 d e f g j l aF bA.1 cG ((b.rp 0 Z).d a.fr).rp ((b.rb 1 Z).d a.fr) ((b.rp 2 Z).d a.fr).rp ((b.rb 3 Z).d a.fr) ((b.rp 4 Z).d a.fr).rp ((b.rb 5 Z).d a.fr) ((b.rp 6 Z).d a.fr).rp ((b.rb 7 Z).d a.fr) ((b.rp 8 Z).d a.fr).rp ((b.rb 9 Z).d a.fr) ((b.rb 10 Z).d a.fr) ((b.rp 19 Z).d a.fr).rp ((b.rb 20 Z).d a.fr) (a.ro 1 Z).rp (a.rb 0 Z)) Z ?_
 rintro _ w ⟨ch,c9,rfl,c⟩
 have a:=a.f c
 refine al (a.e [8,9,10,11,12,13,14,15,16,17,18] Z Z) Z Z (fun w hF=>aB Z) Z (al (a.e [8,9,10,11,12,13,14,15,16,17,18] Z Z) Z Z (fun w hF=>aB Z) Z (bn (a.e [8,9,10,11,12,13,14,15,16,17,18] Z Z) ?_))
 refine M (I (af (P 3 Z ?_)))
 obtain ⟨aA,cH,h⟩:=aj h
 refine ao Z (cj d e f g j l bg.1 aL.1 cH ((b.rp 0 Z).d a.fr).rp ((b.rb 1 Z).d a.fr) ((b.rp 2 Z).d a.fr).rp ((b.rb 3 Z).d a.fr) ((b.rp 4 Z).d a.fr).rp ((b.rb 5 Z).d a.fr) ((b.rp 6 Z).d a.fr).rp ((b.rb 7 Z).d a.fr) ((b.rp 8 Z).d a.fr).rp ((b.rb 9 Z).d a.fr) ((b.rb 10 Z).d a.fr) (a.ro 9 Z).rp (a.rb 8 Z) (a.ro 11 Z).rp (a.rb 10 Z)) Z ?_
 rintro _ w ⟨ci,da,rfl,c⟩
 have a:=a.f c
 refine P 3 Z ?_
 obtain ⟨aM,cI,h⟩:=aj h
 refine ao Z (cj d e f g j l bD.1 bl.1 cI ((b.rp 0 Z).d a.fr).rp ((b.rb 1 Z).d a.fr) ((b.rp 2 Z).d a.fr).rp ((b.rb 3 Z).d a.fr) ((b.rp 4 Z).d a.fr).rp ((b.rb 5 Z).d a.fr) ((b.rp 6 Z).d a.fr).rp ((b.rb 7 Z).d a.fr) ((b.rp 8 Z).d a.fr).rp ((b.rb 9 Z).d a.fr) ((b.rb 10 Z).d a.fr) (a.ro 3 Z).rp (a.rb 2 Z) (a.ro 7 Z).rp (a.rb 6 Z)) Z ?_
 rintro _ w ⟨ck,db,rfl,c⟩
 have a:=a.f c
 refine P 2 Z ?_
 refine H (M (I (I (af (P 1 Z ?_)))))
 obtain ⟨dx,cJ,h⟩:=aj h
 refine ao Z (cC aA.1 cJ (a.ro 3 Z).rp (a.rb 2 Z)) Z ?_
 rintro _ w ⟨rfl,c⟩
 have a:=a.f c
 refine P 1 Z ?_
 refine H (M ?_)
 refine ax Z (fun bh=>?_) (fun bh=>?_)
 ·have h:=aG h bh
  refine I (I (af (P 1 Z ?_)))
  obtain ⟨dy,cK,h⟩:=aj h
  refine ao Z (cC aM.1 cK (a.ro 1 Z).rp (a.rb 0 Z)) Z ?_
  rintro _ w ⟨rfl,c⟩
  have a:=a.f c
  refine P 1 Z ?_
  refine H (M ?_)
  refine ax Z (fun bm=>?_) (fun bm=>?_)
  ·have h:=aG h bm
   refine I (af (P 1 Z ?_))
   refine am (bo (us:=[N m 0,N n 0,N o 0]) u91 Z bB Z (a.q 22 Z Z)) Z ?_
   replace a:=a.pick (os':=[W db [J aM.1,ck],K U ck aM.2,W da [J aA.1,ci],K U ci aA.2,W c9 [J bD.1,ch],K U ch bD.2,W c8 [J bA.1,cg],K U cg bA.2,W c7 [J bl.1,cf],K U cf bl.2,W c6 [J bz.1,ce],K U ce bz.2,W cd [J bg.1,bk],K U bk bg.2,W cc [J aL.1,bi],K U bi aL.2,W bw [J ab.1,aK],K U aK ab.2,W bv [J aR.1,aI],K U aI aR.2]++[W bK [.pointer none,.pointer none,.pointer none],W bJ [N p 0,N q 0,N s 0],W bI [N m 0,N n 0,N o 0]]) [0,1,2,3,4,5,6,7,8,9,10,11,12,13,14,15,16,17,18,19,20,21,22] (by decide) rfl
   obtain ⟨hZ,b,y,a⟩:=hZ.frzK hTT b y a
   obtain ⟨dz,cL,h⟩:=aj h
   refine ao Z (gq d e f g j l G L u cL (hZ.okT hTT a) (b.j y 0 Z) (b.k y 1 Z) (b.j y 2 Z) (b.k y 3 Z) (b.j y 4 Z) (b.k y 5 Z) (b.j y 6 Z) (b.k y 7 Z) (b.j y 8 Z) (b.k y 9 Z) (b.k y 10 Z) (b.j y 11 Z) (b.k y 12 Z) (b.j y 13 Z) (b.k y 14 Z) (b.j y 15 Z) (b.k y 16 Z)) Z ?_
   rintro _ w ⟨aN,bs,aO,bt,aQ,bu,rfl,c,dg⟩
   obtain ⟨dA,dh,hZ,b,y,a⟩:=hZ.m b y a c dg rfl
   refine bb (a7 (i:=0) (us:=[N aN 0,N aO 0,N aQ 0]) Z bB Z Z Z ⟨Z,Z,Z,V⟩ Z a) ?_
   intro w a
   refine H (M (aw (aD (aD ?_))))
   cases h
   obtain ⟨hS0,hR⟩:=hZ.outT hTT b y a
   exact eJ Z ⟨_,Z,bC (us:=[N aN 0,N aO 0,N aQ 0]) u91 Z bB (a.q 0 Z Z)⟩ ⟨aN,bs,aO,bt,aQ,bu,Z,hS0,(Y (hR.b 48 Z) (Y (hR.b 47 Z) (Y (hR.b 46 Z) (Y (hR.b 45 Z) (Y (hR.b 44 Z) (Y (hR.b 43 Z) Q.nil))))))⟩
  have h:=aH h bm
  refine az (M (I (af ?_)))
  obtain ⟨dB,cM,h⟩:=aj h
  refine ao Z (ek  cM ) Z ?_
  rintro _ w ⟨dc,dd,de,bE,bF,bG,rfl,c⟩
  have a:=a.f c
  refine bb (a7 (i:=26) (us:=[N bE 0,N bF 0,N bG 0]) Z bB Z Z Z ⟨Z,Z,Z,V⟩ Z a) ?_
  intro w a
  refine H (M (aw (aD ?_)))
  cases h
  obtain ⟨hS0,hR⟩:=hZ.outT hTT b y a
  exact eJ Z ⟨_,Z,bC (us:=[N bE 0,N bF 0,N bG 0]) u91 Z bB (a.q 26 Z Z)⟩ ⟨bE,dc,bF,dd,bG,de,Z,hS0,(Y (hR.b 47 Z) (Y (hR.b 46 Z) (Y (hR.b 49 Z) (Y (hR.b 48 Z) (Y (hR.b 51 Z) (Y (hR.b 50 Z) Q.nil))))))⟩
 have h:=aH h bh
 refine az (M (I (af (P 3 Z ?_))))
 obtain ⟨cl,cN,h⟩:=aj h
 refine ao Z (a8 d e f g j l aA.1 aA.1 cN ((b.rp 0 Z).d a.fr).rp ((b.rb 1 Z).d a.fr) ((b.rp 2 Z).d a.fr).rp ((b.rb 3 Z).d a.fr) ((b.rp 4 Z).d a.fr).rp ((b.rb 5 Z).d a.fr) ((b.rp 6 Z).d a.fr).rp ((b.rb 7 Z).d a.fr) ((b.rp 8 Z).d a.fr).rp ((b.rb 9 Z).d a.fr) ((b.rb 10 Z).d a.fr) (a.ro 3 Z).rp (a.rb 2 Z) (a.ro 3 Z).rp (a.rb 2 Z)) Z ?_
 rintro _ w ⟨dC,dD,rfl,c⟩
 have a:=a.f c
 refine P 1 Z ?_
 refine H (M (I (af (P 3 Z ?_))))
 obtain ⟨cm,cO,h⟩:=aj h
 refine ao Z (a8 d e f g j l aA.1 cl.1 cO ((b.rp 0 Z).d a.fr).rp ((b.rb 1 Z).d a.fr) ((b.rp 2 Z).d a.fr).rp ((b.rb 3 Z).d a.fr) ((b.rp 4 Z).d a.fr).rp ((b.rb 5 Z).d a.fr) ((b.rp 6 Z).d a.fr).rp ((b.rb 7 Z).d a.fr) ((b.rp 8 Z).d a.fr).rp ((b.rb 9 Z).d a.fr) ((b.rb 10 Z).d a.fr) (a.ro 5 Z).rp (a.rb 4 Z) (a.ro 1 Z).rp (a.rb 0 Z)) Z ?_
 rintro _ w ⟨dE,dF,rfl,c⟩
 have a:=a.f c
 refine P 3 Z ?_
 obtain ⟨cn,cP,h⟩:=aj h
 refine ao Z (a8 d e f g j l aL.1 cl.1 cP ((b.rp 0 Z).d a.fr).rp ((b.rb 1 Z).d a.fr) ((b.rp 2 Z).d a.fr).rp ((b.rb 3 Z).d a.fr) ((b.rp 4 Z).d a.fr).rp ((b.rb 5 Z).d a.fr) ((b.rp 6 Z).d a.fr).rp ((b.rb 7 Z).d a.fr) ((b.rp 8 Z).d a.fr).rp ((b.rb 9 Z).d a.fr) ((b.rb 10 Z).d a.fr) (a.ro 19 Z).rp (a.rb 18 Z) (a.ro 3 Z).rp (a.rb 2 Z)) Z ?_
 rintro _ w ⟨dG,dH,rfl,c⟩
 have a:=a.f c
 refine P 2 Z ?_
 refine H (M (I (af (P 5 Z ?_))))
 obtain ⟨df,cQ,h⟩:=aj h
 refine ao Z (a8 d e f g j l aM.1 aM.1 cQ ((b.rp 0 Z).d a.fr).rp ((b.rb 1 Z).d a.fr) ((b.rp 2 Z).d a.fr).rp ((b.rb 3 Z).d a.fr) ((b.rp 4 Z).d a.fr).rp ((b.rb 5 Z).d a.fr) ((b.rp 6 Z).d a.fr).rp ((b.rb 7 Z).d a.fr) ((b.rp 8 Z).d a.fr).rp ((b.rb 9 Z).d a.fr) ((b.rb 10 Z).d a.fr) (a.ro 7 Z).rp (a.rb 6 Z) (a.ro 7 Z).rp (a.rb 6 Z)) Z ?_
 rintro _ w ⟨dI,dJ,rfl,c⟩
 have a:=a.f c
 refine P 1 Z ?_
 obtain ⟨cR,co,h⟩:=aj h
 refine ao Z (cj d e f g j l df.1 cm.1 co ((b.rp 0 Z).d a.fr).rp ((b.rb 1 Z).d a.fr) ((b.rp 2 Z).d a.fr).rp ((b.rb 3 Z).d a.fr) ((b.rp 4 Z).d a.fr).rp ((b.rb 5 Z).d a.fr) ((b.rp 6 Z).d a.fr).rp ((b.rb 7 Z).d a.fr) ((b.rp 8 Z).d a.fr).rp ((b.rb 9 Z).d a.fr) ((b.rb 10 Z).d a.fr) (a.ro 1 Z).rp (a.rb 0 Z) (a.ro 5 Z).rp (a.rb 4 Z)) Z ?_
 rintro _ w ⟨di,dj,rfl,c⟩
 have a:=a.f c
 refine P 2 Z ?_
 obtain ⟨cS,cp,h⟩:=aj h
 refine ao Z (cU d e f g j l 2 cn.1 cp ((b.rp 0 Z).d a.fr).rp ((b.rb 1 Z).d a.fr) ((b.rp 2 Z).d a.fr).rp ((b.rb 3 Z).d a.fr) ((b.rp 4 Z).d a.fr).rp ((b.rb 5 Z).d a.fr) ((b.rp 6 Z).d a.fr).rp ((b.rb 7 Z).d a.fr) ((b.rp 8 Z).d a.fr).rp ((b.rb 9 Z).d a.fr) ((b.rb 10 Z).d a.fr) (a.ro 5 Z).rp (a.rb 4 Z)) Z ?_
 rintro _ w ⟨dk,dl,rfl,c⟩
 have a:=a.f c
 obtain ⟨cT,cq,h⟩:=aj h
 refine ao Z (cj d e f g j l cR.1 cS.1 cq ((b.rp 0 Z).d a.fr).rp ((b.rb 1 Z).d a.fr) ((b.rp 2 Z).d a.fr).rp ((b.rb 3 Z).d a.fr) ((b.rp 4 Z).d a.fr).rp ((b.rb 5 Z).d a.fr) ((b.rp 6 Z).d a.fr).rp ((b.rb 7 Z).d a.fr) ((b.rp 8 Z).d a.fr).rp ((b.rb 9 Z).d a.fr) ((b.rb 10 Z).d a.fr) (a.ro 3 Z).rp (a.rb 2 Z) (a.ro 1 Z).rp (a.rb 0 Z)) Z ?_
 rintro _ w ⟨cV,ap,rfl,c⟩
 have a:=a.f c
 refine P 1 Z ?_
 refine H (M (I (af (P 6 Z ?_))))
 obtain ⟨cW,cr,h⟩:=aj h
 refine ao Z (cj d e f g j l cn.1 cT.1 cr ((b.rp 0 Z).d a.fr).rp ((b.rb 1 Z).d a.fr) ((b.rp 2 Z).d a.fr).rp ((b.rb 3 Z).d a.fr) ((b.rp 4 Z).d a.fr).rp ((b.rb 5 Z).d a.fr) ((b.rp 6 Z).d a.fr).rp ((b.rb 7 Z).d a.fr) ((b.rp 8 Z).d a.fr).rp ((b.rb 9 Z).d a.fr) ((b.rb 10 Z).d a.fr) (a.ro 9 Z).rp (a.rb 8 Z) (a.ro 1 Z).rp (a.rb 0 Z)) Z ?_
 rintro _ w ⟨dm,dn,rfl,c⟩
 have a:=a.f c
 obtain ⟨cX,ct,h⟩:=aj h
 refine ao Z (a8 d e f g j l aM.1 cW.1 ct ((b.rp 0 Z).d a.fr).rp ((b.rb 1 Z).d a.fr) ((b.rp 2 Z).d a.fr).rp ((b.rb 3 Z).d a.fr) ((b.rp 4 Z).d a.fr).rp ((b.rb 5 Z).d a.fr) ((b.rp 6 Z).d a.fr).rp ((b.rb 7 Z).d a.fr) ((b.rp 8 Z).d a.fr).rp ((b.rb 9 Z).d a.fr) ((b.rb 10 Z).d a.fr) (a.ro 17 Z).rp (a.rb 16 Z) (a.ro 1 Z).rp (a.rb 0 Z)) Z ?_
 rintro _ w ⟨dp,dq,rfl,c⟩
 have a:=a.f c
 refine P 3 Z ?_
 obtain ⟨cY,cu,h⟩:=aj h
 refine ao Z (a8 d e f g j l bl.1 cm.1 cu ((b.rp 0 Z).d a.fr).rp ((b.rb 1 Z).d a.fr) ((b.rp 2 Z).d a.fr).rp ((b.rb 3 Z).d a.fr) ((b.rp 4 Z).d a.fr).rp ((b.rb 5 Z).d a.fr) ((b.rp 6 Z).d a.fr).rp ((b.rb 7 Z).d a.fr) ((b.rp 8 Z).d a.fr).rp ((b.rb 9 Z).d a.fr) ((b.rb 10 Z).d a.fr) (a.ro 27 Z).rp (a.rb 26 Z) (a.ro 15 Z).rp (a.rb 14 Z)) Z ?_
 rintro _ w ⟨dr,ds,rfl,c⟩
 have a:=a.f c
 obtain ⟨dt,cv,h⟩:=aj h
 refine ao Z (cj d e f g j l cX.1 cY.1 cv ((b.rp 0 Z).d a.fr).rp ((b.rb 1 Z).d a.fr) ((b.rp 2 Z).d a.fr).rp ((b.rb 3 Z).d a.fr) ((b.rp 4 Z).d a.fr).rp ((b.rb 5 Z).d a.fr) ((b.rp 6 Z).d a.fr).rp ((b.rb 7 Z).d a.fr) ((b.rp 8 Z).d a.fr).rp ((b.rb 9 Z).d a.fr) ((b.rb 10 Z).d a.fr) (a.ro 3 Z).rp (a.rb 2 Z) (a.ro 1 Z).rp (a.rb 0 Z)) Z ?_
 rintro _ w ⟨c0,aq,rfl,c⟩
 have a:=a.f c
 refine P 1 Z ?_
 refine H (M (I (af (P 5 Z ?_))))
 refine am (av (k:=2) u91 Z Z cx Z) Z (am (aC u73 Z Z (a.r 44 Z 2)) Z (am (av (k:=2) u91 Z Z cx Z) Z (am (aC u73 Z Z (a.r 43 Z 2)) Z ?_)))
 obtain ⟨c1,cw,h⟩:=aj h
 refine ao Z (a8 d e f g j l u x cw ((b.rp 0 Z).d a.fr).rp ((b.rb 1 Z).d a.fr) ((b.rp 2 Z).d a.fr).rp ((b.rb 3 Z).d a.fr) ((b.rp 4 Z).d a.fr).rp ((b.rb 5 Z).d a.fr) ((b.rp 6 Z).d a.fr).rp ((b.rb 7 Z).d a.fr) ((b.rp 8 Z).d a.fr).rp ((b.rb 9 Z).d a.fr) ((b.rb 10 Z).d a.fr) ((b.rp 15 Z).d a.fr).rp ((b.rb 16 Z).d a.fr) ((b.rp 21 Z).d a.fr).rp ((b.rb 22 Z).d a.fr)) Z ?_
 rintro _ w ⟨du,dv,rfl,c⟩
 have a:=a.f c
 obtain ⟨dw,cy,h⟩:=aj h
 refine ao Z (a8 d e f g j l aA.1 c1.1 cy ((b.rp 0 Z).d a.fr).rp ((b.rb 1 Z).d a.fr) ((b.rp 2 Z).d a.fr).rp ((b.rb 3 Z).d a.fr) ((b.rp 4 Z).d a.fr).rp ((b.rb 5 Z).d a.fr) ((b.rp 6 Z).d a.fr).rp ((b.rb 7 Z).d a.fr) ((b.rp 8 Z).d a.fr).rp ((b.rb 9 Z).d a.fr) ((b.rb 10 Z).d a.fr) (a.ro 27 Z).rp (a.rb 26 Z) (a.ro 1 Z).rp (a.rb 0 Z)) Z ?_
 rintro _ w ⟨c2,ay,rfl,c⟩
 have a:=a.f c
 refine am (bN (vs:=[(0,N ap 0,[N ap 0]),(1,N aq 0,[N aq 0]),(2,N ay 0,[N ay 0])]) (cells:=[N ap 0,N aq 0,N ay 0]) Z mp ⟨Z,Z,Z,V⟩ Z) Z ?_
 refine bb (a7 (i:=46) (us:=[N ap 0,N aq 0,N ay 0]) Z bB Z Z Z ⟨Z,Z,Z,V⟩ Z a) ?_
 intro w a
 refine H (M (aw ?_))
 cases h
 obtain ⟨hS0,hR⟩:=hZ.outT hTT b y a
 exact eJ Z ⟨_,Z,bC (us:=[N ap 0,N aq 0,N ay 0]) u91 Z bB (a.q 46 Z Z)⟩ ⟨ap,cV,aq,c0,ay,c2,Z,hS0,(Y (hR.b 71 Z) (Y (hR.b 70 Z) (Y (hR.b 67 Z) (Y (hR.b 66 Z) (Y (hR.b 59 Z) (Y (hR.b 58 Z) Q.nil))))))⟩
theorem fw {d:World} {aA aE aF aI aL aM aN aO:List UInt32} {S T ab ac ad ag ak an:Value} {a3 aU aV aW aX aY m n o:Nat} (b e f g j:Bool) (C:Int) (G L x:Bool) {r:List UInt32×List UInt32×Bool}
  (h:F.B7 b aA e aE f aF g aI j aL C G aM L aN x aO=some r) (l:RP [] d U S aA) (p:RB [] d aU [J b,S]) (q:RP [] d U T aE) (y:RB [] d aV [J e,T]) (s:RP [] d U ab aF) (z:RB [] d aW [J f,ab]) (t:RP [] d U ac aI) (A:RB [] d aX [J g,ac]) (u:RP [] d U ad aL) (B:RB [] d aY [J j,ad]) (hBa0:RB [] d a3 [N aU 0,N aV 0,N aW 0,N aX 0,N aY 0,vI C,.func (.func 168) #[] #[]]) (a0:RP [] d U ag aM) (a4:RB [] d m [J G,ag]) (a1:RP [] d U ak aN) (a5:RB [] d n [J L,ak]) (ap:RP [] d U an aO) (aQ:RB [] d o [J x,an]):Calls Tryz.prog 73 #[N a3 0,.agg #[N m 0,N n 0,N o 0]] d (Ret fun v w=>∃a6 a9:Value,v=.agg #[a6,a9,J r.2.2]∧St [] d w [K U a6 r.1,K U a9 r.2.1]):=by
 refine aJ 40 Tryz.func73 Z Z Z ?_
 have a:=St.l d
 refine au [(0,N a3 0),(1,.agg #[N m 0,N n 0,N o 0])] ⟨Z,Z,V⟩ ?_
 unfold F.B7 at h
 refine I (af (aP (cZ (cs:=[N m 0,N n 0,N o 0]) Z Z a) Z ?_))
 rintro _ w ⟨ba,rfl,a⟩
 refine aP (aT (cs:=[.slice none 0 0,.slice none 0 0,J false]) fu Z a) Z ?_
 rintro _ w ⟨bc,rfl,a⟩
 refine H (M (I (I (af (am (av (k:=2) u91 Z Z cx Z) Z (am (aC u73 Z Z (a.r 1 Z 2)) Z ?_))))))
 obtain ⟨bH,bq,h⟩:=aj h
 refine ao Z (cC x bq (ap.d a.fr).rp (aQ.d a.fr)) Z ?_
 rintro _ w ⟨rfl,c⟩
 have a:=a.f c
 refine P 1 Z ?_
 refine H (M ?_)
 refine ax Z (fun aq=>?_) (fun aq=>?_)
 ·have h:=aG h aq
  refine I (af (am (bN (vs:=[(2,J true,[J true])]) (cells:=[.slice none 0 0,.slice none 0 0,J true]) Z dU ⟨Z,V⟩ Z) Z (bb (a7 (i:=0) (us:=[.slice none 0 0,.slice none 0 0,J true]) Z bI Z Z Z ⟨Z,Z,Z,V⟩ Z a) ?_)))
  intro w a
  refine H (M (aw (aD ?_)))
  cases h
  exact eJ Z ⟨_,Z,bC (us:=[.slice none 0 0,.slice none 0 0,J true]) u33 Z bI (a.q 0 Z Z)⟩ ⟨.slice none 0 0,.slice none 0 0,Z,((a.nil U).nil U).e [1,0] Z Z⟩
 have h:=aH h aq
 refine az (M (I ?_))
 refine aZ (fun w'=>St [] d w' [W bc [.slice none 0 0,.slice none 0 0,J false],W ba [N m 0,N n 0,N o 0]]) (fun i=>!([0,7].contains i)) bS (fun _ _ _ hf=>hf.2) (fun _ _ hf=>hf) (by kernel_rfl) ?_
 have a:=a.drew
 show lxE _ _ _ _ _ _ _ [0,1,2,3,4,5,6,7,8] _ _
 refine Bc a Z Z (aT (cs:=[J false,.slice none 0 0]) c6 Z a) Z ?_
 rintro _ w ⟨bp,rfl,a⟩
 refine al (a.e [1,2] Z Z) Z Z (fun w hF=>av (k:=2) u91 Z Z cx Z) Z (al (a.e [1,2] Z Z) Z Z (fun w hF=>aC u73 Z Z (hF.r 1 Z 2)) Z (al (a.e [1,2] Z Z) Z Z (fun w hF=>ar Z) Z (al (a.e [1,2] Z Z) Z Z (fun w hF=>aK Z) Z (al (a.e [1,2] Z Z) Z Z (fun w hF=>av (k:=0) u76 Z Z cx Z) Z (al (a.e [1,2] Z Z) Z Z (fun w hF=>aC u73 Z Z (hBa0.cell hF.fr 0 Z)) Z ?_)))))
 replace a:=a.nil U
 have hG:=a.pick (os':=[W bp [J false,.slice none 0 0],K U (.slice none 0 0) []]++[W bc [.slice none 0 0,.slice none 0 0,J false],W ba [N m 0,N n 0,N o 0]]) [1,0,2,3] (by decide) Z
 obtain ⟨aR,br,h⟩:=aj h
 refine bj (a.e [2,3] Z Z) Z Z (by kernel_rfl) Z (ju false x b br hG.g (ap.g (R Z) hG) (aQ.g hG) (l.g (R Z) hG) (p.g hG)) Z ?_
 rintro _ w ⟨bd,rfl,c⟩
 have a:=hG.h c
 refine al (a.e [2,3] Z Z) Z Z (fun w hF=>aB Z) Z (bn (a.e [2,3] Z Z) ?_)
 refine M (I (af (P 3 Z ?_)))
 obtain ⟨ay,bf,h⟩:=aj h
 refine ao Z (a8 b e f g j C aR.1 aR.1 bf (l.d a.fr).rp (p.d a.fr) (q.d a.fr).rp (y.d a.fr) (s.d a.fr).rp (z.d a.fr) (t.d a.fr).rp (A.d a.fr) (u.d a.fr).rp (B.d a.fr) (hBa0.d a.fr) (a.ro 1 Z).rp (a.rb 0 Z) (a.ro 1 Z).rp (a.rb 0 Z)) Z ?_
 rintro _ w ⟨be,bs,rfl,c⟩
 have a:=a.f c
 refine P 1 Z ?_
 refine H (M (I ?_))
 refine dY (fun w'=>St [] d w' [W bs [J ay.1,be],K U be ay.2,W bp [J aR.1,bd],K U bd aR.2,W bc [.slice none 0 0,.slice none 0 0,J false],W ba [N m 0,N n 0,N o 0]]) (fun i=>!([4,5,12,13,14,16].contains i)) bS (fun _ _ _ hf=>hf.2) (fun _ _ hf=>hf) (by kernel_rfl) ?_
 have a:=a.drew
 show lxE _ _ _ _ _ _ _ [0,1,2,3,4,5,6,7,8,9,10,11,12,13,14,15,16] _ _
 refine al a Z Z (fun w hF=>ar Z) Z (al a Z Z (fun w hF=>av (k:=0) u91 Z Z cx Z) Z (al a Z Z (fun w hF=>aC u73 Z Z (hF.r 5 Z 0)) Z (al a Z Z (fun w hF=>ar Z) Z ?_)))
 obtain ⟨bt,bg,h⟩:=aj h
 refine bj a Z Z (by kernel_rfl) Z (a8 b e f g j C G ay.1 bg (l.d a.fr).rp (p.d a.fr) (q.d a.fr).rp (y.d a.fr) (s.d a.fr).rp (z.d a.fr) (t.d a.fr).rp (A.d a.fr) (u.d a.fr).rp (B.d a.fr) (hBa0.d a.fr) (a0.d a.fr).rp (a4.d a.fr) (a.ro 1 Z).rp (a.rb 0 Z)) Z ?_
 rintro _ w ⟨bw,bz,rfl,c⟩
 have a:=a.f c
 obtain ⟨bA,bh,h⟩:=aj h
 refine bj (a.e [2,3,4,5,6,7] Z Z) Z Z (by kernel_rfl) Z (fU bt.1 bh (a.ro 1 Z).rp (a.rb 0 Z)) Z ?_
 rintro D w c
 have a:=a.f c
 have bi:=(a.ro 0 Z).one
 refine al (a.e [3,4,5,6,7,8] Z Z) Z Z (fun w hF=>ar Z) Z (al (a.e [3,4,5,6,7,8] Z Z) Z Z (fun w hF=>av (k:=1) u91 Z Z cx Z) Z (al (a.e [3,4,5,6,7,8] Z Z) Z Z (fun w hF=>aC u73 Z Z (hF.r 5 Z 1)) Z (al (a.e [3,4,5,6,7,8] Z Z) Z Z (fun w hF=>ar Z) Z (al (a.e [3,4,5,6,7,8] Z Z) Z Z (fun w hF=>ar Z) Z (al (a.e [3,4,5,6,7,8] Z Z) Z Z (fun w hF=>ar Z) Z ?_)))))
 obtain ⟨bu,bk,h⟩:=aj h
 refine bj (a.e [3,4,5,6,7,8] Z Z) Z Z (by kernel_rfl) Z (a8 b e f g j C aR.1 ay.1 bk (l.d a.fr).rp (p.d a.fr) (q.d a.fr).rp (y.d a.fr) (s.d a.fr).rp (z.d a.fr) (t.d a.fr).rp (A.d a.fr) (u.d a.fr).rp (B.d a.fr) (hBa0.d a.fr) (a.ro 6 Z).rp (a.rb 5 Z) (a.ro 4 Z).rp (a.rb 3 Z)) Z ?_
 rintro _ w ⟨bB,bD,rfl,c⟩
 have a:=a.f c
 obtain ⟨bv,bl,h⟩:=aj h
 refine bj (a.e [5,6,7,8,9,10] Z Z) Z Z (by kernel_rfl) Z (a8 b e f g j C L bu.1 bl (l.d a.fr).rp (p.d a.fr) (q.d a.fr).rp (y.d a.fr) (s.d a.fr).rp (z.d a.fr) (t.d a.fr).rp (A.d a.fr) (u.d a.fr).rp (B.d a.fr) (hBa0.d a.fr) (a1.d a.fr).rp (a5.d a.fr) (a.ro 1 Z).rp (a.rb 0 Z)) Z ?_
 rintro _ w ⟨bE,bF,rfl,c⟩
 have a:=a.f c
 obtain ⟨bG,bm,h⟩:=aj h
 refine bj (a.e [7,8,9,10,11,12] Z Z) Z Z (by kernel_rfl) Z (fU bv.1 bm (a.ro 1 Z).rp (a.rb 0 Z)) Z ?_
 rintro E w c
 have a:=a.f c
 have bo:=(a.ro 0 Z).one
 refine al (a.e [8,9,10,11,12,13] Z Z) Z Z (fun w hF=>bN (vs:=[(0,D,[D]),(1,E,[E])]) (cells:=[D,E,J false]) Z dU ⟨(fC bi),(fC bo),V⟩ Z) Z ?_
 refine iS (a.e [8,9,10,11,12,13] Z Z) Z Z (a7 (i:=12) (us:=[D,E,J false]) Z bI Z Z Z ⟨(a.ro 5 Z).one,(a.ro 0 Z).one,Z,V⟩ Z a) ?_
 intro w a
 refine bn V ?_
 refine M (aw ?_)
 cases h
 exact eJ Z ⟨_,Z,bC (us:=[D,E,J false]) u33 Z bI (a.q 12 Z Z)⟩ ⟨D,E,Z,a.e [5,0] Z Z⟩
theorem l9 {d:World} {aK aL aM aN aO aQ aR aS aU aV aW:List UInt32} {t u x y z A B C D E G:Value} {bi aC aD aE aF aI k l m e f j:Nat} {T:List Nat} (n o p q s:Bool) (aX:Int) (ag ak al a2 an ap aq:Bool) {r:Bool×List UInt32×Bool×List UInt32×Bool×List UInt32}
  (h:F.Cp n aK o aL p aM q aN s aO aX ag aQ ak aR al aS a2 an aU ap aV aq aW=some r) (hTT:TOk [] T d) (bm:RP T d U t aK) (bA:RB T d aC [J n,t]) (bn:RP T d U u aL) (bD:RB T d aD [J o,u]) (bp:RP T d U x aM) (bE:RB T d aE [J p,x]) (bq:RP T d U y aN) (bF:RB T d aF [J q,y]) (br:RP T d U z aO) (bG:RB T d aI [J s,z]) (hBa0:RB T d bi [N aC 0,N aD 0,N aE 0,N aF 0,N aI 0,vI aX,.func (.func 168) #[] #[]]) (bs:RP T d U A aQ) (bH:RB T d k [J ag,A]) (bt:RP T d U B aR) (bI:RB T d l [J ak,B]) (bu:RP T d U C aS) (bJ:RB T d m [J al,C]) (bv:RP T d U D aU) (bK:RB T d e [J an,D]) (bw:RP T d U E aV) (bL:RB T d f [J ap,E]) (bz:RP T d U G aW) (bM:RB T d j [J aq,G]):Calls Tryz.prog 168 #[N bi 0,.agg #[N k 0,N l 0,N m 0],J a2,.agg #[N e 0,N f 0,N j 0]] d (Ret fun v w=>∃bN:Nat,∃a6:Value,∃bO:Nat,∃a8:Value,∃bP:Nat,∃ba:Value,v=.agg #[N bN 0,N bO 0,N bP 0]∧St [] d w []∧Q T w [W bP [J r.2.2.2.2.1,ba],red U ba r.2.2.2.2.2,W bO [J r.2.2.1,a8],red U a8 r.2.2.2.1,W bN [J r.1,a6],red U a6 r.2.1]):=by
 refine aJ 18 Tryz.func168 Z Z Z ?_
 have c:=St.l d
 have hZ:=Fz.l (S:=[]) (w0:=d)
 have hA0:Q T d [W j [J aq,G],red U G aW,W f [J ap,E],red U E aV,W e [J an,D],red U D aU,W m [J al,C],red U C aS,W l [J ak,B],red U B aR,W k [J ag,A],red U A aQ,W bi [N aC 0,N aD 0,N aE 0,N aF 0,N aI 0,vI aX,.func (.func 168) #[] #[]],W aI [J s,z],red U z aO,W aF [J q,y],red U y aN,W aE [J p,x],red U x aM,W aD [J o,u],red U u aL,W aC [J n,t],red U t aK]:=Y bM.i (Y (RP.i (R Z) bz) (Y bL.i (Y (RP.i (R Z) bw) (Y bK.i (Y (RP.i (R Z) bv) (Y bJ.i (Y (RP.i (R Z) bu) (Y bI.i (Y (RP.i (R Z) bt) (Y bH.i (Y (RP.i (R Z) bs) (Y hBa0.i (Y bG.i (Y (RP.i (R Z) br) (Y bF.i (Y (RP.i (R Z) bq) (Y bE.i (Y (RP.i (R Z) bp) (Y bD.i (Y (RP.i (R Z) bn) (Y bA.i (Y (RP.i (R Z) bm) (Q.nil)))))))))))))))))))))))
 have a:=hA0.all
 have b:=hA0.off Z
 refine au [(0,N bi 0),(1,.agg #[N k 0,N l 0,N m 0]),(2,J a2),(3,.agg #[N e 0,N f 0,N j 0])] ⟨Z,Z,Z,Z,V⟩ ?_
 unfold F.Cp at h
 refine I (af (aP (cZ (cs:=[N k 0,N l 0,N m 0]) Z Z c) Z ?_))
 rintro _ w ⟨bj,rfl,c⟩
 refine aP (cZ (cs:=[N e 0,N f 0,N j 0]) Z Z c) Z ?_
 rintro _ w ⟨bT,rfl,c⟩
 refine aP (aT (cs:=[.pointer none,.pointer none,.pointer none]) dK Z c) Z ?_
 rintro _ w ⟨bk,rfl,c⟩
 refine H (M (I (af (P 1 Z ?_))))
 refine am (bo (us:=[N k 0,N l 0,N m 0]) u91 Z bB Z (c.q 2 Z Z)) Z ?_
 replace c:=c.pick (os':=[]++[W bk [.pointer none,.pointer none,.pointer none],W bT [N e 0,N f 0,N j 0],W bj [N k 0,N l 0,N m 0]]) [0,1,2] (by decide) rfl
 obtain ⟨hZ,a,b,c⟩:=hZ.frzK hTT a b c
 obtain ⟨ar,bU,h⟩:=aj h
 refine ao Z (gq n o p q s aX ag ak al bU (hZ.okT hTT c) (a.j b 0 Z) (a.k b 1 Z) (a.j b 2 Z) (a.k b 3 Z) (a.j b 4 Z) (a.k b 5 Z) (a.j b 6 Z) (a.k b 7 Z) (a.j b 8 Z) (a.k b 9 Z) (a.k b 10 Z) (a.j b 11 Z) (a.k b 12 Z) (a.j b 13 Z) (a.k b 14 Z) (a.j b 15 Z) (a.k b 16 Z)) Z ?_
 rintro _ w ⟨av,bf,ay,bg,aA,bh,rfl,bQ,bR⟩
 obtain ⟨bY,bV,hZ,a,b,c⟩:=hZ.m a b c bQ bR rfl
 refine bb (a7 (i:=2) (us:=[N av 0,N ay 0,N aA 0]) Z bB Z Z Z ⟨Z,Z,Z,V⟩ Z c) ?_
 intro w c
 refine H (M ?_)
 refine a9 (r:=r) (fun (g:Bool×List UInt32×Bool×List UInt32×Bool×List UInt32) L w=>∃(ab:Nat) (a1:Value) (ac:Nat) (a3:Value) (ad:Nat) (a4:Value),L=[(5,N bj 0),(8,N bk 0)]∧SfT [] T d w [W ad [J g.2.2.2.2.1,a4],red U a4 g.2.2.2.2.2,W ac [J g.2.2.1,a3],red U a3 g.2.2.2.1,W ab [J g.1,a1],red U a1 g.2.1] [W bj [N ab 0,N ac 0,N ad 0],W bk [.pointer none,.pointer none,.pointer none]]) (F.E9) ?_ ?_
 rotate_left
 ·intro bl
  refine I (af (P 1 Z ?_))
  refine H (M ?_)
  refine ax Z (fun a5=>?_) (fun a5=>?_)
  ·have h:=aG h a5
   refine af (P 1 Z ?_)
   refine am (bo (us:=[N av 0,N ay 0,N aA 0]) u91 Z bB Z (c.q 2 Z Z)) Z (am (bo (us:=[N e 0,N f 0,N j 0]) u91 Z bB Z (c.q 1 Z Z)) Z ?_)
   replace c:=c.pick (os':=[]++[W bk [.pointer none,.pointer none,.pointer none],W bT [N e 0,N f 0,N j 0],W bj [N av 0,N ay 0,N aA 0]]) [0,1,2] (by decide) rfl
   obtain ⟨hZ,a,b,c⟩:=hZ.frzK hTT a b c
   obtain ⟨aB,bS,h⟩:=aj h
   refine ao Z (fS n o p q s aX ar.1 ar.2.2.1 ar.2.2.2.2.1 an ap aq bS (hZ.okT hTT c) (a.j b 0 Z) (a.k b 1 Z) (a.j b 2 Z) (a.k b 3 Z) (a.j b 4 Z) (a.k b 5 Z) (a.j b 6 Z) (a.k b 7 Z) (a.j b 8 Z) (a.k b 9 Z) (a.k b 10 Z) (a.j b 23 Z) (a.k b 24 Z) (a.j b 25 Z) (a.k b 26 Z) (a.j b 27 Z) (a.k b 28 Z) (a.j b 17 Z) (a.k b 18 Z) (a.j b 19 Z) (a.k b 20 Z) (a.j b 21 Z) (a.k b 22 Z)) Z ?_
   rintro _ w ⟨aY,bc,aZ,bd,a0,be,rfl,bQ,bR⟩
   obtain ⟨bZ,bW,hZ,a,b,c⟩:=hZ.m a b c bQ bR rfl
   refine bb (a7 (i:=2) (us:=[N aY 0,N aZ 0,N a0 0]) Z bB Z Z Z ⟨Z,Z,Z,V⟩ Z c) ?_
   intro w c
   refine H (M ?_)
   exact au _ (by exact ⟨Z,Z,V⟩) (bl (aB.1,aB.2.1,aB.2.2.1,aB.2.2.2.1,aB.2.2.2.2.1,aB.2.2.2.2.2) _ _ ⟨aY,bc,aZ,bd,a0,be,Z,(SfT.mk' hZ (Y (a.b 34 Z) (Y (a.b 33 Z) (Y (a.b 32 Z) (Y (a.b 31 Z) (Y (a.b 30 Z) (Y (a.b 29 Z) Q.nil)))))) (X (b.b 34 Z) (X (b.b 33 Z) (X (b.b 32 Z) (X (b.b 31 Z) (X (b.b 30 Z) (X (b.b 29 Z) O.nil)))))) (c.e [2,0] Z Z))⟩ h)
  have h:=aH h a5
  refine az (M ?_)
  exact au _ (by exact ⟨Z,Z,V⟩) (bl (ar.1,ar.2.1,ar.2.2.1,ar.2.2.2.1,ar.2.2.2.2.1,ar.2.2.2.2.2) _ _ ⟨av,bf,ay,bg,aA,bh,Z,(SfT.mk' hZ (Y (a.b 28 Z) (Y (a.b 27 Z) (Y (a.b 26 Z) (Y (a.b 25 Z) (Y (a.b 24 Z) (Y (a.b 23 Z) Q.nil)))))) (X (b.b 28 Z) (X (b.b 27 Z) (X (b.b 26 Z) (X (b.b 25 Z) (X (b.b 24 Z) (X (b.b 23 Z) O.nil)))))) (c.e [2,0] Z Z))⟩ h)
 rintro ⟨b0,b1,b2,b3,b4,b5⟩ L w hJ h
 try dsimp only at hJ
 obtain ⟨ab,a1,ac,a3,ad,a4,rfl,⟨b6,bX,hZ,a,b,c⟩⟩:=hJ
 unfold F.E9 at h
 refine I (af (am (bo (us:=[N ab 0,N ac 0,N ad 0]) u91 Z bB Z (c.q 0 Z Z)) Z (bb (a7 (i:=1) (us:=[N ab 0,N ac 0,N ad 0]) Z bB Z Z Z ⟨Z,Z,Z,V⟩ Z c) ?_)))
 intro w c
 refine H (M (aw ?_))
 cases h
 obtain ⟨hS0,hR⟩:=hZ.outT hTT a b c
 exact eJ Z ⟨_,Z,bC (us:=[N ab 0,N ac 0,N ad 0]) u91 Z bB (c.q 1 Z Z)⟩ ⟨ab,a1,ac,a3,ad,a4,Z,hS0,(Y (hR.b 5 Z) (Y (hR.b 4 Z) (Y (hR.b 3 Z) (Y (hR.b 2 Z) (Y (hR.b 1 Z) (Y (hR.b 0 Z) Q.nil))))))⟩
end Go.Proofs
