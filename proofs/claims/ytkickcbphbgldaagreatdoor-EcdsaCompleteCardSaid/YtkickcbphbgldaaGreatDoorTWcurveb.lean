import Derived.Test.YtkickcbphbgldaaGreatDoorTW0
import Derived.Test.YtkickcbphbgldaaGreatDoorGkFman
import Derived.Test.YtkickcbphbgldaaGreatDoorTWbignumc
import Derived.Test.YtkickcbphbgldaaGreatDoorTWcurvea
set_option linter.unusedVariables false
set_option linter.unusedSimpArgs false
set_option linter.unusedSectionVars false
set_option maxRecDepth 4000
namespace Go.Proofs
open Go Go.RowKit Go.Gk
open Go.Gk renaming Off → K, Rds → Q, aa → P, ae → O, ah → J, ai → H, e32 → U, own → M, pB → N, vB → I
open Nat renaming le_of_ble_eq_true → R
open Go.Gk.OE renaming bx → X
open Go.Gk.Off renaming cons → W
open Go.Gk.Rds renaming cons → Y
theorem gK {A:World} {aV aW aX aZ a0 a1 a2 a3:List UInt32} {B C D E G q s t:Value} {bd aG aK aL aM aN n o p:Nat} {T:List Nat} (d e f g j:Bool) (m:Int) (L ab u:Bool) {r:Bool×List UInt32×Bool×List UInt32×Bool×List UInt32}
  (h:F.Dn d aV e aW f aX g aZ j a0 m L a1 ab a2 u a3=some r) (hTT:TOk [] T A) (bm:RP T A U B aV) (bv:RB T A aG [I d,B]) (bn:RP T A U C aW) (bw:RB T A aK [I e,C]) (bo:RP T A U D aX) (bz:RB T A aL [I f,D]) (bp:RP T A U E aZ) (bA:RB T A aM [I g,E]) (bq:RP T A U G a0) (bB:RB T A aN [I j,G]) (hBa0:RB T A bd [N aG 0,N aK 0,N aL 0,N aM 0,N aN 0,vI m,.func (.func 168) #[] #[]]) (br:RP T A U q a1) (bC:RB T A n [I L,q]) (bs:RP T A U s a2) (bD:RB T A o [I ab,s]) (bt:RP T A U t a3) (bE:RB T A p [I u,t]):Calls Tryz.prog 149 #[N bd 0,.agg #[N n 0,N o 0,N p 0]] A (Ret fun v w=>∃bF:Nat,∃be:Value,∃bG:Nat,∃bf:Value,∃bH:Nat,∃bg:Value,v=.agg #[N bF 0,N bG 0,N bH 0]∧St [] A w []∧Q T w [X bH [I r.2.2.2.2.1,bg],red U bg r.2.2.2.2.2,X bG [I r.2.2.1,bf],red U bf r.2.2.2.1,X bF [I r.1,be],red U be r.2.1]):=by
 refine aJ 86 Tryz.func149 Z Z Z ?_
 have a:=St.l A
 have hZ:=Fz.l (S:=[]) (w0:=A)
 have hA0:Q T A [X p [I u,t],red U t a3,X o [I ab,s],red U s a2,X n [I L,q],red U q a1,X bd [N aG 0,N aK 0,N aL 0,N aM 0,N aN 0,vI m,.func (.func 168) #[] #[]],X aN [I j,G],red U G a0,X aM [I g,E],red U E aZ,X aL [I f,D],red U D aX,X aK [I e,C],red U C aW,X aG [I d,B],red U B aV]:=Y bE.i (Y (RP.i (R Z) bt) (Y bD.i (Y (RP.i (R Z) bs) (Y bC.i (Y (RP.i (R Z) br) (Y hBa0.i (Y bB.i (Y (RP.i (R Z) bq) (Y bA.i (Y (RP.i (R Z) bp) (Y bz.i (Y (RP.i (R Z) bo) (Y bw.i (Y (RP.i (R Z) bn) (Y bv.i (Y (RP.i (R Z) bm) (Q.nil)))))))))))))))))
 have b:=hA0.all
 have hP:=hA0.off Z
 refine au [(0,N bd 0),(1,.agg #[N n 0,N o 0,N p 0])] ⟨Z,Z,V⟩ ?_
 unfold F.Dn at h
 refine J (af (aT (da (cs:=[N n 0,N o 0,N p 0]) Z Z a) Z ?_))
 rintro _ w ⟨bK,rfl,a⟩
 refine aT (aY (cs:=[.pointer none,.pointer none,.pointer none]) eQ Z a) Z ?_
 rintro _ w ⟨bM,rfl,a⟩
 refine H (O (J (J (af (am (av (k:=2) u91 Z Z cw Z) Z (am (aC u73 Z Z (a.r 1 Z 2)) Z ?_))))))
 obtain ⟨cI,b8,h⟩:=aj h
 refine ao Z (cD u b8 ((b.rp 15 Z).d a.fr).rp ((b.rb 16 Z).d a.fr)) Z ?_
 rintro _ w ⟨rfl,l⟩
 have a:=a.f l
 refine P 1 Z ?_
 refine H (O ?_)
 refine ax Z (fun bb=>?_) (fun bb=>?_)
 ·have h:=aI h bb
  refine J (af (am (bI (us:=[N n 0,N o 0,N p 0]) u91 Z bL Z (a.q 1 Z Z)) Z (bk (bl (i:=0) (us:=[N n 0,N o 0,N p 0]) Z bL Z Z Z ⟨Z,Z,Z,V⟩ Z a) ?_)))
  intro w a
  refine H (O (aw (aE ?_)))
  cases h
  obtain ⟨hS0,hR⟩:=hZ.outT hTT b hP a
  exact eN Z ⟨_,Z,bJ (us:=[N n 0,N o 0,N p 0]) u91 Z bL (a.q 0 Z Z)⟩ ⟨n,q,o,s,p,t,Z,hS0,(Y (hR.b 16 Z) (Y (hR.b 15 Z) (Y (hR.b 14 Z) (Y (hR.b 13 Z) (Y (hR.b 12 Z) (Y (hR.b 11 Z) Q.nil))))))⟩
 have h:=aH h bb
 refine ay (O (J (af (P 1 Z ?_))))
 refine am (av (k:=2) u91 Z Z cw Z) Z (am (aC u73 Z Z (a.r 1 Z 2)) Z (am (av (k:=2) u91 Z Z cw Z) Z (am (aC u73 Z Z (a.r 1 Z 2)) Z ?_)))
 obtain ⟨ba,b9,h⟩:=aj h
 refine ao Z (a7 d e f g j m u u b9 ((b.rp 0 Z).d a.fr).rp ((b.rb 1 Z).d a.fr) ((b.rp 2 Z).d a.fr).rp ((b.rb 3 Z).d a.fr) ((b.rp 4 Z).d a.fr).rp ((b.rb 5 Z).d a.fr) ((b.rp 6 Z).d a.fr).rp ((b.rb 7 Z).d a.fr) ((b.rp 8 Z).d a.fr).rp ((b.rb 9 Z).d a.fr) ((b.rb 10 Z).d a.fr) ((b.rp 15 Z).d a.fr).rp ((b.rb 16 Z).d a.fr) ((b.rp 15 Z).d a.fr).rp ((b.rb 16 Z).d a.fr)) Z ?_
 rintro _ w ⟨bc,bN,rfl,l⟩
 have a:=a.f l
 refine P 1 Z ?_
 refine H (O (J (af (P 1 Z ?_))))
 refine am (av (k:=1) u91 Z Z cw Z) Z (am (aC u73 Z Z (a.r 3 Z 1)) Z (am (av (k:=1) u91 Z Z cw Z) Z (am (aC u73 Z Z (a.r 3 Z 1)) Z ?_)))
 obtain ⟨an,bO,h⟩:=aj h
 refine ao Z (a7 d e f g j m ab ab bO ((b.rp 0 Z).d a.fr).rp ((b.rb 1 Z).d a.fr) ((b.rp 2 Z).d a.fr).rp ((b.rb 3 Z).d a.fr) ((b.rp 4 Z).d a.fr).rp ((b.rb 5 Z).d a.fr) ((b.rp 6 Z).d a.fr).rp ((b.rb 7 Z).d a.fr) ((b.rp 8 Z).d a.fr).rp ((b.rb 9 Z).d a.fr) ((b.rb 10 Z).d a.fr) ((b.rp 13 Z).d a.fr).rp ((b.rb 14 Z).d a.fr) ((b.rp 13 Z).d a.fr).rp ((b.rb 14 Z).d a.fr)) Z ?_
 rintro _ w ⟨a4,bh,rfl,l⟩
 have a:=a.f l
 refine P 1 Z ?_
 refine H (O (J (af (P 2 Z ?_))))
 refine am (av (k:=0) u91 Z Z cw Z) Z (am (aC u73 Z Z (a.r 5 Z 0)) Z (P 1 Z ?_))
 obtain ⟨aP,bP,h⟩:=aj h
 refine ao Z (a7 d e f g j m L an.1 bP ((b.rp 0 Z).d a.fr).rp ((b.rb 1 Z).d a.fr) ((b.rp 2 Z).d a.fr).rp ((b.rb 3 Z).d a.fr) ((b.rp 4 Z).d a.fr).rp ((b.rb 5 Z).d a.fr) ((b.rp 6 Z).d a.fr).rp ((b.rb 7 Z).d a.fr) ((b.rp 8 Z).d a.fr).rp ((b.rb 9 Z).d a.fr) ((b.rb 10 Z).d a.fr) ((b.rp 11 Z).d a.fr).rp ((b.rb 12 Z).d a.fr) (a.ro 1 Z).rp (a.rb 0 Z)) Z ?_
 rintro _ w ⟨a5,bi,rfl,l⟩
 have a:=a.f l
 obtain ⟨aA,bQ,h⟩:=aj h
 refine ao Z (cW d e f g j m 4 aP.1 bQ ((b.rp 0 Z).d a.fr).rp ((b.rb 1 Z).d a.fr) ((b.rp 2 Z).d a.fr).rp ((b.rb 3 Z).d a.fr) ((b.rp 4 Z).d a.fr).rp ((b.rb 5 Z).d a.fr) ((b.rp 6 Z).d a.fr).rp ((b.rb 7 Z).d a.fr) ((b.rp 8 Z).d a.fr).rp ((b.rb 9 Z).d a.fr) ((b.rb 10 Z).d a.fr) (a.ro 1 Z).rp (a.rb 0 Z)) Z ?_
 rintro _ w ⟨a6,bj,rfl,l⟩
 have a:=a.f l
 refine P 1 Z ?_
 refine H (O (J ?_))
 obtain ⟨aQ,bR,h⟩:=aj h
 obtain ⟨ap,bT,h⟩:=aj h
 obtain ⟨aR,bU,h⟩:=aj h
 obtain ⟨aS,bV,h⟩:=aj h
 obtain ⟨aU,bW,h⟩:=aj h
 refine fw (es:=[X p [I u,t],red U t a3,X o [I ab,s],red U s a2,X n [I L,q],red U q a1,X bd [N aG 0,N aK 0,N aL 0,N aM 0,N aN 0,vI m,.func (.func 168) #[] #[]],X aN [I j,G],red U G a0,X aM [I g,E],red U E aZ,X aL [I f,D],red U D aX,X aK [I e,C],red U C aW,X aG [I d,B],red U B aV]) (os:=[X bj [I aA.1,a6],M U a6 aA.2,X bi [I aP.1,a5],M U a5 aP.2,X bh [I an.1,a4],M U a4 an.2,X bN [I ba.1,bc],M U bc ba.2,X bM [.pointer none,.pointer none,.pointer none],X bK [N n 0,N o 0,N p 0]]) (fun i=>[6,8,12,13,14,15].contains i) (fun i=>if i=6 then some 14 else if i=8 then some 12 else if i=12 then some 13 else if i=13 then some 14 else if i=14 then some 15 else none) (fun i=>[]) (fun i=>[]) (fun i=>[]) (fun i=>if i=12 then [8] else if i=13 then [8] else []) (fun i=>if i=6 then (fun h v x y=>∃aq:Nat,∃ad:Value,v=N aq 0∧x=[X aq [I aQ.1,ad],M U ad aQ.2]∧y=[]) else if i=8 then (fun h v x y=>∃c:Nat,v=N c 0∧x=[X c [I false,.slice none 0 0]]∧y=[]) else if i=12 then (fun h v x y=>∃z:Value,∃c:Nat,h=[(N c 0,[X c [I false,.slice none 0 0]],[])]∧v=N c 0∧x=[X c [I ap.1,z],M U z ap.2]∧y=[]) else if i=13 then (fun h v x y=>∃ag:Value,∃c:Nat,h=[(N c 0,[X c [I false,.slice none 0 0]],[])]∧v=N c 0∧x=[X c [I aR.1,ag],M U ag aR.2]∧y=[]) else if i=14 then (fun h v x y=>∃az:Nat,∃ak:Value,v=N az 0∧x=[X az [I aS.1,ak],M U ak aS.2]∧y=[]) else (fun h v x y=>∃aD:Nat,∃aF:Value,v=N aD 0∧x=[X aD [I aU.1,aF],M U aF aU.2]∧y=[])) (SfT.mk' hZ b hP a) (fun k hk=>rfl) hTT rfl (fun i=>(dF (by rintro h v x y ⟨_,_,rfl,rfl,rfl⟩; exact cQ rfl) (dF (by rintro h v x y ⟨_,rfl,rfl,rfl⟩; exact cQ rfl) (dF (by rintro h v x y ⟨_,_,_,rfl,rfl,rfl⟩; exact cQ rfl) (dF (by rintro h v x y ⟨_,_,_,rfl,rfl,rfl⟩; exact cQ rfl) (dF (by rintro h v x y ⟨_,_,rfl,rfl,rfl⟩; exact cQ rfl) (by rintro h v x y ⟨_,_,rfl,rfl,rfl⟩; exact cQ rfl))))))) bS (by kernel_rfl) (by kernel_rfl) ?_
 show fy _ _ _ _ _ _ _ _ _ _ _ _ _ _ _ _ [0,1,2,3,4,5,6,7,8,9,10,11,12,13,14,15,16] _ _
 refine bu Z Z (fun w Sb wb hZ b hP hF=>ar Z) Z (bu Z Z (fun w Sb wb hZ b hP hF=>ar Z) Z (bu Z Z (fun w Sb wb hZ b hP hF=>ar Z) Z (bu Z Z (fun w Sb wb hZ b hP hF=>av (k:=0) u91 Z Z cw Z) Z (bu Z Z (fun w Sb wb hZ b hP hF=>aC u73 Z Z (hF.r 9 Z 0)) Z (bu Z Z (fun w Sb wb hZ b hP hF=>ar Z) Z ?_)))))
 refine dC (fun h v x y=>∃aq:Nat,∃ad:Value,v=N aq 0∧x=[X aq [I aQ.1,ad],M U ad aQ.2]∧y=[]) [] [] [] _ Z Z (fun h v x y=>Z) Z Z Z Z ⟨_,_,_,0,undef,Z,Z,Z⟩ (by kernel_rfl) Z (fun w Sl Tl hZ hTT b hP a=>?_) Z ?_
 ·refine dh (cn d e f g j m L ba.1 bR ((b.rp 0 Z).d a.fr).rp ((b.rb 1 Z).d a.fr) ((b.rp 2 Z).d a.fr).rp ((b.rb 3 Z).d a.fr) ((b.rp 4 Z).d a.fr).rp ((b.rb 5 Z).d a.fr) ((b.rp 6 Z).d a.fr).rp ((b.rb 7 Z).d a.fr) ((b.rp 8 Z).d a.fr).rp ((b.rb 9 Z).d a.fr) ((b.rb 10 Z).d a.fr) ((b.rp 11 Z).d a.fr).rp ((b.rb 12 Z).d a.fr) (a.ro 7 Z).rp (a.rb 6 Z)) ?_
  rintro _ w ⟨ad,aq,rfl,l⟩
  have a:=a.f l
  exact ⟨_,_,⟨aq,ad,Z,Z,Z⟩,SfT.mk' hZ Q.nil K.nil a⟩
 rintro v_q x_q y_q ⟨aq,ad,rfl,rfl,rfl⟩
 refine bu Z Z (fun w Sb wb hZ b hP hF=>ar Z) Z ?_
 refine g9 (fun h v x y=>∃c:Nat,v=N c 0∧x=[X c [I false,.slice none 0 0]]∧y=[]) [] [] [] _ Z Z (fun h v x y=>Z) Z Z Z Z ⟨_,_,_,0,Z,Z,Z⟩ (fun w Sl Tl hZ hTT b hP a=>?_) Z ?_
 ·refine mH (aY (cs:=[I false,.slice none 0 0]) c6 Z a) ?_
  rintro _ w ⟨c,rfl,a⟩
  exact ⟨_,_,⟨c,Z,Z,Z⟩,SfT.mk' hZ Q.nil K.nil a⟩
 rintro v_q x_q y_q ⟨c,rfl,rfl,rfl⟩
 refine bu Z Z (fun w Sb wb hZ b hP hF=>av (k:=0) u91 Z Z cw Z) Z (bu Z Z (fun w Sb wb hZ b hP hF=>aC u73 Z Z (hF.r 9 Z 0)) Z (bu Z Z (fun w Sb wb hZ b hP hF=>ar Z) Z ?_))
 refine dC (fun h v x y=>∃z:Value,∃c:Nat,h=[(N c 0,[X c [I false,.slice none 0 0]],[])]∧v=N c 0∧x=[X c [I ap.1,z],M U z ap.2]∧y=[]) [(N c 0,[X c [I false,.slice none 0 0]],[])] [X c [I false,.slice none 0 0]] [] _ Z Z (fun h v x y=>Z) Z Z Z Z ⟨_,_,_,undef,c,Z,Z,Z,Z⟩ (by kernel_rfl) Z (fun w Sl Tl hZ hTT b hP a=>?_) Z ?_
 ·replace a:=a.nil U
  have hG:=a.pick (os':=[X c [I false,.slice none 0 0],M U (.slice none 0 0) []]++[X bj [I aA.1,a6],M U a6 aA.2,X bi [I aP.1,a5],M U a5 aP.2,X bh [I an.1,a4],M U a4 an.2,X bN [I ba.1,bc],M U bc ba.2,X bM [.pointer none,.pointer none,.pointer none],X bK [N n 0,N o 0,N p 0]]) [1,0,2,3,4,5,6,7,8,9,10,11] (by decide) Z
  refine dh (np false L ba.1 bT hG.g ((b.rp 11 Z).g (R Z) hG) ((b.rb 12 Z).g hG) (hG.giveO 7 Z) (hG.giveB 6 Z)) ?_
  rintro _ w ⟨z,rfl,l⟩
  have a:=hG.h l
  exact ⟨_,_,⟨z,c,Z,Z,Z,Z⟩,SfT.mk' hZ Q.nil K.nil a⟩
 rintro v_q x_q y_q ⟨z,b_31',hh,rfl,rfl,rfl⟩
 replace hh:([(N c 0,[X c [I false,.slice none 0 0]],[])]:List Th)=[(N b_31' 0,[X b_31' [I false,.slice none 0 0]],[])]:=hh
 cases hh
 refine dC (fun h v x y=>∃ag:Value,∃c:Nat,h=[(N c 0,[X c [I false,.slice none 0 0]],[])]∧v=N c 0∧x=[X c [I aR.1,ag],M U ag aR.2]∧y=[]) [(N c 0,[X c [I false,.slice none 0 0]],[])] [X c [I ap.1,z],M U z ap.2] [] _ Z Z (fun h v x y=>Z) Z Z Z Z ⟨_,_,_,undef,c,Z,Z,Z,Z⟩ (by kernel_rfl) Z (fun w Sl Tl hZ hTT b hP a=>?_) Z ?_
 ·have hG:=a.pick (os':=[X c [I ap.1,z],M U z ap.2]++[X bj [I aA.1,a6],M U a6 aA.2,X bi [I aP.1,a5],M U a5 aP.2,X bh [I an.1,a4],M U a4 an.2,X bN [I ba.1,bc],M U bc ba.2,X bM [.pointer none,.pointer none,.pointer none],X bK [N n 0,N o 0,N p 0]]) [0,1,2,3,4,5,6,7,8,9,10,11] (by decide) Z
  refine dh (eR d e f g j m ap.1 bU hG.g ((b.rp 0 Z).g (R Z) hG) ((b.rb 1 Z).g hG) ((b.rp 2 Z).g (R Z) hG) ((b.rb 3 Z).g hG) ((b.rp 4 Z).g (R Z) hG) ((b.rb 5 Z).g hG) ((b.rp 6 Z).g (R Z) hG) ((b.rb 7 Z).g hG) ((b.rp 8 Z).g (R Z) hG) ((b.rb 9 Z).g hG) ((b.rb 10 Z).g hG)) ?_
  rintro _ w ⟨ag,rfl,l⟩
  have a:=hG.h l
  exact ⟨_,_,⟨ag,c,Z,Z,Z,Z⟩,SfT.mk' hZ Q.nil K.nil a⟩
 rintro v_q x_q y_q ⟨ag,b_31',hh,rfl,rfl,rfl⟩
 replace hh:([(N c 0,[X c [I false,.slice none 0 0]],[])]:List Th)=[(N b_31' 0,[X b_31' [I false,.slice none 0 0]],[])]:=hh
 cases hh
 refine dC (fun h v x y=>∃az:Nat,∃ak:Value,v=N az 0∧x=[X az [I aS.1,ak],M U ak aS.2]∧y=[]) [] [X aq [I aQ.1,ad],M U ad aQ.2,X c [I aR.1,ag],M U ag aR.2] [] _ Z Z (fun h v x y=>Z) Z Z Z Z ⟨_,_,_,0,undef,Z,Z,Z⟩ (by kernel_rfl) Z (fun w Sl Tl hZ hTT b hP a=>?_) Z ?_
 ·refine dh (a7 d e f g j m aQ.1 aR.1 bV ((b.rp 0 Z).d a.fr).rp ((b.rb 1 Z).d a.fr) ((b.rp 2 Z).d a.fr).rp ((b.rb 3 Z).d a.fr) ((b.rp 4 Z).d a.fr).rp ((b.rb 5 Z).d a.fr) ((b.rp 6 Z).d a.fr).rp ((b.rb 7 Z).d a.fr) ((b.rp 8 Z).d a.fr).rp ((b.rb 9 Z).d a.fr) ((b.rb 10 Z).d a.fr) (a.ro 1 Z).rp (a.rb 0 Z) (a.ro 3 Z).rp (a.rb 2 Z)) ?_
  rintro _ w ⟨ak,az,rfl,l⟩
  have a:=a.f l
  exact ⟨_,_,⟨az,ak,Z,Z,Z⟩,SfT.mk' hZ Q.nil K.nil (a.e [0,1,6,7,8,9,10,11,12,13,14,15] Z Z)⟩
 rintro v_q x_q y_q ⟨az,ak,rfl,rfl,rfl⟩
 refine dC (fun h v x y=>∃aD:Nat,∃aF:Value,v=N aD 0∧x=[X aD [I aU.1,aF],M U aF aU.2]∧y=[]) [] [X az [I aS.1,ak],M U ak aS.2] [] _ Z Z (fun h v x y=>Z) Z Z Z Z ⟨_,_,_,0,undef,Z,Z,Z⟩ (by kernel_rfl) Z (fun w Sl Tl hZ hTT b hP a=>?_) Z ?_
 ·refine dh (cW d e f g j m 3 aS.1 bW ((b.rp 0 Z).d a.fr).rp ((b.rb 1 Z).d a.fr) ((b.rp 2 Z).d a.fr).rp ((b.rb 3 Z).d a.fr) ((b.rp 4 Z).d a.fr).rp ((b.rb 5 Z).d a.fr) ((b.rp 6 Z).d a.fr).rp ((b.rb 7 Z).d a.fr) ((b.rp 8 Z).d a.fr).rp ((b.rb 9 Z).d a.fr) ((b.rb 10 Z).d a.fr) (a.ro 1 Z).rp (a.rb 0 Z)) ?_
  rintro _ w ⟨aF,aD,rfl,l⟩
  have a:=a.f l
  exact ⟨_,_,⟨aD,aF,Z,Z,Z⟩,SfT.mk' hZ Q.nil K.nil (a.e [0,1,4,5,6,7,8,9,10,11,12,13] Z Z)⟩
 rintro v_q x_q y_q ⟨aD,aF,rfl,rfl,rfl⟩
 refine bu Z Z (fun w Sb wb hZ b hP hF=>aB Z) Z (ib fun w hQ=>?_)
 obtain ⟨co,cl,hZ,b,hP,a⟩:=hQ
 refine O (J (af (P 4 Z ?_)))
 obtain ⟨ca,bX,h⟩:=aj h
 refine ao Z (a7 d e f g j m aU.1 aU.1 bX ((b.rp 0 Z).d a.fr).rp ((b.rb 1 Z).d a.fr) ((b.rp 2 Z).d a.fr).rp ((b.rb 3 Z).d a.fr) ((b.rp 4 Z).d a.fr).rp ((b.rb 5 Z).d a.fr) ((b.rp 6 Z).d a.fr).rp ((b.rb 7 Z).d a.fr) ((b.rp 8 Z).d a.fr).rp ((b.rb 9 Z).d a.fr) ((b.rb 10 Z).d a.fr) (a.ro 1 Z).rp (a.rb 0 Z) (a.ro 1 Z).rp (a.rb 0 Z)) Z ?_
 rintro _ w ⟨cp,cq,rfl,l⟩
 have a:=a.f l
 refine P 2 Z ?_
 obtain ⟨cb,bZ,h⟩:=aj h
 refine ao Z (cW d e f g j m 2 aA.1 bZ ((b.rp 0 Z).d a.fr).rp ((b.rb 1 Z).d a.fr) ((b.rp 2 Z).d a.fr).rp ((b.rb 3 Z).d a.fr) ((b.rp 4 Z).d a.fr).rp ((b.rb 5 Z).d a.fr) ((b.rp 6 Z).d a.fr).rp ((b.rb 7 Z).d a.fr) ((b.rp 8 Z).d a.fr).rp ((b.rb 9 Z).d a.fr) ((b.rb 10 Z).d a.fr) (a.ro 5 Z).rp (a.rb 4 Z)) Z ?_
 rintro _ w ⟨cr,ct,rfl,l⟩
 have a:=a.f l
 obtain ⟨cc,b0,h⟩:=aj h
 refine ao Z (cn d e f g j m ca.1 cb.1 b0 ((b.rp 0 Z).d a.fr).rp ((b.rb 1 Z).d a.fr) ((b.rp 2 Z).d a.fr).rp ((b.rb 3 Z).d a.fr) ((b.rp 4 Z).d a.fr).rp ((b.rb 5 Z).d a.fr) ((b.rp 6 Z).d a.fr).rp ((b.rb 7 Z).d a.fr) ((b.rp 8 Z).d a.fr).rp ((b.rb 9 Z).d a.fr) ((b.rb 10 Z).d a.fr) (a.ro 3 Z).rp (a.rb 2 Z) (a.ro 1 Z).rp (a.rb 0 Z)) Z ?_
 rintro _ w ⟨cd,a8,rfl,l⟩
 have a:=a.f l
 refine P 1 Z ?_
 refine H (O (J (af (P 6 Z ?_))))
 obtain ⟨ce,b1,h⟩:=aj h
 refine ao Z (cn d e f g j m aA.1 cc.1 b1 ((b.rp 0 Z).d a.fr).rp ((b.rb 1 Z).d a.fr) ((b.rp 2 Z).d a.fr).rp ((b.rb 3 Z).d a.fr) ((b.rp 4 Z).d a.fr).rp ((b.rb 5 Z).d a.fr) ((b.rp 6 Z).d a.fr).rp ((b.rb 7 Z).d a.fr) ((b.rp 8 Z).d a.fr).rp ((b.rb 9 Z).d a.fr) ((b.rb 10 Z).d a.fr) (a.ro 9 Z).rp (a.rb 8 Z) (a.ro 1 Z).rp (a.rb 0 Z)) Z ?_
 rintro _ w ⟨cu,cv,rfl,l⟩
 have a:=a.f l
 obtain ⟨cf,b2,h⟩:=aj h
 refine ao Z (a7 d e f g j m aU.1 ce.1 b2 ((b.rp 0 Z).d a.fr).rp ((b.rb 1 Z).d a.fr) ((b.rp 2 Z).d a.fr).rp ((b.rb 3 Z).d a.fr) ((b.rp 4 Z).d a.fr).rp ((b.rb 5 Z).d a.fr) ((b.rp 6 Z).d a.fr).rp ((b.rb 7 Z).d a.fr) ((b.rp 8 Z).d a.fr).rp ((b.rb 9 Z).d a.fr) ((b.rb 10 Z).d a.fr) (a.ro 9 Z).rp (a.rb 8 Z) (a.ro 1 Z).rp (a.rb 0 Z)) Z ?_
 rintro _ w ⟨cx,cy,rfl,l⟩
 have a:=a.f l
 refine P 4 Z ?_
 obtain ⟨cg,b3,h⟩:=aj h
 refine ao Z (a7 d e f g j m an.1 an.1 b3 ((b.rp 0 Z).d a.fr).rp ((b.rb 1 Z).d a.fr) ((b.rp 2 Z).d a.fr).rp ((b.rb 3 Z).d a.fr) ((b.rp 4 Z).d a.fr).rp ((b.rb 5 Z).d a.fr) ((b.rp 6 Z).d a.fr).rp ((b.rb 7 Z).d a.fr) ((b.rp 8 Z).d a.fr).rp ((b.rb 9 Z).d a.fr) ((b.rb 10 Z).d a.fr) (a.ro 17 Z).rp (a.rb 16 Z) (a.ro 17 Z).rp (a.rb 16 Z)) Z ?_
 rintro _ w ⟨cz,cA,rfl,l⟩
 have a:=a.f l
 obtain ⟨ch,b4,h⟩:=aj h
 refine ao Z (cW d e f g j m 8 cg.1 b4 ((b.rp 0 Z).d a.fr).rp ((b.rb 1 Z).d a.fr) ((b.rp 2 Z).d a.fr).rp ((b.rb 3 Z).d a.fr) ((b.rp 4 Z).d a.fr).rp ((b.rb 5 Z).d a.fr) ((b.rp 6 Z).d a.fr).rp ((b.rb 7 Z).d a.fr) ((b.rp 8 Z).d a.fr).rp ((b.rb 9 Z).d a.fr) ((b.rb 10 Z).d a.fr) (a.ro 1 Z).rp (a.rb 0 Z)) Z ?_
 rintro _ w ⟨cB,cC,rfl,l⟩
 have a:=a.f l
 obtain ⟨cE,b5,h⟩:=aj h
 refine ao Z (cn d e f g j m cf.1 ch.1 b5 ((b.rp 0 Z).d a.fr).rp ((b.rb 1 Z).d a.fr) ((b.rp 2 Z).d a.fr).rp ((b.rb 3 Z).d a.fr) ((b.rp 4 Z).d a.fr).rp ((b.rb 5 Z).d a.fr) ((b.rp 6 Z).d a.fr).rp ((b.rb 7 Z).d a.fr) ((b.rp 8 Z).d a.fr).rp ((b.rb 9 Z).d a.fr) ((b.rb 10 Z).d a.fr) (a.ro 5 Z).rp (a.rb 4 Z) (a.ro 1 Z).rp (a.rb 0 Z)) Z ?_
 rintro _ w ⟨ci,a9,rfl,l⟩
 have a:=a.f l
 refine P 1 Z ?_
 refine H (O (J (af (P 4 Z ?_))))
 refine am (av (k:=1) u91 Z Z cw Z) Z (am (aC u73 Z Z (a.r 27 Z 1)) Z (am (av (k:=2) u91 Z Z cw Z) Z (am (aC u73 Z Z (a.r 27 Z 2)) Z ?_)))
 obtain ⟨cj,b6,h⟩:=aj h
 refine ao Z (a7 d e f g j m ab u b6 ((b.rp 0 Z).d a.fr).rp ((b.rb 1 Z).d a.fr) ((b.rp 2 Z).d a.fr).rp ((b.rb 3 Z).d a.fr) ((b.rp 4 Z).d a.fr).rp ((b.rb 5 Z).d a.fr) ((b.rp 6 Z).d a.fr).rp ((b.rb 7 Z).d a.fr) ((b.rp 8 Z).d a.fr).rp ((b.rb 9 Z).d a.fr) ((b.rb 10 Z).d a.fr) ((b.rp 13 Z).d a.fr).rp ((b.rb 14 Z).d a.fr) ((b.rp 15 Z).d a.fr).rp ((b.rb 16 Z).d a.fr)) Z ?_
 rintro _ w ⟨cF,cG,rfl,l⟩
 have a:=a.f l
 obtain ⟨cH,b7,h⟩:=aj h
 refine ao Z (cW d e f g j m 2 cj.1 b7 ((b.rp 0 Z).d a.fr).rp ((b.rb 1 Z).d a.fr) ((b.rp 2 Z).d a.fr).rp ((b.rb 3 Z).d a.fr) ((b.rp 4 Z).d a.fr).rp ((b.rb 5 Z).d a.fr) ((b.rp 6 Z).d a.fr).rp ((b.rb 7 Z).d a.fr) ((b.rp 8 Z).d a.fr).rp ((b.rb 9 Z).d a.fr) ((b.rb 10 Z).d a.fr) (a.ro 1 Z).rp (a.rb 0 Z)) Z ?_
 rintro _ w ⟨ck,aO,rfl,l⟩
 have a:=a.f l
 refine am (bY (vs:=[(0,N a8 0,[N a8 0]),(1,N a9 0,[N a9 0]),(2,N aO 0,[N aO 0])]) (cells:=[N a8 0,N a9 0,N aO 0]) Z mB ⟨Z,Z,Z,V⟩ Z) Z ?_
 refine bk (bl (i:=30) (us:=[N a8 0,N a9 0,N aO 0]) Z bL Z Z Z ⟨Z,Z,Z,V⟩ Z a) ?_
 intro w a
 refine H (O (aw ?_))
 cases h
 obtain ⟨hS0,hR⟩:=hZ.outT hTT b hP a
 exact eN Z ⟨_,Z,bJ (us:=[N a8 0,N a9 0,N aO 0]) u91 Z bL (a.q 30 Z Z)⟩ ⟨a8,cd,a9,ci,aO,ck,Z,hS0,(Y (hR.b 48 Z) (Y (hR.b 47 Z) (Y (hR.b 44 Z) (Y (hR.b 43 Z) (Y (hR.b 34 Z) (Y (hR.b 33 Z) Q.nil))))))⟩
theorem iR {t:World} {aX a0 a1 a2 a3 a4 a5 a6 a8 a9 ba:List UInt32} {ac ad ag ak an z A B C D E:Value} {bE aR aS aU aV aW m n o p q s:Nat} {T:List Nat} (d e f g j:Bool) (l:Int) (G L u aD aF x:Bool) {r:Bool×List UInt32×Bool×List UInt32×Bool×List UInt32}
  (h:F.Cl d aX e a0 f a1 g a2 j a3 l G a4 L a5 u a6 aD a8 aF a9 x ba=some r) (hTT:TOk [] T t) (bK:RP T t U ac aX) (bX:RB T t aR [I d,ac]) (bM:RP T t U ad a0) (bZ:RB T t aS [I e,ad]) (bN:RP T t U ag a1) (b0:RB T t aU [I f,ag]) (bO:RP T t U ak a2) (b1:RB T t aV [I g,ak]) (bP:RP T t U an a3) (b2:RB T t aW [I j,an]) (hBa0:RB T t bE [N aR 0,N aS 0,N aU 0,N aV 0,N aW 0,vI l,.func (.func 168) #[] #[]]) (bQ:RP T t U z a4) (b3:RB T t m [I G,z]) (bR:RP T t U A a5) (b4:RB T t n [I L,A]) (bT:RP T t U B a6) (b5:RB T t o [I u,B]) (bU:RP T t U C a8) (b6:RB T t p [I aD,C]) (bV:RP T t U D a9) (b7:RB T t q [I aF,D]) (bW:RP T t U E ba) (b8:RB T t s [I x,E]):Calls Tryz.prog 84 #[N bE 0,.agg #[N m 0,N n 0,N o 0],.agg #[N p 0,N q 0,N s 0]] t (Ret fun v w=>∃b9:Nat,∃bo:Value,∃ca:Nat,∃bp:Value,∃cb:Nat,∃bq:Value,v=.agg #[N b9 0,N ca 0,N cb 0]∧St [] t w []∧Q T w [X cb [I r.2.2.2.2.1,bq],red U bq r.2.2.2.2.2,X ca [I r.2.2.1,bp],red U bp r.2.2.2.1,X b9 [I r.1,bo],red U bo r.2.1]):=by
 refine aJ 137 Tryz.func84 Z Z Z ?_
 have a:=St.l t
 have hZ:=Fz.l (S:=[]) (w0:=t)
 have hA0:Q T t [X s [I x,E],red U E ba,X q [I aF,D],red U D a9,X p [I aD,C],red U C a8,X o [I u,B],red U B a6,X n [I L,A],red U A a5,X m [I G,z],red U z a4,X bE [N aR 0,N aS 0,N aU 0,N aV 0,N aW 0,vI l,.func (.func 168) #[] #[]],X aW [I j,an],red U an a3,X aV [I g,ak],red U ak a2,X aU [I f,ag],red U ag a1,X aS [I e,ad],red U ad a0,X aR [I d,ac],red U ac aX]:=Y b8.i (Y (RP.i (R Z) bW) (Y b7.i (Y (RP.i (R Z) bV) (Y b6.i (Y (RP.i (R Z) bU) (Y b5.i (Y (RP.i (R Z) bT) (Y b4.i (Y (RP.i (R Z) bR) (Y b3.i (Y (RP.i (R Z) bQ) (Y hBa0.i (Y b2.i (Y (RP.i (R Z) bP) (Y b1.i (Y (RP.i (R Z) bO) (Y b0.i (Y (RP.i (R Z) bN) (Y bZ.i (Y (RP.i (R Z) bM) (Y bX.i (Y (RP.i (R Z) bK) (Q.nil)))))))))))))))))))))))
 have b:=hA0.all
 have y:=hA0.off Z
 refine au [(0,N bE 0),(1,.agg #[N m 0,N n 0,N o 0]),(2,.agg #[N p 0,N q 0,N s 0])] ⟨Z,Z,Z,V⟩ ?_
 unfold F.Cl at h
 refine J (af (aT (da (cs:=[N m 0,N n 0,N o 0]) Z Z a) Z ?_))
 rintro _ w ⟨bF,rfl,a⟩
 refine aT (da (cs:=[N p 0,N q 0,N s 0]) Z Z a) Z ?_
 rintro _ w ⟨bG,rfl,a⟩
 refine aT (aY (cs:=[.pointer none,.pointer none,.pointer none]) eQ Z a) Z ?_
 rintro _ w ⟨bH,rfl,a⟩
 refine H (O (J (J (af (am (av (k:=2) u91 Z Z cw Z) Z (am (aC u73 Z Z (a.r 2 Z 2)) Z ?_))))))
 obtain ⟨dK,c2,h⟩:=aj h
 refine ao Z (cD u c2 ((b.rp 15 Z).d a.fr).rp ((b.rb 16 Z).d a.fr)) Z ?_
 rintro _ w ⟨rfl,c⟩
 have a:=a.f c
 refine P 1 Z ?_
 refine H (O ?_)
 refine ax Z (fun bb=>?_) (fun bb=>?_)
 ·have h:=aI h bb
  refine J (af (am (bI (us:=[N p 0,N q 0,N s 0]) u91 Z bL Z (a.q 1 Z Z)) Z (bk (bl (i:=0) (us:=[N p 0,N q 0,N s 0]) Z bL Z Z Z ⟨Z,Z,Z,V⟩ Z a) ?_)))
  intro w a
  refine H (O (aw (aE ?_)))
  cases h
  obtain ⟨hS0,hR⟩:=hZ.outT hTT b y a
  exact eN Z ⟨_,Z,bJ (us:=[N p 0,N q 0,N s 0]) u91 Z bL (a.q 0 Z Z)⟩ ⟨p,C,q,D,s,E,Z,hS0,(Y (hR.b 22 Z) (Y (hR.b 21 Z) (Y (hR.b 20 Z) (Y (hR.b 19 Z) (Y (hR.b 18 Z) (Y (hR.b 17 Z) Q.nil))))))⟩
 have h:=aH h bb
 refine ay (O (J (J (af (am (av (k:=2) u91 Z Z cw Z) Z (am (aC u73 Z Z (a.r 1 Z 2)) Z ?_))))))
 obtain ⟨dL,c3,h⟩:=aj h
 refine ao Z (cD x c3 ((b.rp 21 Z).d a.fr).rp ((b.rb 22 Z).d a.fr)) Z ?_
 rintro _ w ⟨rfl,c⟩
 have a:=a.f c
 refine P 1 Z ?_
 refine H (O ?_)
 refine ax Z (fun bc=>?_) (fun bc=>?_)
 ·have h:=aI h bc
  refine J (af (am (bI (us:=[N m 0,N n 0,N o 0]) u91 Z bL Z (a.q 2 Z Z)) Z (bk (bl (i:=0) (us:=[N m 0,N n 0,N o 0]) Z bL Z Z Z ⟨Z,Z,Z,V⟩ Z a) ?_)))
  intro w a
  refine H (O (aw (aE ?_)))
  cases h
  obtain ⟨hS0,hR⟩:=hZ.outT hTT b y a
  exact eN Z ⟨_,Z,bJ (us:=[N m 0,N n 0,N o 0]) u91 Z bL (a.q 0 Z Z)⟩ ⟨m,z,n,A,o,B,Z,hS0,(Y (hR.b 16 Z) (Y (hR.b 15 Z) (Y (hR.b 14 Z) (Y (hR.b 13 Z) (Y (hR.b 12 Z) (Y (hR.b 11 Z) Q.nil))))))⟩
 have h:=aH h bc
 refine ay (O (J ?_))
 refine aZ (fun w'=>St [] t w' [X bH [.pointer none,.pointer none,.pointer none],X bG [N p 0,N q 0,N s 0],X bF [N m 0,N n 0,N o 0]]) (fun i=>!([5,11].contains i)) bS (fun _ _ _ hf=>hf.2) (fun _ _ hf=>hf) (by kernel_rfl) ?_
 have a:=a.drew
 show lxE _ _ _ _ _ _ _ [0,1,2,3,4,5,6,7,8,9,10,11,12,13] _ _
 refine al a Z Z (fun w hF=>ar Z) Z (al a Z Z (fun w hF=>av (k:=2) u91 Z Z cw Z) Z (al a Z Z (fun w hF=>aC u73 Z Z (hF.r 2 Z 2)) Z (al a Z Z (fun w hF=>av (k:=2) u91 Z Z cw Z) Z (al a Z Z (fun w hF=>aC u73 Z Z (hF.r 2 Z 2)) Z ?_))))
 obtain ⟨aQ,c4,h⟩:=aj h
 refine bg a Z Z (by kernel_rfl) Z (a7 d e f g j l u u c4 ((b.rp 0 Z).d a.fr).rp ((b.rb 1 Z).d a.fr) ((b.rp 2 Z).d a.fr).rp ((b.rb 3 Z).d a.fr) ((b.rp 4 Z).d a.fr).rp ((b.rb 5 Z).d a.fr) ((b.rp 6 Z).d a.fr).rp ((b.rb 7 Z).d a.fr) ((b.rp 8 Z).d a.fr).rp ((b.rb 9 Z).d a.fr) ((b.rb 10 Z).d a.fr) ((b.rp 15 Z).d a.fr).rp ((b.rb 16 Z).d a.fr) ((b.rp 15 Z).d a.fr).rp ((b.rb 16 Z).d a.fr)) Z ?_
 rintro _ w ⟨aG,bu,rfl,c⟩
 have a:=a.f c
 refine al (a.e [2,3,4] Z Z) Z Z (fun w hF=>ar Z) Z (al (a.e [2,3,4] Z Z) Z Z (fun w hF=>av (k:=2) u91 Z Z cw Z) Z (al (a.e [2,3,4] Z Z) Z Z (fun w hF=>aC u73 Z Z (hF.r 1 Z 2)) Z (al (a.e [2,3,4] Z Z) Z Z (fun w hF=>av (k:=2) u91 Z Z cw Z) Z (al (a.e [2,3,4] Z Z) Z Z (fun w hF=>aC u73 Z Z (hF.r 1 Z 2)) Z ?_))))
 obtain ⟨ab,cz,h⟩:=aj h
 refine bg (a.e [2,3,4] Z Z) Z Z (by kernel_rfl) Z (a7 d e f g j l x x cz ((b.rp 0 Z).d a.fr).rp ((b.rb 1 Z).d a.fr) ((b.rp 2 Z).d a.fr).rp ((b.rb 3 Z).d a.fr) ((b.rp 4 Z).d a.fr).rp ((b.rb 5 Z).d a.fr) ((b.rp 6 Z).d a.fr).rp ((b.rb 7 Z).d a.fr) ((b.rp 8 Z).d a.fr).rp ((b.rb 9 Z).d a.fr) ((b.rb 10 Z).d a.fr) ((b.rp 21 Z).d a.fr).rp ((b.rb 22 Z).d a.fr) ((b.rp 21 Z).d a.fr).rp ((b.rb 22 Z).d a.fr)) Z ?_
 rintro _ w ⟨aK,bv,rfl,c⟩
 have a:=a.f c
 refine al (a.e [4,5,6] Z Z) Z Z (fun w hF=>aB Z) Z (al (a.e [4,5,6] Z Z) Z Z (fun w hF=>aB Z) Z (bn (a.e [4,5,6] Z Z) ?_))
 refine O (J ?_)
 refine aZ (fun w'=>St [] t w' [X bv [I ab.1,aK],M U aK ab.2,X bu [I aQ.1,aG],M U aG aQ.2,X bH [.pointer none,.pointer none,.pointer none],X bG [N p 0,N q 0,N s 0],X bF [N m 0,N n 0,N o 0]]) (fun i=>!([4,9].contains i)) bS (fun _ _ _ hf=>hf.2) (fun _ _ hf=>hf) (by kernel_rfl) ?_
 have a:=a.drew
 show lxE _ _ _ _ _ _ _ [0,1,2,3,4,5,6,7,8,9,10,11] _ _
 refine al a Z Z (fun w hF=>ar Z) Z (al a Z Z (fun w hF=>av (k:=0) u91 Z Z cw Z) Z (al a Z Z (fun w hF=>aC u73 Z Z (hF.r 6 Z 0)) Z (al a Z Z (fun w hF=>ar Z) Z ?_)))
 obtain ⟨aL,cA,h⟩:=aj h
 refine bg a Z Z (by kernel_rfl) Z (a7 d e f g j l G ab.1 cA ((b.rp 0 Z).d a.fr).rp ((b.rb 1 Z).d a.fr) ((b.rp 2 Z).d a.fr).rp ((b.rb 3 Z).d a.fr) ((b.rp 4 Z).d a.fr).rp ((b.rb 5 Z).d a.fr) ((b.rp 6 Z).d a.fr).rp ((b.rb 7 Z).d a.fr) ((b.rp 8 Z).d a.fr).rp ((b.rb 9 Z).d a.fr) ((b.rb 10 Z).d a.fr) ((b.rp 11 Z).d a.fr).rp ((b.rb 12 Z).d a.fr) (a.ro 1 Z).rp (a.rb 0 Z)) Z ?_
 rintro _ w ⟨bh,cc,rfl,c⟩
 have a:=a.f c
 refine al (a.e [2,3,4,5,6,7,8] Z Z) Z Z (fun w hF=>ar Z) Z (al (a.e [2,3,4,5,6,7,8] Z Z) Z Z (fun w hF=>av (k:=0) u91 Z Z cw Z) Z (al (a.e [2,3,4,5,6,7,8] Z Z) Z Z (fun w hF=>aC u73 Z Z (hF.r 5 Z 0)) Z (al (a.e [2,3,4,5,6,7,8] Z Z) Z Z (fun w hF=>ar Z) Z ?_)))
 obtain ⟨be,cB,h⟩:=aj h
 refine bg (a.e [2,3,4,5,6,7,8] Z Z) Z Z (by kernel_rfl) Z (a7 d e f g j l aD aQ.1 cB ((b.rp 0 Z).d a.fr).rp ((b.rb 1 Z).d a.fr) ((b.rp 2 Z).d a.fr).rp ((b.rb 3 Z).d a.fr) ((b.rp 4 Z).d a.fr).rp ((b.rb 5 Z).d a.fr) ((b.rp 6 Z).d a.fr).rp ((b.rb 7 Z).d a.fr) ((b.rp 8 Z).d a.fr).rp ((b.rb 9 Z).d a.fr) ((b.rb 10 Z).d a.fr) ((b.rp 17 Z).d a.fr).rp ((b.rb 18 Z).d a.fr) (a.ro 5 Z).rp (a.rb 4 Z)) Z ?_
 rintro _ w ⟨bi,cd,rfl,c⟩
 have a:=a.f c
 refine al (a.e [4,5,6,7,8,9,10] Z Z) Z Z (fun w hF=>aB Z) Z (al (a.e [4,5,6,7,8,9,10] Z Z) Z Z (fun w hF=>aB Z) Z (bn (a.e [4,5,6,7,8,9,10] Z Z) ?_))
 refine O (J ?_)
 refine aZ (fun w'=>St [] t w' [X cd [I be.1,bi],M U bi be.2,X cc [I aL.1,bh],M U bh aL.2,X bv [I ab.1,aK],M U aK ab.2,X bu [I aQ.1,aG],M U aG aQ.2,X bH [.pointer none,.pointer none,.pointer none],X bG [N p 0,N q 0,N s 0],X bF [N m 0,N n 0,N o 0]]) (fun i=>!([7,8,16,17].contains i)) bS (fun _ _ _ hf=>hf.2) (fun _ _ hf=>hf) (by kernel_rfl) ?_
 have a:=a.drew
 show lxE _ _ _ _ _ _ _ [0,1,2,3,4,5,6,7,8,9,10,11,12,13,14,15,16,17,18,19] _ _
 refine al a Z Z (fun w hF=>ar Z) Z (al a Z Z (fun w hF=>av (k:=1) u91 Z Z cw Z) Z (al a Z Z (fun w hF=>aC u73 Z Z (hF.r 10 Z 1)) Z (al a Z Z (fun w hF=>ar Z) Z (al a Z Z (fun w hF=>av (k:=2) u91 Z Z cw Z) Z (al a Z Z (fun w hF=>aC u73 Z Z (hF.r 9 Z 2)) Z (al a Z Z (fun w hF=>ar Z) Z ?_))))))
 obtain ⟨bw,cC,h⟩:=aj h
 refine bg a Z Z (by kernel_rfl) Z (a7 d e f g j l x ab.1 cC ((b.rp 0 Z).d a.fr).rp ((b.rb 1 Z).d a.fr) ((b.rp 2 Z).d a.fr).rp ((b.rb 3 Z).d a.fr) ((b.rp 4 Z).d a.fr).rp ((b.rb 5 Z).d a.fr) ((b.rp 6 Z).d a.fr).rp ((b.rb 7 Z).d a.fr) ((b.rp 8 Z).d a.fr).rp ((b.rb 9 Z).d a.fr) ((b.rb 10 Z).d a.fr) ((b.rp 21 Z).d a.fr).rp ((b.rb 22 Z).d a.fr) (a.ro 5 Z).rp (a.rb 4 Z)) Z ?_
 rintro _ w ⟨ce,c5,rfl,c⟩
 have a:=a.f c
 obtain ⟨bj,cE,h⟩:=aj h
 refine bg (a.e [2,3,4,5,6,7,8,9,10,11,12] Z Z) Z Z (by kernel_rfl) Z (a7 d e f g j l L bw.1 cE ((b.rp 0 Z).d a.fr).rp ((b.rb 1 Z).d a.fr) ((b.rp 2 Z).d a.fr).rp ((b.rb 3 Z).d a.fr) ((b.rp 4 Z).d a.fr).rp ((b.rb 5 Z).d a.fr) ((b.rp 6 Z).d a.fr).rp ((b.rb 7 Z).d a.fr) ((b.rp 8 Z).d a.fr).rp ((b.rb 9 Z).d a.fr) ((b.rb 10 Z).d a.fr) ((b.rp 13 Z).d a.fr).rp ((b.rb 14 Z).d a.fr) (a.ro 1 Z).rp (a.rb 0 Z)) Z ?_
 rintro _ w ⟨cf,c6,rfl,c⟩
 have a:=a.f c
 refine al (a.e [4,5,6,7,8,9,10,11,12,13,14] Z Z) Z Z (fun w hF=>ar Z) Z (al (a.e [4,5,6,7,8,9,10,11,12,13,14] Z Z) Z Z (fun w hF=>av (k:=1) u91 Z Z cw Z) Z (al (a.e [4,5,6,7,8,9,10,11,12,13,14] Z Z) Z Z (fun w hF=>aC u73 Z Z (hF.r 9 Z 1)) Z (al (a.e [4,5,6,7,8,9,10,11,12,13,14] Z Z) Z Z (fun w hF=>ar Z) Z (al (a.e [4,5,6,7,8,9,10,11,12,13,14] Z Z) Z Z (fun w hF=>av (k:=2) u91 Z Z cw Z) Z (al (a.e [4,5,6,7,8,9,10,11,12,13,14] Z Z) Z Z (fun w hF=>aC u73 Z Z (hF.r 10 Z 2)) Z (al (a.e [4,5,6,7,8,9,10,11,12,13,14] Z Z) Z Z (fun w hF=>ar Z) Z ?_))))))
 obtain ⟨bz,cF,h⟩:=aj h
 refine bg (a.e [4,5,6,7,8,9,10,11,12,13,14] Z Z) Z Z (by kernel_rfl) Z (a7 d e f g j l u aQ.1 cF ((b.rp 0 Z).d a.fr).rp ((b.rb 1 Z).d a.fr) ((b.rp 2 Z).d a.fr).rp ((b.rb 3 Z).d a.fr) ((b.rp 4 Z).d a.fr).rp ((b.rb 5 Z).d a.fr) ((b.rp 6 Z).d a.fr).rp ((b.rb 7 Z).d a.fr) ((b.rp 8 Z).d a.fr).rp ((b.rb 9 Z).d a.fr) ((b.rb 10 Z).d a.fr) ((b.rp 15 Z).d a.fr).rp ((b.rb 16 Z).d a.fr) (a.ro 11 Z).rp (a.rb 10 Z)) Z ?_
 rintro _ w ⟨cg,c7,rfl,c⟩
 have a:=a.f c
 obtain ⟨bA,cG,h⟩:=aj h
 refine bg (a.e [6,7,8,9,10,11,12,13,14,15,16] Z Z) Z Z (by kernel_rfl) Z (a7 d e f g j l aF bz.1 cG ((b.rp 0 Z).d a.fr).rp ((b.rb 1 Z).d a.fr) ((b.rp 2 Z).d a.fr).rp ((b.rb 3 Z).d a.fr) ((b.rp 4 Z).d a.fr).rp ((b.rb 5 Z).d a.fr) ((b.rp 6 Z).d a.fr).rp ((b.rb 7 Z).d a.fr) ((b.rp 8 Z).d a.fr).rp ((b.rb 9 Z).d a.fr) ((b.rb 10 Z).d a.fr) ((b.rp 19 Z).d a.fr).rp ((b.rb 20 Z).d a.fr) (a.ro 1 Z).rp (a.rb 0 Z)) Z ?_
 rintro _ w ⟨ch,c8,rfl,c⟩
 have a:=a.f c
 refine al (a.e [8,9,10,11,12,13,14,15,16,17,18] Z Z) Z Z (fun w hF=>aB Z) Z (al (a.e [8,9,10,11,12,13,14,15,16,17,18] Z Z) Z Z (fun w hF=>aB Z) Z (bn (a.e [8,9,10,11,12,13,14,15,16,17,18] Z Z) ?_))
 refine O (J (af (P 3 Z ?_)))
 obtain ⟨aA,cH,h⟩:=aj h
 refine ao Z (cn d e f g j l be.1 aL.1 cH ((b.rp 0 Z).d a.fr).rp ((b.rb 1 Z).d a.fr) ((b.rp 2 Z).d a.fr).rp ((b.rb 3 Z).d a.fr) ((b.rp 4 Z).d a.fr).rp ((b.rb 5 Z).d a.fr) ((b.rp 6 Z).d a.fr).rp ((b.rb 7 Z).d a.fr) ((b.rp 8 Z).d a.fr).rp ((b.rb 9 Z).d a.fr) ((b.rb 10 Z).d a.fr) (a.ro 9 Z).rp (a.rb 8 Z) (a.ro 11 Z).rp (a.rb 10 Z)) Z ?_
 rintro _ w ⟨ci,c9,rfl,c⟩
 have a:=a.f c
 refine P 3 Z ?_
 obtain ⟨aM,cI,h⟩:=aj h
 refine ao Z (cn d e f g j l bA.1 bj.1 cI ((b.rp 0 Z).d a.fr).rp ((b.rb 1 Z).d a.fr) ((b.rp 2 Z).d a.fr).rp ((b.rb 3 Z).d a.fr) ((b.rp 4 Z).d a.fr).rp ((b.rb 5 Z).d a.fr) ((b.rp 6 Z).d a.fr).rp ((b.rb 7 Z).d a.fr) ((b.rp 8 Z).d a.fr).rp ((b.rb 9 Z).d a.fr) ((b.rb 10 Z).d a.fr) (a.ro 3 Z).rp (a.rb 2 Z) (a.ro 7 Z).rp (a.rb 6 Z)) Z ?_
 rintro _ w ⟨cj,db,rfl,c⟩
 have a:=a.f c
 refine P 2 Z ?_
 refine H (O (J (J (af (P 1 Z ?_)))))
 obtain ⟨dx,cJ,h⟩:=aj h
 refine ao Z (cD aA.1 cJ (a.ro 3 Z).rp (a.rb 2 Z)) Z ?_
 rintro _ w ⟨rfl,c⟩
 have a:=a.f c
 refine P 1 Z ?_
 refine H (O ?_)
 refine ax Z (fun bf=>?_) (fun bf=>?_)
 ·have h:=aI h bf
  refine J (J (af (P 1 Z ?_)))
  obtain ⟨dy,cK,h⟩:=aj h
  refine ao Z (cD aM.1 cK (a.ro 1 Z).rp (a.rb 0 Z)) Z ?_
  rintro _ w ⟨rfl,c⟩
  have a:=a.f c
  refine P 1 Z ?_
  refine H (O ?_)
  refine ax Z (fun bm=>?_) (fun bm=>?_)
  ·have h:=aI h bm
   refine J (af (P 1 Z ?_))
   refine am (bI (us:=[N m 0,N n 0,N o 0]) u91 Z bL Z (a.q 22 Z Z)) Z ?_
   replace a:=a.pick (os':=[X db [I aM.1,cj],M U cj aM.2,X c9 [I aA.1,ci],M U ci aA.2,X c8 [I bA.1,ch],M U ch bA.2,X c7 [I bz.1,cg],M U cg bz.2,X c6 [I bj.1,cf],M U cf bj.2,X c5 [I bw.1,ce],M U ce bw.2,X cd [I be.1,bi],M U bi be.2,X cc [I aL.1,bh],M U bh aL.2,X bv [I ab.1,aK],M U aK ab.2,X bu [I aQ.1,aG],M U aG aQ.2]++[X bH [.pointer none,.pointer none,.pointer none],X bG [N p 0,N q 0,N s 0],X bF [N m 0,N n 0,N o 0]]) [0,1,2,3,4,5,6,7,8,9,10,11,12,13,14,15,16,17,18,19,20,21,22] (by decide) rfl
   obtain ⟨hZ,b,y,a⟩:=hZ.frzK hTT b y a
   obtain ⟨dz,cL,h⟩:=aj h
   refine ao Z (gK d e f g j l G L u cL (hZ.okT hTT a) (b.j y 0 Z) (b.k y 1 Z) (b.j y 2 Z) (b.k y 3 Z) (b.j y 4 Z) (b.k y 5 Z) (b.j y 6 Z) (b.k y 7 Z) (b.j y 8 Z) (b.k y 9 Z) (b.k y 10 Z) (b.j y 11 Z) (b.k y 12 Z) (b.j y 13 Z) (b.k y 14 Z) (b.j y 15 Z) (b.k y 16 Z)) Z ?_
   rintro _ w ⟨aN,br,aO,bs,aP,bt,rfl,c,dg⟩
   obtain ⟨dA,dh,hZ,b,y,a⟩:=hZ.m b y a c dg rfl
   refine bk (bl (i:=0) (us:=[N aN 0,N aO 0,N aP 0]) Z bL Z Z Z ⟨Z,Z,Z,V⟩ Z a) ?_
   intro w a
   refine H (O (aw (aE (aE ?_))))
   cases h
   obtain ⟨hS0,hR⟩:=hZ.outT hTT b y a
   exact eN Z ⟨_,Z,bJ (us:=[N aN 0,N aO 0,N aP 0]) u91 Z bL (a.q 0 Z Z)⟩ ⟨aN,br,aO,bs,aP,bt,Z,hS0,(Y (hR.b 48 Z) (Y (hR.b 47 Z) (Y (hR.b 46 Z) (Y (hR.b 45 Z) (Y (hR.b 44 Z) (Y (hR.b 43 Z) Q.nil))))))⟩
  have h:=aH h bm
  refine ay (O (J (af ?_)))
  obtain ⟨dB,cM,h⟩:=aj h
  refine ao Z (eo  cM ) Z ?_
  rintro _ w ⟨dc,dd,de,bB,bC,bD,rfl,c⟩
  have a:=a.f c
  refine bk (bl (i:=26) (us:=[N bB 0,N bC 0,N bD 0]) Z bL Z Z Z ⟨Z,Z,Z,V⟩ Z a) ?_
  intro w a
  refine H (O (aw (aE ?_)))
  cases h
  obtain ⟨hS0,hR⟩:=hZ.outT hTT b y a
  exact eN Z ⟨_,Z,bJ (us:=[N bB 0,N bC 0,N bD 0]) u91 Z bL (a.q 26 Z Z)⟩ ⟨bB,dc,bC,dd,bD,de,Z,hS0,(Y (hR.b 47 Z) (Y (hR.b 46 Z) (Y (hR.b 49 Z) (Y (hR.b 48 Z) (Y (hR.b 51 Z) (Y (hR.b 50 Z) Q.nil))))))⟩
 have h:=aH h bf
 refine ay (O (J (af (P 3 Z ?_))))
 obtain ⟨ck,cN,h⟩:=aj h
 refine ao Z (a7 d e f g j l aA.1 aA.1 cN ((b.rp 0 Z).d a.fr).rp ((b.rb 1 Z).d a.fr) ((b.rp 2 Z).d a.fr).rp ((b.rb 3 Z).d a.fr) ((b.rp 4 Z).d a.fr).rp ((b.rb 5 Z).d a.fr) ((b.rp 6 Z).d a.fr).rp ((b.rb 7 Z).d a.fr) ((b.rp 8 Z).d a.fr).rp ((b.rb 9 Z).d a.fr) ((b.rb 10 Z).d a.fr) (a.ro 3 Z).rp (a.rb 2 Z) (a.ro 3 Z).rp (a.rb 2 Z)) Z ?_
 rintro _ w ⟨dC,dD,rfl,c⟩
 have a:=a.f c
 refine P 1 Z ?_
 refine H (O (J (af (P 3 Z ?_))))
 obtain ⟨cl,cO,h⟩:=aj h
 refine ao Z (a7 d e f g j l aA.1 ck.1 cO ((b.rp 0 Z).d a.fr).rp ((b.rb 1 Z).d a.fr) ((b.rp 2 Z).d a.fr).rp ((b.rb 3 Z).d a.fr) ((b.rp 4 Z).d a.fr).rp ((b.rb 5 Z).d a.fr) ((b.rp 6 Z).d a.fr).rp ((b.rb 7 Z).d a.fr) ((b.rp 8 Z).d a.fr).rp ((b.rb 9 Z).d a.fr) ((b.rb 10 Z).d a.fr) (a.ro 5 Z).rp (a.rb 4 Z) (a.ro 1 Z).rp (a.rb 0 Z)) Z ?_
 rintro _ w ⟨dE,dF,rfl,c⟩
 have a:=a.f c
 refine P 3 Z ?_
 obtain ⟨cm,cP,h⟩:=aj h
 refine ao Z (a7 d e f g j l aL.1 ck.1 cP ((b.rp 0 Z).d a.fr).rp ((b.rb 1 Z).d a.fr) ((b.rp 2 Z).d a.fr).rp ((b.rb 3 Z).d a.fr) ((b.rp 4 Z).d a.fr).rp ((b.rb 5 Z).d a.fr) ((b.rp 6 Z).d a.fr).rp ((b.rb 7 Z).d a.fr) ((b.rp 8 Z).d a.fr).rp ((b.rb 9 Z).d a.fr) ((b.rb 10 Z).d a.fr) (a.ro 19 Z).rp (a.rb 18 Z) (a.ro 3 Z).rp (a.rb 2 Z)) Z ?_
 rintro _ w ⟨dG,dH,rfl,c⟩
 have a:=a.f c
 refine P 2 Z ?_
 refine H (O (J (af (P 5 Z ?_))))
 obtain ⟨df,cQ,h⟩:=aj h
 refine ao Z (a7 d e f g j l aM.1 aM.1 cQ ((b.rp 0 Z).d a.fr).rp ((b.rb 1 Z).d a.fr) ((b.rp 2 Z).d a.fr).rp ((b.rb 3 Z).d a.fr) ((b.rp 4 Z).d a.fr).rp ((b.rb 5 Z).d a.fr) ((b.rp 6 Z).d a.fr).rp ((b.rb 7 Z).d a.fr) ((b.rp 8 Z).d a.fr).rp ((b.rb 9 Z).d a.fr) ((b.rb 10 Z).d a.fr) (a.ro 7 Z).rp (a.rb 6 Z) (a.ro 7 Z).rp (a.rb 6 Z)) Z ?_
 rintro _ w ⟨dI,dJ,rfl,c⟩
 have a:=a.f c
 refine P 1 Z ?_
 obtain ⟨cR,co,h⟩:=aj h
 refine ao Z (cn d e f g j l df.1 cl.1 co ((b.rp 0 Z).d a.fr).rp ((b.rb 1 Z).d a.fr) ((b.rp 2 Z).d a.fr).rp ((b.rb 3 Z).d a.fr) ((b.rp 4 Z).d a.fr).rp ((b.rb 5 Z).d a.fr) ((b.rp 6 Z).d a.fr).rp ((b.rb 7 Z).d a.fr) ((b.rp 8 Z).d a.fr).rp ((b.rb 9 Z).d a.fr) ((b.rb 10 Z).d a.fr) (a.ro 1 Z).rp (a.rb 0 Z) (a.ro 5 Z).rp (a.rb 4 Z)) Z ?_
 rintro _ w ⟨di,dj,rfl,c⟩
 have a:=a.f c
 refine P 2 Z ?_
 obtain ⟨cS,cp,h⟩:=aj h
 refine ao Z (cW d e f g j l 2 cm.1 cp ((b.rp 0 Z).d a.fr).rp ((b.rb 1 Z).d a.fr) ((b.rp 2 Z).d a.fr).rp ((b.rb 3 Z).d a.fr) ((b.rp 4 Z).d a.fr).rp ((b.rb 5 Z).d a.fr) ((b.rp 6 Z).d a.fr).rp ((b.rb 7 Z).d a.fr) ((b.rp 8 Z).d a.fr).rp ((b.rb 9 Z).d a.fr) ((b.rb 10 Z).d a.fr) (a.ro 5 Z).rp (a.rb 4 Z)) Z ?_
 rintro _ w ⟨dk,dl,rfl,c⟩
 have a:=a.f c
 obtain ⟨cT,cq,h⟩:=aj h
 refine ao Z (cn d e f g j l cR.1 cS.1 cq ((b.rp 0 Z).d a.fr).rp ((b.rb 1 Z).d a.fr) ((b.rp 2 Z).d a.fr).rp ((b.rb 3 Z).d a.fr) ((b.rp 4 Z).d a.fr).rp ((b.rb 5 Z).d a.fr) ((b.rp 6 Z).d a.fr).rp ((b.rb 7 Z).d a.fr) ((b.rp 8 Z).d a.fr).rp ((b.rb 9 Z).d a.fr) ((b.rb 10 Z).d a.fr) (a.ro 3 Z).rp (a.rb 2 Z) (a.ro 1 Z).rp (a.rb 0 Z)) Z ?_
 rintro _ w ⟨cU,ap,rfl,c⟩
 have a:=a.f c
 refine P 1 Z ?_
 refine H (O (J (af (P 6 Z ?_))))
 obtain ⟨cV,cr,h⟩:=aj h
 refine ao Z (cn d e f g j l cm.1 cT.1 cr ((b.rp 0 Z).d a.fr).rp ((b.rb 1 Z).d a.fr) ((b.rp 2 Z).d a.fr).rp ((b.rb 3 Z).d a.fr) ((b.rp 4 Z).d a.fr).rp ((b.rb 5 Z).d a.fr) ((b.rp 6 Z).d a.fr).rp ((b.rb 7 Z).d a.fr) ((b.rp 8 Z).d a.fr).rp ((b.rb 9 Z).d a.fr) ((b.rb 10 Z).d a.fr) (a.ro 9 Z).rp (a.rb 8 Z) (a.ro 1 Z).rp (a.rb 0 Z)) Z ?_
 rintro _ w ⟨dm,dn,rfl,c⟩
 have a:=a.f c
 obtain ⟨cX,ct,h⟩:=aj h
 refine ao Z (a7 d e f g j l aM.1 cV.1 ct ((b.rp 0 Z).d a.fr).rp ((b.rb 1 Z).d a.fr) ((b.rp 2 Z).d a.fr).rp ((b.rb 3 Z).d a.fr) ((b.rp 4 Z).d a.fr).rp ((b.rb 5 Z).d a.fr) ((b.rp 6 Z).d a.fr).rp ((b.rb 7 Z).d a.fr) ((b.rp 8 Z).d a.fr).rp ((b.rb 9 Z).d a.fr) ((b.rb 10 Z).d a.fr) (a.ro 17 Z).rp (a.rb 16 Z) (a.ro 1 Z).rp (a.rb 0 Z)) Z ?_
 rintro _ w ⟨dp,dq,rfl,c⟩
 have a:=a.f c
 refine P 3 Z ?_
 obtain ⟨cY,cu,h⟩:=aj h
 refine ao Z (a7 d e f g j l bj.1 cl.1 cu ((b.rp 0 Z).d a.fr).rp ((b.rb 1 Z).d a.fr) ((b.rp 2 Z).d a.fr).rp ((b.rb 3 Z).d a.fr) ((b.rp 4 Z).d a.fr).rp ((b.rb 5 Z).d a.fr) ((b.rp 6 Z).d a.fr).rp ((b.rb 7 Z).d a.fr) ((b.rp 8 Z).d a.fr).rp ((b.rb 9 Z).d a.fr) ((b.rb 10 Z).d a.fr) (a.ro 27 Z).rp (a.rb 26 Z) (a.ro 15 Z).rp (a.rb 14 Z)) Z ?_
 rintro _ w ⟨dr,ds,rfl,c⟩
 have a:=a.f c
 obtain ⟨dt,cv,h⟩:=aj h
 refine ao Z (cn d e f g j l cX.1 cY.1 cv ((b.rp 0 Z).d a.fr).rp ((b.rb 1 Z).d a.fr) ((b.rp 2 Z).d a.fr).rp ((b.rb 3 Z).d a.fr) ((b.rp 4 Z).d a.fr).rp ((b.rb 5 Z).d a.fr) ((b.rp 6 Z).d a.fr).rp ((b.rb 7 Z).d a.fr) ((b.rp 8 Z).d a.fr).rp ((b.rb 9 Z).d a.fr) ((b.rb 10 Z).d a.fr) (a.ro 3 Z).rp (a.rb 2 Z) (a.ro 1 Z).rp (a.rb 0 Z)) Z ?_
 rintro _ w ⟨cZ,aq,rfl,c⟩
 have a:=a.f c
 refine P 1 Z ?_
 refine H (O (J (af (P 5 Z ?_))))
 refine am (av (k:=2) u91 Z Z cw Z) Z (am (aC u73 Z Z (a.r 44 Z 2)) Z (am (av (k:=2) u91 Z Z cw Z) Z (am (aC u73 Z Z (a.r 43 Z 2)) Z ?_)))
 obtain ⟨c0,cx,h⟩:=aj h
 refine ao Z (a7 d e f g j l u x cx ((b.rp 0 Z).d a.fr).rp ((b.rb 1 Z).d a.fr) ((b.rp 2 Z).d a.fr).rp ((b.rb 3 Z).d a.fr) ((b.rp 4 Z).d a.fr).rp ((b.rb 5 Z).d a.fr) ((b.rp 6 Z).d a.fr).rp ((b.rb 7 Z).d a.fr) ((b.rp 8 Z).d a.fr).rp ((b.rb 9 Z).d a.fr) ((b.rb 10 Z).d a.fr) ((b.rp 15 Z).d a.fr).rp ((b.rb 16 Z).d a.fr) ((b.rp 21 Z).d a.fr).rp ((b.rb 22 Z).d a.fr)) Z ?_
 rintro _ w ⟨du,dv,rfl,c⟩
 have a:=a.f c
 obtain ⟨dw,cy,h⟩:=aj h
 refine ao Z (a7 d e f g j l aA.1 c0.1 cy ((b.rp 0 Z).d a.fr).rp ((b.rb 1 Z).d a.fr) ((b.rp 2 Z).d a.fr).rp ((b.rb 3 Z).d a.fr) ((b.rp 4 Z).d a.fr).rp ((b.rb 5 Z).d a.fr) ((b.rp 6 Z).d a.fr).rp ((b.rb 7 Z).d a.fr) ((b.rp 8 Z).d a.fr).rp ((b.rb 9 Z).d a.fr) ((b.rb 10 Z).d a.fr) (a.ro 27 Z).rp (a.rb 26 Z) (a.ro 1 Z).rp (a.rb 0 Z)) Z ?_
 rintro _ w ⟨c1,az,rfl,c⟩
 have a:=a.f c
 refine am (bY (vs:=[(0,N ap 0,[N ap 0]),(1,N aq 0,[N aq 0]),(2,N az 0,[N az 0])]) (cells:=[N ap 0,N aq 0,N az 0]) Z mB ⟨Z,Z,Z,V⟩ Z) Z ?_
 refine bk (bl (i:=46) (us:=[N ap 0,N aq 0,N az 0]) Z bL Z Z Z ⟨Z,Z,Z,V⟩ Z a) ?_
 intro w a
 refine H (O (aw ?_))
 cases h
 obtain ⟨hS0,hR⟩:=hZ.outT hTT b y a
 exact eN Z ⟨_,Z,bJ (us:=[N ap 0,N aq 0,N az 0]) u91 Z bL (a.q 46 Z Z)⟩ ⟨ap,cU,aq,cZ,az,c1,Z,hS0,(Y (hR.b 71 Z) (Y (hR.b 70 Z) (Y (hR.b 67 Z) (Y (hR.b 66 Z) (Y (hR.b 59 Z) (Y (hR.b 58 Z) Q.nil))))))⟩
theorem iA {d:World} {aA aD aF aG aL aM aN aO:List UInt32} {S T ab ac ad ag ak an:Value} {a3 aS aU aV aW aX m n o:Nat} (b e f g j:Bool) (C:Int) (G L x:Bool) {r:List UInt32×List UInt32×Bool}
  (h:F.Cn b aA e aD f aF g aG j aL C G aM L aN x aO=some r) (l:RP [] d U S aA) (p:RB [] d aS [I b,S]) (q:RP [] d U T aD) (y:RB [] d aU [I e,T]) (s:RP [] d U ab aF) (z:RB [] d aV [I f,ab]) (t:RP [] d U ac aG) (A:RB [] d aW [I g,ac]) (u:RP [] d U ad aL) (B:RB [] d aX [I j,ad]) (hBa0:RB [] d a3 [N aS 0,N aU 0,N aV 0,N aW 0,N aX 0,vI C,.func (.func 168) #[] #[]]) (a0:RP [] d U ag aM) (a4:RB [] d m [I G,ag]) (a1:RP [] d U ak aN) (a5:RB [] d n [I L,ak]) (ap:RP [] d U an aO) (aP:RB [] d o [I x,an]):Calls Tryz.prog 73 #[N a3 0,.agg #[N m 0,N n 0,N o 0]] d (Ret fun v w=>∃a6 a8:Value,v=.agg #[a6,a8,I r.2.2]∧St [] d w [M U a6 r.1,M U a8 r.2.1]):=by
 refine aJ 40 Tryz.func73 Z Z Z ?_
 have a:=St.l d
 refine au [(0,N a3 0),(1,.agg #[N m 0,N n 0,N o 0])] ⟨Z,Z,V⟩ ?_
 unfold F.Cn at h
 refine J (af (aT (da (cs:=[N m 0,N n 0,N o 0]) Z Z a) Z ?_))
 rintro _ w ⟨a9,rfl,a⟩
 refine aT (aY (cs:=[.slice none 0 0,.slice none 0 0,I false]) jc Z a) Z ?_
 rintro _ w ⟨ba,rfl,a⟩
 refine H (O (J (J (af (am (av (k:=2) u91 Z Z cw Z) Z (am (aC u73 Z Z (a.r 1 Z 2)) Z ?_))))))
 obtain ⟨bG,bq,h⟩:=aj h
 refine ao Z (cD x bq (ap.d a.fr).rp (aP.d a.fr)) Z ?_
 rintro _ w ⟨rfl,c⟩
 have a:=a.f c
 refine P 1 Z ?_
 refine H (O ?_)
 refine ax Z (fun aq=>?_) (fun aq=>?_)
 ·have h:=aI h aq
  refine J (af (am (bY (vs:=[(2,I true,[I true])]) (cells:=[.slice none 0 0,.slice none 0 0,I true]) Z fo ⟨Z,V⟩ Z) Z (bk (bl (i:=0) (us:=[.slice none 0 0,.slice none 0 0,I true]) Z ce Z Z Z ⟨Z,Z,Z,V⟩ Z a) ?_)))
  intro w a
  refine H (O (aw (aE ?_)))
  cases h
  exact eN Z ⟨_,Z,bJ (us:=[.slice none 0 0,.slice none 0 0,I true]) u33 Z ce (a.q 0 Z Z)⟩ ⟨.slice none 0 0,.slice none 0 0,Z,((a.nil U).nil U).e [1,0] Z Z⟩
 have h:=aH h aq
 refine ay (O (J ?_))
 refine aZ (fun w'=>St [] d w' [X ba [.slice none 0 0,.slice none 0 0,I false],X a9 [N m 0,N n 0,N o 0]]) (fun i=>!([0,7].contains i)) bS (fun _ _ _ hf=>hf.2) (fun _ _ hf=>hf) (by kernel_rfl) ?_
 have a:=a.drew
 show lxE _ _ _ _ _ _ _ [0,1,2,3,4,5,6,7,8] _ _
 refine Bm a Z Z (aY (cs:=[I false,.slice none 0 0]) c6 Z a) Z ?_
 rintro _ w ⟨bp,rfl,a⟩
 refine al (a.e [1,2] Z Z) Z Z (fun w hF=>av (k:=2) u91 Z Z cw Z) Z (al (a.e [1,2] Z Z) Z Z (fun w hF=>aC u73 Z Z (hF.r 1 Z 2)) Z (al (a.e [1,2] Z Z) Z Z (fun w hF=>ar Z) Z (al (a.e [1,2] Z Z) Z Z (fun w hF=>aK Z) Z (al (a.e [1,2] Z Z) Z Z (fun w hF=>av (k:=0) u76 Z Z cw Z) Z (al (a.e [1,2] Z Z) Z Z (fun w hF=>aC u73 Z Z (hBa0.cell hF.fr 0 Z)) Z ?_)))))
 replace a:=a.nil U
 have hG:=a.pick (os':=[X bp [I false,.slice none 0 0],M U (.slice none 0 0) []]++[X ba [.slice none 0 0,.slice none 0 0,I false],X a9 [N m 0,N n 0,N o 0]]) [1,0,2,3] (by decide) Z
 obtain ⟨aQ,br,h⟩:=aj h
 refine bg (a.e [2,3] Z Z) Z Z (by kernel_rfl) Z (jw false x b br hG.g (ap.g (R Z) hG) (aP.g hG) (l.g (R Z) hG) (p.g hG)) Z ?_
 rintro _ w ⟨bb,rfl,c⟩
 have a:=hG.h c
 refine al (a.e [2,3] Z Z) Z Z (fun w hF=>aB Z) Z (bn (a.e [2,3] Z Z) ?_)
 refine O (J (af (P 3 Z ?_)))
 obtain ⟨az,bd,h⟩:=aj h
 refine ao Z (a7 b e f g j C aQ.1 aQ.1 bd (l.d a.fr).rp (p.d a.fr) (q.d a.fr).rp (y.d a.fr) (s.d a.fr).rp (z.d a.fr) (t.d a.fr).rp (A.d a.fr) (u.d a.fr).rp (B.d a.fr) (hBa0.d a.fr) (a.ro 1 Z).rp (a.rb 0 Z) (a.ro 1 Z).rp (a.rb 0 Z)) Z ?_
 rintro _ w ⟨bc,bs,rfl,c⟩
 have a:=a.f c
 refine P 1 Z ?_
 refine H (O (J ?_))
 refine d6 (fun w'=>St [] d w' [X bs [I az.1,bc],M U bc az.2,X bp [I aQ.1,bb],M U bb aQ.2,X ba [.slice none 0 0,.slice none 0 0,I false],X a9 [N m 0,N n 0,N o 0]]) (fun i=>!([4,5,12,13,14,16].contains i)) bS (fun _ _ _ hf=>hf.2) (fun _ _ hf=>hf) (by kernel_rfl) ?_
 have a:=a.drew
 show lxE _ _ _ _ _ _ _ [0,1,2,3,4,5,6,7,8,9,10,11,12,13,14,15,16] _ _
 refine al a Z Z (fun w hF=>ar Z) Z (al a Z Z (fun w hF=>av (k:=0) u91 Z Z cw Z) Z (al a Z Z (fun w hF=>aC u73 Z Z (hF.r 5 Z 0)) Z (al a Z Z (fun w hF=>ar Z) Z ?_)))
 obtain ⟨bt,be,h⟩:=aj h
 refine bg a Z Z (by kernel_rfl) Z (a7 b e f g j C G az.1 be (l.d a.fr).rp (p.d a.fr) (q.d a.fr).rp (y.d a.fr) (s.d a.fr).rp (z.d a.fr) (t.d a.fr).rp (A.d a.fr) (u.d a.fr).rp (B.d a.fr) (hBa0.d a.fr) (a0.d a.fr).rp (a4.d a.fr) (a.ro 1 Z).rp (a.rb 0 Z)) Z ?_
 rintro _ w ⟨bw,bz,rfl,c⟩
 have a:=a.f c
 obtain ⟨bA,bf,h⟩:=aj h
 refine bg (a.e [2,3,4,5,6,7] Z Z) Z Z (by kernel_rfl) Z (fX bt.1 bf (a.ro 1 Z).rp (a.rb 0 Z)) Z ?_
 rintro D w c
 have a:=a.f c
 have bh:=(a.ro 0 Z).one
 refine al (a.e [3,4,5,6,7,8] Z Z) Z Z (fun w hF=>ar Z) Z (al (a.e [3,4,5,6,7,8] Z Z) Z Z (fun w hF=>av (k:=1) u91 Z Z cw Z) Z (al (a.e [3,4,5,6,7,8] Z Z) Z Z (fun w hF=>aC u73 Z Z (hF.r 5 Z 1)) Z (al (a.e [3,4,5,6,7,8] Z Z) Z Z (fun w hF=>ar Z) Z (al (a.e [3,4,5,6,7,8] Z Z) Z Z (fun w hF=>ar Z) Z (al (a.e [3,4,5,6,7,8] Z Z) Z Z (fun w hF=>ar Z) Z ?_)))))
 obtain ⟨bu,bi,h⟩:=aj h
 refine bg (a.e [3,4,5,6,7,8] Z Z) Z Z (by kernel_rfl) Z (a7 b e f g j C aQ.1 az.1 bi (l.d a.fr).rp (p.d a.fr) (q.d a.fr).rp (y.d a.fr) (s.d a.fr).rp (z.d a.fr) (t.d a.fr).rp (A.d a.fr) (u.d a.fr).rp (B.d a.fr) (hBa0.d a.fr) (a.ro 6 Z).rp (a.rb 5 Z) (a.ro 4 Z).rp (a.rb 3 Z)) Z ?_
 rintro _ w ⟨bB,bC,rfl,c⟩
 have a:=a.f c
 obtain ⟨bv,bj,h⟩:=aj h
 refine bg (a.e [5,6,7,8,9,10] Z Z) Z Z (by kernel_rfl) Z (a7 b e f g j C L bu.1 bj (l.d a.fr).rp (p.d a.fr) (q.d a.fr).rp (y.d a.fr) (s.d a.fr).rp (z.d a.fr) (t.d a.fr).rp (A.d a.fr) (u.d a.fr).rp (B.d a.fr) (hBa0.d a.fr) (a1.d a.fr).rp (a5.d a.fr) (a.ro 1 Z).rp (a.rb 0 Z)) Z ?_
 rintro _ w ⟨bD,bE,rfl,c⟩
 have a:=a.f c
 obtain ⟨bF,bm,h⟩:=aj h
 refine bg (a.e [7,8,9,10,11,12] Z Z) Z Z (by kernel_rfl) Z (fX bv.1 bm (a.ro 1 Z).rp (a.rb 0 Z)) Z ?_
 rintro E w c
 have a:=a.f c
 have bo:=(a.ro 0 Z).one
 refine al (a.e [8,9,10,11,12,13] Z Z) Z Z (fun w hF=>bY (vs:=[(0,D,[D]),(1,E,[E])]) (cells:=[D,E,I false]) Z fo ⟨(fK bh),(fK bo),V⟩ Z) Z ?_
 refine iU (a.e [8,9,10,11,12,13] Z Z) Z Z (bl (i:=12) (us:=[D,E,I false]) Z ce Z Z Z ⟨(a.ro 5 Z).one,(a.ro 0 Z).one,Z,V⟩ Z a) ?_
 intro w a
 refine bn V ?_
 refine O (aw ?_)
 cases h
 exact eN Z ⟨_,Z,bJ (us:=[D,E,I false]) u33 Z ce (a.q 12 Z Z)⟩ ⟨D,E,Z,a.e [5,0] Z Z⟩
theorem lV {d:World} {aK aL aM aN aO aP aQ aR aS aU aV:List UInt32} {t u x y z A B C D E G:Value} {bg aC aD aE aF aG k l m e f j:Nat} {T:List Nat} (n o p q s:Bool) (aW:Int) (ag ak al a2 an ap aq:Bool) {r:Bool×List UInt32×Bool×List UInt32×Bool×List UInt32}
  (h:F.Cm n aK o aL p aM q aN s aO aW ag aP ak aQ al aR a2 an aS ap aU aq aV=some r) (hTT:TOk [] T d) (bm:RP T d U t aK) (bz:RB T d aC [I n,t]) (bn:RP T d U u aL) (bA:RB T d aD [I o,u]) (bo:RP T d U x aM) (bB:RB T d aE [I p,x]) (bp:RP T d U y aN) (bC:RB T d aF [I q,y]) (bq:RP T d U z aO) (bD:RB T d aG [I s,z]) (hBa0:RB T d bg [N aC 0,N aD 0,N aE 0,N aF 0,N aG 0,vI aW,.func (.func 168) #[] #[]]) (br:RP T d U A aP) (bE:RB T d k [I ag,A]) (bs:RP T d U B aQ) (bF:RB T d l [I ak,B]) (bt:RP T d U C aR) (bG:RB T d m [I al,C]) (bu:RP T d U D aS) (bH:RB T d e [I an,D]) (bv:RP T d U E aU) (bK:RB T d f [I ap,E]) (bw:RP T d U G aV) (bM:RB T d j [I aq,G]):Calls Tryz.prog 168 #[N bg 0,.agg #[N k 0,N l 0,N m 0],I a2,.agg #[N e 0,N f 0,N j 0]] d (Ret fun v w=>∃bN:Nat,∃a6:Value,∃bO:Nat,∃a7:Value,∃bP:Nat,∃a8:Value,v=.agg #[N bN 0,N bO 0,N bP 0]∧St [] d w []∧Q T w [X bP [I r.2.2.2.2.1,a8],red U a8 r.2.2.2.2.2,X bO [I r.2.2.1,a7],red U a7 r.2.2.2.1,X bN [I r.1,a6],red U a6 r.2.1]):=by
 refine aJ 18 Tryz.func168 Z Z Z ?_
 have c:=St.l d
 have hZ:=Fz.l (S:=[]) (w0:=d)
 have hA0:Q T d [X j [I aq,G],red U G aV,X f [I ap,E],red U E aU,X e [I an,D],red U D aS,X m [I al,C],red U C aR,X l [I ak,B],red U B aQ,X k [I ag,A],red U A aP,X bg [N aC 0,N aD 0,N aE 0,N aF 0,N aG 0,vI aW,.func (.func 168) #[] #[]],X aG [I s,z],red U z aO,X aF [I q,y],red U y aN,X aE [I p,x],red U x aM,X aD [I o,u],red U u aL,X aC [I n,t],red U t aK]:=Y bM.i (Y (RP.i (R Z) bw) (Y bK.i (Y (RP.i (R Z) bv) (Y bH.i (Y (RP.i (R Z) bu) (Y bG.i (Y (RP.i (R Z) bt) (Y bF.i (Y (RP.i (R Z) bs) (Y bE.i (Y (RP.i (R Z) br) (Y hBa0.i (Y bD.i (Y (RP.i (R Z) bq) (Y bC.i (Y (RP.i (R Z) bp) (Y bB.i (Y (RP.i (R Z) bo) (Y bA.i (Y (RP.i (R Z) bn) (Y bz.i (Y (RP.i (R Z) bm) (Q.nil)))))))))))))))))))))))
 have a:=hA0.all
 have b:=hA0.off Z
 refine au [(0,N bg 0),(1,.agg #[N k 0,N l 0,N m 0]),(2,I a2),(3,.agg #[N e 0,N f 0,N j 0])] ⟨Z,Z,Z,Z,V⟩ ?_
 unfold F.Cm at h
 refine J (af (aT (da (cs:=[N k 0,N l 0,N m 0]) Z Z c) Z ?_))
 rintro _ w ⟨bh,rfl,c⟩
 refine aT (da (cs:=[N e 0,N f 0,N j 0]) Z Z c) Z ?_
 rintro _ w ⟨bT,rfl,c⟩
 refine aT (aY (cs:=[.pointer none,.pointer none,.pointer none]) eQ Z c) Z ?_
 rintro _ w ⟨bi,rfl,c⟩
 refine H (O (J (af (P 1 Z ?_))))
 refine am (bI (us:=[N k 0,N l 0,N m 0]) u91 Z bL Z (c.q 2 Z Z)) Z ?_
 replace c:=c.pick (os':=[]++[X bi [.pointer none,.pointer none,.pointer none],X bT [N e 0,N f 0,N j 0],X bh [N k 0,N l 0,N m 0]]) [0,1,2] (by decide) rfl
 obtain ⟨hZ,a,b,c⟩:=hZ.frzK hTT a b c
 obtain ⟨ar,bU,h⟩:=aj h
 refine ao Z (gK n o p q s aW ag ak al bU (hZ.okT hTT c) (a.j b 0 Z) (a.k b 1 Z) (a.j b 2 Z) (a.k b 3 Z) (a.j b 4 Z) (a.k b 5 Z) (a.j b 6 Z) (a.k b 7 Z) (a.j b 8 Z) (a.k b 9 Z) (a.k b 10 Z) (a.j b 11 Z) (a.k b 12 Z) (a.j b 13 Z) (a.k b 14 Z) (a.j b 15 Z) (a.k b 16 Z)) Z ?_
 rintro _ w ⟨av,bd,az,be,aA,bf,rfl,bQ,bR⟩
 obtain ⟨bY,bV,hZ,a,b,c⟩:=hZ.m a b c bQ bR rfl
 refine bk (bl (i:=2) (us:=[N av 0,N az 0,N aA 0]) Z bL Z Z Z ⟨Z,Z,Z,V⟩ Z c) ?_
 intro w c
 refine H (O ?_)
 refine a9 (r:=r) (fun (g:Bool×List UInt32×Bool×List UInt32×Bool×List UInt32) L w=>∃(ab:Nat) (a1:Value) (ac:Nat) (a3:Value) (ad:Nat) (a4:Value),L=[(5,N bh 0),(8,N bi 0)]∧SfT [] T d w [X ad [I g.2.2.2.2.1,a4],red U a4 g.2.2.2.2.2,X ac [I g.2.2.1,a3],red U a3 g.2.2.2.1,X ab [I g.1,a1],red U a1 g.2.1] [X bh [N ab 0,N ac 0,N ad 0],X bi [.pointer none,.pointer none,.pointer none]]) (F.FC) ?_ ?_
 rotate_left
 ·intro bj
  refine J (af (P 1 Z ?_))
  refine H (O ?_)
  refine ax Z (fun a5=>?_) (fun a5=>?_)
  ·have h:=aI h a5
   refine af (P 1 Z ?_)
   refine am (bI (us:=[N av 0,N az 0,N aA 0]) u91 Z bL Z (c.q 2 Z Z)) Z (am (bI (us:=[N e 0,N f 0,N j 0]) u91 Z bL Z (c.q 1 Z Z)) Z ?_)
   replace c:=c.pick (os':=[]++[X bi [.pointer none,.pointer none,.pointer none],X bT [N e 0,N f 0,N j 0],X bh [N av 0,N az 0,N aA 0]]) [0,1,2] (by decide) rfl
   obtain ⟨hZ,a,b,c⟩:=hZ.frzK hTT a b c
   obtain ⟨aB,bS,h⟩:=aj h
   refine ao Z (iR n o p q s aW ar.1 ar.2.2.1 ar.2.2.2.2.1 an ap aq bS (hZ.okT hTT c) (a.j b 0 Z) (a.k b 1 Z) (a.j b 2 Z) (a.k b 3 Z) (a.j b 4 Z) (a.k b 5 Z) (a.j b 6 Z) (a.k b 7 Z) (a.j b 8 Z) (a.k b 9 Z) (a.k b 10 Z) (a.j b 23 Z) (a.k b 24 Z) (a.j b 25 Z) (a.k b 26 Z) (a.j b 27 Z) (a.k b 28 Z) (a.j b 17 Z) (a.k b 18 Z) (a.j b 19 Z) (a.k b 20 Z) (a.j b 21 Z) (a.k b 22 Z)) Z ?_
   rintro _ w ⟨aX,ba,aZ,bb,a0,bc,rfl,bQ,bR⟩
   obtain ⟨bZ,bW,hZ,a,b,c⟩:=hZ.m a b c bQ bR rfl
   refine bk (bl (i:=2) (us:=[N aX 0,N aZ 0,N a0 0]) Z bL Z Z Z ⟨Z,Z,Z,V⟩ Z c) ?_
   intro w c
   refine H (O ?_)
   exact au _ (by exact ⟨Z,Z,V⟩) (bj (aB.1,aB.2.1,aB.2.2.1,aB.2.2.2.1,aB.2.2.2.2.1,aB.2.2.2.2.2) _ _ ⟨aX,ba,aZ,bb,a0,bc,Z,(SfT.mk' hZ (Y (a.b 34 Z) (Y (a.b 33 Z) (Y (a.b 32 Z) (Y (a.b 31 Z) (Y (a.b 30 Z) (Y (a.b 29 Z) Q.nil)))))) (W (b.b 34 Z) (W (b.b 33 Z) (W (b.b 32 Z) (W (b.b 31 Z) (W (b.b 30 Z) (W (b.b 29 Z) K.nil)))))) (c.e [2,0] Z Z))⟩ h)
  have h:=aH h a5
  refine ay (O ?_)
  exact au _ (by exact ⟨Z,Z,V⟩) (bj (ar.1,ar.2.1,ar.2.2.1,ar.2.2.2.1,ar.2.2.2.2.1,ar.2.2.2.2.2) _ _ ⟨av,bd,az,be,aA,bf,Z,(SfT.mk' hZ (Y (a.b 28 Z) (Y (a.b 27 Z) (Y (a.b 26 Z) (Y (a.b 25 Z) (Y (a.b 24 Z) (Y (a.b 23 Z) Q.nil)))))) (W (b.b 28 Z) (W (b.b 27 Z) (W (b.b 26 Z) (W (b.b 25 Z) (W (b.b 24 Z) (W (b.b 23 Z) K.nil)))))) (c.e [2,0] Z Z))⟩ h)
 rintro ⟨b0,b1,b2,b3,b4,b5⟩ L w hJ h
 try dsimp only at hJ
 obtain ⟨ab,a1,ac,a3,ad,a4,rfl,⟨b6,bX,hZ,a,b,c⟩⟩:=hJ
 unfold F.FC at h
 refine J (af (am (bI (us:=[N ab 0,N ac 0,N ad 0]) u91 Z bL Z (c.q 0 Z Z)) Z (bk (bl (i:=1) (us:=[N ab 0,N ac 0,N ad 0]) Z bL Z Z Z ⟨Z,Z,Z,V⟩ Z c) ?_)))
 intro w c
 refine H (O (aw ?_))
 cases h
 obtain ⟨hS0,hR⟩:=hZ.outT hTT a b c
 exact eN Z ⟨_,Z,bJ (us:=[N ab 0,N ac 0,N ad 0]) u91 Z bL (c.q 1 Z Z)⟩ ⟨ab,a1,ac,a3,ad,a4,Z,hS0,(Y (hR.b 5 Z) (Y (hR.b 4 Z) (Y (hR.b 3 Z) (Y (hR.b 2 Z) (Y (hR.b 1 Z) (Y (hR.b 0 Z) Q.nil))))))⟩
end Go.Proofs
