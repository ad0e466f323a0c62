import Derived.Test.YtahgjafdhjbkeaaGreatDoorRW0
import Derived.Test.YtahgjafdhjbkeaaGreatDoorGkFman
import Derived.Test.YtahgjafdhjbkeaaGreatDoorRWbignumc
import Derived.Test.YtahgjafdhjbkeaaGreatDoorRWcurvea
set_option linter.unusedVariables false
set_option linter.unusedSimpArgs false
set_option linter.unusedSectionVars false
set_option maxRecDepth 4000
namespace Go.Proofs
open Go Go.RowKit Go.Gk
open Go.Gk renaming aa → V, af → J, ag → N, e32 → X, gl3 → Q, gl4 → R, own → U, pB → O, red → P, vB → K, vI → H
open Nat renaming le_of_ble_eq_true → W
open Go.Gk.OE renaming bx → Y
open Go.Gk.Rds renaming cons → M
theorem ir {z:World} {aJ aK aL aM aN aO aQ aR:List UInt32} {A B C D E p q s:Value} {a1 au av ay aA aC m n o:Nat} {T:List Nat} (d e f g j:Bool) (l:Int) (G L t:Bool) {r:Bool×List UInt32×Bool×List UInt32×Bool×List UInt32}
  (h:F.FE d aJ e aK f aL g aM j aN l G aO L aQ t aR=some r) (hTT:TOk [] T z) (a8:RP T z X A aJ) (bj:RB T z au [K d,A]) (a9:RP T z X B aK) (bk:RB T z av [K e,B]) (bb:RP T z X C aL) (bn:RB T z ay [K f,C]) (bd:RP T z X D aM) (bo:RB T z aA [K g,D]) (be:RP T z X E aN) (bp:RB T z aC [K j,E]) (hBa0:RB T z a1 [O au 0,O av 0,O ay 0,O aA 0,O aC 0,H l,.func (.func 144) #[] #[]]) (bf:RP T z X p aO) (br:RB T z m [K G,p]) (bg:RP T z X q aQ) (bs:RB T z n [K L,q]) (bi:RP T z X s aR) (bt:RB T z o [K t,s]):Calls Tryz.prog 122 #[O a1 0,.agg #[O m 0,O n 0,O o 0]] z (Ret fun v w=>∃bu:Nat,∃a2:Value,∃bv:Nat,∃a3:Value,∃bw:Nat,∃a4:Value,v=.agg #[O bu 0,O bv 0,O bw 0]∧St [] z w []∧Rds T w [Y bw [K r.2.2.2.2.1,a4],P X a4 r.2.2.2.2.2,Y bv [K r.2.2.1,a3],P X a3 r.2.2.2.1,Y bu [K r.1,a2],P X a2 r.2.1]):=by
 refine aB 86 Tryz.func122 Z Z Z<|have a:=St.k z;have hZ:=Fz.k (S:=[]) (w0:=z);?_
 have hA0:Rds T z [Y o [K t,s],P X s aR,Y n [K L,q],P X q aQ,Y m [K G,p],P X p aO,Y a1 [O au 0,O av 0,O ay 0,O aA 0,O aC 0,H l,.func (.func 144) #[] #[]],Y aC [K j,E],P X E aN,Y aA [K g,D],P X D aM,Y ay [K f,C],P X C aL,Y av [K e,B],P X B aK,Y au [K d,A],P X A aJ]:=M bt.h (M (RP.h (W Z) bi) (M bs.h (M (RP.h (W Z) bg) (M br.h (M (RP.h (W Z) bf) (M hBa0.h (M bp.h (M (RP.h (W Z) be) (M bo.h (M (RP.h (W Z) bd) (M bn.h (M (RP.h (W Z) bb) (M bk.h (M (RP.h (W Z) a9) (M bj.h (M (RP.h (W Z) a8) (Rds.nil)))))))))))))))))
 have b:=hA0.all
 have hP:=hA0.off Z
 refine ax [(0,O a1 0),(1,.agg #[O m 0,O n 0,O o 0])] Z ?_
 unfold F.FE at h
 refine R<|bh (cu (cs:=[O m 0,O n 0,O o 0]) Z Z a) Z fun bA w a=>bh (ba (cs:=[.pointer none,.pointer none,.pointer none]) iT Z a) Z fun bB w a=>gl1<|R<|N (ao (k:=2) u78 Z Z dE Z) Z<|N (aw u59 Z Z (a.q 1 Z 2)) Z<|J h fun cL b7 h=>bc a Z (dC t b7 ((b.rp 15 Z).b a.fr).rp ((b.rb 16 Z).b a.fr)) Z fun w a=>V 1 Z<|Q ?_
 refine gl9 Z h (fun h=>?_) (fun h=>?_)
 ·refine R<|N (aP (us:=[O m 0,O n 0,O o 0]) u78 Z ct Z (a.p 1 Z Z)) Z<|bl (bq (i:=0) (us:=[O m 0,O n 0,O o 0]) Z ct Z Z Z ⟨Z,Z,Z,I⟩ Z a) fun w a=>gl8 ?_
  cases h
  obtain ⟨bC,hR⟩:=hZ.outT hTT b hP a
  exact dc Z ⟨_,Z,bM (us:=[O m 0,O n 0,O o 0]) u78 Z ct (a.p 0 Z Z)⟩ ⟨m,p,n,q,o,s,Z,bC,(hR.pick [16,15,14,13,12,11] Z)⟩
 refine gl6<|V 1 Z<|N (ao (k:=2) u78 Z Z dE Z) Z<|N (aw u59 Z Z (a.q 1 Z 2)) Z<|N (ao (k:=2) u78 Z Z dE Z) Z<|N (aw u59 Z Z (a.q 1 Z 2)) Z<|J h fun aZ b9 h=>bH a Z (bm d e f g j l t t b9 ((b.rp 0 Z).b a.fr).rp ((b.rb 1 Z).b a.fr) ((b.rp 2 Z).b a.fr).rp ((b.rb 3 Z).b a.fr) ((b.rp 4 Z).b a.fr).rp ((b.rb 5 Z).b a.fr) ((b.rp 6 Z).b a.fr).rp ((b.rb 7 Z).b a.fr) ((b.rp 8 Z).b a.fr).rp ((b.rb 9 Z).b a.fr) ((b.rb 10 Z).b a.fr) ((b.rp 15 Z).b a.fr).rp ((b.rb 16 Z).b a.fr) ((b.rp 15 Z).b a.fr).rp ((b.rb 16 Z).b a.fr)) Z fun a0 bD w a=>V 1 Z<|gl2<|V 1 Z<|N (ao (k:=1) u78 Z Z dE Z) Z<|N (aw u59 Z Z (a.q 3 Z 1)) Z<|N (ao (k:=1) u78 Z Z dE Z) Z<|N (aw u59 Z Z (a.q 3 Z 1)) Z<|J h fun ai bI h=>bH a Z (bm d e f g j l L L bI ((b.rp 0 Z).b a.fr).rp ((b.rb 1 Z).b a.fr) ((b.rp 2 Z).b a.fr).rp ((b.rb 3 Z).b a.fr) ((b.rp 4 Z).b a.fr).rp ((b.rb 5 Z).b a.fr) ((b.rp 6 Z).b a.fr).rp ((b.rb 7 Z).b a.fr) ((b.rp 8 Z).b a.fr).rp ((b.rb 9 Z).b a.fr) ((b.rb 10 Z).b a.fr) ((b.rp 13 Z).b a.fr).rp ((b.rb 14 Z).b a.fr) ((b.rp 13 Z).b a.fr).rp ((b.rb 14 Z).b a.fr)) Z ?_
 rintro aU a5 w a
 refine V 1 rfl<|gl2<|V 2 rfl<|N (ao (k:=0) u78 rfl rfl dE rfl) rfl<|N (aw u59 rfl rfl (a.q 5 rfl 0)) rfl<|V 1 rfl<|J h fun aE bL h=>bH a rfl (bm d e f g j l G ai.1 bL ((b.rp 0 rfl).b a.fr).rp ((b.rb 1 rfl).b a.fr) ((b.rp 2 rfl).b a.fr).rp ((b.rb 3 rfl).b a.fr) ((b.rp 4 rfl).b a.fr).rp ((b.rb 5 rfl).b a.fr) ((b.rp 6 rfl).b a.fr).rp ((b.rb 7 rfl).b a.fr) ((b.rp 8 rfl).b a.fr).rp ((b.rb 9 rfl).b a.fr) ((b.rb 10 rfl).b a.fr) ((b.rp 11 rfl).b a.fr).rp ((b.rb 12 rfl).b a.fr) (a.ro 1 rfl).rp (a.rb 0 rfl)) rfl fun aV a6 w a=>J h fun ap bN h=>bH a rfl (dD d e f g j l 4 aE.1 bN ((b.rp 0 rfl).b a.fr).rp ((b.rb 1 rfl).b a.fr) ((b.rp 2 rfl).b a.fr).rp ((b.rb 3 rfl).b a.fr) ((b.rp 4 rfl).b a.fr).rp ((b.rb 5 rfl).b a.fr) ((b.rp 6 rfl).b a.fr).rp ((b.rb 7 rfl).b a.fr) ((b.rp 8 rfl).b a.fr).rp ((b.rb 9 rfl).b a.fr) ((b.rb 10 rfl).b a.fr) (a.ro 1 rfl).rp (a.rb 0 rfl)) rfl fun aW a7 w a=>V 1 rfl<|gl1<|J h fun aF bO h=>J h fun aj bS h=>J h fun aG bU h=>J h fun aH bV h=>J h fun aI bW h=>cO (es:=[Y o [K t,s],P X s aR,Y n [K L,q],P X q aQ,Y m [K G,p],P X p aO,Y a1 [O au 0,O av 0,O ay 0,O aA 0,O aC 0,H l,.func (.func 144) #[] #[]],Y aC [K j,E],P X E aN,Y aA [K g,D],P X D aM,Y ay [K f,C],P X C aL,Y av [K e,B],P X B aK,Y au [K d,A],P X A aJ]) (os:=[Y a7 [K ap.1,aW],U X aW ap.2,Y a6 [K aE.1,aV],U X aV aE.2,Y a5 [K ai.1,aU],U X aU ai.2,Y bD [K aZ.1,a0],U X a0 aZ.2,Y bB [.pointer none,.pointer none,.pointer none],Y bA [O m 0,O n 0,O o 0]]) (fun i=>[6,8,12,13,14,15].contains i) (fun i=>if i=6 then some 14 else if i=8 then some 12 else if i=12 then some 13 else if i=13 then some 14 else if i=14 then some 15 else none) (fun i=>[]) (fun i=>[]) (fun i=>[]) (fun i=>if i=12 then [8] else if i=13 then [8] else []) (fun i=>if i=6 then (fun h v x y=>∃am:Nat,∃ab:Value,v=O am 0∧x=[Y am [K aF.1,ab],U X ab aF.2]∧y=[]) else if i=8 then (fun h v x y=>∃c:Nat,v=O c 0∧x=[Y c [K false,.slice none 0 0]]∧y=[]) else if i=12 then (fun h v x y=>∃u:Value,∃c:Nat,h=[(O c 0,[Y c [K false,.slice none 0 0]],[])]∧v=O c 0∧x=[Y c [K aj.1,u],U X u aj.2]∧y=[]) else if i=13 then (fun h v x y=>∃ac:Value,∃c:Nat,h=[(O c 0,[Y c [K false,.slice none 0 0]],[])]∧v=O c 0∧x=[Y c [K aG.1,ac],U X ac aG.2]∧y=[]) else if i=14 then (fun h v x y=>∃an:Nat,∃ad:Value,v=O an 0∧x=[Y an [K aH.1,ad],U X ad aH.2]∧y=[]) else (fun h v x y=>∃aq:Nat,∃ar:Value,v=O aq 0∧x=[Y aq [K aI.1,ar],U X ar aI.2]∧y=[])) (SfT.mk' hZ b hP a) (fun k hk=>rfl) hTT rfl (fun i=>(cl (by rintro h v x y ⟨_,_,rfl,rfl,rfl⟩; exact bQ rfl) (cl (by rintro h v x y ⟨_,rfl,rfl,rfl⟩; exact bQ rfl) (cl (by rintro h v x y ⟨_,_,_,rfl,rfl,rfl⟩; exact bQ rfl) (cl (by rintro h v x y ⟨_,_,_,rfl,rfl,rfl⟩; exact bQ rfl) (cl (by rintro h v x y ⟨_,_,rfl,rfl,rfl⟩; exact bQ rfl) (by rintro h v x y ⟨_,_,rfl,rfl,rfl⟩; exact bQ rfl))))))) bR (by kernel_rfl) (by kernel_rfl) ?_
 show dY _ _ _ _ _ _ _ _ _ _ _ _ _ _ _ _ [0,1,2,3,4,5,6,7,8,9,10,11,12,13,14,15,16] _ _
 refine bP 3 Z<|bz Z Z (fun w Sb wb hZ b hP hF=>ao (k:=0) u78 Z Z dE Z) Z<|bz Z Z (fun w Sb wb hZ b hP hF=>aw u59 Z Z (hF.q 9 Z 0)) Z<|bP 1 Z ?_
 refine bK (fun h v x y=>∃am:Nat,∃ab:Value,v=O am 0∧x=[Y am [K aF.1,ab],U X ab aF.2]∧y=[]) [] [] [] _ Z Z (fun h v x y=>Z) Z Z Z Z ⟨_,_,_,0,undef,Z,Z,Z⟩ (by kernel_rfl) Z (fun w Sl Tl hZ hTT b hP a=>?_) Z ?_
 ·refine bJ (cJ d e f g j l G aZ.1 bO ((b.rp 0 Z).b a.fr).rp ((b.rb 1 Z).b a.fr) ((b.rp 2 Z).b a.fr).rp ((b.rb 3 Z).b a.fr) ((b.rp 4 Z).b a.fr).rp ((b.rb 5 Z).b a.fr) ((b.rp 6 Z).b a.fr).rp ((b.rb 7 Z).b a.fr) ((b.rp 8 Z).b a.fr).rp ((b.rb 9 Z).b a.fr) ((b.rb 10 Z).b a.fr) ((b.rp 11 Z).b a.fr).rp ((b.rb 12 Z).b a.fr) (a.ro 7 Z).rp (a.rb 6 Z)) ?_
  rintro _ w ⟨ab,am,rfl,aT⟩
  have a:=a.e aT
  exact ⟨_,_,⟨am,ab,Z,Z,Z⟩,SfT.mk' hZ Rds.nil Off.nil a⟩
 rintro v_q x_q y_q ⟨am,ab,rfl,rfl,rfl⟩
 refine bP 1 Z ?_
 refine gl (fun h v x y=>∃c:Nat,v=O c 0∧x=[Y c [K false,.slice none 0 0]]∧y=[]) [] [] [] _ Z Z (fun h v x y=>Z) Z Z Z Z ⟨_,_,_,0,Z,Z,Z⟩ (fun w Sl Tl hZ hTT b hP a=>?_) Z ?_
 ·refine nG (ba (cs:=[K false,.slice none 0 0]) en Z a) ?_
  rintro _ w ⟨c,rfl,a⟩
  exact ⟨_,_,⟨c,Z,Z,Z⟩,SfT.mk' hZ Rds.nil Off.nil a⟩
 rintro v_q x_q y_q ⟨c,rfl,rfl,rfl⟩
 refine bz Z Z (fun w Sb wb hZ b hP hF=>ao (k:=0) u78 Z Z dE Z) Z<|bz Z Z (fun w Sb wb hZ b hP hF=>aw u59 Z Z (hF.q 9 Z 0)) Z<|bP 1 Z ?_
 refine bK (fun h v x y=>∃u:Value,∃c:Nat,h=[(O c 0,[Y c [K false,.slice none 0 0]],[])]∧v=O c 0∧x=[Y c [K aj.1,u],U X u aj.2]∧y=[]) [(O c 0,[Y c [K false,.slice none 0 0]],[])] [Y c [K false,.slice none 0 0]] [] _ Z Z (fun h v x y=>Z) Z Z Z Z ⟨_,_,_,undef,c,Z,Z,Z,Z⟩ (by kernel_rfl) Z (fun w Sl Tl hZ hTT b hP a=>?_) Z ?_
 ·replace a:=a.nil X
  have hG:=a.pick (os':=[Y c [K false,.slice none 0 0],U X (.slice none 0 0) []]++[Y a7 [K ap.1,aW],U X aW ap.2,Y a6 [K aE.1,aV],U X aV aE.2,Y a5 [K ai.1,aU],U X aU ai.2,Y bD [K aZ.1,a0],U X a0 aZ.2,Y bB [.pointer none,.pointer none,.pointer none],Y bA [O m 0,O n 0,O o 0]]) [1,0,2,3,4,5,6,7,8,9,10,11] (by decide) Z
  refine bJ (oM false G aZ.1 bS hG.f ((b.rp 11 Z).f (W Z) hG) ((b.rb 12 Z).f hG) (hG.giveO 7 Z) (hG.giveB 6 Z)) ?_
  rintro _ w ⟨u,rfl,aT⟩
  have a:=hG.g aT
  exact ⟨_,_,⟨u,c,Z,Z,Z,Z⟩,SfT.mk' hZ Rds.nil Off.nil a⟩
 rintro v_q x_q y_q ⟨u,b_31',hh,rfl,rfl,rfl⟩
 replace hh:([(O c 0,[Y c [K false,.slice none 0 0]],[])]:List Th)=[(O b_31' 0,[Y b_31' [K false,.slice none 0 0]],[])]:=hh
 cases hh
 refine bK (fun h v x y=>∃ac:Value,∃c:Nat,h=[(O c 0,[Y c [K false,.slice none 0 0]],[])]∧v=O c 0∧x=[Y c [K aG.1,ac],U X ac aG.2]∧y=[]) [(O c 0,[Y c [K false,.slice none 0 0]],[])] [Y c [K aj.1,u],U X u aj.2] [] _ Z Z (fun h v x y=>Z) Z Z Z Z ⟨_,_,_,undef,c,Z,Z,Z,Z⟩ (by kernel_rfl) Z (fun w Sl Tl hZ hTT b hP a=>?_) Z ?_
 ·have hG:=a.pick (os':=[Y c [K aj.1,u],U X u aj.2]++[Y a7 [K ap.1,aW],U X aW ap.2,Y a6 [K aE.1,aV],U X aV aE.2,Y a5 [K ai.1,aU],U X aU ai.2,Y bD [K aZ.1,a0],U X a0 aZ.2,Y bB [.pointer none,.pointer none,.pointer none],Y bA [O m 0,O n 0,O o 0]]) [0,1,2,3,4,5,6,7,8,9,10,11] (by decide) Z
  refine bJ (fv d e f g j l aj.1 bU hG.f ((b.rp 0 Z).f (W Z) hG) ((b.rb 1 Z).f hG) ((b.rp 2 Z).f (W Z) hG) ((b.rb 3 Z).f hG) ((b.rp 4 Z).f (W Z) hG) ((b.rb 5 Z).f hG) ((b.rp 6 Z).f (W Z) hG) ((b.rb 7 Z).f hG) ((b.rp 8 Z).f (W Z) hG) ((b.rb 9 Z).f hG) ((b.rb 10 Z).f hG)) ?_
  rintro _ w ⟨ac,rfl,aT⟩
  have a:=hG.g aT
  exact ⟨_,_,⟨ac,c,Z,Z,Z,Z⟩,SfT.mk' hZ Rds.nil Off.nil a⟩
 rintro v_q x_q y_q ⟨ac,b_31',hh,rfl,rfl,rfl⟩
 replace hh:([(O c 0,[Y c [K false,.slice none 0 0]],[])]:List Th)=[(O b_31' 0,[Y b_31' [K false,.slice none 0 0]],[])]:=hh
 cases hh
 refine bK (fun h v x y=>∃an:Nat,∃ad:Value,v=O an 0∧x=[Y an [K aH.1,ad],U X ad aH.2]∧y=[]) [] [Y am [K aF.1,ab],U X ab aF.2,Y c [K aG.1,ac],U X ac aG.2] [] _ Z Z (fun h v x y=>Z) Z Z Z Z ⟨_,_,_,0,undef,Z,Z,Z⟩ (by kernel_rfl) Z (fun w Sl Tl hZ hTT b hP a=>?_) Z ?_
 ·refine bJ (bm d e f g j l aF.1 aG.1 bV ((b.rp 0 Z).b a.fr).rp ((b.rb 1 Z).b a.fr) ((b.rp 2 Z).b a.fr).rp ((b.rb 3 Z).b a.fr) ((b.rp 4 Z).b a.fr).rp ((b.rb 5 Z).b a.fr) ((b.rp 6 Z).b a.fr).rp ((b.rb 7 Z).b a.fr) ((b.rp 8 Z).b a.fr).rp ((b.rb 9 Z).b a.fr) ((b.rb 10 Z).b a.fr) (a.ro 1 Z).rp (a.rb 0 Z) (a.ro 3 Z).rp (a.rb 2 Z)) ?_
  rintro _ w ⟨ad,an,rfl,aT⟩
  have a:=a.e aT
  exact ⟨_,_,⟨an,ad,Z,Z,Z⟩,SfT.mk' hZ Rds.nil Off.nil (a.d [0,1,6,7,8,9,10,11,12,13,14,15] Z Z)⟩
 rintro v_q x_q y_q ⟨an,ad,rfl,rfl,rfl⟩
 refine bK (fun h v x y=>∃aq:Nat,∃ar:Value,v=O aq 0∧x=[Y aq [K aI.1,ar],U X ar aI.2]∧y=[]) [] [Y an [K aH.1,ad],U X ad aH.2] [] _ Z Z (fun h v x y=>Z) Z Z Z Z ⟨_,_,_,0,undef,Z,Z,Z⟩ (by kernel_rfl) Z (fun w Sl Tl hZ hTT b hP a=>?_) Z ?_
 ·refine bJ (dD d e f g j l 3 aH.1 bW ((b.rp 0 Z).b a.fr).rp ((b.rb 1 Z).b a.fr) ((b.rp 2 Z).b a.fr).rp ((b.rb 3 Z).b a.fr) ((b.rp 4 Z).b a.fr).rp ((b.rb 5 Z).b a.fr) ((b.rp 6 Z).b a.fr).rp ((b.rb 7 Z).b a.fr) ((b.rp 8 Z).b a.fr).rp ((b.rb 9 Z).b a.fr) ((b.rb 10 Z).b a.fr) (a.ro 1 Z).rp (a.rb 0 Z)) ?_
  rintro _ w ⟨ar,aq,rfl,aT⟩
  have a:=a.e aT
  exact ⟨_,_,⟨aq,ar,Z,Z,Z⟩,SfT.mk' hZ Rds.nil Off.nil (a.d [0,1,4,5,6,7,8,9,10,11,12,13] Z Z)⟩
 rintro v_q x_q y_q ⟨aq,ar,rfl,rfl,rfl⟩
 refine bP 1 Z<|dH fun w hQ=>?_
 obtain ⟨cq,co,hZ,b,hP,a⟩:=hQ
 refine ak<|R<|V 4 Z<|J h fun cc bX h=>bH a Z (bm d e f g j l aI.1 aI.1 bX ((b.rp 0 Z).b a.fr).rp ((b.rb 1 Z).b a.fr) ((b.rp 2 Z).b a.fr).rp ((b.rb 3 Z).b a.fr) ((b.rp 4 Z).b a.fr).rp ((b.rb 5 Z).b a.fr) ((b.rp 6 Z).b a.fr).rp ((b.rb 7 Z).b a.fr) ((b.rp 8 Z).b a.fr).rp ((b.rb 9 Z).b a.fr) ((b.rb 10 Z).b a.fr) (a.ro 1 Z).rp (a.rb 0 Z) (a.ro 1 Z).rp (a.rb 0 Z)) Z fun cr cv w a=>V 2 Z<|J h fun cd bY h=>bH a Z (dD d e f g j l 2 ap.1 bY ((b.rp 0 Z).b a.fr).rp ((b.rb 1 Z).b a.fr) ((b.rp 2 Z).b a.fr).rp ((b.rb 3 Z).b a.fr) ((b.rp 4 Z).b a.fr).rp ((b.rb 5 Z).b a.fr) ((b.rp 6 Z).b a.fr).rp ((b.rb 7 Z).b a.fr) ((b.rp 8 Z).b a.fr).rp ((b.rb 9 Z).b a.fr) ((b.rb 10 Z).b a.fr) (a.ro 5 Z).rp (a.rb 4 Z)) Z fun cw cx w a=>J h fun ce bZ h=>bH a Z (cJ d e f g j l cc.1 cd.1 bZ ((b.rp 0 Z).b a.fr).rp ((b.rb 1 Z).b a.fr) ((b.rp 2 Z).b a.fr).rp ((b.rb 3 Z).b a.fr) ((b.rp 4 Z).b a.fr).rp ((b.rb 5 Z).b a.fr) ((b.rp 6 Z).b a.fr).rp ((b.rb 7 Z).b a.fr) ((b.rp 8 Z).b a.fr).rp ((b.rb 9 Z).b a.fr) ((b.rb 10 Z).b a.fr) (a.ro 3 Z).rp (a.rb 2 Z) (a.ro 1 Z).rp (a.rb 0 Z)) Z fun cf aX w a=>V 1 Z<|gl1 ?_
 refine al<|V 6 Z<|J h fun cg b0 h=>bH a Z (cJ d e f g j l ap.1 ce.1 b0 ((b.rp 0 Z).b a.fr).rp ((b.rb 1 Z).b a.fr) ((b.rp 2 Z).b a.fr).rp ((b.rb 3 Z).b a.fr) ((b.rp 4 Z).b a.fr).rp ((b.rb 5 Z).b a.fr) ((b.rp 6 Z).b a.fr).rp ((b.rb 7 Z).b a.fr) ((b.rp 8 Z).b a.fr).rp ((b.rb 9 Z).b a.fr) ((b.rb 10 Z).b a.fr) (a.ro 9 Z).rp (a.rb 8 Z) (a.ro 1 Z).rp (a.rb 0 Z)) Z fun cy cz w a=>J h fun ch b1 h=>bH a Z (bm d e f g j l aI.1 cg.1 b1 ((b.rp 0 Z).b a.fr).rp ((b.rb 1 Z).b a.fr) ((b.rp 2 Z).b a.fr).rp ((b.rb 3 Z).b a.fr) ((b.rp 4 Z).b a.fr).rp ((b.rb 5 Z).b a.fr) ((b.rp 6 Z).b a.fr).rp ((b.rb 7 Z).b a.fr) ((b.rp 8 Z).b a.fr).rp ((b.rb 9 Z).b a.fr) ((b.rb 10 Z).b a.fr) (a.ro 9 Z).rp (a.rb 8 Z) (a.ro 1 Z).rp (a.rb 0 Z)) Z fun cA cB w a=>V 4 Z<|J h fun ci b2 h=>bH a Z (bm d e f g j l ai.1 ai.1 b2 ((b.rp 0 Z).b a.fr).rp ((b.rb 1 Z).b a.fr) ((b.rp 2 Z).b a.fr).rp ((b.rb 3 Z).b a.fr) ((b.rp 4 Z).b a.fr).rp ((b.rb 5 Z).b a.fr) ((b.rp 6 Z).b a.fr).rp ((b.rb 7 Z).b a.fr) ((b.rp 8 Z).b a.fr).rp ((b.rb 9 Z).b a.fr) ((b.rb 10 Z).b a.fr) (a.ro 17 Z).rp (a.rb 16 Z) (a.ro 17 Z).rp (a.rb 16 Z)) Z fun cC cD w a=>J h fun cj b3 h=>?_
 refine bH a Z (dD d e f g j l 8 ci.1 b3 ((b.rp 0 Z).b a.fr).rp ((b.rb 1 Z).b a.fr) ((b.rp 2 Z).b a.fr).rp ((b.rb 3 Z).b a.fr) ((b.rp 4 Z).b a.fr).rp ((b.rb 5 Z).b a.fr) ((b.rp 6 Z).b a.fr).rp ((b.rb 7 Z).b a.fr) ((b.rp 8 Z).b a.fr).rp ((b.rb 9 Z).b a.fr) ((b.rb 10 Z).b a.fr) (a.ro 1 Z).rp (a.rb 0 Z)) Z fun cE cF w a=>J h fun cG b4 h=>bH a Z (cJ d e f g j l ch.1 cj.1 b4 ((b.rp 0 Z).b a.fr).rp ((b.rb 1 Z).b a.fr) ((b.rp 2 Z).b a.fr).rp ((b.rb 3 Z).b a.fr) ((b.rp 4 Z).b a.fr).rp ((b.rb 5 Z).b a.fr) ((b.rp 6 Z).b a.fr).rp ((b.rb 7 Z).b a.fr) ((b.rp 8 Z).b a.fr).rp ((b.rb 9 Z).b a.fr) ((b.rb 10 Z).b a.fr) (a.ro 5 Z).rp (a.rb 4 Z) (a.ro 1 Z).rp (a.rb 0 Z)) Z fun ck aY w a=>V 1 Z<|gl2<|V 4 Z<|N (ao (k:=1) u78 Z Z dE Z) Z<|N (aw u59 Z Z (a.q 27 Z 1)) Z<|N (ao (k:=2) u78 Z Z dE Z) Z<|N (aw u59 Z Z (a.q 27 Z 2)) Z<|J h fun cm b5 h=>bH a Z (bm d e f g j l L t b5 ((b.rp 0 Z).b a.fr).rp ((b.rb 1 Z).b a.fr) ((b.rp 2 Z).b a.fr).rp ((b.rb 3 Z).b a.fr) ((b.rp 4 Z).b a.fr).rp ((b.rb 5 Z).b a.fr) ((b.rp 6 Z).b a.fr).rp ((b.rb 7 Z).b a.fr) ((b.rp 8 Z).b a.fr).rp ((b.rb 9 Z).b a.fr) ((b.rb 10 Z).b a.fr) ((b.rp 13 Z).b a.fr).rp ((b.rb 14 Z).b a.fr) ((b.rp 15 Z).b a.fr).rp ((b.rb 16 Z).b a.fr)) Z ?_
 rintro cH cI w a
 refine J h fun cK b6 h=>bH a Z (dD d e f g j l 2 cm.1 b6 ((b.rp 0 Z).b a.fr).rp ((b.rb 1 Z).b a.fr) ((b.rp 2 Z).b a.fr).rp ((b.rb 3 Z).b a.fr) ((b.rp 4 Z).b a.fr).rp ((b.rb 5 Z).b a.fr) ((b.rp 6 Z).b a.fr).rp ((b.rb 7 Z).b a.fr) ((b.rp 8 Z).b a.fr).rp ((b.rb 9 Z).b a.fr) ((b.rb 10 Z).b a.fr) (a.ro 1 Z).rp (a.rb 0 Z)) Z fun cn aD w a=>N (bT (vs:=[(0,O aX 0,[O aX 0]),(1,O aY 0,[O aY 0]),(2,O aD 0,[O aD 0])]) (cells:=[O aX 0,O aY 0,O aD 0]) Z nT ⟨Z,Z,Z,I⟩ Z) Z<|bl (bq (i:=30) (us:=[O aX 0,O aY 0,O aD 0]) Z ct Z Z Z ⟨Z,Z,Z,I⟩ Z a) fun w a=>Q<|az ?_
 cases h
 obtain ⟨bC,hR⟩:=hZ.outT hTT b hP a
 exact dc Z ⟨_,Z,bM (us:=[O aX 0,O aY 0,O aD 0]) u78 Z ct (a.p 30 Z Z)⟩ ⟨aX,cf,aY,ck,aD,cn,Z,bC,(hR.pick [48,47,44,43,34,33] Z)⟩
theorem ju {s:World} {aR aS aT aU aV aY aZ a0 a1 a2 a3:List UInt32} {ad ae ah aj al A B C D E G:Value} {bz aL aM aN aO aQ l m n o p q:Nat} {T:List Nat} (c d e f g:Bool) (j:Int) (L ab t au ay y:Bool) {r:Bool×List UInt32×Bool×List UInt32×Bool×List UInt32}
  (h:F.DL c aR d aS e aT f aU g aV j L aY ab aZ t a0 au a1 ay a2 y a3=some r) (hTT:TOk [] T s) (bD:RP T s X ad aR) (bQ:RB T s aL [K c,ad]) (bE:RP T s X ae aS) (bS:RB T s aM [K d,ae]) (bF:RP T s X ah aT) (bU:RB T s aN [K e,ah]) (bG:RP T s X aj aU) (bV:RB T s aO [K f,aj]) (bI:RP T s X al aV) (bW:RB T s aQ [K g,al]) (hBa0:RB T s bz [O aL 0,O aM 0,O aN 0,O aO 0,O aQ 0,H j,.func (.func 144) #[] #[]]) (bJ:RP T s X A aY) (bX:RB T s l [K L,A]) (bK:RP T s X B aZ) (bY:RB T s m [K ab,B]) (bL:RP T s X C a0) (bZ:RB T s n [K t,C]) (bN:RP T s X D a1) (b0:RB T s o [K au,D]) (bO:RP T s X E a2) (b1:RB T s p [K ay,E]) (bP:RP T s X G a3) (b2:RB T s q [K y,G]):Calls Tryz.prog 62 #[O bz 0,.agg #[O l 0,O m 0,O n 0],.agg #[O o 0,O p 0,O q 0]] s (Ret fun v w=>∃b3:Nat,∃be:Value,∃b4:Nat,∃bf:Value,∃b5:Nat,∃bg:Value,v=.agg #[O b3 0,O b4 0,O b5 0]∧St [] s w []∧Rds T w [Y b5 [K r.2.2.2.2.1,bg],P X bg r.2.2.2.2.2,Y b4 [K r.2.2.1,bf],P X bf r.2.2.2.1,Y b3 [K r.1,be],P X be r.2.1]):=by
 refine aB 137 Tryz.func62 Z Z Z<|have a:=St.k s;have hZ:=Fz.k (S:=[]) (w0:=s);?_
 have hA0:Rds T s [Y q [K y,G],P X G a3,Y p [K ay,E],P X E a2,Y o [K au,D],P X D a1,Y n [K t,C],P X C a0,Y m [K ab,B],P X B aZ,Y l [K L,A],P X A aY,Y bz [O aL 0,O aM 0,O aN 0,O aO 0,O aQ 0,H j,.func (.func 144) #[] #[]],Y aQ [K g,al],P X al aV,Y aO [K f,aj],P X aj aU,Y aN [K e,ah],P X ah aT,Y aM [K d,ae],P X ae aS,Y aL [K c,ad],P X ad aR]:=M b2.h (M (RP.h (W Z) bP) (M b1.h (M (RP.h (W Z) bO) (M b0.h (M (RP.h (W Z) bN) (M bZ.h (M (RP.h (W Z) bL) (M bY.h (M (RP.h (W Z) bK) (M bX.h (M (RP.h (W Z) bJ) (M hBa0.h (M bW.h (M (RP.h (W Z) bI) (M bV.h (M (RP.h (W Z) bG) (M bU.h (M (RP.h (W Z) bF) (M bS.h (M (RP.h (W Z) bE) (M bQ.h (M (RP.h (W Z) bD) (Rds.nil)))))))))))))))))))))))
 have b:=hA0.all
 have z:=hA0.off Z
 refine ax [(0,O bz 0),(1,.agg #[O l 0,O m 0,O n 0]),(2,.agg #[O o 0,O p 0,O q 0])] Z ?_
 unfold F.DL at h
 refine R<|bh (cu (cs:=[O l 0,O m 0,O n 0]) Z Z a) Z fun bA w a=>bh (cu (cs:=[O o 0,O p 0,O q 0]) Z Z a) Z fun bB w a=>bh (ba (cs:=[.pointer none,.pointer none,.pointer none]) iT Z a) Z fun bC w a=>gl1<|R<|N (ao (k:=2) u78 Z Z dE Z) Z<|N (aw u59 Z Z (a.q 2 Z 2)) Z<|J h fun dG cV h=>bc a Z (dC t cV ((b.rp 15 Z).b a.fr).rp ((b.rb 16 Z).b a.fr)) Z fun w a=>V 1 Z<|Q ?_
 refine gl9 Z h (fun h=>?_) (fun h=>?_)
 ·refine R<|N (aP (us:=[O o 0,O p 0,O q 0]) u78 Z ct Z (a.p 1 Z Z)) Z<|bl (bq (i:=0) (us:=[O o 0,O p 0,O q 0]) Z ct Z Z Z ⟨Z,Z,Z,I⟩ Z a) fun w a=>gl8 ?_
  cases h
  obtain ⟨aA,hR⟩:=hZ.outT hTT b z a
  exact dc Z ⟨_,Z,bM (us:=[O o 0,O p 0,O q 0]) u78 Z ct (a.p 0 Z Z)⟩ ⟨o,D,p,E,q,G,Z,aA,(hR.pick [22,21,20,19,18,17] Z)⟩
 refine gl5<|av<|R<|N (ao (k:=2) u78 Z Z dE Z) Z<|N (aw u59 Z Z (a.q 1 Z 2)) Z<|J h fun dH cW h=>bc a Z (dC y cW ((b.rp 21 Z).b a.fr).rp ((b.rb 22 Z).b a.fr)) Z fun w a=>V 1 Z<|Q ?_
 refine gl9 Z h (fun h=>?_) (fun h=>?_)
 ·refine R<|N (aP (us:=[O l 0,O m 0,O n 0]) u78 Z ct Z (a.p 2 Z Z)) Z<|bl (bq (i:=0) (us:=[O l 0,O m 0,O n 0]) Z ct Z Z Z ⟨Z,Z,Z,I⟩ Z a) fun w a=>gl8 ?_
  cases h
  obtain ⟨aA,hR⟩:=hZ.outT hTT b z a
  exact dc Z ⟨_,Z,bM (us:=[O l 0,O m 0,O n 0]) u78 Z ct (a.p 0 Z Z)⟩ ⟨l,A,m,B,n,C,Z,aA,(hR.pick [16,15,14,13,12,11] Z)⟩
 refine gl5<|av<|aX (fun w'=>St [] s w' [Y bC [.pointer none,.pointer none,.pointer none],Y bB [O o 0,O p 0,O q 0],Y bA [O l 0,O m 0,O n 0]]) (fun i=>!([5,11].contains i)) bR (fun _ _ _ hf=>hf.2) (fun _ _ hf=>hf) (by kernel_rfl)<|have a:=a.drew;show lxE _ _ _ _ _ _ _ [0,1,2,3,4,5,6,7,8,9,10,11,12,13] _ _ from an 1 Z a<|ai a Z Z (fun w u=>ao (k:=2) u78 Z Z dE Z) Z<|ai a Z Z (fun w u=>aw u59 Z Z (u.q 2 Z 2)) Z<|ai a Z Z (fun w u=>ao (k:=2) u78 Z Z dE Z) Z<|ai a Z Z (fun w u=>aw u59 Z Z (u.q 2 Z 2)) Z<|J h fun aK cX h=>bb a Z Z (by kernel_rfl) Z (bm c d e f g j t t cX ((b.rp 0 Z).b a.fr).rp ((b.rb 1 Z).b a.fr) ((b.rp 2 Z).b a.fr).rp ((b.rb 3 Z).b a.fr) ((b.rp 4 Z).b a.fr).rp ((b.rb 5 Z).b a.fr) ((b.rp 6 Z).b a.fr).rp ((b.rb 7 Z).b a.fr) ((b.rp 8 Z).b a.fr).rp ((b.rb 9 Z).b a.fr) ((b.rb 10 Z).b a.fr) ((b.rp 15 Z).b a.fr).rp ((b.rb 16 Z).b a.fr) ((b.rp 15 Z).b a.fr).rp ((b.rb 16 Z).b a.fr)) Z ?_
 rintro _ w ⟨aC,bo,rfl,x⟩
 have a:=a.e x
 refine an 1 Z (a.d [2,3,4] Z Z)<|ai (a.d [2,3,4] Z Z) Z Z (fun w u=>ao (k:=2) u78 Z Z dE Z) Z<|ai (a.d [2,3,4] Z Z) Z Z (fun w u=>aw u59 Z Z (u.q 1 Z 2)) Z<|ai (a.d [2,3,4] Z Z) Z Z (fun w u=>ao (k:=2) u78 Z Z dE Z) Z<|ai (a.d [2,3,4] Z Z) Z Z (fun w u=>aw u59 Z Z (u.q 1 Z 2)) Z<|J h fun ac cq h=>bb (a.d [2,3,4] Z Z) Z Z (by kernel_rfl) Z (bm c d e f g j y y cq ((b.rp 0 Z).b a.fr).rp ((b.rb 1 Z).b a.fr) ((b.rp 2 Z).b a.fr).rp ((b.rb 3 Z).b a.fr) ((b.rp 4 Z).b a.fr).rp ((b.rb 5 Z).b a.fr) ((b.rp 6 Z).b a.fr).rp ((b.rb 7 Z).b a.fr) ((b.rp 8 Z).b a.fr).rp ((b.rb 9 Z).b a.fr) ((b.rb 10 Z).b a.fr) ((b.rp 21 Z).b a.fr).rp ((b.rb 22 Z).b a.fr) ((b.rp 21 Z).b a.fr).rp ((b.rb 22 Z).b a.fr)) Z ?_
 rintro _ w ⟨aD,bp,rfl,x⟩
 have a:=a.e x
 refine an 2 Z (a.d [4,5,6] Z Z)<|bn (a.d [4,5,6] Z Z)<|ak<|av<|aX (fun w'=>St [] s w' [Y bp [K ac.1,aD],U X aD ac.2,Y bo [K aK.1,aC],U X aC aK.2,Y bC [.pointer none,.pointer none,.pointer none],Y bB [O o 0,O p 0,O q 0],Y bA [O l 0,O m 0,O n 0]]) (fun i=>!([4,9].contains i)) bR (fun _ _ _ hf=>hf.2) (fun _ _ hf=>hf) (by kernel_rfl)<|have a:=a.drew;show lxE _ _ _ _ _ _ _ [0,1,2,3,4,5,6,7,8,9,10,11] _ _ from an 1 Z a<|ai a Z Z (fun w u=>ao (k:=0) u78 Z Z dE Z) Z<|ai a Z Z (fun w u=>aw u59 Z Z (u.q 6 Z 0)) Z<|an 1 Z a<|J h fun aE cr h=>bb a Z Z (by kernel_rfl) Z (bm c d e f g j L ac.1 cr ((b.rp 0 Z).b a.fr).rp ((b.rb 1 Z).b a.fr) ((b.rp 2 Z).b a.fr).rp ((b.rb 3 Z).b a.fr) ((b.rp 4 Z).b a.fr).rp ((b.rb 5 Z).b a.fr) ((b.rp 6 Z).b a.fr).rp ((b.rb 7 Z).b a.fr) ((b.rp 8 Z).b a.fr).rp ((b.rb 9 Z).b a.fr) ((b.rb 10 Z).b a.fr) ((b.rp 11 Z).b a.fr).rp ((b.rb 12 Z).b a.fr) (a.ro 1 Z).rp (a.rb 0 Z)) Z ?_
 rintro _ w ⟨a8,b6,rfl,x⟩
 have a:=a.e x
 refine an 1 Z (a.d [2,3,4,5,6,7,8] Z Z)<|ai (a.d [2,3,4,5,6,7,8] Z Z) Z Z (fun w u=>ao (k:=0) u78 Z Z dE Z) Z<|ai (a.d [2,3,4,5,6,7,8] Z Z) Z Z (fun w u=>aw u59 Z Z (u.q 5 Z 0)) Z<|an 1 Z (a.d [2,3,4,5,6,7,8] Z Z)<|J h fun a5 cv h=>bb (a.d [2,3,4,5,6,7,8] Z Z) Z Z (by kernel_rfl) Z (bm c d e f g j au aK.1 cv ((b.rp 0 Z).b a.fr).rp ((b.rb 1 Z).b a.fr) ((b.rp 2 Z).b a.fr).rp ((b.rb 3 Z).b a.fr) ((b.rp 4 Z).b a.fr).rp ((b.rb 5 Z).b a.fr) ((b.rp 6 Z).b a.fr).rp ((b.rb 7 Z).b a.fr) ((b.rp 8 Z).b a.fr).rp ((b.rb 9 Z).b a.fr) ((b.rb 10 Z).b a.fr) ((b.rp 17 Z).b a.fr).rp ((b.rb 18 Z).b a.fr) (a.ro 5 Z).rp (a.rb 4 Z)) Z ?_
 rintro _ w ⟨a9,b7,rfl,x⟩
 have a:=a.e x
 refine an 2 Z (a.d [4,5,6,7,8,9,10] Z Z)<|bn (a.d [4,5,6,7,8,9,10] Z Z)<|ak<|av<|aX (fun w'=>St [] s w' [Y b7 [K a5.1,a9],U X a9 a5.2,Y b6 [K aE.1,a8],U X a8 aE.2,Y bp [K ac.1,aD],U X aD ac.2,Y bo [K aK.1,aC],U X aC aK.2,Y bC [.pointer none,.pointer none,.pointer none],Y bB [O o 0,O p 0,O q 0],Y bA [O l 0,O m 0,O n 0]]) (fun i=>!([7,8,16,17].contains i)) bR (fun _ _ _ hf=>hf.2) (fun _ _ hf=>hf) (by kernel_rfl)<|have a:=a.drew;show lxE _ _ _ _ _ _ _ [0,1,2,3,4,5,6,7,8,9,10,11,12,13,14,15,16,17,18,19] _ _ from an 1 Z a<|ai a Z Z (fun w u=>ao (k:=1) u78 Z Z dE Z) Z<|ai a Z Z (fun w u=>aw u59 Z Z (u.q 10 Z 1)) Z<|an 1 Z a<|ai a Z Z (fun w u=>ao (k:=2) u78 Z Z dE Z) Z<|ai a Z Z (fun w u=>aw u59 Z Z (u.q 9 Z 2)) Z<|an 1 Z a<|J h fun br cw h=>bb a Z Z (by kernel_rfl) Z (bm c d e f g j y ac.1 cw ((b.rp 0 Z).b a.fr).rp ((b.rb 1 Z).b a.fr) ((b.rp 2 Z).b a.fr).rp ((b.rb 3 Z).b a.fr) ((b.rp 4 Z).b a.fr).rp ((b.rb 5 Z).b a.fr) ((b.rp 6 Z).b a.fr).rp ((b.rb 7 Z).b a.fr) ((b.rp 8 Z).b a.fr).rp ((b.rb 9 Z).b a.fr) ((b.rb 10 Z).b a.fr) ((b.rp 21 Z).b a.fr).rp ((b.rb 22 Z).b a.fr) (a.ro 5 Z).rp (a.rb 4 Z)) Z ?_
 rintro _ w ⟨b8,cY,rfl,x⟩
 have a:=a.e x
 refine J h fun bd cx h=>bb (a.d [2,3,4,5,6,7,8,9,10,11,12] Z Z) Z Z (by kernel_rfl) Z (bm c d e f g j ab br.1 cx ((b.rp 0 Z).b a.fr).rp ((b.rb 1 Z).b a.fr) ((b.rp 2 Z).b a.fr).rp ((b.rb 3 Z).b a.fr) ((b.rp 4 Z).b a.fr).rp ((b.rb 5 Z).b a.fr) ((b.rp 6 Z).b a.fr).rp ((b.rb 7 Z).b a.fr) ((b.rp 8 Z).b a.fr).rp ((b.rb 9 Z).b a.fr) ((b.rb 10 Z).b a.fr) ((b.rp 13 Z).b a.fr).rp ((b.rb 14 Z).b a.fr) (a.ro 1 Z).rp (a.rb 0 Z)) Z ?_
 rintro _ w ⟨b9,cZ,rfl,x⟩
 have a:=a.e x
 refine an 1 Z (a.d [4,5,6,7,8,9,10,11,12,13,14] Z Z)<|ai (a.d [4,5,6,7,8,9,10,11,12,13,14] Z Z) Z Z (fun w u=>ao (k:=1) u78 Z Z dE Z) Z<|ai (a.d [4,5,6,7,8,9,10,11,12,13,14] Z Z) Z Z (fun w u=>aw u59 Z Z (u.q 9 Z 1)) Z<|an 1 Z (a.d [4,5,6,7,8,9,10,11,12,13,14] Z Z)<|ai (a.d [4,5,6,7,8,9,10,11,12,13,14] Z Z) Z Z (fun w u=>ao (k:=2) u78 Z Z dE Z) Z<|ai (a.d [4,5,6,7,8,9,10,11,12,13,14] Z Z) Z Z (fun w u=>aw u59 Z Z (u.q 10 Z 2)) Z<|an 1 Z (a.d [4,5,6,7,8,9,10,11,12,13,14] Z Z)<|J h fun bs cy h=>bb (a.d [4,5,6,7,8,9,10,11,12,13,14] Z Z) Z Z (by kernel_rfl) Z (bm c d e f g j t aK.1 cy ((b.rp 0 Z).b a.fr).rp ((b.rb 1 Z).b a.fr) ((b.rp 2 Z).b a.fr).rp ((b.rb 3 Z).b a.fr) ((b.rp 4 Z).b a.fr).rp ((b.rb 5 Z).b a.fr) ((b.rp 6 Z).b a.fr).rp ((b.rb 7 Z).b a.fr) ((b.rp 8 Z).b a.fr).rp ((b.rb 9 Z).b a.fr) ((b.rb 10 Z).b a.fr) ((b.rp 15 Z).b a.fr).rp ((b.rb 16 Z).b a.fr) (a.ro 11 Z).rp (a.rb 10 Z)) Z ?_
 rintro _ w ⟨ca,c0,rfl,x⟩
 have a:=a.e x
 refine J h fun bt cz h=>bb (a.d [6,7,8,9,10,11,12,13,14,15,16] Z Z) Z Z (by kernel_rfl) Z (bm c d e f g j ay bs.1 cz ((b.rp 0 Z).b a.fr).rp ((b.rb 1 Z).b a.fr) ((b.rp 2 Z).b a.fr).rp ((b.rb 3 Z).b a.fr) ((b.rp 4 Z).b a.fr).rp ((b.rb 5 Z).b a.fr) ((b.rp 6 Z).b a.fr).rp ((b.rb 7 Z).b a.fr) ((b.rp 8 Z).b a.fr).rp ((b.rb 9 Z).b a.fr) ((b.rb 10 Z).b a.fr) ((b.rp 19 Z).b a.fr).rp ((b.rb 20 Z).b a.fr) (a.ro 1 Z).rp (a.rb 0 Z)) Z ?_
 rintro _ w ⟨cb,c1,rfl,x⟩
 have a:=a.e x
 refine an 2 Z (a.d [8,9,10,11,12,13,14,15,16,17,18] Z Z)<|bn (a.d [8,9,10,11,12,13,14,15,16,17,18] Z Z)<|ak<|R<|V 3 Z<|J h fun ar cA h=>bH a Z (cJ c d e f g j a5.1 aE.1 cA ((b.rp 0 Z).b a.fr).rp ((b.rb 1 Z).b a.fr) ((b.rp 2 Z).b a.fr).rp ((b.rb 3 Z).b a.fr) ((b.rp 4 Z).b a.fr).rp ((b.rb 5 Z).b a.fr) ((b.rp 6 Z).b a.fr).rp ((b.rb 7 Z).b a.fr) ((b.rp 8 Z).b a.fr).rp ((b.rb 9 Z).b a.fr) ((b.rb 10 Z).b a.fr) (a.ro 9 Z).rp (a.rb 8 Z) (a.ro 11 Z).rp (a.rb 10 Z)) Z fun cc c2 w a=>V 3 Z<|J h fun aF cB h=>bH a Z (cJ c d e f g j bt.1 bd.1 cB ((b.rp 0 Z).b a.fr).rp ((b.rb 1 Z).b a.fr) ((b.rp 2 Z).b a.fr).rp ((b.rb 3 Z).b a.fr) ((b.rp 4 Z).b a.fr).rp ((b.rb 5 Z).b a.fr) ((b.rp 6 Z).b a.fr).rp ((b.rb 7 Z).b a.fr) ((b.rp 8 Z).b a.fr).rp ((b.rb 9 Z).b a.fr) ((b.rb 10 Z).b a.fr) (a.ro 3 Z).rp (a.rb 2 Z) (a.ro 7 Z).rp (a.rb 6 Z)) Z fun cd c3 w a=>V 2 Z<|gl1<|R<|V 1 Z<|J h fun dq cC h=>bc a Z (dC ar.1 cC (a.ro 3 Z).rp (a.rb 2 Z)) Z fun w a=>V 1 Z<|Q ?_
 refine gl9 Z h (fun h=>?_) (fun h=>?_)
 ·refine av<|R<|V 1 Z<|J h fun dr cD h=>bc a Z (dC aF.1 cD (a.ro 1 Z).rp (a.rb 0 Z)) Z fun w a=>V 1 Z<|Q ?_
  refine gl9 Z h (fun h=>?_) (fun h=>?_)
  ·refine R<|V 1 Z<|N (aP (us:=[O l 0,O m 0,O n 0]) u78 Z ct Z (a.p 22 Z Z)) Z ?_
   replace a:=a.pick (os':=[Y c3 [K aF.1,cd],U X cd aF.2,Y c2 [K ar.1,cc],U X cc ar.2,Y c1 [K bt.1,cb],U X cb bt.2,Y c0 [K bs.1,ca],U X ca bs.2,Y cZ [K bd.1,b9],U X b9 bd.2,Y cY [K br.1,b8],U X b8 br.2,Y b7 [K a5.1,a9],U X a9 a5.2,Y b6 [K aE.1,a8],U X a8 aE.2,Y bp [K ac.1,aD],U X aD ac.2,Y bo [K aK.1,aC],U X aC aK.2]++[Y bC [.pointer none,.pointer none,.pointer none],Y bB [O o 0,O p 0,O q 0],Y bA [O l 0,O m 0,O n 0]]) [0,1,2,3,4,5,6,7,8,9,10,11,12,13,14,15,16,17,18,19,20,21,22] (by decide) rfl
   obtain ⟨hZ,b,z,a⟩:=hZ.frzK hTT b z a
   refine J h fun ds cE h=>aG Z (ir c d e f g j L ab t cE (hZ.okT hTT a) (b.i z 0 Z) (b.j z 1 Z) (b.i z 2 Z) (b.j z 3 Z) (b.i z 4 Z) (b.j z 5 Z) (b.i z 6 Z) (b.j z 7 Z) (b.i z 8 Z) (b.j z 9 Z) (b.j z 10 Z) (b.i z 11 Z) (b.j z 12 Z) (b.i z 13 Z) (b.j z 14 Z) (b.i z 15 Z) (b.j z 16 Z)) Z ?_
   rintro _ w ⟨aH,bi,aI,bj,aJ,bk,rfl,x,c8⟩
   obtain ⟨dt,c9,hZ,b,z,a⟩:=hZ.l b z a x c8 rfl
   refine bl (bq (i:=0) (us:=[O aH 0,O aI 0,O aJ 0]) Z ct Z Z Z ⟨Z,Z,Z,I⟩ Z a) fun w a=>gl8<|aW ?_
   cases h
   obtain ⟨aA,hR⟩:=hZ.outT hTT b z a
   exact dc Z ⟨_,Z,bM (us:=[O aH 0,O aI 0,O aJ 0]) u78 Z ct (a.p 0 Z Z)⟩ ⟨aH,bi,aI,bj,aJ,bk,Z,aA,(hR.pick [48,47,46,45,44,43] Z)⟩
  refine gl6<|J h fun du cF h=>aG Z (fS  cF ) Z ?_
  rintro _ w ⟨c4,c5,c6,bu,bv,bw,rfl,x⟩
  have a:=a.e x
  refine bl (bq (i:=26) (us:=[O bu 0,O bv 0,O bw 0]) Z ct Z Z Z ⟨Z,Z,Z,I⟩ Z a) fun w a=>gl8 ?_
  cases h
  obtain ⟨aA,hR⟩:=hZ.outT hTT b z a
  exact dc Z ⟨_,Z,bM (us:=[O bu 0,O bv 0,O bw 0]) u78 Z ct (a.p 26 Z Z)⟩ ⟨bu,c4,bv,c5,bw,c6,Z,aA,(hR.pick [47,46,49,48,51,50] Z)⟩
 refine gl6<|V 3 Z<|J h fun ce cG h=>bH a Z (bm c d e f g j ar.1 ar.1 cG ((b.rp 0 Z).b a.fr).rp ((b.rb 1 Z).b a.fr) ((b.rp 2 Z).b a.fr).rp ((b.rb 3 Z).b a.fr) ((b.rp 4 Z).b a.fr).rp ((b.rb 5 Z).b a.fr) ((b.rp 6 Z).b a.fr).rp ((b.rb 7 Z).b a.fr) ((b.rp 8 Z).b a.fr).rp ((b.rb 9 Z).b a.fr) ((b.rb 10 Z).b a.fr) (a.ro 3 Z).rp (a.rb 2 Z) (a.ro 3 Z).rp (a.rb 2 Z)) Z fun dv dw w a=>V 1 Z<|gl2<|V 3 Z<|J h fun cf cH h=>bH a Z (bm c d e f g j ar.1 ce.1 cH ((b.rp 0 Z).b a.fr).rp ((b.rb 1 Z).b a.fr) ((b.rp 2 Z).b a.fr).rp ((b.rb 3 Z).b a.fr) ((b.rp 4 Z).b a.fr).rp ((b.rb 5 Z).b a.fr) ((b.rp 6 Z).b a.fr).rp ((b.rb 7 Z).b a.fr) ((b.rp 8 Z).b a.fr).rp ((b.rb 9 Z).b a.fr) ((b.rb 10 Z).b a.fr) (a.ro 5 Z).rp (a.rb 4 Z) (a.ro 1 Z).rp (a.rb 0 Z)) Z fun dx dy w a=>V 3 Z<|J h fun cg cI h=>bH a Z (bm c d e f g j aE.1 ce.1 cI ((b.rp 0 Z).b a.fr).rp ((b.rb 1 Z).b a.fr) ((b.rp 2 Z).b a.fr).rp ((b.rb 3 Z).b a.fr) ((b.rp 4 Z).b a.fr).rp ((b.rb 5 Z).b a.fr) ((b.rp 6 Z).b a.fr).rp ((b.rb 7 Z).b a.fr) ((b.rp 8 Z).b a.fr).rp ((b.rb 9 Z).b a.fr) ((b.rb 10 Z).b a.fr) (a.ro 19 Z).rp (a.rb 18 Z) (a.ro 3 Z).rp (a.rb 2 Z)) Z ?_
 rintro dz dA w a
 refine V 2 Z<|gl2<|V 5 Z<|J h fun c7 cK h=>bH a Z (bm c d e f g j aF.1 aF.1 cK ((b.rp 0 Z).b a.fr).rp ((b.rb 1 Z).b a.fr) ((b.rp 2 Z).b a.fr).rp ((b.rb 3 Z).b a.fr) ((b.rp 4 Z).b a.fr).rp ((b.rb 5 Z).b a.fr) ((b.rp 6 Z).b a.fr).rp ((b.rb 7 Z).b a.fr) ((b.rp 8 Z).b a.fr).rp ((b.rb 9 Z).b a.fr) ((b.rb 10 Z).b a.fr) (a.ro 7 Z).rp (a.rb 6 Z) (a.ro 7 Z).rp (a.rb 6 Z)) Z fun dB dF w a=>V 1 Z<|J h fun cL ch h=>bH a Z (cJ c d e f g j c7.1 cf.1 ch ((b.rp 0 Z).b a.fr).rp ((b.rb 1 Z).b a.fr) ((b.rp 2 Z).b a.fr).rp ((b.rb 3 Z).b a.fr) ((b.rp 4 Z).b a.fr).rp ((b.rb 5 Z).b a.fr) ((b.rp 6 Z).b a.fr).rp ((b.rb 7 Z).b a.fr) ((b.rp 8 Z).b a.fr).rp ((b.rb 9 Z).b a.fr) ((b.rb 10 Z).b a.fr) (a.ro 1 Z).rp (a.rb 0 Z) (a.ro 5 Z).rp (a.rb 4 Z)) Z fun da db w a=>V 2 Z<|J h fun cM ci h=>bH a Z (dD c d e f g j 2 cg.1 ci ((b.rp 0 Z).b a.fr).rp ((b.rb 1 Z).b a.fr) ((b.rp 2 Z).b a.fr).rp ((b.rb 3 Z).b a.fr) ((b.rp 4 Z).b a.fr).rp ((b.rb 5 Z).b a.fr) ((b.rp 6 Z).b a.fr).rp ((b.rb 7 Z).b a.fr) ((b.rp 8 Z).b a.fr).rp ((b.rb 9 Z).b a.fr) ((b.rb 10 Z).b a.fr) (a.ro 5 Z).rp (a.rb 4 Z)) Z fun dd de w a=>?_
 refine J h fun cN cj h=>bH a Z (cJ c d e f g j cL.1 cM.1 cj ((b.rp 0 Z).b a.fr).rp ((b.rb 1 Z).b a.fr) ((b.rp 2 Z).b a.fr).rp ((b.rb 3 Z).b a.fr) ((b.rp 4 Z).b a.fr).rp ((b.rb 5 Z).b a.fr) ((b.rp 6 Z).b a.fr).rp ((b.rb 7 Z).b a.fr) ((b.rp 8 Z).b a.fr).rp ((b.rb 9 Z).b a.fr) ((b.rb 10 Z).b a.fr) (a.ro 3 Z).rp (a.rb 2 Z) (a.ro 1 Z).rp (a.rb 0 Z)) Z fun cO am w a=>V 1 Z<|gl2<|V 6 Z<|J h fun cP ck h=>bH a Z (cJ c d e f g j cg.1 cN.1 ck ((b.rp 0 Z).b a.fr).rp ((b.rb 1 Z).b a.fr) ((b.rp 2 Z).b a.fr).rp ((b.rb 3 Z).b a.fr) ((b.rp 4 Z).b a.fr).rp ((b.rb 5 Z).b a.fr) ((b.rp 6 Z).b a.fr).rp ((b.rb 7 Z).b a.fr) ((b.rp 8 Z).b a.fr).rp ((b.rb 9 Z).b a.fr) ((b.rb 10 Z).b a.fr) (a.ro 9 Z).rp (a.rb 8 Z) (a.ro 1 Z).rp (a.rb 0 Z)) Z fun df dg w a=>J h fun cQ cl h=>bH a Z (bm c d e f g j aF.1 cP.1 cl ((b.rp 0 Z).b a.fr).rp ((b.rb 1 Z).b a.fr) ((b.rp 2 Z).b a.fr).rp ((b.rb 3 Z).b a.fr) ((b.rp 4 Z).b a.fr).rp ((b.rb 5 Z).b a.fr) ((b.rp 6 Z).b a.fr).rp ((b.rb 7 Z).b a.fr) ((b.rp 8 Z).b a.fr).rp ((b.rb 9 Z).b a.fr) ((b.rb 10 Z).b a.fr) (a.ro 17 Z).rp (a.rb 16 Z) (a.ro 1 Z).rp (a.rb 0 Z)) Z fun dh di w a=>?_
 refine V 3 Z<|J h fun cR cm h=>bH a Z (bm c d e f g j bd.1 cf.1 cm ((b.rp 0 Z).b a.fr).rp ((b.rb 1 Z).b a.fr) ((b.rp 2 Z).b a.fr).rp ((b.rb 3 Z).b a.fr) ((b.rp 4 Z).b a.fr).rp ((b.rb 5 Z).b a.fr) ((b.rp 6 Z).b a.fr).rp ((b.rb 7 Z).b a.fr) ((b.rp 8 Z).b a.fr).rp ((b.rb 9 Z).b a.fr) ((b.rb 10 Z).b a.fr) (a.ro 27 Z).rp (a.rb 26 Z) (a.ro 15 Z).rp (a.rb 14 Z)) Z fun dj dk w a=>J h fun dl cn h=>bH a Z (cJ c d e f g j cQ.1 cR.1 cn ((b.rp 0 Z).b a.fr).rp ((b.rb 1 Z).b a.fr) ((b.rp 2 Z).b a.fr).rp ((b.rb 3 Z).b a.fr) ((b.rp 4 Z).b a.fr).rp ((b.rb 5 Z).b a.fr) ((b.rp 6 Z).b a.fr).rp ((b.rb 7 Z).b a.fr) ((b.rp 8 Z).b a.fr).rp ((b.rb 9 Z).b a.fr) ((b.rb 10 Z).b a.fr) (a.ro 3 Z).rp (a.rb 2 Z) (a.ro 1 Z).rp (a.rb 0 Z)) Z fun cS ap w a=>V 1 Z<|gl2<|V 5 Z<|N (ao (k:=2) u78 Z Z dE Z) Z<|N (aw u59 Z Z (a.q 44 Z 2)) Z<|N (ao (k:=2) u78 Z Z dE Z) Z<|N (aw u59 Z Z (a.q 43 Z 2)) Z<|J h fun cT co h=>bH a Z (bm c d e f g j t y co ((b.rp 0 Z).b a.fr).rp ((b.rb 1 Z).b a.fr) ((b.rp 2 Z).b a.fr).rp ((b.rb 3 Z).b a.fr) ((b.rp 4 Z).b a.fr).rp ((b.rb 5 Z).b a.fr) ((b.rp 6 Z).b a.fr).rp ((b.rb 7 Z).b a.fr) ((b.rp 8 Z).b a.fr).rp ((b.rb 9 Z).b a.fr) ((b.rb 10 Z).b a.fr) ((b.rp 15 Z).b a.fr).rp ((b.rb 16 Z).b a.fr) ((b.rp 21 Z).b a.fr).rp ((b.rb 22 Z).b a.fr)) Z ?_
 rintro dm dn w a
 refine J h fun dp cp h=>bH a Z (bm c d e f g j ar.1 cT.1 cp ((b.rp 0 Z).b a.fr).rp ((b.rb 1 Z).b a.fr) ((b.rp 2 Z).b a.fr).rp ((b.rb 3 Z).b a.fr) ((b.rp 4 Z).b a.fr).rp ((b.rb 5 Z).b a.fr) ((b.rp 6 Z).b a.fr).rp ((b.rb 7 Z).b a.fr) ((b.rp 8 Z).b a.fr).rp ((b.rb 9 Z).b a.fr) ((b.rb 10 Z).b a.fr) (a.ro 27 Z).rp (a.rb 26 Z) (a.ro 1 Z).rp (a.rb 0 Z)) Z fun cU aq w a=>N (bT (vs:=[(0,O am 0,[O am 0]),(1,O ap 0,[O ap 0]),(2,O aq 0,[O aq 0])]) (cells:=[O am 0,O ap 0,O aq 0]) Z nT ⟨Z,Z,Z,I⟩ Z) Z<|bl (bq (i:=46) (us:=[O am 0,O ap 0,O aq 0]) Z ct Z Z Z ⟨Z,Z,Z,I⟩ Z a) fun w a=>Q<|az ?_
 cases h
 obtain ⟨aA,hR⟩:=hZ.outT hTT b z a
 exact dc Z ⟨_,Z,bM (us:=[O am 0,O ap 0,O aq 0]) u78 Z ct (a.p 46 Z Z)⟩ ⟨am,cO,ap,cS,aq,cU,Z,aA,(hR.pick [71,70,67,66,59,58] Z)⟩
theorem nt {c:World} {aq ar au ay aA aC aD aE:List UInt32} {T ab ac ad ae ah aj al:Value} {aR aI aJ aL aM aN l m n:Nat} (b d e f g:Bool) (C:Int) (L S x:Bool) {r:List UInt32×List UInt32×Bool}
  (h:F.DW b aq d ar e au f ay g aA C L aC S aD x aE=some r) (j:RP [] c X T aq) (o:RB [] c aI [K b,T]) (q:RP [] c X ab ar) (y:RB [] c aJ [K d,ab]) (s:RP [] c X ac au) (z:RB [] c aL [K e,ac]) (t:RP [] c X ad ay) (A:RB [] c aM [K f,ad]) (u:RP [] c X ae aA) (B:RB [] c aN [K g,ae]) (hBa0:RB [] c aR [O aI 0,O aJ 0,O aL 0,O aM 0,O aN 0,H C,.func (.func 144) #[] #[]]) (aO:RP [] c X ah aC) (aS:RB [] c l [K L,ah]) (aP:RP [] c X aj aD) (aT:RB [] c m [K S,aj]) (am:RP [] c X al aE) (aF:RB [] c n [K x,al]):Calls Tryz.prog 66 #[O aR 0,.agg #[O l 0,O m 0,O n 0]] c (Ret fun v w=>∃aU aV:Value,v=.agg #[aU,aV,K r.2.2]∧St [] c w [U X aU r.1,U X aV r.2.1]):=by
 refine aB 40 Tryz.func66 Z Z Z<|have a:=St.k c;ax [(0,O aR 0),(1,.agg #[O l 0,O m 0,O n 0])] Z ?_
 unfold F.DW at h
 refine R<|bh (cu (cs:=[O l 0,O m 0,O n 0]) Z Z a) Z fun aW w a=>bh (ba (cs:=[.slice none 0 0,.slice none 0 0,K false]) jk Z a) Z fun aY w a=>gl1<|R<|N (ao (k:=2) u78 Z Z dE Z) Z<|N (aw u59 Z Z (a.q 1 Z 2)) Z<|J h fun bw bd h=>bc a Z (dC x bd (am.b a.fr).rp (aF.b a.fr)) Z fun w a=>V 1 Z<|Q ?_
 refine gl9 Z h (fun h=>?_) (fun h=>?_)
 ·refine R<|N (bT (vs:=[(2,K true,[K true])]) (cells:=[.slice none 0 0,.slice none 0 0,K true]) Z fp ⟨Z,I⟩ Z) Z<|bl (bq (i:=0) (us:=[.slice none 0 0,.slice none 0 0,K true]) Z cC Z Z Z ⟨Z,Z,Z,I⟩ Z a) fun w a=>gl8 ?_
  cases h
  exact dc Z ⟨_,Z,bM (us:=[.slice none 0 0,.slice none 0 0,K true]) u33 Z cC (a.p 0 Z Z)⟩ ⟨.slice none 0 0,.slice none 0 0,Z,((a.nil X).nil X).d [1,0] Z Z⟩
 refine gl5<|av<|aX (fun w'=>St [] c w' [Y aY [.slice none 0 0,.slice none 0 0,K false],Y aW [O l 0,O m 0,O n 0]]) (fun i=>!([0,7].contains i)) bR (fun _ _ _ hf=>hf.2) (fun _ _ hf=>hf) (by kernel_rfl)<|have a:=a.drew;show lxE _ _ _ _ _ _ _ [0,1,2,3,4,5,6,7,8] _ _ from wh a Z Z (ba (cs:=[K false,.slice none 0 0]) en Z a) Z ?_
 rintro _ w ⟨a9,rfl,a⟩
 refine ai (a.d [1,2] Z Z) Z Z (fun w D=>ao (k:=2) u78 Z Z dE Z) Z<|ai (a.d [1,2] Z Z) Z Z (fun w D=>aw u59 Z Z (D.q 1 Z 2)) Z<|an 1 Z (a.d [1,2] Z Z)<|ai (a.d [1,2] Z Z) Z Z (fun w D=>aK Z) Z<|ai (a.d [1,2] Z Z) Z Z (fun w D=>ao (k:=0) u62 Z Z dE Z) Z<|ai (a.d [1,2] Z Z) Z Z (fun w D=>aw u59 Z Z (hBa0.cell D.fr 0 Z)) Z ?_
 replace a:=a.nil X
 have hG:=a.pick (os':=[Y a9 [K false,.slice none 0 0],U X (.slice none 0 0) []]++[Y aY [.slice none 0 0,.slice none 0 0,K false],Y aW [O l 0,O m 0,O n 0]]) [1,0,2,3] (by decide) Z
 refine J h fun aG be h=>bb (a.d [2,3] Z Z) Z Z (by kernel_rfl) Z (kc false x b be hG.f (am.f (W Z) hG) (aF.f hG) (j.f (W Z) hG) (o.f hG)) Z ?_
 rintro _ w ⟨aZ,rfl,p⟩
 have a:=hG.g p
 refine an 1 Z (a.d [2,3] Z Z)<|bn (a.d [2,3] Z Z)<|ak<|R<|V 3 Z<|J h fun ap a1 h=>bH a Z (bm b d e f g C aG.1 aG.1 a1 (j.b a.fr).rp (o.b a.fr) (q.b a.fr).rp (y.b a.fr) (s.b a.fr).rp (z.b a.fr) (t.b a.fr).rp (A.b a.fr) (u.b a.fr).rp (B.b a.fr) (hBa0.b a.fr) (a.ro 1 Z).rp (a.rb 0 Z) (a.ro 1 Z).rp (a.rb 0 Z)) Z fun a0 bf w a=>V 1 Z<|gl1<|de (fun w'=>St [] c w' [Y bf [K ap.1,a0],U X a0 ap.2,Y a9 [K aG.1,aZ],U X aZ aG.2,Y aY [.slice none 0 0,.slice none 0 0,K false],Y aW [O l 0,O m 0,O n 0]]) (fun i=>!([4,5,12,13,14,16].contains i)) bR (fun _ _ _ hf=>hf.2) (fun _ _ hf=>hf) (by kernel_rfl)<|have a:=a.drew;show lxE _ _ _ _ _ _ _ [0,1,2,3,4,5,6,7,8,9,10,11,12,13,14,15,16] _ _ from an 1 Z a<|ai a Z Z (fun w D=>ao (k:=0) u78 Z Z dE Z) Z<|ai a Z Z (fun w D=>aw u59 Z Z (D.q 5 Z 0)) Z<|an 1 Z a<|J h fun bg a2 h=>bb a Z Z (by kernel_rfl) Z (bm b d e f g C L ap.1 a2 (j.b a.fr).rp (o.b a.fr) (q.b a.fr).rp (y.b a.fr) (s.b a.fr).rp (z.b a.fr) (t.b a.fr).rp (A.b a.fr) (u.b a.fr).rp (B.b a.fr) (hBa0.b a.fr) (aO.b a.fr).rp (aS.b a.fr) (a.ro 1 Z).rp (a.rb 0 Z)) Z ?_
 rintro _ w ⟨bk,bo,rfl,p⟩
 have a:=a.e p
 refine J h fun bp a3 h=>bb (a.d [2,3,4,5,6,7] Z Z) Z Z (by kernel_rfl) Z (kE bg.1 a3 (a.ro 1 Z).rp (a.rb 0 Z)) Z fun E w p=>have a:=a.e p;have a4:=(a.ro 0 Z).one;an 1 Z (a.d [3,4,5,6,7,8] Z Z)<|ai (a.d [3,4,5,6,7,8] Z Z) Z Z (fun w D=>ao (k:=1) u78 Z Z dE Z) Z<|ai (a.d [3,4,5,6,7,8] Z Z) Z Z (fun w D=>aw u59 Z Z (D.q 5 Z 1)) Z<|an 3 Z (a.d [3,4,5,6,7,8] Z Z)<|J h fun bi a5 h=>bb (a.d [3,4,5,6,7,8] Z Z) Z Z (by kernel_rfl) Z (bm b d e f g C aG.1 ap.1 a5 (j.b a.fr).rp (o.b a.fr) (q.b a.fr).rp (y.b a.fr) (s.b a.fr).rp (z.b a.fr) (t.b a.fr).rp (A.b a.fr) (u.b a.fr).rp (B.b a.fr) (hBa0.b a.fr) (a.ro 6 Z).rp (a.rb 5 Z) (a.ro 4 Z).rp (a.rb 3 Z)) Z ?_
 rintro _ w ⟨br,bs,rfl,p⟩
 have a:=a.e p
 refine J h fun bj a6 h=>bb (a.d [5,6,7,8,9,10] Z Z) Z Z (by kernel_rfl) Z (bm b d e f g C S bi.1 a6 (j.b a.fr).rp (o.b a.fr) (q.b a.fr).rp (y.b a.fr) (s.b a.fr).rp (z.b a.fr) (t.b a.fr).rp (A.b a.fr) (u.b a.fr).rp (B.b a.fr) (hBa0.b a.fr) (aP.b a.fr).rp (aT.b a.fr) (a.ro 1 Z).rp (a.rb 0 Z)) Z ?_
 rintro _ w ⟨bt,bu,rfl,p⟩
 have a:=a.e p
 refine J h fun bv a7 h=>bb (a.d [7,8,9,10,11,12] Z Z) Z Z (by kernel_rfl) Z (kE bj.1 a7 (a.ro 1 Z).rp (a.rb 0 Z)) Z fun G w p=>have a:=a.e p;have a8:=(a.ro 0 Z).one;ai (a.d [8,9,10,11,12,13] Z Z) Z Z (fun w D=>bT (vs:=[(0,E,[E]),(1,G,[G])]) (cells:=[E,G,K false]) Z fp ⟨(cz a4),(cz a8),I⟩ Z) Z<|fU (a.d [8,9,10,11,12,13] Z Z) Z Z (bq (i:=12) (us:=[E,G,K false]) Z cC Z Z Z ⟨(a.ro 5 Z).one,(a.ro 0 Z).one,Z,I⟩ Z a) fun w a=>bn I<|ak<|az ?_
 cases h
 exact dc Z ⟨_,Z,bM (us:=[E,G,K false]) u33 Z cC (a.p 12 Z Z)⟩ ⟨E,G,Z,a.d [5,0] Z Z⟩
theorem sw {d:World} {aD aE aF aI aJ aK aL aM aN aO aQ:List UInt32} {t u x y z A B C D E G:Value} {a9 av aw ay aA aC k l m e f j:Nat} {T:List Nat} (n o p q s:Bool) (aR:Int) (ae ah ai a2 aj ak am:Bool) {r:Bool×List UInt32×Bool×List UInt32×Bool×List UInt32}
  (h:F.DV n aD o aE p aF q aI s aJ aR ae aK ah aL ai aM a2 aj aN ak aO am aQ=some r) (hTT:TOk [] T d) (be:RP T d X t aD) (bs:RB T d av [K n,t]) (bf:RP T d X u aE) (bt:RB T d aw [K o,u]) (bg:RP T d X x aF) (bu:RB T d ay [K p,x]) (bi:RP T d X y aI) (bv:RB T d aA [K q,y]) (bj:RP T d X z aJ) (bw:RB T d aC [K s,z]) (hBa0:RB T d a9 [O av 0,O aw 0,O ay 0,O aA 0,O aC 0,H aR,.func (.func 144) #[] #[]]) (bk:RP T d X A aK) (bz:RB T d k [K ae,A]) (bm:RP T d X B aL) (bA:RB T d l [K ah,B]) (bn:RP T d X C aM) (bB:RB T d m [K ai,C]) (bo:RP T d X D aN) (bC:RB T d e [K aj,D]) (bp:RP T d X E aO) (bD:RB T d f [K ak,E]) (br:RP T d X G aQ) (bE:RB T d j [K am,G]):Calls Tryz.prog 144 #[O a9 0,.agg #[O k 0,O l 0,O m 0],K a2,.agg #[O e 0,O f 0,O j 0]] d (Ret fun v w=>∃bF:Nat,∃aY:Value,∃bG:Nat,∃a0:Value,∃bH:Nat,∃a1:Value,v=.agg #[O bF 0,O bG 0,O bH 0]∧St [] d w []∧Rds T w [Y bH [K r.2.2.2.2.1,a1],P X a1 r.2.2.2.2.2,Y bG [K r.2.2.1,a0],P X a0 r.2.2.2.1,Y bF [K r.1,aY],P X aY r.2.1]):=by
 refine aB 18 Tryz.func144 Z Z Z<|have c:=St.k d;have hZ:=Fz.k (S:=[]) (w0:=d);?_
 have hA0:Rds T d [Y j [K am,G],P X G aQ,Y f [K ak,E],P X E aO,Y e [K aj,D],P X D aN,Y m [K ai,C],P X C aM,Y l [K ah,B],P X B aL,Y k [K ae,A],P X A aK,Y a9 [O av 0,O aw 0,O ay 0,O aA 0,O aC 0,H aR,.func (.func 144) #[] #[]],Y aC [K s,z],P X z aJ,Y aA [K q,y],P X y aI,Y ay [K p,x],P X x aF,Y aw [K o,u],P X u aE,Y av [K n,t],P X t aD]:=M bE.h (M (RP.h (W Z) br) (M bD.h (M (RP.h (W Z) bp) (M bC.h (M (RP.h (W Z) bo) (M bB.h (M (RP.h (W Z) bn) (M bA.h (M (RP.h (W Z) bm) (M bz.h (M (RP.h (W Z) bk) (M hBa0.h (M bw.h (M (RP.h (W Z) bj) (M bv.h (M (RP.h (W Z) bi) (M bu.h (M (RP.h (W Z) bg) (M bt.h (M (RP.h (W Z) bf) (M bs.h (M (RP.h (W Z) be) (Rds.nil)))))))))))))))))))))))
 have a:=hA0.all
 have b:=hA0.off Z
 refine ax [(0,O a9 0),(1,.agg #[O k 0,O l 0,O m 0]),(2,K a2),(3,.agg #[O e 0,O f 0,O j 0])] Z ?_
 unfold F.DV at h
 refine R<|bh (cu (cs:=[O k 0,O l 0,O m 0]) Z Z c) Z fun bb w c=>bh (cu (cs:=[O e 0,O f 0,O j 0]) Z Z c) Z fun bL w c=>bh (ba (cs:=[.pointer none,.pointer none,.pointer none]) iT Z c) Z fun bc w c=>gl2<|V 1 Z<|N (aP (us:=[O k 0,O l 0,O m 0]) u78 Z ct Z (c.p 2 Z Z)) Z ?_
 replace c:=c.pick (os':=[]++[Y bc [.pointer none,.pointer none,.pointer none],Y bL [O e 0,O f 0,O j 0],Y bb [O k 0,O l 0,O m 0]]) [0,1,2] (by decide) rfl
 obtain ⟨hZ,a,b,c⟩:=hZ.frzK hTT a b c
 refine J h fun ao bN h=>aG Z (ir n o p q s aR ae ah ai bN (hZ.okT hTT c) (a.i b 0 Z) (a.j b 1 Z) (a.i b 2 Z) (a.j b 3 Z) (a.i b 4 Z) (a.j b 5 Z) (a.i b 6 Z) (a.j b 7 Z) (a.i b 8 Z) (a.j b 9 Z) (a.j b 10 Z) (a.i b 11 Z) (a.j b 12 Z) (a.i b 13 Z) (a.j b 14 Z) (a.i b 15 Z) (a.j b 16 Z)) Z ?_
 rintro _ w ⟨ap,a6,aq,a7,ar,a8,rfl,bI,bJ⟩
 obtain ⟨bT,bQ,hZ,a,b,c⟩:=hZ.l a b c bI bJ rfl
 refine bl (bq (i:=2) (us:=[O ap 0,O aq 0,O ar 0]) Z ct Z Z Z ⟨Z,Z,Z,I⟩ Z c) fun w c=>Q ?_
 refine aZ (r:=r) (fun (g:Bool×List UInt32×Bool×List UInt32×Bool×List UInt32) L w=>∃(ab:Nat) (aV:Value) (ac:Nat) (aW:Value) (ad:Nat) (aX:Value),L=[(5,O bb 0),(8,O bc 0)]∧SfT [] T d w [Y ad [K g.2.2.2.2.1,aX],P X aX g.2.2.2.2.2,Y ac [K g.2.2.1,aW],P X aW g.2.2.2.1,Y ab [K g.1,aV],P X aV g.2.1] [Y bb [O ab 0,O ac 0,O ad 0],Y bc [.pointer none,.pointer none,.pointer none]]) (F.In) ?_ ?_
 rotate_left
 ·intro bd
  refine R<|V 1 Z<|Q ?_
  refine gl9 Z h (fun h=>?_) (fun h=>?_)
  ·refine al<|V 1 Z<|N (aP (us:=[O ap 0,O aq 0,O ar 0]) u78 Z ct Z (c.p 2 Z Z)) Z<|N (aP (us:=[O e 0,O f 0,O j 0]) u78 Z ct Z (c.p 1 Z Z)) Z ?_
   replace c:=c.pick (os':=[]++[Y bc [.pointer none,.pointer none,.pointer none],Y bL [O e 0,O f 0,O j 0],Y bb [O ap 0,O aq 0,O ar 0]]) [0,1,2] (by decide) rfl
   obtain ⟨hZ,a,b,c⟩:=hZ.frzK hTT a b c
   refine J h fun au bK h=>aG Z (ju n o p q s aR ao.1 ao.2.2.1 ao.2.2.2.2.1 aj ak am bK (hZ.okT hTT c) (a.i b 0 Z) (a.j b 1 Z) (a.i b 2 Z) (a.j b 3 Z) (a.i b 4 Z) (a.j b 5 Z) (a.i b 6 Z) (a.j b 7 Z) (a.i b 8 Z) (a.j b 9 Z) (a.j b 10 Z) (a.i b 23 Z) (a.j b 24 Z) (a.i b 25 Z) (a.j b 26 Z) (a.i b 27 Z) (a.j b 28 Z) (a.i b 17 Z) (a.j b 18 Z) (a.i b 19 Z) (a.j b 20 Z) (a.i b 21 Z) (a.j b 22 Z)) Z ?_
   rintro _ w ⟨aS,a3,aT,a4,aU,a5,rfl,bI,bJ⟩
   obtain ⟨bU,bR,hZ,a,b,c⟩:=hZ.l a b c bI bJ rfl
   refine bl (bq (i:=2) (us:=[O aS 0,O aT 0,O aU 0]) Z ct Z Z Z ⟨Z,Z,Z,I⟩ Z c) fun w c=>Q ?_
   exact aH (bd (au.1,au.2.1,au.2.2.1,au.2.2.2.1,au.2.2.2.2.1,au.2.2.2.2.2) _ _ ⟨aS,a3,aT,a4,aU,a5,Z,(SfT.mk' hZ (a.pick [34,33,32,31,30,29] Z) (b.pick [34,33,32,31,30,29] Z) (c.d [2,0] Z Z))⟩ h) Z
  exact gl5<|aH (bd (ao.1,ao.2.1,ao.2.2.1,ao.2.2.2.1,ao.2.2.2.2.1,ao.2.2.2.2.2) _ _ ⟨ap,a6,aq,a7,ar,a8,Z,(SfT.mk' hZ (a.pick [28,27,26,25,24,23] Z) (b.pick [28,27,26,25,24,23] Z) (c.d [2,0] Z Z))⟩ h) Z
 rintro ⟨bV,bW,bX,bY,bZ,b0⟩ L w hJ h
 try dsimp only at hJ
 obtain ⟨ab,aV,ac,aW,ad,aX,rfl,⟨b1,bS,hZ,a,b,c⟩⟩:=hJ
 unfold F.In at h
 refine R<|N (aP (us:=[O ab 0,O ac 0,O ad 0]) u78 Z ct Z (c.p 0 Z Z)) Z<|bl (bq (i:=1) (us:=[O ab 0,O ac 0,O ad 0]) Z ct Z Z Z ⟨Z,Z,Z,I⟩ Z c) fun w c=>Q<|az ?_
 cases h
 obtain ⟨bP,hR⟩:=hZ.outT hTT a b c
 exact dc Z ⟨_,Z,bM (us:=[O ab 0,O ac 0,O ad 0]) u78 Z ct (c.p 1 Z Z)⟩ ⟨ab,aV,ac,aW,ad,aX,Z,bP,(hR.pick [5,4,3,2,1,0] Z)⟩
end Go.Proofs
