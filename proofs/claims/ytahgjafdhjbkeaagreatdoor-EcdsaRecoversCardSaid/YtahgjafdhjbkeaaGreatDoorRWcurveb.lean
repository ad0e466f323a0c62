import Derived.Test.YtahgjafdhjbkeaaGreatDoorRW0
import Derived.Test.YtahgjafdhjbkeaaGreatDoorGkFman
import Derived.Test.YtahgjafdhjbkeaaGreatDoorRWbignumc
import Derived.Test.YtahgjafdhjbkeaaGreatDoorRWcurvea
set_option linter.unusedVariables false
set_option linter.unusedSimpArgs false
set_option linter.unusedSectionVars false
set_option maxRecDepth 4000
namespace Go.Proofs
open Go Go.RowKit Go.Gk
open Go.Gk renaming aa -> V, af -> J, ag -> N, ai -> H, e32 -> X, gl3 -> P, gl4 -> R, own -> U, pB -> O, red -> Q, vB -> K, vI -> I
open Nat renaming le_of_ble_eq_true -> W
open Go.Gk.OE renaming bx -> Y
open Go.Gk.Rds renaming cons -> M
theorem iG {z:World} {aJ aK aL aN aO aP aQ aR:L0} {A B C D E p q s:Value} {a1 av aw az aA aC m n o:Nat} {T:L2} (d e f g j:Bool) (l:Int) (G L t:Bool) {r:Bool×L0×Bool×L0×Bool×L0}
  (h:F.F9 d aJ e aK f aL g aN j aO l G aP L aQ t aR=some r) (hTT:TOk [] T z) (a8:RP T z X A aJ) (bk:RB T z av [K d,A]) (a9:RP T z X B aK) (bl:RB T z aw [K e,B]) (ba:RP T z X C aL) (bn:RB T z az [K f,C]) (bc:RP T z X D aN) (bp:RB T z aA [K g,D]) (bd:RP T z X E aO) (bq:RB T z aC [K j,E]) (hBa0:RB T z a1 [O av 0,O aw 0,O az 0,O aA 0,O aC 0,I l,.func (.func 144) #[] #[]]) (be:RP T z X p aP) (br:RB T z m [K G,p]) (bh:RP T z X q aQ) (bs:RB T z n [K L,q]) (bi:RP T z X s aR) (bt:RB T z o [K t,s]):Calls Tryz.prog 122 #[O a1 0,.agg #[O m 0,O n 0,O o 0]] z (Ret fun v w=>∃bu:Nat,∃a2:Value,∃bv:Nat,∃a3:Value,∃bw:Nat,∃a4:Value,v=.agg #[O bu 0,O bv 0,O bw 0]/\St [] z w []/\Rds T w [Y bw [K r.2.2.2.2.1,a4],Q X a4 r.2.2.2.2.2,Y bv [K r.2.2.1,a3],Q X a3 r.2.2.2.1,Y bu [K r.1,a2],Q X a2 r.2.1]):=by
 refine aB 86 Tryz.func122 Z Z Z<|have a:=St.k z;have hZ:=Fz.k (S:=[]) (w0:=z);?_
 have hA0:Rds T z [Y o [K t,s],Q X s aR,Y n [K L,q],Q X q aQ,Y m [K G,p],Q X p aP,Y a1 [O av 0,O aw 0,O az 0,O aA 0,O aC 0,I l,.func (.func 144) #[] #[]],Y aC [K j,E],Q X E aO,Y aA [K g,D],Q X D aN,Y az [K f,C],Q X C aL,Y aw [K e,B],Q X B aK,Y av [K d,A],Q X A aJ]:=M bt.h (M (RP.h (W Z) bi) (M bs.h (M (RP.h (W Z) bh) (M br.h (M (RP.h (W Z) be) (M hBa0.h (M bq.h (M (RP.h (W Z) bd) (M bp.h (M (RP.h (W Z) bc) (M bn.h (M (RP.h (W Z) ba) (M bl.h (M (RP.h (W Z) a9) (M bk.h (M (RP.h (W Z) a8) (Rds.nil)))))))))))))))))
 have b:=hA0.all
 have hP:=hA0.off Z
 refine ax [(0,O a1 0),(1,.agg #[O m 0,O n 0,O o 0])] Z ?_
 unfold F.F9 at h
 refine R<|bg (cg (cs:=[O m 0,O n 0,O o 0]) Z Z a) Z fun bA w a=>bg (bb (cs:=[.pointer none,.pointer none,.pointer none]) gq Z a) Z fun bB w a=>gl1<|R<|N (am (k:=2) u78 Z Z dn Z) Z<|N (au u59 Z Z (a.q 1 Z 2)) Z<|J h fun cM b7 h=>bf a Z (de t b7 ((b.rp 15 Z).b a.fr).rp ((b.rb 16 Z).b a.fr)) Z fun w a=>V 1 Z<|P ?_
 apply gl9 Z h<;>intro h
 ·refine R<|N (aM (us:=[O m 0,O n 0,O o 0]) u78 Z cp Z (a.p 1 Z Z)) Z<|bo (bz (i:=0) (us:=[O m 0,O n 0,O o 0]) Z cp Z Z Z ⟨Z,Z,Z,trivial⟩ Z a) fun w a=>gl8 ?_
  cases h
  obtain⟨bC,hR⟩:=hZ.outT hTT b hP a
  exact dh Z ⟨_,Z,bS (us:=[O m 0,O n 0,O o 0]) u78 Z cp (a.p 0 Z Z)⟩ ⟨m,p,n,q,o,s,Z,bC,(hR.pick [16,15,14,13,12,11] Z)⟩
 refine gl6<|V 1 Z<|N (am (k:=2) u78 Z Z dn Z) Z<|N (au u59 Z Z (a.q 1 Z 2)) Z<|N (am (k:=2) u78 Z Z dn Z) Z<|N (au u59 Z Z (a.q 1 Z 2)) Z<|J h fun aZ b9 h=>bE a Z (bm d e f g j l t t b9 ((b.rp 0 Z).b a.fr).rp ((b.rb 1 Z).b a.fr) ((b.rp 2 Z).b a.fr).rp ((b.rb 3 Z).b a.fr) ((b.rp 4 Z).b a.fr).rp ((b.rb 5 Z).b a.fr) ((b.rp 6 Z).b a.fr).rp ((b.rb 7 Z).b a.fr) ((b.rp 8 Z).b a.fr).rp ((b.rb 9 Z).b a.fr) ((b.rb 10 Z).b a.fr) ((b.rp 15 Z).b a.fr).rp ((b.rb 16 Z).b a.fr) ((b.rp 15 Z).b a.fr).rp ((b.rb 16 Z).b a.fr)) Z fun a0 bD w a=>V 1 Z<|gl2<|V 1 Z<|N (am (k:=1) u78 Z Z dn Z) Z<|N (au u59 Z Z (a.q 3 Z 1)) Z<|N (am (k:=1) u78 Z Z dn Z) Z<|N (au u59 Z Z (a.q 3 Z 1)) Z<|J h fun H bK h=>bE a Z (bm d e f g j l L L bK ((b.rp 0 Z).b a.fr).rp ((b.rb 1 Z).b a.fr) ((b.rp 2 Z).b a.fr).rp ((b.rb 3 Z).b a.fr) ((b.rp 4 Z).b a.fr).rp ((b.rb 5 Z).b a.fr) ((b.rp 6 Z).b a.fr).rp ((b.rb 7 Z).b a.fr) ((b.rp 8 Z).b a.fr).rp ((b.rb 9 Z).b a.fr) ((b.rb 10 Z).b a.fr) ((b.rp 13 Z).b a.fr).rp ((b.rb 14 Z).b a.fr) ((b.rp 13 Z).b a.fr).rp ((b.rb 14 Z).b a.fr)) Z ?_
 rintro aU a5 w a
 refine V 1 rfl<|gl2<|V 2 rfl<|N (am (k:=0) u78 rfl rfl dn rfl) rfl<|N (au u59 rfl rfl (a.q 5 rfl 0)) rfl<|V 1 rfl<|J h fun aE bL h=>bE a rfl (bm d e f g j l G H.1 bL ((b.rp 0 rfl).b a.fr).rp ((b.rb 1 rfl).b a.fr) ((b.rp 2 rfl).b a.fr).rp ((b.rb 3 rfl).b a.fr) ((b.rp 4 rfl).b a.fr).rp ((b.rb 5 rfl).b a.fr) ((b.rp 6 rfl).b a.fr).rp ((b.rb 7 rfl).b a.fr) ((b.rp 8 rfl).b a.fr).rp ((b.rb 9 rfl).b a.fr) ((b.rb 10 rfl).b a.fr) ((b.rp 11 rfl).b a.fr).rp ((b.rb 12 rfl).b a.fr) (a.ro 1 rfl).rp (a.rb 0 rfl)) rfl fun aV a6 w a=>J h fun ap bO h=>bE a rfl (dJ d e f g j l 4 aE.1 bO ((b.rp 0 rfl).b a.fr).rp ((b.rb 1 rfl).b a.fr) ((b.rp 2 rfl).b a.fr).rp ((b.rb 3 rfl).b a.fr) ((b.rp 4 rfl).b a.fr).rp ((b.rb 5 rfl).b a.fr) ((b.rp 6 rfl).b a.fr).rp ((b.rb 7 rfl).b a.fr) ((b.rp 8 rfl).b a.fr).rp ((b.rb 9 rfl).b a.fr) ((b.rb 10 rfl).b a.fr) (a.ro 1 rfl).rp (a.rb 0 rfl)) rfl fun aW a7 w a=>V 1 rfl<|gl1<|J h fun aF bP h=>J h fun aj bR h=>J h fun aG bT h=>J h fun aH bU h=>J h fun aI bV h=>cF (es:=[Y o [K t,s],Q X s aR,Y n [K L,q],Q X q aQ,Y m [K G,p],Q X p aP,Y a1 [O av 0,O aw 0,O az 0,O aA 0,O aC 0,I l,.func (.func 144) #[] #[]],Y aC [K j,E],Q X E aO,Y aA [K g,D],Q X D aN,Y az [K f,C],Q X C aL,Y aw [K e,B],Q X B aK,Y av [K d,A],Q X A aJ]) (os:=[Y a7 [K ap.1,aW],U X aW ap.2,Y a6 [K aE.1,aV],U X aV aE.2,Y a5 [K H.1,aU],U X aU H.2,Y bD [K aZ.1,a0],U X a0 aZ.2,Y bB [.pointer none,.pointer none,.pointer none],Y bA [O m 0,O n 0,O o 0]]) (fun i=>[6,8,12,13,14,15].contains i) (fun i=>if i=6 then some 14 else if i=8 then some 12 else if i=12 then some 13 else if i=13 then some 14 else if i=14 then some 15 else none) (fun i=>[]) (fun i=>[]) (fun i=>[]) (fun i=>if i=12 then [8] else if i=13 then [8] else []) (fun i=>if i=6 then (fun h v x y=>∃an:Nat,∃ab:Value,v=O an 0/\x=[Y an [K aF.1,ab],U X ab aF.2]/\y=[]) else if i=8 then (fun h v x y=>∃c:Nat,v=O c 0/\x=[Y c [K false,L3]]/\y=[]) else if i=12 then (fun h v x y=>∃u:Value,∃c:Nat,h=[(O c 0,[Y c [K false,L3]],[])]/\v=O c 0/\x=[Y c [K aj.1,u],U X u aj.2]/\y=[]) else if i=13 then (fun h v x y=>∃ac:Value,∃c:Nat,h=[(O c 0,[Y c [K false,L3]],[])]/\v=O c 0/\x=[Y c [K aG.1,ac],U X ac aG.2]/\y=[]) else if i=14 then (fun h v x y=>∃ao:Nat,∃ad:Value,v=O ao 0/\x=[Y ao [K aH.1,ad],U X ad aH.2]/\y=[]) else (fun h v x y=>∃aq:Nat,∃ar:Value,v=O aq 0/\x=[Y aq [K aI.1,ar],U X ar aI.2]/\y=[])) (SfT.mk' hZ b hP a) (fun k hk=>rfl) hTT rfl (fun i=>(bZ (by rintro h v x y ⟨_,_,rfl,rfl,rfl⟩; exact bM rfl) (bZ (by rintro h v x y ⟨_,rfl,rfl,rfl⟩; exact bM rfl) (bZ (by rintro h v x y ⟨_,_,_,rfl,rfl,rfl⟩; exact bM rfl) (bZ (by rintro h v x y ⟨_,_,_,rfl,rfl,rfl⟩; exact bM rfl) (bZ (by rintro h v x y ⟨_,_,rfl,rfl,rfl⟩; exact bM rfl) (by rintro h v x y ⟨_,_,rfl,rfl,rfl⟩; exact bM rfl))))))) bQ (by kernel_rfl) (by kernel_rfl) ?_
 show dZ _ _ _ _ _ _ _ _ _ _ _ _ _ _ _ _ [0,1,2,3,4,5,6,7,8,9,10,11,12,13,14,15,16] _ _
 refine bN 3 Z<|bj Z Z (fun w Sb wb hZ b hP hF=>am (k:=0) u78 Z Z dn Z) Z<|bj Z Z (fun w Sb wb hZ b hP hF=>au u59 Z Z (hF.q 9 Z 0)) Z<|bN 1 Z ?_
 refine bI (fun h v x y=>∃an:Nat,∃ab:Value,v=O an 0/\x=[Y an [K aF.1,ab],U X ab aF.2]/\y=[]) [] [] [] _ Z Z (fun h v x y=>Z) Z Z Z Z ⟨_,_,_,0,undef,Z,Z,Z⟩ (by kernel_rfl) Z (fun w Sl Tl hZ hTT b hP a=>?_) Z ?_
 ·refine bG (cL d e f g j l G aZ.1 bP ((b.rp 0 Z).b a.fr).rp ((b.rb 1 Z).b a.fr) ((b.rp 2 Z).b a.fr).rp ((b.rb 3 Z).b a.fr) ((b.rp 4 Z).b a.fr).rp ((b.rb 5 Z).b a.fr) ((b.rp 6 Z).b a.fr).rp ((b.rb 7 Z).b a.fr) ((b.rp 8 Z).b a.fr).rp ((b.rb 9 Z).b a.fr) ((b.rb 10 Z).b a.fr) ((b.rp 11 Z).b a.fr).rp ((b.rb 12 Z).b a.fr) (a.ro 7 Z).rp (a.rb 6 Z)) ?_
  rintro _ w ⟨ab,an,rfl,aT⟩
  have a:=a.e aT
  exact⟨_,_,⟨an,ab,Z,Z,Z⟩,SfT.mk' hZ Rds.nil Off.nil a⟩
 rintro v_q x_q y_q ⟨an,ab,rfl,rfl,rfl⟩
 refine bN 1 Z ?_
 refine eP (fun h v x y=>∃c:Nat,v=O c 0/\x=[Y c [K false,L3]]/\y=[]) [] [] [] _ Z Z (fun h v x y=>Z) Z Z Z Z ⟨_,_,_,0,Z,Z,Z⟩ (fun w Sl Tl hZ hTT b hP a=>?_) Z ?_
 ·refine iV (bb (cs:=[K false,L3]) eM Z a) ?_
  rintro _ w ⟨c,rfl,a⟩
  exact⟨_,_,⟨c,Z,Z,Z⟩,SfT.mk' hZ Rds.nil Off.nil a⟩
 rintro v_q x_q y_q ⟨c,rfl,rfl,rfl⟩
 refine bj Z Z (fun w Sb wb hZ b hP hF=>am (k:=0) u78 Z Z dn Z) Z<|bj Z Z (fun w Sb wb hZ b hP hF=>au u59 Z Z (hF.q 9 Z 0)) Z<|bN 1 Z ?_
 refine bI (fun h v x y=>∃u:Value,∃c:Nat,h=[(O c 0,[Y c [K false,L3]],[])]/\v=O c 0/\x=[Y c [K aj.1,u],U X u aj.2]/\y=[]) [(O c 0,[Y c [K false,L3]],[])] [Y c [K false,L3]] [] _ Z Z (fun h v x y=>Z) Z Z Z Z ⟨_,_,_,undef,c,Z,Z,Z,Z⟩ (by kernel_rfl) Z (fun w Sl Tl hZ hTT b hP a=>?_) Z ?_
 ·replace a:=a.nil X
  have hG:=a.pick (os':=[Y c [K false,L3],U X (.slice none 0 0) []]++[Y a7 [K ap.1,aW],U X aW ap.2,Y a6 [K aE.1,aV],U X aV aE.2,Y a5 [K H.1,aU],U X aU H.2,Y bD [K aZ.1,a0],U X a0 aZ.2,Y bB [.pointer none,.pointer none,.pointer none],Y bA [O m 0,O n 0,O o 0]]) [1,0,2,3,4,5,6,7,8,9,10,11] (by decide) Z
  refine bG (o4 false G aZ.1 bR hG.f ((b.rp 11 Z).f (W Z) hG) ((b.rb 12 Z).f hG) (hG.giveO 7 Z) (hG.giveB 6 Z)) ?_
  rintro _ w ⟨u,rfl,aT⟩
  have a:=hG.g aT
  exact⟨_,_,⟨u,c,Z,Z,Z,Z⟩,SfT.mk' hZ Rds.nil Off.nil a⟩
 rintro v_q x_q y_q ⟨u,b_31',hh,rfl,rfl,rfl⟩
 replace hh:([(O c 0,[Y c [K false,L3]],[])]:List Th)=[(O b_31' 0,[Y b_31' [K false,L3]],[])]:=hh
 cases hh
 refine bI (fun h v x y=>∃ac:Value,∃c:Nat,h=[(O c 0,[Y c [K false,L3]],[])]/\v=O c 0/\x=[Y c [K aG.1,ac],U X ac aG.2]/\y=[]) [(O c 0,[Y c [K false,L3]],[])] [Y c [K aj.1,u],U X u aj.2] [] _ Z Z (fun h v x y=>Z) Z Z Z Z ⟨_,_,_,undef,c,Z,Z,Z,Z⟩ (by kernel_rfl) Z (fun w Sl Tl hZ hTT b hP a=>?_) Z ?_
 ·have hG:=a.pick (os':=[Y c [K aj.1,u],U X u aj.2]++[Y a7 [K ap.1,aW],U X aW ap.2,Y a6 [K aE.1,aV],U X aV aE.2,Y a5 [K H.1,aU],U X aU H.2,Y bD [K aZ.1,a0],U X a0 aZ.2,Y bB [.pointer none,.pointer none,.pointer none],Y bA [O m 0,O n 0,O o 0]]) [0,1,2,3,4,5,6,7,8,9,10,11] (by decide) Z
  refine bG (fI d e f g j l aj.1 bT hG.f ((b.rp 0 Z).f (W Z) hG) ((b.rb 1 Z).f hG) ((b.rp 2 Z).f (W Z) hG) ((b.rb 3 Z).f hG) ((b.rp 4 Z).f (W Z) hG) ((b.rb 5 Z).f hG) ((b.rp 6 Z).f (W Z) hG) ((b.rb 7 Z).f hG) ((b.rp 8 Z).f (W Z) hG) ((b.rb 9 Z).f hG) ((b.rb 10 Z).f hG)) ?_
  rintro _ w ⟨ac,rfl,aT⟩
  have a:=hG.g aT
  exact⟨_,_,⟨ac,c,Z,Z,Z,Z⟩,SfT.mk' hZ Rds.nil Off.nil a⟩
 rintro v_q x_q y_q ⟨ac,b_31',hh,rfl,rfl,rfl⟩
 replace hh:([(O c 0,[Y c [K false,L3]],[])]:List Th)=[(O b_31' 0,[Y b_31' [K false,L3]],[])]:=hh
 cases hh
 refine bI (fun h v x y=>∃ao:Nat,∃ad:Value,v=O ao 0/\x=[Y ao [K aH.1,ad],U X ad aH.2]/\y=[]) [] [Y an [K aF.1,ab],U X ab aF.2,Y c [K aG.1,ac],U X ac aG.2] [] _ Z Z (fun h v x y=>Z) Z Z Z Z ⟨_,_,_,0,undef,Z,Z,Z⟩ (by kernel_rfl) Z (fun w Sl Tl hZ hTT b hP a=>?_) Z ?_
 ·refine bG (bm d e f g j l aF.1 aG.1 bU ((b.rp 0 Z).b a.fr).rp ((b.rb 1 Z).b a.fr) ((b.rp 2 Z).b a.fr).rp ((b.rb 3 Z).b a.fr) ((b.rp 4 Z).b a.fr).rp ((b.rb 5 Z).b a.fr) ((b.rp 6 Z).b a.fr).rp ((b.rb 7 Z).b a.fr) ((b.rp 8 Z).b a.fr).rp ((b.rb 9 Z).b a.fr) ((b.rb 10 Z).b a.fr) (a.ro 1 Z).rp (a.rb 0 Z) (a.ro 3 Z).rp (a.rb 2 Z)) ?_
  rintro _ w ⟨ad,ao,rfl,aT⟩
  have a:=a.e aT
  exact⟨_,_,⟨ao,ad,Z,Z,Z⟩,SfT.mk' hZ Rds.nil Off.nil (a.d [0,1,6,7,8,9,10,11,12,13,14,15] Z Z)⟩
 rintro v_q x_q y_q ⟨ao,ad,rfl,rfl,rfl⟩
 refine bI (fun h v x y=>∃aq:Nat,∃ar:Value,v=O aq 0/\x=[Y aq [K aI.1,ar],U X ar aI.2]/\y=[]) [] [Y ao [K aH.1,ad],U X ad aH.2] [] _ Z Z (fun h v x y=>Z) Z Z Z Z ⟨_,_,_,0,undef,Z,Z,Z⟩ (by kernel_rfl) Z (fun w Sl Tl hZ hTT b hP a=>?_) Z ?_
 ·refine bG (dJ d e f g j l 3 aH.1 bV ((b.rp 0 Z).b a.fr).rp ((b.rb 1 Z).b a.fr) ((b.rp 2 Z).b a.fr).rp ((b.rb 3 Z).b a.fr) ((b.rp 4 Z).b a.fr).rp ((b.rb 5 Z).b a.fr) ((b.rp 6 Z).b a.fr).rp ((b.rb 7 Z).b a.fr) ((b.rp 8 Z).b a.fr).rp ((b.rb 9 Z).b a.fr) ((b.rb 10 Z).b a.fr) (a.ro 1 Z).rp (a.rb 0 Z)) ?_
  rintro _ w ⟨ar,aq,rfl,aT⟩
  have a:=a.e aT
  exact⟨_,_,⟨aq,ar,Z,Z,Z⟩,SfT.mk' hZ Rds.nil Off.nil (a.d [0,1,4,5,6,7,8,9,10,11,12,13] Z Z)⟩
 rintro v_q x_q y_q ⟨aq,ar,rfl,rfl,rfl⟩
 refine bN 1 Z<|dv fun w hQ=>?_
 obtain⟨ct,cq,hZ,b,hP,a⟩:=hQ
 refine ak<|R<|V 4 Z<|J h fun cd bW h=>bE a Z (bm d e f g j l aI.1 aI.1 bW ((b.rp 0 Z).b a.fr).rp ((b.rb 1 Z).b a.fr) ((b.rp 2 Z).b a.fr).rp ((b.rb 3 Z).b a.fr) ((b.rp 4 Z).b a.fr).rp ((b.rb 5 Z).b a.fr) ((b.rp 6 Z).b a.fr).rp ((b.rb 7 Z).b a.fr) ((b.rp 8 Z).b a.fr).rp ((b.rb 9 Z).b a.fr) ((b.rb 10 Z).b a.fr) (a.ro 1 Z).rp (a.rb 0 Z) (a.ro 1 Z).rp (a.rb 0 Z)) Z fun cu cv w a=>V 2 Z<|J h fun ce bX h=>bE a Z (dJ d e f g j l 2 ap.1 bX ((b.rp 0 Z).b a.fr).rp ((b.rb 1 Z).b a.fr) ((b.rp 2 Z).b a.fr).rp ((b.rb 3 Z).b a.fr) ((b.rp 4 Z).b a.fr).rp ((b.rb 5 Z).b a.fr) ((b.rp 6 Z).b a.fr).rp ((b.rb 7 Z).b a.fr) ((b.rp 8 Z).b a.fr).rp ((b.rb 9 Z).b a.fr) ((b.rb 10 Z).b a.fr) (a.ro 5 Z).rp (a.rb 4 Z)) Z fun cw cx w a=>J h fun cf bY h=>bE a Z (cL d e f g j l cd.1 ce.1 bY ((b.rp 0 Z).b a.fr).rp ((b.rb 1 Z).b a.fr) ((b.rp 2 Z).b a.fr).rp ((b.rb 3 Z).b a.fr) ((b.rp 4 Z).b a.fr).rp ((b.rb 5 Z).b a.fr) ((b.rp 6 Z).b a.fr).rp ((b.rb 7 Z).b a.fr) ((b.rp 8 Z).b a.fr).rp ((b.rb 9 Z).b a.fr) ((b.rb 10 Z).b a.fr) (a.ro 3 Z).rp (a.rb 2 Z) (a.ro 1 Z).rp (a.rb 0 Z)) Z fun ch aX w a=>V 1 Z<|gl1 ?_
 refine al<|V 6 Z<|J h fun ci b0 h=>bE a Z (cL d e f g j l ap.1 cf.1 b0 ((b.rp 0 Z).b a.fr).rp ((b.rb 1 Z).b a.fr) ((b.rp 2 Z).b a.fr).rp ((b.rb 3 Z).b a.fr) ((b.rp 4 Z).b a.fr).rp ((b.rb 5 Z).b a.fr) ((b.rp 6 Z).b a.fr).rp ((b.rb 7 Z).b a.fr) ((b.rp 8 Z).b a.fr).rp ((b.rb 9 Z).b a.fr) ((b.rb 10 Z).b a.fr) (a.ro 9 Z).rp (a.rb 8 Z) (a.ro 1 Z).rp (a.rb 0 Z)) Z fun cy cz w a=>J h fun cj b1 h=>bE a Z (bm d e f g j l aI.1 ci.1 b1 ((b.rp 0 Z).b a.fr).rp ((b.rb 1 Z).b a.fr) ((b.rp 2 Z).b a.fr).rp ((b.rb 3 Z).b a.fr) ((b.rp 4 Z).b a.fr).rp ((b.rb 5 Z).b a.fr) ((b.rp 6 Z).b a.fr).rp ((b.rb 7 Z).b a.fr) ((b.rp 8 Z).b a.fr).rp ((b.rb 9 Z).b a.fr) ((b.rb 10 Z).b a.fr) (a.ro 9 Z).rp (a.rb 8 Z) (a.ro 1 Z).rp (a.rb 0 Z)) Z fun cA cB w a=>V 4 Z<|J h fun ck b2 h=>bE a Z (bm d e f g j l H.1 H.1 b2 ((b.rp 0 Z).b a.fr).rp ((b.rb 1 Z).b a.fr) ((b.rp 2 Z).b a.fr).rp ((b.rb 3 Z).b a.fr) ((b.rp 4 Z).b a.fr).rp ((b.rb 5 Z).b a.fr) ((b.rp 6 Z).b a.fr).rp ((b.rb 7 Z).b a.fr) ((b.rp 8 Z).b a.fr).rp ((b.rb 9 Z).b a.fr) ((b.rb 10 Z).b a.fr) (a.ro 17 Z).rp (a.rb 16 Z) (a.ro 17 Z).rp (a.rb 16 Z)) Z fun cC cD w a=>J h fun cl b3 h=>?_
 refine bE a Z (dJ d e f g j l 8 ck.1 b3 ((b.rp 0 Z).b a.fr).rp ((b.rb 1 Z).b a.fr) ((b.rp 2 Z).b a.fr).rp ((b.rb 3 Z).b a.fr) ((b.rp 4 Z).b a.fr).rp ((b.rb 5 Z).b a.fr) ((b.rp 6 Z).b a.fr).rp ((b.rb 7 Z).b a.fr) ((b.rp 8 Z).b a.fr).rp ((b.rb 9 Z).b a.fr) ((b.rb 10 Z).b a.fr) (a.ro 1 Z).rp (a.rb 0 Z)) Z fun cE cG w a=>J h fun cH b4 h=>bE a Z (cL d e f g j l cj.1 cl.1 b4 ((b.rp 0 Z).b a.fr).rp ((b.rb 1 Z).b a.fr) ((b.rp 2 Z).b a.fr).rp ((b.rb 3 Z).b a.fr) ((b.rp 4 Z).b a.fr).rp ((b.rb 5 Z).b a.fr) ((b.rp 6 Z).b a.fr).rp ((b.rb 7 Z).b a.fr) ((b.rp 8 Z).b a.fr).rp ((b.rb 9 Z).b a.fr) ((b.rb 10 Z).b a.fr) (a.ro 5 Z).rp (a.rb 4 Z) (a.ro 1 Z).rp (a.rb 0 Z)) Z fun cm aY w a=>V 1 Z<|gl2<|V 4 Z<|N (am (k:=1) u78 Z Z dn Z) Z<|N (au u59 Z Z (a.q 27 Z 1)) Z<|N (am (k:=2) u78 Z Z dn Z) Z<|N (au u59 Z Z (a.q 27 Z 2)) Z<|J h fun cn b5 h=>bE a Z (bm d e f g j l L t b5 ((b.rp 0 Z).b a.fr).rp ((b.rb 1 Z).b a.fr) ((b.rp 2 Z).b a.fr).rp ((b.rb 3 Z).b a.fr) ((b.rp 4 Z).b a.fr).rp ((b.rb 5 Z).b a.fr) ((b.rp 6 Z).b a.fr).rp ((b.rb 7 Z).b a.fr) ((b.rp 8 Z).b a.fr).rp ((b.rb 9 Z).b a.fr) ((b.rb 10 Z).b a.fr) ((b.rp 13 Z).b a.fr).rp ((b.rb 14 Z).b a.fr) ((b.rp 15 Z).b a.fr).rp ((b.rb 16 Z).b a.fr)) Z ?_
 rintro cI cJ w a
 refine J h fun cK b6 h=>bE a Z (dJ d e f g j l 2 cn.1 b6 ((b.rp 0 Z).b a.fr).rp ((b.rb 1 Z).b a.fr) ((b.rp 2 Z).b a.fr).rp ((b.rb 3 Z).b a.fr) ((b.rp 4 Z).b a.fr).rp ((b.rb 5 Z).b a.fr) ((b.rp 6 Z).b a.fr).rp ((b.rb 7 Z).b a.fr) ((b.rp 8 Z).b a.fr).rp ((b.rb 9 Z).b a.fr) ((b.rb 10 Z).b a.fr) (a.ro 1 Z).rp (a.rb 0 Z)) Z fun co aD w a=>N (cb (vs:=[(0,O aX 0,[O aX 0]),(1,O aY 0,[O aY 0]),(2,O aD 0,[O aD 0])]) (cells:=[O aX 0,O aY 0,O aD 0]) Z od ⟨Z,Z,Z,trivial⟩ Z) Z<|bo (bz (i:=30) (us:=[O aX 0,O aY 0,O aD 0]) Z cp Z Z Z ⟨Z,Z,Z,trivial⟩ Z a) fun w a=>P<|ay ?_
 cases h
 obtain⟨bC,hR⟩:=hZ.outT hTT b hP a
 exact dh Z ⟨_,Z,bS (us:=[O aX 0,O aY 0,O aD 0]) u78 Z cp (a.p 30 Z Z)⟩ ⟨aX,ch,aY,cm,aD,co,Z,bC,(hR.pick [48,47,44,43,34,33] Z)⟩
theorem jE {s:World} {aR aS aT aV aW aZ a0 a1 a2 a3 a4:L0} {ad ae ah aj al A B C D E G:Value} {bw aL aN aO aP aQ l m n o p q:Nat} {T:L2} (c d e f g:Bool) (j:Int) (L ab t av az y:Bool) {r:Bool×L0×Bool×L0×Bool×L0}
  (h:F.Ej c aR d aS e aT f aV g aW j L aZ ab a0 t a1 av a2 az a3 y a4=some r) (hTT:TOk [] T s) (bD:RP T s X ad aR) (bP:RB T s aL [K c,ad]) (bF:RP T s X ae aS) (bR:RB T s aN [K d,ae]) (bG:RP T s X ah aT) (bT:RB T s aO [K e,ah]) (bH:RP T s X aj aV) (bU:RB T s aP [K f,aj]) (bI:RP T s X al aW) (bV:RB T s aQ [K g,al]) (hBa0:RB T s bw [O aL 0,O aN 0,O aO 0,O aP 0,O aQ 0,I j,.func (.func 144) #[] #[]]) (bJ:RP T s X A aZ) (bW:RB T s l [K L,A]) (bK:RP T s X B a0) (bX:RB T s m [K ab,B]) (bL:RP T s X C a1) (bY:RB T s n [K t,C]) (bM:RP T s X D a2) (bZ:RB T s o [K av,D]) (bN:RP T s X E a3) (b0:RB T s p [K az,E]) (bO:RP T s X G a4) (b1:RB T s q [K y,G]):Calls Tryz.prog 62 #[O bw 0,.agg #[O l 0,O m 0,O n 0],.agg #[O o 0,O p 0,O q 0]] s (Ret fun v w=>∃b2:Nat,∃bd:Value,∃b3:Nat,∃be:Value,∃b4:Nat,∃bh:Value,v=.agg #[O b2 0,O b3 0,O b4 0]/\St [] s w []/\Rds T w [Y b4 [K r.2.2.2.2.1,bh],Q X bh r.2.2.2.2.2,Y b3 [K r.2.2.1,be],Q X be r.2.2.2.1,Y b2 [K r.1,bd],Q X bd r.2.1]):=by
 refine aB 137 Tryz.func62 Z Z Z<|have a:=St.k s;have hZ:=Fz.k (S:=[]) (w0:=s);?_
 have hA0:Rds T s [Y q [K y,G],Q X G a4,Y p [K az,E],Q X E a3,Y o [K av,D],Q X D a2,Y n [K t,C],Q X C a1,Y m [K ab,B],Q X B a0,Y l [K L,A],Q X A aZ,Y bw [O aL 0,O aN 0,O aO 0,O aP 0,O aQ 0,I j,.func (.func 144) #[] #[]],Y aQ [K g,al],Q X al aW,Y aP [K f,aj],Q X aj aV,Y aO [K e,ah],Q X ah aT,Y aN [K d,ae],Q X ae aS,Y aL [K c,ad],Q X ad aR]:=M b1.h (M (RP.h (W Z) bO) (M b0.h (M (RP.h (W Z) bN) (M bZ.h (M (RP.h (W Z) bM) (M bY.h (M (RP.h (W Z) bL) (M bX.h (M (RP.h (W Z) bK) (M bW.h (M (RP.h (W Z) bJ) (M hBa0.h (M bV.h (M (RP.h (W Z) bI) (M bU.h (M (RP.h (W Z) bH) (M bT.h (M (RP.h (W Z) bG) (M bR.h (M (RP.h (W Z) bF) (M bP.h (M (RP.h (W Z) bD) (Rds.nil)))))))))))))))))))))))
 have b:=hA0.all
 have z:=hA0.off Z
 refine ax [(0,O bw 0),(1,.agg #[O l 0,O m 0,O n 0]),(2,.agg #[O o 0,O p 0,O q 0])] Z ?_
 unfold F.Ej at h
 refine R<|bg (cg (cs:=[O l 0,O m 0,O n 0]) Z Z a) Z fun bA w a=>bg (cg (cs:=[O o 0,O p 0,O q 0]) Z Z a) Z fun bB w a=>bg (bb (cs:=[.pointer none,.pointer none,.pointer none]) gq Z a) Z fun bC w a=>gl1<|R<|N (am (k:=2) u78 Z Z dn Z) Z<|N (au u59 Z Z (a.q 2 Z 2)) Z<|J h fun dF cV h=>bf a Z (de t cV ((b.rp 15 Z).b a.fr).rp ((b.rb 16 Z).b a.fr)) Z fun w a=>V 1 Z<|P ?_
 apply gl9 Z h<;>intro h
 ·refine R<|N (aM (us:=[O o 0,O p 0,O q 0]) u78 Z cp Z (a.p 1 Z Z)) Z<|bo (bz (i:=0) (us:=[O o 0,O p 0,O q 0]) Z cp Z Z Z ⟨Z,Z,Z,trivial⟩ Z a) fun w a=>gl8 ?_
  cases h
  obtain⟨aA,hR⟩:=hZ.outT hTT b z a
  exact dh Z ⟨_,Z,bS (us:=[O o 0,O p 0,O q 0]) u78 Z cp (a.p 0 Z Z)⟩ ⟨o,D,p,E,q,G,Z,aA,(hR.pick [22,21,20,19,18,17] Z)⟩
 refine gl5<|aw<|R<|N (am (k:=2) u78 Z Z dn Z) Z<|N (au u59 Z Z (a.q 1 Z 2)) Z<|J h fun dG cW h=>bf a Z (de y cW ((b.rp 21 Z).b a.fr).rp ((b.rb 22 Z).b a.fr)) Z fun w a=>V 1 Z<|P ?_
 apply gl9 Z h<;>intro h
 ·refine R<|N (aM (us:=[O l 0,O m 0,O n 0]) u78 Z cp Z (a.p 2 Z Z)) Z<|bo (bz (i:=0) (us:=[O l 0,O m 0,O n 0]) Z cp Z Z Z ⟨Z,Z,Z,trivial⟩ Z a) fun w a=>gl8 ?_
  cases h
  obtain⟨aA,hR⟩:=hZ.outT hTT b z a
  exact dh Z ⟨_,Z,bS (us:=[O l 0,O m 0,O n 0]) u78 Z cp (a.p 0 Z Z)⟩ ⟨l,A,m,B,n,C,Z,aA,(hR.pick [16,15,14,13,12,11] Z)⟩
 refine gl5<|aw<|aX (fun w'=>St [] s w' [Y bC [.pointer none,.pointer none,.pointer none],Y bB [O o 0,O p 0,O q 0],Y bA [O l 0,O m 0,O n 0]]) (fun i=>!([5,11].contains i)) bQ (fun _ _ _ hf=>hf.2) (fun _ _ hf=>hf) (by kernel_rfl)<|have a:=a.drew;show lxE _ _ _ _ _ _ _ [0,1,2,3,4,5,6,7,8,9,10,11,12,13] _ _ from ao 1 Z a<|H a Z Z (fun w u=>am (k:=2) u78 Z Z dn Z) Z<|H a Z Z (fun w u=>au u59 Z Z (u.q 2 Z 2)) Z<|H a Z Z (fun w u=>am (k:=2) u78 Z Z dn Z) Z<|H a Z Z (fun w u=>au u59 Z Z (u.q 2 Z 2)) Z<|J h fun aK cX h=>aY a Z Z (by kernel_rfl) Z (bm c d e f g j t t cX ((b.rp 0 Z).b a.fr).rp ((b.rb 1 Z).b a.fr) ((b.rp 2 Z).b a.fr).rp ((b.rb 3 Z).b a.fr) ((b.rp 4 Z).b a.fr).rp ((b.rb 5 Z).b a.fr) ((b.rp 6 Z).b a.fr).rp ((b.rb 7 Z).b a.fr) ((b.rp 8 Z).b a.fr).rp ((b.rb 9 Z).b a.fr) ((b.rb 10 Z).b a.fr) ((b.rp 15 Z).b a.fr).rp ((b.rb 16 Z).b a.fr) ((b.rp 15 Z).b a.fr).rp ((b.rb 16 Z).b a.fr)) Z ?_
 rintro _ w ⟨aC,bl,rfl,x⟩
 have a:=a.e x
 refine ao 1 Z (a.d [2,3,4] Z Z)<|H (a.d [2,3,4] Z Z) Z Z (fun w u=>am (k:=2) u78 Z Z dn Z) Z<|H (a.d [2,3,4] Z Z) Z Z (fun w u=>au u59 Z Z (u.q 1 Z 2)) Z<|H (a.d [2,3,4] Z Z) Z Z (fun w u=>am (k:=2) u78 Z Z dn Z) Z<|H (a.d [2,3,4] Z Z) Z Z (fun w u=>au u59 Z Z (u.q 1 Z 2)) Z<|J h fun ac ct h=>aY (a.d [2,3,4] Z Z) Z Z (by kernel_rfl) Z (bm c d e f g j y y ct ((b.rp 0 Z).b a.fr).rp ((b.rb 1 Z).b a.fr) ((b.rp 2 Z).b a.fr).rp ((b.rb 3 Z).b a.fr) ((b.rp 4 Z).b a.fr).rp ((b.rb 5 Z).b a.fr) ((b.rp 6 Z).b a.fr).rp ((b.rb 7 Z).b a.fr) ((b.rp 8 Z).b a.fr).rp ((b.rb 9 Z).b a.fr) ((b.rb 10 Z).b a.fr) ((b.rp 21 Z).b a.fr).rp ((b.rb 22 Z).b a.fr) ((b.rp 21 Z).b a.fr).rp ((b.rb 22 Z).b a.fr)) Z ?_
 rintro _ w ⟨aD,bn,rfl,x⟩
 have a:=a.e x
 refine ao 2 Z (a.d [4,5,6] Z Z)<|bp (a.d [4,5,6] Z Z)<|ak<|aw<|aX (fun w'=>St [] s w' [Y bn [K ac.1,aD],U X aD ac.2,Y bl [K aK.1,aC],U X aC aK.2,Y bC [.pointer none,.pointer none,.pointer none],Y bB [O o 0,O p 0,O q 0],Y bA [O l 0,O m 0,O n 0]]) (fun i=>!([4,9].contains i)) bQ (fun _ _ _ hf=>hf.2) (fun _ _ hf=>hf) (by kernel_rfl)<|have a:=a.drew;show lxE _ _ _ _ _ _ _ [0,1,2,3,4,5,6,7,8,9,10,11] _ _ from ao 1 Z a<|H a Z Z (fun w u=>am (k:=0) u78 Z Z dn Z) Z<|H a Z Z (fun w u=>au u59 Z Z (u.q 6 Z 0)) Z<|ao 1 Z a<|J h fun aE cu h=>aY a Z Z (by kernel_rfl) Z (bm c d e f g j L ac.1 cu ((b.rp 0 Z).b a.fr).rp ((b.rb 1 Z).b a.fr) ((b.rp 2 Z).b a.fr).rp ((b.rb 3 Z).b a.fr) ((b.rp 4 Z).b a.fr).rp ((b.rb 5 Z).b a.fr) ((b.rp 6 Z).b a.fr).rp ((b.rb 7 Z).b a.fr) ((b.rp 8 Z).b a.fr).rp ((b.rb 9 Z).b a.fr) ((b.rb 10 Z).b a.fr) ((b.rp 11 Z).b a.fr).rp ((b.rb 12 Z).b a.fr) (a.ro 1 Z).rp (a.rb 0 Z)) Z ?_
 rintro _ w ⟨a9,b5,rfl,x⟩
 have a:=a.e x
 refine ao 1 Z (a.d [2,3,4,5,6,7,8] Z Z)<|H (a.d [2,3,4,5,6,7,8] Z Z) Z Z (fun w u=>am (k:=0) u78 Z Z dn Z) Z<|H (a.d [2,3,4,5,6,7,8] Z Z) Z Z (fun w u=>au u59 Z Z (u.q 5 Z 0)) Z<|ao 1 Z (a.d [2,3,4,5,6,7,8] Z Z)<|J h fun a6 cv h=>aY (a.d [2,3,4,5,6,7,8] Z Z) Z Z (by kernel_rfl) Z (bm c d e f g j av aK.1 cv ((b.rp 0 Z).b a.fr).rp ((b.rb 1 Z).b a.fr) ((b.rp 2 Z).b a.fr).rp ((b.rb 3 Z).b a.fr) ((b.rp 4 Z).b a.fr).rp ((b.rb 5 Z).b a.fr) ((b.rp 6 Z).b a.fr).rp ((b.rb 7 Z).b a.fr) ((b.rp 8 Z).b a.fr).rp ((b.rb 9 Z).b a.fr) ((b.rb 10 Z).b a.fr) ((b.rp 17 Z).b a.fr).rp ((b.rb 18 Z).b a.fr) (a.ro 5 Z).rp (a.rb 4 Z)) Z ?_
 rintro _ w ⟨ba,b6,rfl,x⟩
 have a:=a.e x
 refine ao 2 Z (a.d [4,5,6,7,8,9,10] Z Z)<|bp (a.d [4,5,6,7,8,9,10] Z Z)<|ak<|aw<|aX (fun w'=>St [] s w' [Y b6 [K a6.1,ba],U X ba a6.2,Y b5 [K aE.1,a9],U X a9 aE.2,Y bn [K ac.1,aD],U X aD ac.2,Y bl [K aK.1,aC],U X aC aK.2,Y bC [.pointer none,.pointer none,.pointer none],Y bB [O o 0,O p 0,O q 0],Y bA [O l 0,O m 0,O n 0]]) (fun i=>!([7,8,16,17].contains i)) bQ (fun _ _ _ hf=>hf.2) (fun _ _ hf=>hf) (by kernel_rfl)<|have a:=a.drew;show lxE _ _ _ _ _ _ _ [0,1,2,3,4,5,6,7,8,9,10,11,12,13,14,15,16,17,18,19] _ _ from ao 1 Z a<|H a Z Z (fun w u=>am (k:=1) u78 Z Z dn Z) Z<|H a Z Z (fun w u=>au u59 Z Z (u.q 10 Z 1)) Z<|ao 1 Z a<|H a Z Z (fun w u=>am (k:=2) u78 Z Z dn Z) Z<|H a Z Z (fun w u=>au u59 Z Z (u.q 9 Z 2)) Z<|ao 1 Z a<|J h fun bq cw h=>aY a Z Z (by kernel_rfl) Z (bm c d e f g j y ac.1 cw ((b.rp 0 Z).b a.fr).rp ((b.rb 1 Z).b a.fr) ((b.rp 2 Z).b a.fr).rp ((b.rb 3 Z).b a.fr) ((b.rp 4 Z).b a.fr).rp ((b.rb 5 Z).b a.fr) ((b.rp 6 Z).b a.fr).rp ((b.rb 7 Z).b a.fr) ((b.rp 8 Z).b a.fr).rp ((b.rb 9 Z).b a.fr) ((b.rb 10 Z).b a.fr) ((b.rp 21 Z).b a.fr).rp ((b.rb 22 Z).b a.fr) (a.ro 5 Z).rp (a.rb 4 Z)) Z ?_
 rintro _ w ⟨b7,cY,rfl,x⟩
 have a:=a.e x
 refine J h fun bc cx h=>aY (a.d [2,3,4,5,6,7,8,9,10,11,12] Z Z) Z Z (by kernel_rfl) Z (bm c d e f g j ab bq.1 cx ((b.rp 0 Z).b a.fr).rp ((b.rb 1 Z).b a.fr) ((b.rp 2 Z).b a.fr).rp ((b.rb 3 Z).b a.fr) ((b.rp 4 Z).b a.fr).rp ((b.rb 5 Z).b a.fr) ((b.rp 6 Z).b a.fr).rp ((b.rb 7 Z).b a.fr) ((b.rp 8 Z).b a.fr).rp ((b.rb 9 Z).b a.fr) ((b.rb 10 Z).b a.fr) ((b.rp 13 Z).b a.fr).rp ((b.rb 14 Z).b a.fr) (a.ro 1 Z).rp (a.rb 0 Z)) Z ?_
 rintro _ w ⟨b8,cZ,rfl,x⟩
 have a:=a.e x
 refine ao 1 Z (a.d [4,5,6,7,8,9,10,11,12,13,14] Z Z)<|H (a.d [4,5,6,7,8,9,10,11,12,13,14] Z Z) Z Z (fun w u=>am (k:=1) u78 Z Z dn Z) Z<|H (a.d [4,5,6,7,8,9,10,11,12,13,14] Z Z) Z Z (fun w u=>au u59 Z Z (u.q 9 Z 1)) Z<|ao 1 Z (a.d [4,5,6,7,8,9,10,11,12,13,14] Z Z)<|H (a.d [4,5,6,7,8,9,10,11,12,13,14] Z Z) Z Z (fun w u=>am (k:=2) u78 Z Z dn Z) Z<|H (a.d [4,5,6,7,8,9,10,11,12,13,14] Z Z) Z Z (fun w u=>au u59 Z Z (u.q 10 Z 2)) Z<|ao 1 Z (a.d [4,5,6,7,8,9,10,11,12,13,14] Z Z)<|J h fun br cy h=>aY (a.d [4,5,6,7,8,9,10,11,12,13,14] Z Z) Z Z (by kernel_rfl) Z (bm c d e f g j t aK.1 cy ((b.rp 0 Z).b a.fr).rp ((b.rb 1 Z).b a.fr) ((b.rp 2 Z).b a.fr).rp ((b.rb 3 Z).b a.fr) ((b.rp 4 Z).b a.fr).rp ((b.rb 5 Z).b a.fr) ((b.rp 6 Z).b a.fr).rp ((b.rb 7 Z).b a.fr) ((b.rp 8 Z).b a.fr).rp ((b.rb 9 Z).b a.fr) ((b.rb 10 Z).b a.fr) ((b.rp 15 Z).b a.fr).rp ((b.rb 16 Z).b a.fr) (a.ro 11 Z).rp (a.rb 10 Z)) Z ?_
 rintro _ w ⟨b9,c0,rfl,x⟩
 have a:=a.e x
 refine J h fun bs cz h=>aY (a.d [6,7,8,9,10,11,12,13,14,15,16] Z Z) Z Z (by kernel_rfl) Z (bm c d e f g j az br.1 cz ((b.rp 0 Z).b a.fr).rp ((b.rb 1 Z).b a.fr) ((b.rp 2 Z).b a.fr).rp ((b.rb 3 Z).b a.fr) ((b.rp 4 Z).b a.fr).rp ((b.rb 5 Z).b a.fr) ((b.rp 6 Z).b a.fr).rp ((b.rb 7 Z).b a.fr) ((b.rp 8 Z).b a.fr).rp ((b.rb 9 Z).b a.fr) ((b.rb 10 Z).b a.fr) ((b.rp 19 Z).b a.fr).rp ((b.rb 20 Z).b a.fr) (a.ro 1 Z).rp (a.rb 0 Z)) Z ?_
 rintro _ w ⟨ca,c1,rfl,x⟩
 have a:=a.e x
 refine ao 2 Z (a.d [8,9,10,11,12,13,14,15,16,17,18] Z Z)<|bp (a.d [8,9,10,11,12,13,14,15,16,17,18] Z Z)<|ak<|R<|V 3 Z<|J h fun ar cA h=>bE a Z (cL c d e f g j a6.1 aE.1 cA ((b.rp 0 Z).b a.fr).rp ((b.rb 1 Z).b a.fr) ((b.rp 2 Z).b a.fr).rp ((b.rb 3 Z).b a.fr) ((b.rp 4 Z).b a.fr).rp ((b.rb 5 Z).b a.fr) ((b.rp 6 Z).b a.fr).rp ((b.rb 7 Z).b a.fr) ((b.rp 8 Z).b a.fr).rp ((b.rb 9 Z).b a.fr) ((b.rb 10 Z).b a.fr) (a.ro 9 Z).rp (a.rb 8 Z) (a.ro 11 Z).rp (a.rb 10 Z)) Z fun cc c2 w a=>V 3 Z<|J h fun aF cB h=>bE a Z (cL c d e f g j bs.1 bc.1 cB ((b.rp 0 Z).b a.fr).rp ((b.rb 1 Z).b a.fr) ((b.rp 2 Z).b a.fr).rp ((b.rb 3 Z).b a.fr) ((b.rp 4 Z).b a.fr).rp ((b.rb 5 Z).b a.fr) ((b.rp 6 Z).b a.fr).rp ((b.rb 7 Z).b a.fr) ((b.rp 8 Z).b a.fr).rp ((b.rb 9 Z).b a.fr) ((b.rb 10 Z).b a.fr) (a.ro 3 Z).rp (a.rb 2 Z) (a.ro 7 Z).rp (a.rb 6 Z)) Z fun cd c3 w a=>V 2 Z<|gl1<|R<|V 1 Z<|J h fun ds cC h=>bf a Z (de ar.1 cC (a.ro 3 Z).rp (a.rb 2 Z)) Z fun w a=>V 1 Z<|P ?_
 apply gl9 Z h<;>intro h
 ·refine aw<|R<|V 1 Z<|J h fun dt cD h=>bf a Z (de aF.1 cD (a.ro 1 Z).rp (a.rb 0 Z)) Z fun w a=>V 1 Z<|P ?_
  apply gl9 Z h<;>intro h
  ·refine R<|V 1 Z<|N (aM (us:=[O l 0,O m 0,O n 0]) u78 Z cp Z (a.p 22 Z Z)) Z ?_
   replace a:=a.pick (os':=[Y c3 [K aF.1,cd],U X cd aF.2,Y c2 [K ar.1,cc],U X cc ar.2,Y c1 [K bs.1,ca],U X ca bs.2,Y c0 [K br.1,b9],U X b9 br.2,Y cZ [K bc.1,b8],U X b8 bc.2,Y cY [K bq.1,b7],U X b7 bq.2,Y b6 [K a6.1,ba],U X ba a6.2,Y b5 [K aE.1,a9],U X a9 aE.2,Y bn [K ac.1,aD],U X aD ac.2,Y bl [K aK.1,aC],U X aC aK.2]++[Y bC [.pointer none,.pointer none,.pointer none],Y bB [O o 0,O p 0,O q 0],Y bA [O l 0,O m 0,O n 0]]) [0,1,2,3,4,5,6,7,8,9,10,11,12,13,14,15,16,17,18,19,20,21,22] (by decide) rfl
   obtain⟨hZ,b,z,a⟩:=hZ.frzK hTT b z a
   refine J h fun du cE h=>aH Z (iG c d e f g j L ab t cE (hZ.okT hTT a) (b.i z 0 Z) (b.j z 1 Z) (b.i z 2 Z) (b.j z 3 Z) (b.i z 4 Z) (b.j z 5 Z) (b.i z 6 Z) (b.j z 7 Z) (b.i z 8 Z) (b.j z 9 Z) (b.j z 10 Z) (b.i z 11 Z) (b.j z 12 Z) (b.i z 13 Z) (b.j z 14 Z) (b.i z 15 Z) (b.j z 16 Z)) Z ?_
   rintro _ w ⟨aG,bi,aI,bj,aJ,bk,rfl,x,c8⟩
   obtain⟨dv,c9,hZ,b,z,a⟩:=hZ.l b z a x c8 rfl
   refine bo (bz (i:=0) (us:=[O aG 0,O aI 0,O aJ 0]) Z cp Z Z Z ⟨Z,Z,Z,trivial⟩ Z a) fun w a=>gl8<|aU ?_
   cases h
   obtain⟨aA,hR⟩:=hZ.outT hTT b z a
   exact dh Z ⟨_,Z,bS (us:=[O aG 0,O aI 0,O aJ 0]) u78 Z cp (a.p 0 Z Z)⟩ ⟨aG,bi,aI,bj,aJ,bk,Z,aA,(hR.pick [48,47,46,45,44,43] Z)⟩
  refine gl6<|J h fun dw cF h=>aH Z (fY  cF ) Z ?_
  rintro _ w ⟨c4,c5,c6,bt,bu,bv,rfl,x⟩
  have a:=a.e x
  refine bo (bz (i:=26) (us:=[O bt 0,O bu 0,O bv 0]) Z cp Z Z Z ⟨Z,Z,Z,trivial⟩ Z a) fun w a=>gl8 ?_
  cases h
  obtain⟨aA,hR⟩:=hZ.outT hTT b z a
  exact dh Z ⟨_,Z,bS (us:=[O bt 0,O bu 0,O bv 0]) u78 Z cp (a.p 26 Z Z)⟩ ⟨bt,c4,bu,c5,bv,c6,Z,aA,(hR.pick [47,46,49,48,51,50] Z)⟩
 refine gl6<|V 3 Z<|J h fun ce cG h=>bE a Z (bm c d e f g j ar.1 ar.1 cG ((b.rp 0 Z).b a.fr).rp ((b.rb 1 Z).b a.fr) ((b.rp 2 Z).b a.fr).rp ((b.rb 3 Z).b a.fr) ((b.rp 4 Z).b a.fr).rp ((b.rb 5 Z).b a.fr) ((b.rp 6 Z).b a.fr).rp ((b.rb 7 Z).b a.fr) ((b.rp 8 Z).b a.fr).rp ((b.rb 9 Z).b a.fr) ((b.rb 10 Z).b a.fr) (a.ro 3 Z).rp (a.rb 2 Z) (a.ro 3 Z).rp (a.rb 2 Z)) Z fun dx dy w a=>V 1 Z<|gl2<|V 3 Z<|J h fun cf cH h=>bE a Z (bm c d e f g j ar.1 ce.1 cH ((b.rp 0 Z).b a.fr).rp ((b.rb 1 Z).b a.fr) ((b.rp 2 Z).b a.fr).rp ((b.rb 3 Z).b a.fr) ((b.rp 4 Z).b a.fr).rp ((b.rb 5 Z).b a.fr) ((b.rp 6 Z).b a.fr).rp ((b.rb 7 Z).b a.fr) ((b.rp 8 Z).b a.fr).rp ((b.rb 9 Z).b a.fr) ((b.rb 10 Z).b a.fr) (a.ro 5 Z).rp (a.rb 4 Z) (a.ro 1 Z).rp (a.rb 0 Z)) Z fun dz dA w a=>V 3 Z<|J h fun ch cI h=>bE a Z (bm c d e f g j aE.1 ce.1 cI ((b.rp 0 Z).b a.fr).rp ((b.rb 1 Z).b a.fr) ((b.rp 2 Z).b a.fr).rp ((b.rb 3 Z).b a.fr) ((b.rp 4 Z).b a.fr).rp ((b.rb 5 Z).b a.fr) ((b.rp 6 Z).b a.fr).rp ((b.rb 7 Z).b a.fr) ((b.rp 8 Z).b a.fr).rp ((b.rb 9 Z).b a.fr) ((b.rb 10 Z).b a.fr) (a.ro 19 Z).rp (a.rb 18 Z) (a.ro 3 Z).rp (a.rb 2 Z)) Z ?_
 rintro dB dC w a
 refine V 2 Z<|gl2<|V 5 Z<|J h fun c7 cJ h=>bE a Z (bm c d e f g j aF.1 aF.1 cJ ((b.rp 0 Z).b a.fr).rp ((b.rb 1 Z).b a.fr) ((b.rp 2 Z).b a.fr).rp ((b.rb 3 Z).b a.fr) ((b.rp 4 Z).b a.fr).rp ((b.rb 5 Z).b a.fr) ((b.rp 6 Z).b a.fr).rp ((b.rb 7 Z).b a.fr) ((b.rp 8 Z).b a.fr).rp ((b.rb 9 Z).b a.fr) ((b.rb 10 Z).b a.fr) (a.ro 7 Z).rp (a.rb 6 Z) (a.ro 7 Z).rp (a.rb 6 Z)) Z fun dD dE w a=>V 1 Z<|J h fun cK ci h=>bE a Z (cL c d e f g j c7.1 cf.1 ci ((b.rp 0 Z).b a.fr).rp ((b.rb 1 Z).b a.fr) ((b.rp 2 Z).b a.fr).rp ((b.rb 3 Z).b a.fr) ((b.rp 4 Z).b a.fr).rp ((b.rb 5 Z).b a.fr) ((b.rp 6 Z).b a.fr).rp ((b.rb 7 Z).b a.fr) ((b.rp 8 Z).b a.fr).rp ((b.rb 9 Z).b a.fr) ((b.rb 10 Z).b a.fr) (a.ro 1 Z).rp (a.rb 0 Z) (a.ro 5 Z).rp (a.rb 4 Z)) Z fun da db w a=>V 2 Z<|J h fun cM cj h=>bE a Z (dJ c d e f g j 2 ch.1 cj ((b.rp 0 Z).b a.fr).rp ((b.rb 1 Z).b a.fr) ((b.rp 2 Z).b a.fr).rp ((b.rb 3 Z).b a.fr) ((b.rp 4 Z).b a.fr).rp ((b.rb 5 Z).b a.fr) ((b.rp 6 Z).b a.fr).rp ((b.rb 7 Z).b a.fr) ((b.rp 8 Z).b a.fr).rp ((b.rb 9 Z).b a.fr) ((b.rb 10 Z).b a.fr) (a.ro 5 Z).rp (a.rb 4 Z)) Z fun dc dd w a=>?_
 refine J h fun cN ck h=>bE a Z (cL c d e f g j cK.1 cM.1 ck ((b.rp 0 Z).b a.fr).rp ((b.rb 1 Z).b a.fr) ((b.rp 2 Z).b a.fr).rp ((b.rb 3 Z).b a.fr) ((b.rp 4 Z).b a.fr).rp ((b.rb 5 Z).b a.fr) ((b.rp 6 Z).b a.fr).rp ((b.rb 7 Z).b a.fr) ((b.rp 8 Z).b a.fr).rp ((b.rb 9 Z).b a.fr) ((b.rb 10 Z).b a.fr) (a.ro 3 Z).rp (a.rb 2 Z) (a.ro 1 Z).rp (a.rb 0 Z)) Z fun cO an w a=>V 1 Z<|gl2<|V 6 Z<|J h fun cP cl h=>bE a Z (cL c d e f g j ch.1 cN.1 cl ((b.rp 0 Z).b a.fr).rp ((b.rb 1 Z).b a.fr) ((b.rp 2 Z).b a.fr).rp ((b.rb 3 Z).b a.fr) ((b.rp 4 Z).b a.fr).rp ((b.rb 5 Z).b a.fr) ((b.rp 6 Z).b a.fr).rp ((b.rb 7 Z).b a.fr) ((b.rp 8 Z).b a.fr).rp ((b.rb 9 Z).b a.fr) ((b.rb 10 Z).b a.fr) (a.ro 9 Z).rp (a.rb 8 Z) (a.ro 1 Z).rp (a.rb 0 Z)) Z fun df dg w a=>J h fun cQ cm h=>bE a Z (bm c d e f g j aF.1 cP.1 cm ((b.rp 0 Z).b a.fr).rp ((b.rb 1 Z).b a.fr) ((b.rp 2 Z).b a.fr).rp ((b.rb 3 Z).b a.fr) ((b.rp 4 Z).b a.fr).rp ((b.rb 5 Z).b a.fr) ((b.rp 6 Z).b a.fr).rp ((b.rb 7 Z).b a.fr) ((b.rp 8 Z).b a.fr).rp ((b.rb 9 Z).b a.fr) ((b.rb 10 Z).b a.fr) (a.ro 17 Z).rp (a.rb 16 Z) (a.ro 1 Z).rp (a.rb 0 Z)) Z fun di dj w a=>?_
 refine V 3 Z<|J h fun cR cn h=>bE a Z (bm c d e f g j bc.1 cf.1 cn ((b.rp 0 Z).b a.fr).rp ((b.rb 1 Z).b a.fr) ((b.rp 2 Z).b a.fr).rp ((b.rb 3 Z).b a.fr) ((b.rp 4 Z).b a.fr).rp ((b.rb 5 Z).b a.fr) ((b.rp 6 Z).b a.fr).rp ((b.rb 7 Z).b a.fr) ((b.rp 8 Z).b a.fr).rp ((b.rb 9 Z).b a.fr) ((b.rb 10 Z).b a.fr) (a.ro 27 Z).rp (a.rb 26 Z) (a.ro 15 Z).rp (a.rb 14 Z)) Z fun dk dl w a=>J h fun dm co h=>bE a Z (cL c d e f g j cQ.1 cR.1 co ((b.rp 0 Z).b a.fr).rp ((b.rb 1 Z).b a.fr) ((b.rp 2 Z).b a.fr).rp ((b.rb 3 Z).b a.fr) ((b.rp 4 Z).b a.fr).rp ((b.rb 5 Z).b a.fr) ((b.rp 6 Z).b a.fr).rp ((b.rb 7 Z).b a.fr) ((b.rp 8 Z).b a.fr).rp ((b.rb 9 Z).b a.fr) ((b.rb 10 Z).b a.fr) (a.ro 3 Z).rp (a.rb 2 Z) (a.ro 1 Z).rp (a.rb 0 Z)) Z fun cS ap w a=>V 1 Z<|gl2<|V 5 Z<|N (am (k:=2) u78 Z Z dn Z) Z<|N (au u59 Z Z (a.q 44 Z 2)) Z<|N (am (k:=2) u78 Z Z dn Z) Z<|N (au u59 Z Z (a.q 43 Z 2)) Z<|J h fun cT cq h=>bE a Z (bm c d e f g j t y cq ((b.rp 0 Z).b a.fr).rp ((b.rb 1 Z).b a.fr) ((b.rp 2 Z).b a.fr).rp ((b.rb 3 Z).b a.fr) ((b.rp 4 Z).b a.fr).rp ((b.rb 5 Z).b a.fr) ((b.rp 6 Z).b a.fr).rp ((b.rb 7 Z).b a.fr) ((b.rp 8 Z).b a.fr).rp ((b.rb 9 Z).b a.fr) ((b.rb 10 Z).b a.fr) ((b.rp 15 Z).b a.fr).rp ((b.rb 16 Z).b a.fr) ((b.rp 21 Z).b a.fr).rp ((b.rb 22 Z).b a.fr)) Z ?_
 rintro dp dq w a
 refine J h fun dr cr h=>bE a Z (bm c d e f g j ar.1 cT.1 cr ((b.rp 0 Z).b a.fr).rp ((b.rb 1 Z).b a.fr) ((b.rp 2 Z).b a.fr).rp ((b.rb 3 Z).b a.fr) ((b.rp 4 Z).b a.fr).rp ((b.rb 5 Z).b a.fr) ((b.rp 6 Z).b a.fr).rp ((b.rb 7 Z).b a.fr) ((b.rp 8 Z).b a.fr).rp ((b.rb 9 Z).b a.fr) ((b.rb 10 Z).b a.fr) (a.ro 27 Z).rp (a.rb 26 Z) (a.ro 1 Z).rp (a.rb 0 Z)) Z fun cU aq w a=>N (cb (vs:=[(0,O an 0,[O an 0]),(1,O ap 0,[O ap 0]),(2,O aq 0,[O aq 0])]) (cells:=[O an 0,O ap 0,O aq 0]) Z od ⟨Z,Z,Z,trivial⟩ Z) Z<|bo (bz (i:=46) (us:=[O an 0,O ap 0,O aq 0]) Z cp Z Z Z ⟨Z,Z,Z,trivial⟩ Z a) fun w a=>P<|ay ?_
 cases h
 obtain⟨aA,hR⟩:=hZ.outT hTT b z a
 exact dh Z ⟨_,Z,bS (us:=[O an 0,O ap 0,O aq 0]) u78 Z cp (a.p 46 Z Z)⟩ ⟨an,cO,ap,cS,aq,cU,Z,aA,(hR.pick [71,70,67,66,59,58] Z)⟩
theorem nI {c:World} {aq ar av az aA aC aD aE:L0} {T ab ac ad ae ah aj al:Value} {aR aI aJ aK aM aN l m n:Nat} (b d e f g:Bool) (C:Int) (L S x:Bool) {r:L0×L0×Bool}
  (h:F.Eu b aq d ar e av f az g aA C L aC S aD x aE=some r) (j:RP [] c X T aq) (o:RB [] c aI [K b,T]) (q:RP [] c X ab ar) (y:RB [] c aJ [K d,ab]) (s:RP [] c X ac av) (z:RB [] c aK [K e,ac]) (t:RP [] c X ad az) (A:RB [] c aM [K f,ad]) (u:RP [] c X ae aA) (B:RB [] c aN [K g,ae]) (hBa0:RB [] c aR [O aI 0,O aJ 0,O aK 0,O aM 0,O aN 0,I C,.func (.func 144) #[] #[]]) (aO:RP [] c X ah aC) (aS:RB [] c l [K L,ah]) (aP:RP [] c X aj aD) (aT:RB [] c m [K S,aj]) (an:RP [] c X al aE) (aF:RB [] c n [K x,al]):Calls Tryz.prog 66 #[O aR 0,.agg #[O l 0,O m 0,O n 0]] c (Ret fun v w=>∃aU aV:Value,v=.agg #[aU,aV,K r.2.2]/\St [] c w [U X aU r.1,U X aV r.2.1]):=by
 refine aB 40 Tryz.func66 Z Z Z<|have a:=St.k c;ax [(0,O aR 0),(1,.agg #[O l 0,O m 0,O n 0])] Z ?_
 unfold F.Eu at h
 refine R<|bg (cg (cs:=[O l 0,O m 0,O n 0]) Z Z a) Z fun aW w a=>bg (bb (cs:=[L3,L3,K false]) mY Z a) Z fun aZ w a=>gl1<|R<|N (am (k:=2) u78 Z Z dn Z) Z<|N (au u59 Z Z (a.q 1 Z 2)) Z<|J h fun bv bc h=>bf a Z (de x bc (an.b a.fr).rp (aF.b a.fr)) Z fun w a=>V 1 Z<|P ?_
 apply gl9 Z h<;>intro h
 ·refine R<|N (cb (vs:=[(2,K true,[K true])]) (cells:=[L3,L3,K true]) Z gW ⟨Z,trivial⟩ Z) Z<|bo (bz (i:=0) (us:=[L3,L3,K true]) Z cR Z Z Z ⟨Z,Z,Z,trivial⟩ Z a) fun w a=>gl8 ?_
  cases h
  exact dh Z ⟨_,Z,bS (us:=[L3,L3,K true]) u33 Z cR (a.p 0 Z Z)⟩ ⟨L3,L3,Z,((a.nil X).nil X).d [1,0] Z Z⟩
 refine gl5<|aw<|aX (fun w'=>St [] c w' [Y aZ [L3,L3,K false],Y aW [O l 0,O m 0,O n 0]]) (fun i=>!([0,7].contains i)) bQ (fun _ _ _ hf=>hf.2) (fun _ _ hf=>hf) (by kernel_rfl)<|have a:=a.drew;show lxE _ _ _ _ _ _ _ [0,1,2,3,4,5,6,7,8] _ _ from wJ a Z Z (bb (cs:=[K false,L3]) eM Z a) Z ?_
 rintro _ w ⟨ba,rfl,a⟩
 refine H (a.d [1,2] Z Z) Z Z (fun w D=>am (k:=2) u78 Z Z dn Z) Z<|H (a.d [1,2] Z Z) Z Z (fun w D=>au u59 Z Z (D.q 1 Z 2)) Z<|ao 1 Z (a.d [1,2] Z Z)<|H (a.d [1,2] Z Z) Z Z (fun w D=>aL Z) Z<|H (a.d [1,2] Z Z) Z Z (fun w D=>am (k:=0) u62 Z Z dn Z) Z<|H (a.d [1,2] Z Z) Z Z (fun w D=>au u59 Z Z (hBa0.cell D.fr 0 Z)) Z ?_
 replace a:=a.nil X
 have hG:=a.pick (os':=[Y ba [K false,L3],U X (.slice none 0 0) []]++[Y aZ [L3,L3,K false],Y aW [O l 0,O m 0,O n 0]]) [1,0,2,3] (by decide) Z
 refine J h fun aG bd h=>aY (a.d [2,3] Z Z) Z Z (by kernel_rfl) Z (kl false x b bd hG.f (an.f (W Z) hG) (aF.f hG) (j.f (W Z) hG) (o.f hG)) Z ?_
 rintro _ w ⟨a0,rfl,p⟩
 have a:=hG.g p
 refine ao 1 Z (a.d [2,3] Z Z)<|bp (a.d [2,3] Z Z)<|ak<|R<|V 3 Z<|J h fun ap a2 h=>bE a Z (bm b d e f g C aG.1 aG.1 a2 (j.b a.fr).rp (o.b a.fr) (q.b a.fr).rp (y.b a.fr) (s.b a.fr).rp (z.b a.fr) (t.b a.fr).rp (A.b a.fr) (u.b a.fr).rp (B.b a.fr) (hBa0.b a.fr) (a.ro 1 Z).rp (a.rb 0 Z) (a.ro 1 Z).rp (a.rb 0 Z)) Z fun a1 be w a=>V 1 Z<|gl1<|dk (fun w'=>St [] c w' [Y be [K ap.1,a1],U X a1 ap.2,Y ba [K aG.1,a0],U X a0 aG.2,Y aZ [L3,L3,K false],Y aW [O l 0,O m 0,O n 0]]) (fun i=>!([4,5,12,13,14,16].contains i)) bQ (fun _ _ _ hf=>hf.2) (fun _ _ hf=>hf) (by kernel_rfl)<|have a:=a.drew;show lxE _ _ _ _ _ _ _ [0,1,2,3,4,5,6,7,8,9,10,11,12,13,14,15,16] _ _ from ao 1 Z a<|H a Z Z (fun w D=>am (k:=0) u78 Z Z dn Z) Z<|H a Z Z (fun w D=>au u59 Z Z (D.q 5 Z 0)) Z<|ao 1 Z a<|J h fun bh a3 h=>aY a Z Z (by kernel_rfl) Z (bm b d e f g C L ap.1 a3 (j.b a.fr).rp (o.b a.fr) (q.b a.fr).rp (y.b a.fr) (s.b a.fr).rp (z.b a.fr) (t.b a.fr).rp (A.b a.fr) (u.b a.fr).rp (B.b a.fr) (hBa0.b a.fr) (aO.b a.fr).rp (aS.b a.fr) (a.ro 1 Z).rp (a.rb 0 Z)) Z ?_
 rintro _ w ⟨bk,bl,rfl,p⟩
 have a:=a.e p
 refine J h fun bn a4 h=>aY (a.d [2,3,4,5,6,7] Z Z) Z Z (by kernel_rfl) Z (kQ bh.1 a4 (a.ro 1 Z).rp (a.rb 0 Z)) Z fun E w p=>have a:=a.e p;have a5:=(a.ro 0 Z).one;ao 1 Z (a.d [3,4,5,6,7,8] Z Z)<|H (a.d [3,4,5,6,7,8] Z Z) Z Z (fun w D=>am (k:=1) u78 Z Z dn Z) Z<|H (a.d [3,4,5,6,7,8] Z Z) Z Z (fun w D=>au u59 Z Z (D.q 5 Z 1)) Z<|ao 3 Z (a.d [3,4,5,6,7,8] Z Z)<|J h fun bi a6 h=>aY (a.d [3,4,5,6,7,8] Z Z) Z Z (by kernel_rfl) Z (bm b d e f g C aG.1 ap.1 a6 (j.b a.fr).rp (o.b a.fr) (q.b a.fr).rp (y.b a.fr) (s.b a.fr).rp (z.b a.fr) (t.b a.fr).rp (A.b a.fr) (u.b a.fr).rp (B.b a.fr) (hBa0.b a.fr) (a.ro 6 Z).rp (a.rb 5 Z) (a.ro 4 Z).rp (a.rb 3 Z)) Z ?_
 rintro _ w ⟨bq,br,rfl,p⟩
 have a:=a.e p
 refine J h fun bj a7 h=>aY (a.d [5,6,7,8,9,10] Z Z) Z Z (by kernel_rfl) Z (bm b d e f g C S bi.1 a7 (j.b a.fr).rp (o.b a.fr) (q.b a.fr).rp (y.b a.fr) (s.b a.fr).rp (z.b a.fr) (t.b a.fr).rp (A.b a.fr) (u.b a.fr).rp (B.b a.fr) (hBa0.b a.fr) (aP.b a.fr).rp (aT.b a.fr) (a.ro 1 Z).rp (a.rb 0 Z)) Z ?_
 rintro _ w ⟨bs,bt,rfl,p⟩
 have a:=a.e p
 refine J h fun bu a8 h=>aY (a.d [7,8,9,10,11,12] Z Z) Z Z (by kernel_rfl) Z (kQ bj.1 a8 (a.ro 1 Z).rp (a.rb 0 Z)) Z fun G w p=>have a:=a.e p;have a9:=(a.ro 0 Z).one;H (a.d [8,9,10,11,12,13] Z Z) Z Z (fun w D=>cb (vs:=[(0,E,[E]),(1,G,[G])]) (cells:=[E,G,K false]) Z gW ⟨(cK a5),(cK a9),trivial⟩ Z) Z<|f9 (a.d [8,9,10,11,12,13] Z Z) Z Z (bz (i:=12) (us:=[E,G,K false]) Z cR Z Z Z ⟨(a.ro 5 Z).one,(a.ro 0 Z).one,Z,trivial⟩ Z a) fun w a=>bp trivial<|ak<|ay ?_
 cases h
 exact dh Z ⟨_,Z,bS (us:=[E,G,K false]) u33 Z cR (a.p 12 Z Z)⟩ ⟨E,G,Z,a.d [5,0] Z Z⟩
theorem sY {d:World} {aD aE aF aI aJ aK aL aN aO aP aQ:L0} {t u x y z A B C D E G:Value} {a9 av aw az aA aC k l m e f j:Nat} {T:L2} (n o p q s:Bool) (aR:Int) (ae ah H a2 aj ak am:Bool) {r:Bool×L0×Bool×L0×Bool×L0}
  (h:F.Et n aD o aE p aF q aI s aJ aR ae aK ah aL H aN a2 aj aO ak aP am aQ=some r) (hTT:TOk [] T d) (be:RP T d X t aD) (br:RB T d av [K n,t]) (bf:RP T d X u aE) (bs:RB T d aw [K o,u]) (bh:RP T d X x aF) (bt:RB T d az [K p,x]) (bi:RP T d X y aI) (bu:RB T d aA [K q,y]) (bj:RP T d X z aJ) (bv:RB T d aC [K s,z]) (hBa0:RB T d a9 [O av 0,O aw 0,O az 0,O aA 0,O aC 0,I aR,.func (.func 144) #[] #[]]) (bk:RP T d X A aK) (bw:RB T d k [K ae,A]) (bl:RP T d X B aL) (bA:RB T d l [K ah,B]) (bm:RP T d X C aN) (bB:RB T d m [K H,C]) (bn:RP T d X D aO) (bC:RB T d e [K aj,D]) (bp:RP T d X E aP) (bD:RB T d f [K ak,E]) (bq:RP T d X G aQ) (bE:RB T d j [K am,G]):Calls Tryz.prog 144 #[O a9 0,.agg #[O k 0,O l 0,O m 0],K a2,.agg #[O e 0,O f 0,O j 0]] d (Ret fun v w=>∃bF:Nat,∃aY:Value,∃bG:Nat,∃aZ:Value,∃bH:Nat,∃a0:Value,v=.agg #[O bF 0,O bG 0,O bH 0]/\St [] d w []/\Rds T w [Y bH [K r.2.2.2.2.1,a0],Q X a0 r.2.2.2.2.2,Y bG [K r.2.2.1,aZ],Q X aZ r.2.2.2.1,Y bF [K r.1,aY],Q X aY r.2.1]):=by
 refine aB 18 Tryz.func144 Z Z Z<|have c:=St.k d;have hZ:=Fz.k (S:=[]) (w0:=d);?_
 have hA0:Rds T d [Y j [K am,G],Q X G aQ,Y f [K ak,E],Q X E aP,Y e [K aj,D],Q X D aO,Y m [K H,C],Q X C aN,Y l [K ah,B],Q X B aL,Y k [K ae,A],Q X A aK,Y a9 [O av 0,O aw 0,O az 0,O aA 0,O aC 0,I aR,.func (.func 144) #[] #[]],Y aC [K s,z],Q X z aJ,Y aA [K q,y],Q X y aI,Y az [K p,x],Q X x aF,Y aw [K o,u],Q X u aE,Y av [K n,t],Q X t aD]:=M bE.h (M (RP.h (W Z) bq) (M bD.h (M (RP.h (W Z) bp) (M bC.h (M (RP.h (W Z) bn) (M bB.h (M (RP.h (W Z) bm) (M bA.h (M (RP.h (W Z) bl) (M bw.h (M (RP.h (W Z) bk) (M hBa0.h (M bv.h (M (RP.h (W Z) bj) (M bu.h (M (RP.h (W Z) bi) (M bt.h (M (RP.h (W Z) bh) (M bs.h (M (RP.h (W Z) bf) (M br.h (M (RP.h (W Z) be) (Rds.nil)))))))))))))))))))))))
 have a:=hA0.all
 have b:=hA0.off Z
 refine ax [(0,O a9 0),(1,.agg #[O k 0,O l 0,O m 0]),(2,K a2),(3,.agg #[O e 0,O f 0,O j 0])] Z ?_
 unfold F.Et at h
 refine R<|bg (cg (cs:=[O k 0,O l 0,O m 0]) Z Z c) Z fun ba w c=>bg (cg (cs:=[O e 0,O f 0,O j 0]) Z Z c) Z fun bL w c=>bg (bb (cs:=[.pointer none,.pointer none,.pointer none]) gq Z c) Z fun bc w c=>gl2<|V 1 Z<|N (aM (us:=[O k 0,O l 0,O m 0]) u78 Z cp Z (c.p 2 Z Z)) Z ?_
 replace c:=c.pick (os':=[]++[Y bc [.pointer none,.pointer none,.pointer none],Y bL [O e 0,O f 0,O j 0],Y ba [O k 0,O l 0,O m 0]]) [0,1,2] (by decide) rfl
 obtain⟨hZ,a,b,c⟩:=hZ.frzK hTT a b c
 refine J h fun ao bM h=>aH Z (iG n o p q s aR ae ah H bM (hZ.okT hTT c) (a.i b 0 Z) (a.j b 1 Z) (a.i b 2 Z) (a.j b 3 Z) (a.i b 4 Z) (a.j b 5 Z) (a.i b 6 Z) (a.j b 7 Z) (a.i b 8 Z) (a.j b 9 Z) (a.j b 10 Z) (a.i b 11 Z) (a.j b 12 Z) (a.i b 13 Z) (a.j b 14 Z) (a.i b 15 Z) (a.j b 16 Z)) Z ?_
 rintro _ w ⟨ap,a5,aq,a6,ar,a7,rfl,bI,bJ⟩
 obtain⟨bT,bP,hZ,a,b,c⟩:=hZ.l a b c bI bJ rfl
 refine bo (bz (i:=2) (us:=[O ap 0,O aq 0,O ar 0]) Z cp Z Z Z ⟨Z,Z,Z,trivial⟩ Z c) fun w c=>P ?_
 refine a8 (r:=r) (fun (g:Bool×L0×Bool×L0×Bool×L0) L w=>∃(ab:Nat) (aV:Value) (ac:Nat) (aW:Value) (ad:Nat) (aX:Value),L=[(5,O ba 0),(8,O bc 0)]/\SfT [] T d w [Y ad [K g.2.2.2.2.1,aX],Q X aX g.2.2.2.2.2,Y ac [K g.2.2.1,aW],Q X aW g.2.2.2.1,Y ab [K g.1,aV],Q X aV g.2.1] [Y ba [O ab 0,O ac 0,O ad 0],Y bc [.pointer none,.pointer none,.pointer none]]) (F.I3) ?_ ?_
 rotate_left
 ·intro bd
  refine R<|V 1 Z<|P ?_
  apply gl9 Z h<;>intro h
  ·refine al<|V 1 Z<|N (aM (us:=[O ap 0,O aq 0,O ar 0]) u78 Z cp Z (c.p 2 Z Z)) Z<|N (aM (us:=[O e 0,O f 0,O j 0]) u78 Z cp Z (c.p 1 Z Z)) Z ?_
   replace c:=c.pick (os':=[]++[Y bc [.pointer none,.pointer none,.pointer none],Y bL [O e 0,O f 0,O j 0],Y ba [O ap 0,O aq 0,O ar 0]]) [0,1,2] (by decide) rfl
   obtain⟨hZ,a,b,c⟩:=hZ.frzK hTT a b c
   refine J h fun au bK h=>aH Z (jE n o p q s aR ao.1 ao.2.2.1 ao.2.2.2.2.1 aj ak am bK (hZ.okT hTT c) (a.i b 0 Z) (a.j b 1 Z) (a.i b 2 Z) (a.j b 3 Z) (a.i b 4 Z) (a.j b 5 Z) (a.i b 6 Z) (a.j b 7 Z) (a.i b 8 Z) (a.j b 9 Z) (a.j b 10 Z) (a.i b 23 Z) (a.j b 24 Z) (a.i b 25 Z) (a.j b 26 Z) (a.i b 27 Z) (a.j b 28 Z) (a.i b 17 Z) (a.j b 18 Z) (a.i b 19 Z) (a.j b 20 Z) (a.i b 21 Z) (a.j b 22 Z)) Z ?_
   rintro _ w ⟨aS,a1,aT,a3,aU,a4,rfl,bI,bJ⟩
   obtain⟨bU,bQ,hZ,a,b,c⟩:=hZ.l a b c bI bJ rfl
   refine bo (bz (i:=2) (us:=[O aS 0,O aT 0,O aU 0]) Z cp Z Z Z ⟨Z,Z,Z,trivial⟩ Z c) fun w c=>P ?_
   exact aG (bd (au.1,au.2.1,au.2.2.1,au.2.2.2.1,au.2.2.2.2.1,au.2.2.2.2.2) _ _ ⟨aS,a1,aT,a3,aU,a4,Z,(SfT.mk' hZ (a.pick [34,33,32,31,30,29] Z) (b.pick [34,33,32,31,30,29] Z) (c.d [2,0] Z Z))⟩ h) Z
  exact gl5<|aG (bd (ao.1,ao.2.1,ao.2.2.1,ao.2.2.2.1,ao.2.2.2.2.1,ao.2.2.2.2.2) _ _ ⟨ap,a5,aq,a6,ar,a7,Z,(SfT.mk' hZ (a.pick [28,27,26,25,24,23] Z) (b.pick [28,27,26,25,24,23] Z) (c.d [2,0] Z Z))⟩ h) Z
 rintro⟨bV,bW,bX,bY,bZ,b0⟩ L w hJ h
 try dsimp only at hJ
 obtain⟨ab,aV,ac,aW,ad,aX,rfl,⟨b1,bR,hZ,a,b,c⟩⟩:=hJ
 unfold F.I3 at h
 refine R<|N (aM (us:=[O ab 0,O ac 0,O ad 0]) u78 Z cp Z (c.p 0 Z Z)) Z<|bo (bz (i:=1) (us:=[O ab 0,O ac 0,O ad 0]) Z cp Z Z Z ⟨Z,Z,Z,trivial⟩ Z c) fun w c=>P<|ay ?_
 cases h
 obtain⟨bO,hR⟩:=hZ.outT hTT a b c
 exact dh Z ⟨_,Z,bS (us:=[O ab 0,O ac 0,O ad 0]) u78 Z cp (c.p 1 Z Z)⟩ ⟨ab,aV,ac,aW,ad,aX,Z,bO,(hR.pick [5,4,3,2,1,0] Z)⟩
end Go.Proofs
