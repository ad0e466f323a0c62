import Derived.Test.YtahgjafdhjbkeaaGreatDoorRW0
import Derived.Test.YtahgjafdhjbkeaaGreatDoorGkFman
import Derived.Test.YtahgjafdhjbkeaaGreatDoorRWref12a
import Derived.Test.YtahgjafdhjbkeaaGreatDoorRWref7
set_option linter.unusedVariables false
set_option linter.unusedSimpArgs false
set_option linter.unusedSectionVars false
set_option maxRecDepth 4000
namespace Go.Proofs
open Go Go.RowKit Go.Gk
open Go.Gk renaming aa -> V, af -> J, ag -> N, ai -> H, e32 -> X, gl3 -> P, gl4 -> R, own -> U, pB -> O, red -> Q, vI -> I
open Nat renaming le_of_ble_eq_true -> W
open Go.Gk.OE renaming bx -> Y
open Go.Gk.Rds renaming cons -> M
theorem fF {w0:World} {aF aG aI aJ aK aL aN aO:L0} {f g l m n o p s:Value} {T:L2} (e:Int) {r:L0×L0×L0}
  (h:F.Ee aF aG e aI aJ aK aL aN aO=some r) (hTT:TOk [] T w0) (bL:RP T w0 X f aF) (bO:RP T w0 X g aG) (bP:RP T w0 X l aI) (bR:RP T w0 X m aJ) (bT:RP T w0 X n aK) (bV:RP T w0 X o aL) (bW:RP T w0 X p aN) (bX:RP T w0 X s aO):Calls Tryz.prog 92 #[.agg #[f,g,I e],.agg #[l,m,n],.agg #[o,p,s]] w0 (Ret fun v w=>∃bu:Value,∃bv:Value,∃bw:Value,v=.agg #[bu,bv,bw]/\St [] w0 w []/\Rds T w [Q X bw r.2.2,Q X bv r.2.1,Q X bu r.1]):=by
 refine aB 134 Tryz.func92 Z Z Z<|have a:=St.k w0;have d:=Fz.k (S:=[]) (w0:=w0);?_
 have hA0:Rds T w0 [Q X s aO,Q X p aN,Q X o aL,Q X n aK,Q X m aJ,Q X l aI,Q X g aG,Q X f aF]:=M (RP.h (W Z) bX) (M (RP.h (W Z) bW) (M (RP.h (W Z) bV) (M (RP.h (W Z) bT) (M (RP.h (W Z) bR) (M (RP.h (W Z) bP) (M (RP.h (W Z) bO) (M (RP.h (W Z) bL) (Rds.nil))))))))
 have b:=hA0.all
 have c:=hA0.off Z
 refine ax [(0,.agg #[f,g,I e]),(1,.agg #[l,m,n]),(2,.agg #[o,p,s])] Z ?_
 unfold F.Ee at h
 refine R<|bg (cg (cs:=[f,g,I e]) Z Z a) Z fun G w a=>bg (cg (cs:=[l,m,n]) Z Z a) Z fun L w a=>bg (cg (cs:=[o,p,s]) Z Z a) Z fun ab w a=>bg (bb (cs:=[L3,L3,L3]) mj Z a) Z fun E w a=>gl1<|R<|N (am (k:=2) u104 Z Z cH Z) Z<|N (au u31 Z Z (a.q 2 Z 2)) Z<|N (aC u31 Z ((b.rp 4 Z).b a.fr)) Z<|V 1 Z<|P ?_
 apply gl9 Z h<;>intro h
 ·refine R<|N (aM (us:=[o,p,s]) u104 Z cT Z (a.p 1 Z Z)) Z<|bo (bz (i:=0) (us:=[o,p,s]) Z cT Z Z Z ⟨((b.rp 5 Z).b a.fr).one,((b.rp 6 Z).b a.fr).one,((b.rp 7 Z).b a.fr).one,trivial⟩ Z a) fun w a=>gl8 ?_
  cases h
  obtain⟨a0,hR⟩:=d.outT hTT b c a
  exact dh Z ⟨_,Z,bS (us:=[o,p,s]) u104 Z cT (a.p 0 Z Z)⟩ ⟨o,p,s,Z,a0,(hR.pick [7,6,5] Z)⟩
 refine gl5<|aw<|R<|N (am (k:=2) u104 Z Z cH Z) Z<|N (au u31 Z Z (a.q 1 Z 2)) Z<|N (aC u31 Z ((b.rp 7 Z).b a.fr)) Z<|V 1 Z<|P ?_
 apply gl9 Z h<;>intro h
 ·refine R<|N (aM (us:=[l,m,n]) u104 Z cT Z (a.p 2 Z Z)) Z<|bo (bz (i:=0) (us:=[l,m,n]) Z cT Z Z Z ⟨((b.rp 2 Z).b a.fr).one,((b.rp 3 Z).b a.fr).one,((b.rp 4 Z).b a.fr).one,trivial⟩ Z a) fun w a=>gl8 ?_
  cases h
  obtain⟨a0,hR⟩:=d.outT hTT b c a
  exact dh Z ⟨_,Z,bS (us:=[l,m,n]) u104 Z cT (a.p 0 Z Z)⟩ ⟨l,m,n,Z,a0,(hR.pick [4,3,2] Z)⟩
 refine gl6<|N (aM (us:=[f,g,I e]) u101 Z bU Z (a.p 3 Z Z)) Z<|N (am (k:=2) u104 Z Z cH Z) Z<|N (au u31 Z Z (a.q 2 Z 2)) Z<|N (am (k:=2) u104 Z Z cH Z) Z<|N (au u31 Z Z (a.q 2 Z 2)) Z ?_
 replace a:=a.pick (os':=[]++[Y E [L3,L3,L3],Y ab [o,p,s],Y L [l,m,n],Y G [f,g,I e]]) [0,1,2,3] (by decide) rfl
 obtain⟨d,b,c,a⟩:=d.frzK hTT b c a
 refine J h fun bf ce h=>aH Z (br e ce (d.okT hTT a) (b.i c 0 Z) (b.i c 1 Z) (b.i c 4 Z) (b.i c 4 Z)) Z ?_
 rintro aS w ⟨_,rfl,t,B⟩
 obtain⟨cP,cn,d,b,c,a⟩:=d.l b c a t B rfl
 refine V 1 Z<|gl2<|N (aM (us:=[f,g,I e]) u101 Z bU Z (a.p 3 Z Z)) Z<|N (am (k:=2) u104 Z Z cH Z) Z<|N (au u31 Z Z (a.q 1 Z 2)) Z<|N (am (k:=2) u104 Z Z cH Z) Z<|N (au u31 Z Z (a.q 1 Z 2)) Z ?_
 replace a:=a.pick (os':=[]++[Y E [L3,L3,L3],Y ab [o,p,s],Y L [l,m,n],Y G [f,g,I e]]) [0,1,2,3] (by decide) rfl
 obtain⟨d,b,c,a⟩:=d.frzK hTT b c a
 refine J h fun a1 bY h=>aH Z (br e bY (d.okT hTT a) (b.i c 0 Z) (b.i c 1 Z) (b.i c 7 Z) (b.i c 7 Z)) Z ?_
 rintro aT w ⟨_,rfl,t,B⟩
 obtain⟨cQ,co,d,b,c,a⟩:=d.l b c a t B rfl
 refine V 1 Z<|gl2<|N (aM (us:=[f,g,I e]) u101 Z bU Z (a.p 3 Z Z)) Z<|N (am (k:=0) u104 Z Z cH Z) Z<|N (au u31 Z Z (a.q 2 Z 0)) Z<|V 1 Z ?_
 replace a:=a.pick (os':=[]++[Y E [L3,L3,L3],Y ab [o,p,s],Y L [l,m,n],Y G [f,g,I e]]) [0,1,2,3] (by decide) rfl
 obtain⟨d,b,c,a⟩:=d.frzK hTT b c a
 refine J h fun a2 b0 h=>aH Z (br e b0 (d.okT hTT a) (b.i c 0 Z) (b.i c 1 Z) (b.i c 2 Z) (b.i c 9 Z)) Z ?_
 rintro aV w ⟨_,rfl,t,B⟩
 obtain⟨cR,cp,d,b,c,a⟩:=d.l b c a t B rfl
 refine V 1 rfl<|gl1<|J h fun aR b1 h=>J h fun ar b2 h=>cF (es:=[Q X aV a2,Q X aT a1,Q X aS bf,Q X s aO,Q X p aN,Q X o aL,Q X n aK,Q X m aJ,Q X l aI,Q X g aG,Q X f aF]) (os:=[Y E [L3,L3,L3],Y ab [o,p,s],Y L [l,m,n],Y G [f,g,I e]]) (fun i=>[5,7].contains i) (fun i=>none) (fun i=>if i=7 then [5] else []) (fun i=>[]) (fun i=>[]) (fun i=>[]) (fun i=>if i=5 then (fun h v x y=>∃ac:Value,v=ac/\x=[]/\y=[Q X ac aR]) else (fun h v x y=>∃D:Value,v=D/\x=[U X D ar]/\y=[])) (SfT.mk' d b c a) (fun k hk=>rfl) hTT rfl (fun i=>(bZ (by rintro h v x y ⟨_,rfl,rfl,rfl⟩; exact bM rfl) (by rintro h v x y ⟨_,rfl,rfl,rfl⟩; exact bM rfl))) bQ (by kernel_rfl) (by kernel_rfl)<|show dZ _ _ _ _ _ _ _ _ _ _ _ _ _ _ _ _ [0,1,2,3,4,5,6,7,8] _ _ from bj rfl rfl (fun w Sb wb d b c A=>aM (us:=[f,g,I e]) u101 rfl bU rfl (A.p 3 rfl rfl)) rfl<|bj rfl rfl (fun w Sb wb d b c A=>aM (us:=[f,g,I e]) u101 rfl bU rfl (A.p 3 rfl rfl)) rfl<|bj rfl rfl (fun w Sb wb d b c A=>am (k:=0) u104 rfl rfl cH rfl) rfl<|bj rfl rfl (fun w Sb wb d b c A=>au u31 rfl rfl (A.q 1 rfl 0)) rfl ?_
 refine bN 1 Z ?_
 refine bI (fun h v x y=>∃ac:Value,v=ac/\x=[]/\y=[Q X ac aR]) [] [] [] _ Z Z (fun h v x y=>Z) Z Z Z Z ⟨_,_,_,undef,Z,Z,Z⟩ (by kernel_rfl) Z (fun w Sl Tl d hTT b c a=>?_) Z ?_
 ·replace a:=a.pick (os':=[]++[Y E [L3,L3,L3],Y ab [o,p,s],Y L [l,m,n],Y G [f,g,I e]]) [0,1,2,3] (by decide) rfl
  obtain⟨d,b,c,a⟩:=d.frzK hTT b c a
  refine bG (br e b1 (d.okT hTT a) (b.i c 0 Z) (b.i c 1 Z) (b.i c 5 Z) (b.i c 8 Z)) ?_
  rintro ac w ⟨_,rfl,t,B⟩
  obtain⟨cS,cq,d,b,c,a⟩:=d.l b c a t B rfl
  exact⟨_,_,⟨ac,Z,Z,Z⟩,SfT.mk' d (b.pick [11] Z) (c.pick [11] Z) a⟩
 rintro ac x_q y_q ⟨_,rfl,rfl,rfl⟩
 refine bN 1 Z ?_
 refine bI (fun h v x y=>∃D:Value,v=D/\x=[U X D ar]/\y=[]) [] [] [Q X ac aR] _ Z Z (fun h v x y=>Z) Z Z Z Z ⟨_,_,_,undef,Z,Z,Z⟩ (by kernel_rfl) Z (fun w Sl Tl d hTT b c a=>?_) Z ?_
 ·refine bG (cU e b2 ((b.rp 0 Z).b a.fr).rp ((b.rp 1 Z).b a.fr).rp ((b.rp 11 Z).b a.fr).rp ((b.rp 10 Z).b a.fr).rp) ?_
  rintro D w t
  have a:=a.e t
  exact⟨_,_,⟨D,Z,Z,Z⟩,SfT.mk' d Rds.nil Off.nil a⟩
 rintro D x_q y_q ⟨_,rfl,rfl,rfl⟩
 refine bN 1 Z<|dv fun w hQ=>?_
 obtain⟨cV,cr,d,b,c,a⟩:=hQ
 refine ak<|aw<|J h fun aY b3 h=>J h fun a3 b4 h=>cF (es:=[Q X ac aR,Q X aV a2,Q X aT a1,Q X aS bf,Q X s aO,Q X p aN,Q X o aL,Q X n aK,Q X m aJ,Q X l aI,Q X g aG,Q X f aF]) (os:=[U X D ar,Y E [L3,L3,L3],Y ab [o,p,s],Y L [l,m,n],Y G [f,g,I e]]) (fun i=>[7,8].contains i) (fun i=>none) (fun i=>if i=8 then [7] else []) (fun i=>[]) (fun i=>[]) (fun i=>[]) (fun i=>if i=7 then (fun h v x y=>∃ad:Value,v=ad/\x=[]/\y=[Q X ad aY]) else (fun h v x y=>∃H:Value,v=H/\x=[]/\y=[Q X H a3])) (SfT.mk' d b c a) (fun k hk=>rfl) hTT rfl (fun i=>(bZ (by rintro h v x y ⟨_,rfl,rfl,rfl⟩; exact bM rfl) (by rintro h v x y ⟨_,rfl,rfl,rfl⟩; exact bM rfl))) bQ (by kernel_rfl) (by kernel_rfl)<|show dZ _ _ _ _ _ _ _ _ _ _ _ _ _ _ _ _ [0,1,2,3,4,5,6,7,8,9] _ _ from bj rfl rfl (fun w Sb wb d b c A=>aM (us:=[f,g,I e]) u101 rfl bU rfl (A.p 4 rfl rfl)) rfl<|bj rfl rfl (fun w Sb wb d b c A=>am (k:=1) u104 rfl rfl cH rfl) rfl<|bj rfl rfl (fun w Sb wb d b c A=>au u31 rfl rfl (A.q 3 rfl 1)) rfl<|bj rfl rfl (fun w Sb wb d b c A=>aM (us:=[f,g,I e]) u101 rfl bU rfl (A.p 4 rfl rfl)) rfl ?_
 refine bN 1 Z<|bj Z Z (fun w Sb wb d b c A=>am (k:=2) u104 Z Z cH Z) Z<|bj Z Z (fun w Sb wb d b c A=>au u31 Z Z (A.q 2 Z 2)) Z ?_
 refine bI (fun h v x y=>∃ad:Value,v=ad/\x=[]/\y=[Q X ad aY]) [] [] [] _ Z Z (fun h v x y=>Z) Z Z Z Z ⟨_,_,_,undef,Z,Z,Z⟩ (by kernel_rfl) Z (fun w Sl Tl d hTT b c a=>?_) Z ?_
 ·replace a:=a.pick (os':=[]++[U X D ar,Y E [L3,L3,L3],Y ab [o,p,s],Y L [l,m,n],Y G [f,g,I e]]) [0,1,2,3,4] (by decide) rfl
  obtain⟨d,b,c,a⟩:=d.frzK hTT b c a
  refine bG (br e b3 (d.okT hTT a) (b.i c 0 Z) (b.i c 1 Z) (b.i c 9 Z) (b.i c 7 Z)) ?_
  rintro ad w ⟨_,rfl,t,B⟩
  obtain⟨cW,ct,d,b,c,a⟩:=d.l b c a t B rfl
  exact⟨_,_,⟨ad,Z,Z,Z⟩,SfT.mk' d (b.pick [12] Z) (c.pick [12] Z) a⟩
 rintro ad x_q y_q ⟨_,rfl,rfl,rfl⟩
 refine bI (fun h v x y=>∃H:Value,v=H/\x=[]/\y=[Q X H a3]) [] [] [Q X ad aY] _ Z Z (fun h v x y=>Z) Z Z Z Z ⟨_,_,_,undef,Z,Z,Z⟩ (by kernel_rfl) Z (fun w Sl Tl d hTT b c a=>?_) Z ?_
 ·replace a:=a.pick (os':=[]++[U X D ar,Y E [L3,L3,L3],Y ab [o,p,s],Y L [l,m,n],Y G [f,g,I e]]) [0,1,2,3,4] (by decide) rfl
  obtain⟨d,b,c,a⟩:=d.frzK hTT b c a
  refine bG (br e b4 (d.okT hTT a) (b.i c 0 Z) (b.i c 1 Z) (b.i c 3 Z) (b.i c 12 Z)) ?_
  rintro H w ⟨_,rfl,t,B⟩
  obtain⟨cX,cu,d,b,c,a⟩:=d.l b c a t B rfl
  exact⟨_,_,⟨H,Z,Z,Z⟩,SfT.mk' d (b.pick [13] Z) (c.pick [13] Z) a⟩
 rintro H x_q y_q ⟨_,rfl,rfl,rfl⟩
 refine bN 1 Z<|dv fun w hQ=>?_
 obtain⟨cY,cv,d,b,c,a⟩:=hQ
 refine ak<|aw<|J h fun a4 b5 h=>J h fun a5 b6 h=>J h fun aZ b7 h=>cF (es:=[Q X ad aY,Q X H a3,Q X ac aR,Q X aV a2,Q X aT a1,Q X aS bf,Q X s aO,Q X p aN,Q X o aL,Q X n aK,Q X m aJ,Q X l aI,Q X g aG,Q X f aF]) (os:=[U X D ar,Y E [L3,L3,L3],Y ab [o,p,s],Y L [l,m,n],Y G [f,g,I e]]) (fun i=>[8,9,11].contains i) (fun i=>none) (fun i=>if i=9 then [8] else if i=11 then [9] else []) (fun i=>[]) (fun i=>[]) (fun i=>[]) (fun i=>if i=8 then (fun h v x y=>∃aj:Value,v=aj/\x=[]/\y=[Q X aj a4]) else if i=9 then (fun h v x y=>∃al:Value,v=al/\x=[]/\y=[Q X al a5]) else (fun h v x y=>∃av:Value,v=av/\x=[U X av aZ]/\y=[])) (SfT.mk' d b c a) (fun k hk=>rfl) hTT rfl (fun i=>(bZ (by rintro h v x y ⟨_,rfl,rfl,rfl⟩; exact bM rfl) (bZ (by rintro h v x y ⟨_,rfl,rfl,rfl⟩; exact bM rfl) (by rintro h v x y ⟨_,rfl,rfl,rfl⟩; exact bM rfl)))) bQ (by kernel_rfl) (by kernel_rfl)<|show dZ _ _ _ _ _ _ _ _ _ _ _ _ _ _ _ _ [0,1,2,3,4,5,6,7,8,9,10,11,12] _ _ from bj rfl rfl (fun w Sb wb d b c A=>aM (us:=[f,g,I e]) u101 rfl bU rfl (A.p 4 rfl rfl)) rfl<|bj rfl rfl (fun w Sb wb d b c A=>aM (us:=[f,g,I e]) u101 rfl bU rfl (A.p 4 rfl rfl)) rfl ?_
 refine bj Z Z (fun w Sb wb d b c A=>am (k:=1) u104 Z Z cH Z) Z<|bj Z Z (fun w Sb wb d b c A=>au u31 Z Z (A.q 2 Z 1)) Z<|bj Z Z (fun w Sb wb d b c A=>aM (us:=[f,g,I e]) u101 Z bU Z (A.p 4 Z Z)) Z<|bN 1 Z<|bj Z Z (fun w Sb wb d b c A=>am (k:=2) u104 Z Z cH Z) Z<|bj Z Z (fun w Sb wb d b c A=>au u31 Z Z (A.q 3 Z 2)) Z ?_
 refine bI (fun h v x y=>∃aj:Value,v=aj/\x=[]/\y=[Q X aj a4]) [] [] [] _ Z Z (fun h v x y=>Z) Z Z Z Z ⟨_,_,_,undef,Z,Z,Z⟩ (by kernel_rfl) Z (fun w Sl Tl d hTT b c a=>?_) Z ?_
 ·replace a:=a.pick (os':=[]++[U X D ar,Y E [L3,L3,L3],Y ab [o,p,s],Y L [l,m,n],Y G [f,g,I e]]) [0,1,2,3,4] (by decide) rfl
  obtain⟨d,b,c,a⟩:=d.frzK hTT b c a
  refine bG (br e b5 (d.okT hTT a) (b.i c 0 Z) (b.i c 1 Z) (b.i c 8 Z) (b.i c 4 Z)) ?_
  rintro aj w ⟨_,rfl,t,B⟩
  obtain⟨cZ,cw,d,b,c,a⟩:=d.l b c a t B rfl
  exact⟨_,_,⟨aj,Z,Z,Z⟩,SfT.mk' d (b.pick [14] Z) (c.pick [14] Z) a⟩
 rintro aj x_q y_q ⟨_,rfl,rfl,rfl⟩
 refine bI (fun h v x y=>∃al:Value,v=al/\x=[]/\y=[Q X al a5]) [] [] [Q X aj a4] _ Z Z (fun h v x y=>Z) Z Z Z Z ⟨_,_,_,undef,Z,Z,Z⟩ (by kernel_rfl) Z (fun w Sl Tl d hTT b c a=>?_) Z ?_
 ·replace a:=a.pick (os':=[]++[U X D ar,Y E [L3,L3,L3],Y ab [o,p,s],Y L [l,m,n],Y G [f,g,I e]]) [0,1,2,3,4] (by decide) rfl
  obtain⟨d,b,c,a⟩:=d.frzK hTT b c a
  refine bG (br e b6 (d.okT hTT a) (b.i c 0 Z) (b.i c 1 Z) (b.i c 6 Z) (b.i c 14 Z)) ?_
  rintro al w ⟨_,rfl,t,B⟩
  obtain⟨c0,cx,d,b,c,a⟩:=d.l b c a t B rfl
  exact⟨_,_,⟨al,Z,Z,Z⟩,SfT.mk' d (b.pick [15] Z) (c.pick [15] Z) a⟩
 rintro al x_q y_q ⟨_,rfl,rfl,rfl⟩
 refine bN 1 Z ?_
 refine bI (fun h v x y=>∃av:Value,v=av/\x=[U X av aZ]/\y=[]) [] [] [Q X al a5] _ Z Z (fun h v x y=>Z) Z Z Z Z ⟨_,_,_,undef,Z,Z,Z⟩ (by kernel_rfl) Z (fun w Sl Tl d hTT b c a=>?_) Z ?_
 ·refine bG (cU e b7 ((b.rp 0 Z).b a.fr).rp ((b.rp 1 Z).b a.fr).rp ((b.rp 14 Z).b a.fr).rp ((b.rp 12 Z).b a.fr).rp) ?_
  rintro av w t
  have a:=a.e t
  exact⟨_,_,⟨av,Z,Z,Z⟩,SfT.mk' d Rds.nil Off.nil a⟩
 rintro av x_q y_q ⟨_,rfl,rfl,rfl⟩
 refine bN 1 Z<|dv fun w hQ=>?_
 obtain⟨c1,cy,d,b,c,a⟩:=hQ
 refine ak<|aw<|R<|V 1 Z<|N (aC u31 Z (a.ro 1 Z)) Z<|V 1 Z<|P ?_
 apply gl9 Z h<;>intro h
 ·refine aw<|R<|V 1 Z<|N (aC u31 Z (a.ro 0 Z)) Z<|V 1 Z<|P ?_
  apply gl9 Z h<;>intro h
  ·refine R<|N (aM (us:=[f,g,I e]) u101 Z bU Z (a.p 5 Z Z)) Z<|N (aM (us:=[l,m,n]) u104 Z cT Z (a.p 4 Z Z)) Z ?_
   replace a:=a.pick (os':=[U X av aZ,U X D ar]++[Y E [L3,L3,L3],Y ab [o,p,s],Y L [l,m,n],Y G [f,g,I e]]) [0,1,2,3,4,5] (by decide) rfl
   obtain⟨d,b,c,a⟩:=d.frzK hTT b c a
   refine J h fun c2 b8 h=>aH Z (iO e b8 (d.okT hTT a) (b.i c 0 Z) (b.i c 1 Z) (b.i c 2 Z) (b.i c 3 Z) (b.i c 4 Z)) Z ?_
   rintro _ w ⟨a6,a7,a8,rfl,t,B⟩
   obtain⟨c3,cz,d,b,c,a⟩:=d.l b c a t B rfl
   refine bo (bz (i:=0) (us:=[a6,a7,a8]) Z cT Z Z Z ⟨((b.rp 18 Z).b a.fr).one,((b.rp 19 Z).b a.fr).one,((b.rp 20 Z).b a.fr).one,trivial⟩ Z a) fun w a=>gl8<|aU ?_
   cases h
   obtain⟨a0,hR⟩:=d.outT hTT b c a
   exact dh Z ⟨_,Z,bS (us:=[a6,a7,a8]) u104 Z cT (a.p 0 Z Z)⟩ ⟨a6,a7,a8,Z,a0,(hR.pick [20,19,18] Z)⟩
  refine gl6<|N (cb (vs:=[]) (cells:=[L3,L3,L3]) Z lj trivial Z) Z<|bo (bz (i:=2) (us:=[L3,L3,L3]) Z cT Z Z Z ⟨Z,Z,Z,trivial⟩ Z a) fun w a=>gl8 ?_
  cases h
  obtain⟨a0,hR⟩:=d.outT hTT b c a
  exact dh Z ⟨_,Z,bS (us:=[L3,L3,L3]) u104 Z cT (a.p 2 Z Z)⟩ ⟨L3,L3,L3,Z,a0,(M OE.kept.nil (M OE.kept.nil (M OE.kept.nil Rds.nil)))⟩
 refine gl6<|N (aM (us:=[f,g,I e]) u101 Z bU Z (a.p 5 Z Z)) Z<|V 2 Z ?_
 replace a:=a.pick (os':=[U X av aZ,U X D ar]++[Y E [L3,L3,L3],Y ab [o,p,s],Y L [l,m,n],Y G [f,g,I e]]) [0,1,2,3,4,5] (by decide) rfl
 obtain⟨d,b,c,a⟩:=d.frzK hTT b c a
 refine J h fun bq b9 h=>aH Z (br e b9 (d.okT hTT a) (b.i c 0 Z) (b.i c 1 Z) (b.i c 16 Z) (b.i c 16 Z)) Z ?_
 rintro bh w ⟨_,rfl,t,B⟩
 obtain⟨c4,cA,d,b,c,a⟩:=d.l b c a t B rfl
 refine V 1 Z<|gl2<|N (aM (us:=[f,g,I e]) u101 Z bU Z (a.p 3 Z Z)) Z<|V 2 Z ?_
 replace a:=a.pick (os':=[]++[Y E [L3,L3,L3],Y ab [o,p,s],Y L [l,m,n],Y G [f,g,I e]]) [0,1,2,3] (by decide) rfl
 obtain⟨d,b,c,a⟩:=d.frzK hTT b c a
 refine J h fun bs ca h=>aH Z (br e ca (d.okT hTT a) (b.i c 0 Z) (b.i c 1 Z) (b.i c 18 Z) (b.i c 16 Z)) Z ?_
 rintro bi w ⟨_,rfl,t,B⟩
 obtain⟨c5,cB,d,b,c,a⟩:=d.l b c a t B rfl
 refine V 1 Z<|gl2<|N (aM (us:=[f,g,I e]) u101 Z bU Z (a.p 3 Z Z)) Z<|V 2 Z ?_
 replace a:=a.pick (os':=[]++[Y E [L3,L3,L3],Y ab [o,p,s],Y L [l,m,n],Y G [f,g,I e]]) [0,1,2,3] (by decide) rfl
 obtain⟨d,b,c,a⟩:=d.frzK hTT b c a
 refine J h fun bt cc h=>aH Z (br e cc (d.okT hTT a) (b.i c 0 Z) (b.i c 1 Z) (b.i c 10 Z) (b.i c 18 Z)) Z ?_
 rintro bk w ⟨_,rfl,t,B⟩
 obtain⟨c6,cC,d,b,c,a⟩:=d.l b c a t B rfl
 refine V 1 rfl<|gl1<|J h fun be cd h=>J h fun bl bA h=>J h fun bm bB h=>J h fun aA bC h=>cF (es:=[Q X bk bt,Q X bi bs,Q X bh bq,Q X av aZ,Q X D ar,Q X aj a4,Q X al a5,Q X ad aY,Q X H a3,Q X ac aR,Q X aV a2,Q X aT a1,Q X aS bf,Q X s aO,Q X p aN,Q X o aL,Q X n aK,Q X m aJ,Q X l aI,Q X g aG,Q X f aF]) (os:=[Y E [L3,L3,L3],Y ab [o,p,s],Y L [l,m,n],Y G [f,g,I e]]) (fun i=>[5,7,11,12].contains i) (fun i=>if i=7 then some 12 else if i=11 then some 12 else none) (fun i=>if i=7 then [5] else []) (fun i=>[]) (fun i=>[]) (fun i=>[]) (fun i=>if i=5 then (fun h v x y=>∃ap:Value,v=ap/\x=[]/\y=[Q X ap be]) else if i=7 then (fun h v x y=>∃aD:Value,v=aD/\x=[U X aD bl]/\y=[]) else if i=11 then (fun h v x y=>∃aE:Value,v=aE/\x=[U X aE bm]/\y=[]) else (fun h v x y=>∃u:Value,v=u/\x=[U X u aA]/\y=[])) (SfT.mk' d b c a) (fun k hk=>rfl) hTT rfl (fun i=>(bZ (by rintro h v x y ⟨_,rfl,rfl,rfl⟩; exact bM rfl) (bZ (by rintro h v x y ⟨_,rfl,rfl,rfl⟩; exact bM rfl) (bZ (by rintro h v x y ⟨_,rfl,rfl,rfl⟩; exact bM rfl) (by rintro h v x y ⟨_,rfl,rfl,rfl⟩; exact bM rfl))))) bQ (by kernel_rfl) (by kernel_rfl) ?_
 show dZ _ _ _ _ _ _ _ _ _ _ _ _ _ _ _ _ [0,1,2,3,4,5,6,7,8,9,10,11,12,13] _ _
 refine bj Z Z (fun w Sb wb d b c A=>aM (us:=[f,g,I e]) u101 Z bU Z (A.p 3 Z Z)) Z<|bj Z Z (fun w Sb wb d b c A=>aM (us:=[f,g,I e]) u101 Z bU Z (A.p 3 Z Z)) Z<|bj Z Z (fun w Sb wb d b c A=>aM (us:=[f,g,I e]) u101 Z bU Z (A.p 3 Z Z)) Z<|bN 2 Z ?_
 refine bI (fun h v x y=>∃ap:Value,v=ap/\x=[]/\y=[Q X ap be]) [] [] [] _ Z Z (fun h v x y=>Z) Z Z Z Z ⟨_,_,_,undef,Z,Z,Z⟩ (by kernel_rfl) Z (fun w Sl Tl d hTT b c a=>?_) Z ?_
 ·replace a:=a.pick (os':=[]++[Y E [L3,L3,L3],Y ab [o,p,s],Y L [l,m,n],Y G [f,g,I e]]) [0,1,2,3] (by decide) rfl
  obtain⟨d,b,c,a⟩:=d.frzK hTT b c a
  refine bG (br e cd (d.okT hTT a) (b.i c 0 Z) (b.i c 1 Z) (b.i c 17 Z) (b.i c 17 Z)) ?_
  rintro ap w ⟨_,rfl,t,B⟩
  obtain⟨c7,cD,d,b,c,a⟩:=d.l b c a t B rfl
  exact⟨_,_,⟨ap,Z,Z,Z⟩,SfT.mk' d (b.pick [21] Z) (c.pick [21] Z) a⟩
 rintro ap x_q y_q ⟨_,rfl,rfl,rfl⟩
 refine bN 1 Z ?_
 refine bI (fun h v x y=>∃aD:Value,v=aD/\x=[U X aD bl]/\y=[]) [] [] [Q X ap be] _ Z Z (fun h v x y=>Z) Z Z Z Z ⟨_,_,_,undef,Z,Z,Z⟩ (by kernel_rfl) Z (fun w Sl Tl d hTT b c a=>?_) Z ?_
 ·refine bG (cU e bA ((b.rp 0 Z).b a.fr).rp ((b.rp 1 Z).b a.fr).rp ((b.rp 21 Z).b a.fr).rp ((b.rp 19 Z).b a.fr).rp) ?_
  rintro aD w t
  have a:=a.e t
  exact⟨_,_,⟨aD,Z,Z,Z⟩,SfT.mk' d Rds.nil Off.nil a⟩
 rintro aD x_q y_q ⟨_,rfl,rfl,rfl⟩
 refine bj Z Z (fun w Sb wb d b c A=>aM (us:=[f,g,I e]) u101 Z bU Z (A.p 3 Z Z)) Z<|bN 2 Z ?_
 refine bI (fun h v x y=>∃aE:Value,v=aE/\x=[U X aE bm]/\y=[]) [] [] [] _ Z Z (fun h v x y=>Z) Z Z Z Z ⟨_,_,_,undef,Z,Z,Z⟩ (by kernel_rfl) Z (fun w Sl Tl d hTT b c a=>?_) Z ?_
 ·refine bG (cM e bB ((b.rp 0 Z).b a.fr).rp ((b.rp 1 Z).b a.fr).rp ((b.rp 20 Z).b a.fr).rp ((b.rp 20 Z).b a.fr).rp) ?_
  rintro aE w t
  have a:=a.e t
  exact⟨_,_,⟨aE,Z,Z,Z⟩,SfT.mk' d Rds.nil Off.nil a⟩
 rintro aE x_q y_q ⟨_,rfl,rfl,rfl⟩
 refine bI (fun h v x y=>∃u:Value,v=u/\x=[U X u aA]/\y=[]) [] [U X aD bl,U X aE bm] [] _ Z Z (fun h v x y=>Z) Z Z Z Z ⟨_,_,_,undef,Z,Z,Z⟩ (by kernel_rfl) Z (fun w Sl Tl d hTT b c a=>?_) Z ?_
 ·refine bG (cU e bC ((b.rp 0 Z).b a.fr).rp ((b.rp 1 Z).b a.fr).rp (a.ro 0 Z).rp (a.ro 1 Z).rp) ?_
  rintro u w t
  have a:=a.e t
  exact⟨_,_,⟨u,Z,Z,Z⟩,SfT.mk' d Rds.nil Off.nil (a.d [0,3,4,5,6] Z Z)⟩
 rintro u x_q y_q ⟨_,rfl,rfl,rfl⟩
 refine bN 1 Z<|dv fun w hQ=>?_
 obtain⟨cE,cf,d,b,c,a⟩:=hQ
 refine ak<|aw<|J h fun a9 bD h=>J h fun ba bE h=>J h fun bc bF h=>J h fun aW bH h=>cF (es:=[Q X ap be,Q X bk bt,Q X bi bs,Q X bh bq,Q X av aZ,Q X D ar,Q X aj a4,Q X al a5,Q X ad aY,Q X H a3,Q X ac aR,Q X aV a2,Q X aT a1,Q X aS bf,Q X s aO,Q X p aN,Q X o aL,Q X n aK,Q X m aJ,Q X l aI,Q X g aG,Q X f aF]) (os:=[U X u aA,Y E [L3,L3,L3],Y ab [o,p,s],Y L [l,m,n],Y G [f,g,I e]]) (fun i=>[6,7,11,12].contains i) (fun i=>if i=6 then some 7 else none) (fun i=>if i=12 then [7,11] else []) (fun i=>[]) (fun i=>[]) (fun i=>[]) (fun i=>if i=6 then (fun h v x y=>∃az:Value,v=az/\x=[U X az a9]/\y=[]) else if i=7 then (fun h v x y=>∃ae:Value,v=ae/\x=[]/\y=[Q X ae ba]) else if i=11 then (fun h v x y=>∃ah:Value,v=ah/\x=[]/\y=[Q X ah bc]) else (fun h v x y=>∃z:Value,v=z/\x=[U X z aW]/\y=[])) (SfT.mk' d b c a) (fun k hk=>rfl) hTT rfl (fun i=>(bZ (by rintro h v x y ⟨_,rfl,rfl,rfl⟩; exact bM rfl) (bZ (by rintro h v x y ⟨_,rfl,rfl,rfl⟩; exact bM rfl) (bZ (by rintro h v x y ⟨_,rfl,rfl,rfl⟩; exact bM rfl) (by rintro h v x y ⟨_,rfl,rfl,rfl⟩; exact bM rfl))))) bQ (by kernel_rfl) (by kernel_rfl) ?_
 show dZ _ _ _ _ _ _ _ _ _ _ _ _ _ _ _ _ [0,1,2,3,4,5,6,7,8,9,10,11,12,13] _ _
 refine bj Z Z (fun w Sb wb d b c A=>aM (us:=[f,g,I e]) u101 Z bU Z (A.p 4 Z Z)) Z<|bj Z Z (fun w Sb wb d b c A=>aM (us:=[f,g,I e]) u101 Z bU Z (A.p 4 Z Z)) Z<|bN 1 Z<|bj Z Z (fun w Sb wb d b c A=>aM (us:=[f,g,I e]) u101 Z bU Z (A.p 4 Z Z)) Z<|bN 2 Z ?_
 refine bI (fun h v x y=>∃az:Value,v=az/\x=[U X az a9]/\y=[]) [] [] [] _ Z Z (fun h v x y=>Z) Z Z Z Z ⟨_,_,_,undef,Z,Z,Z⟩ (by kernel_rfl) Z (fun w Sl Tl d hTT b c a=>?_) Z ?_
 ·refine bG (cU e bD ((b.rp 0 Z).b a.fr).rp ((b.rp 1 Z).b a.fr).rp ((b.rp 20 Z).b a.fr).rp (a.ro 0 Z).rp) ?_
  rintro az w t
  have a:=a.e t
  exact⟨_,_,⟨az,Z,Z,Z⟩,SfT.mk' d Rds.nil Off.nil a⟩
 rintro az x_q y_q ⟨_,rfl,rfl,rfl⟩
 refine bI (fun h v x y=>∃ae:Value,v=ae/\x=[]/\y=[Q X ae ba]) [] [U X az a9] [] _ Z Z (fun h v x y=>Z) Z Z Z Z ⟨_,_,_,undef,Z,Z,Z⟩ (by kernel_rfl) Z (fun w Sl Tl d hTT b c a=>?_) Z ?_
 ·replace a:=a.pick (os':=[U X az a9]++[U X u aA,Y E [L3,L3,L3],Y ab [o,p,s],Y L [l,m,n],Y G [f,g,I e]]) [0,1,2,3,4,5] (by decide) rfl
  obtain⟨d,b,c,a⟩:=d.frzK hTT b c a
  refine bG (br e bE (d.okT hTT a) (b.i c 0 Z) (b.i c 1 Z) (b.i c 17 Z) (b.i c 22 Z)) ?_
  rintro ae w ⟨_,rfl,t,B⟩
  obtain⟨cG,ch,d,b,c,a⟩:=d.l b c a t B rfl
  exact⟨_,_,⟨ae,Z,Z,Z⟩,SfT.mk' d (b.pick [23] Z) (c.pick [23] Z) a⟩
 rintro ae x_q y_q ⟨_,rfl,rfl,rfl⟩
 refine bj Z Z (fun w Sb wb d b c A=>aM (us:=[f,g,I e]) u101 Z bU Z (A.p 4 Z Z)) Z<|bN 2 Z ?_
 refine bI (fun h v x y=>∃ah:Value,v=ah/\x=[]/\y=[Q X ah bc]) [] [] [] _ Z Z (fun h v x y=>Z) Z Z Z Z ⟨_,_,_,undef,Z,Z,Z⟩ (by kernel_rfl) Z (fun w Sl Tl d hTT b c a=>?_) Z ?_
 ·replace a:=a.pick (os':=[]++[U X u aA,Y E [L3,L3,L3],Y ab [o,p,s],Y L [l,m,n],Y G [f,g,I e]]) [0,1,2,3,4] (by decide) rfl
  obtain⟨d,b,c,a⟩:=d.frzK hTT b c a
  refine bG (br e bF (d.okT hTT a) (b.i c 0 Z) (b.i c 1 Z) (b.i c 12 Z) (b.i c 19 Z)) ?_
  rintro ah w ⟨_,rfl,t,B⟩
  obtain⟨cI,ci,d,b,c,a⟩:=d.l b c a t B rfl
  exact⟨_,_,⟨ah,Z,Z,Z⟩,SfT.mk' d (b.pick [22] Z) (c.pick [22] Z) a⟩
 rintro ah x_q y_q ⟨_,rfl,rfl,rfl⟩
 refine bI (fun h v x y=>∃z:Value,v=z/\x=[U X z aW]/\y=[]) [] [] [Q X ae ba,Q X ah bc] _ Z Z (fun h v x y=>Z) Z Z Z Z ⟨_,_,_,undef,Z,Z,Z⟩ (by kernel_rfl) Z (fun w Sl Tl d hTT b c a=>?_) Z ?_
 ·refine bG (cU e bH ((b.rp 0 Z).b a.fr).rp ((b.rp 1 Z).b a.fr).rp ((b.rp 23 Z).b a.fr).rp ((b.rp 22 Z).b a.fr).rp) ?_
  rintro z w t
  have a:=a.e t
  exact⟨_,_,⟨z,Z,Z,Z⟩,SfT.mk' d Rds.nil Off.nil a⟩
 rintro z x_q y_q ⟨_,rfl,rfl,rfl⟩
 refine bN 1 Z<|dv fun w hQ=>?_
 obtain⟨cJ,cj,d,b,c,a⟩:=hQ
 refine ak<|aw<|J h fun bn bJ h=>J h fun C bK h=>cF (es:=[Q X ae ba,Q X ah bc,Q X ap be,Q X bk bt,Q X bi bs,Q X bh bq,Q X av aZ,Q X D ar,Q X aj a4,Q X al a5,Q X ad aY,Q X H a3,Q X ac aR,Q X aV a2,Q X aT a1,Q X aS bf,Q X s aO,Q X p aN,Q X o aL,Q X n aK,Q X m aJ,Q X l aI,Q X g aG,Q X f aF]) (os:=[U X z aW,U X u aA,Y ab [o,p,s],Y L [l,m,n],Y G [f,g,I e]]) (fun i=>[9,10,11,12].contains i) (fun i=>none) (fun i=>if i=10 then [9] else if i=11 then [10] else if i=12 then [10] else []) (fun i=>if i=12 then [Y E [L3,L3,L3]] else []) (fun i=>[]) (fun i=>if i=11 then [10] else if i=12 then [10] else []) (fun i=>if i=9 then (fun h v x y=>∃aq:Value,v=aq/\x=[]/\y=[Q X aq bn]) else if i=10 then (fun h v x y=>∃j:Value,v=j/\x=[]/\y=[Q X j C]) else if i=11 then (fun h v x y=>∃j:Value,h=[(j,[],[Q X j C])]/\v=.agg #[u,z,j]/\x=[]/\y=[]) else (fun h v x y=>∃j:Value,h=[(j,[],[Q X j C])]/\v=undef/\x=[Y E [u,z,j]]/\y=[Q X j C])) (SfT.mk' d b c (a.pick (os':=[Y E [L3,L3,L3],U X z aW,U X u aA,Y ab [o,p,s],Y L [l,m,n],Y G [f,g,I e]]) [2,0,1,3,4,5] (by decide) rfl)) (fun k hk=>(if_neg (fun q=>by subst q; exact absurd hk (by decide)))) hTT rfl (fun i=>(bZ (by rintro h v x y ⟨_,rfl,rfl,rfl⟩; exact bM rfl) (bZ (by rintro h v x y ⟨_,rfl,rfl,rfl⟩; exact bM rfl) (bZ (by rintro h v x y ⟨_,_,rfl,rfl,rfl⟩; exact bM rfl) (by rintro h v x y ⟨_,_,rfl,rfl,rfl⟩; exact bM rfl))))) bQ (by kernel_rfl) (by kernel_rfl) ?_
 show dZ _ _ _ _ _ _ _ _ _ _ _ _ _ _ _ _ [0,1,2,3,4,5,6,7,8,9,10,11,12] _ _
 refine bN 2 Z<|bj Z Z (fun w Sb wb d b c A=>aM (us:=[f,g,I e]) u101 Z bU Z (A.p 4 Z Z)) Z<|bN 1 Z<|bj Z Z (fun w Sb wb d b c A=>aM (us:=[f,g,I e]) u101 Z bU Z (A.p 4 Z Z)) Z<|bj Z Z (fun w Sb wb d b c A=>am (k:=2) u104 Z Z cH Z) Z<|bj Z Z (fun w Sb wb d b c A=>au u31 Z Z (A.q 3 Z 2)) Z<|bj Z Z (fun w Sb wb d b c A=>am (k:=2) u104 Z Z cH Z) Z<|bj Z Z (fun w Sb wb d b c A=>au u31 Z Z (A.q 2 Z 2)) Z ?_
 refine bI (fun h v x y=>∃aq:Value,v=aq/\x=[]/\y=[Q X aq bn]) [] [] [] _ Z Z (fun h v x y=>Z) Z Z Z Z ⟨_,_,_,undef,Z,Z,Z⟩ (by kernel_rfl) Z (fun w Sl Tl d hTT b c a=>?_) Z ?_
 ·replace a:=a.pick (os':=[]++[U X z aW,U X u aA,Y ab [o,p,s],Y L [l,m,n],Y G [f,g,I e]]) [0,1,2,3,4] (by decide) rfl
  obtain⟨d,b,c,a⟩:=d.frzK hTT b c a
  refine bG (br e bJ (d.okT hTT a) (b.i c 0 Z) (b.i c 1 Z) (b.i c 4 Z) (b.i c 7 Z)) ?_
  rintro aq w ⟨_,rfl,t,B⟩
  obtain⟨cL,ck,d,b,c,a⟩:=d.l b c a t B rfl
  exact⟨_,_,⟨aq,Z,Z,Z⟩,SfT.mk' d (b.pick [24] Z) (c.pick [24] Z) a⟩
 rintro aq x_q y_q ⟨_,rfl,rfl,rfl⟩
 refine bI (fun h v x y=>∃j:Value,v=j/\x=[]/\y=[Q X j C]) [] [] [Q X aq bn] _ Z Z (fun h v x y=>Z) Z Z Z Z ⟨_,_,_,undef,Z,Z,Z⟩ (by kernel_rfl) Z (fun w Sl Tl d hTT b c a=>?_) Z ?_
 ·replace a:=a.pick (os':=[]++[U X z aW,U X u aA,Y ab [o,p,s],Y L [l,m,n],Y G [f,g,I e]]) [0,1,2,3,4] (by decide) rfl
  obtain⟨d,b,c,a⟩:=d.frzK hTT b c a
  refine bG (br e bK (d.okT hTT a) (b.i c 0 Z) (b.i c 1 Z) (b.i c 16 Z) (b.i c 24 Z)) ?_
  rintro j w ⟨_,rfl,t,B⟩
  obtain⟨cN,cl,d,b,c,a⟩:=d.l b c a t B rfl
  exact⟨_,_,⟨j,Z,Z,Z⟩,SfT.mk' d (b.pick [25] Z) (c.pick [25] Z) a⟩
 rintro j x_q y_q ⟨_,rfl,rfl,rfl⟩
 refine eP (fun h v x y=>∃j:Value,h=[(j,[],[Q X j C])]/\v=.agg #[u,z,j]/\x=[]/\y=[]) [(j,[],[Q X j C])] [] [Q X j C] _ Z Z (fun h v x y=>Z) Z Z Z Z ⟨_,_,_,j,Z,Z,Z,Z⟩ (fun w Sl Tl d hTT b c a=>?_) Z ?_
 ·exact pC (cb (vs:=[(0,u,[u]),(1,z,[z]),(2,j,[j])]) (cells:=[u,z,j]) Z lj ⟨(cK (a.ro 1 Z).one),(cK (a.ro 0 Z).one),(cK ((b.rp 24 Z).b a.fr).one),trivial⟩ Z) ⟨_,_,⟨j,Z,Z,Z,Z⟩,SfT.mk' d Rds.nil Off.nil a⟩
 rintro v_q x_q y_q ⟨u0_138',hh,rfl,rfl,rfl⟩
 replace hh:([(j,[],[Q X j C])]:List Th)=[(u0_138',[],[Q X u0_138' C])]:=hh
 cases hh
 refine j1 (fun h v x y=>∃j:Value,h=[(j,[],[Q X j C])]/\v=undef/\x=[Y E [u,z,j]]/\y=[Q X j C]) [(j,[],[Q X j C])] [Y E [L3,L3,L3]] [Q X j C] _ Z Z (fun h v x y=>Z) Z Z Z Z ⟨_,_,_,j,Z,Z,Z,Z⟩ (fun w Sl Tl d hTT b c a=>?_) ?_
 ·refine i6 (bz (i:=0) (us:=[u,z,j]) Z cT Z Z Z ⟨(a.ro 2 Z).one,(a.ro 1 Z).one,((b.rp 24 Z).b a.fr).one,trivial⟩ Z a) ?_
  intro w a
  exact⟨_,_,⟨j,Z,Z,Z,Z⟩,SfT.mk' d (b.pick [24] Z) (c.pick [24] Z) a⟩
 rintro v_q x_q y_q ⟨u0_138',hh,rfl,rfl,rfl⟩
 replace hh:([(j,[],[Q X j C])]:List Th)=[(u0_138',[],[Q X u0_138' C])]:=hh
 cases hh
 refine dv fun w hQ=>?_
 obtain⟨cO,cm,d,b,c,a⟩:=hQ
 refine ak<|ay ?_
 cases h
 obtain⟨a0,hR⟩:=d.outT hTT b c a
 exact dh Z ⟨_,Z,bS (us:=[u,z,j]) u104 Z cT (a.p 0 Z Z)⟩ ⟨u,z,j,Z,a0,(hR.pick [24,31,30] Z)⟩
theorem lc {q:World} {n o a1:L0} {b c m:Value} {T:L2} (d:Int) {r:L0}
  (h:F.H6 n o d a1=some r) (hTT:TOk [] T q) (ab:RP T q X b n) (ac:RP T q X c o) (aO:RP T q X m a1):Calls Tryz.prog 141 #[.agg #[b,c,I d],m] q (Ret fun v w=>∃u0:Value,v=u0/\St [] q w []/\Rds T w [Q X u0 r]):=by
 refine aB 33 Tryz.func141 Z Z Z<|have a:=St.k q;have j:=Fz.k (S:=[]) (w0:=q);?_
 have hA0:Rds T q [Q X m a1,Q X c o,Q X b n]:=M (RP.h (W Z) aO) (M (RP.h (W Z) ac) (M (RP.h (W Z) ab) (Rds.nil)))
 have f:=hA0.all
 have i:=hA0.off Z
 refine ax [(0,.agg #[b,c,I d]),(1,m)] Z ?_
 unfold F.H6 at h
 refine R<|bg (cg (cs:=[b,c,I d]) Z Z a) Z fun p w a=>V 1 Z<|gl2<|N (am (k:=0) u101 Z Z cH Z) Z<|N (au u31 Z Z (a.q 0 Z 0)) Z<|bC (cq (e:=X) (l:=([2]:L0)) (vs:=[v32 2]) u31 aN Z Z Z Z (by decide) (by decide) a) Z fun aP w a=>J h fun z ar h=>aV a Z (eJ  ar ((f.rp 0 Z).b a.fr).rp (a.ro 0 Z).rp) Z fun t w a=>V 1 Z<|gl2<|bC (cq (e:=X) (l:=([1]:L0)) (vs:=[v32 1]) u31 aN Z Z Z Z (by decide) (by decide) a) Z fun D w a=>V 1 Z<|gl1<|R<|V 1 Z<|N (aC u31 Z (a.ro 1 Z)) Z<|N (aj Z Z (el _ 32 (z.length:Int))) Z<|V 1 Z<|aZ h fun A ad h=>N (ba (v:=I A) (by rw[<-ad]; rfl)) Z<|P<|aq ?_
 replace a:=a.pick (os':=[U X D ([1]:L0),U X t z,U X aP ([2]:L0)]++[Y p [b,c,I d]]) [0,1,2,3] (by decide) rfl
 obtain⟨a4,aX,j,f,i,a⟩:=j.frzT hTT f i a
 refine ax [(1,m),(2,O p 0),(5,t),(6,D),(7,I A)] Z ?_
 refine aT (F.Hq n o d a1 z) (fun (s:L0×Int) L w=>∃(u:Value),L=[(1,m),(2,O p 0),(5,t),(6,u),(7,I s.2)]/\SfT [] T q w [Q X c o,Q X b n,Q X u s.1,Q X t z,Q X m a1] [Y p [b,c,I d]]) ?_ (([1]:L0),A) ⟨D,Z,(SfT.mk' j (f.pick [1,0,5,4,2] Z) (i.pick [1,0,5,4,2] Z) a)⟩ h
 rintro a5 ⟨a6,x⟩ L w aA hI ae h B
 try dsimp only at hI
 obtain⟨u,rfl,⟨a7,aY,j,f,i,a⟩⟩:=hI
 unfold F.Hq at h
 refine aw<|R<|V 2 Z<|P ?_
 apply gl9 Z h<;>intro h
 ·refine gl5 ?_
  refine a8 (r:=aA) (fun (g:L0) L w=>∃(y:Value),L=[(1,m),(2,O p 0),(5,t),(6,y),(7,I x)]/\SfT [] T q w [Q X c o,Q X b n,Q X y g,Q X t z,Q X m a1] [Y p [b,c,I d]]) (F.Hc x) ?_ ?_
  rotate_left
  ·intro C
   refine aq<|R<|N (aM (us:=[b,c,I d]) u101 Z bU Z (a.p 0 Z Z)) Z<|V 2 Z ?_
   replace a:=a.pick (os':=[]++[Y p [b,c,I d]]) [0] (by decide) rfl
   obtain⟨j,f,i,a⟩:=j.frzK hTT f i a
   refine J h fun aD ah h=>aH Z (br d ah (j.okT hTT a) (f.i i 3 Z) (f.i i 4 Z) (f.i i 2 Z) (f.i i 2 Z)) Z ?_
   rintro H w ⟨_,rfl,E,G⟩
   obtain⟨a9,a0,j,f,i,a⟩:=j.l f i a E G rfl
   refine V 1 Z<|gl2<|V 2 Z<|J h fun bb an h=>bf a Z (jJ x an ((f.rp 1 Z).b a.fr).rp) Z fun w a=>P ?_
   apply gl9 Z h<;>intro h
   ·refine al<|N (aM (us:=[b,c,I d]) u101 Z bU Z (a.p 0 Z Z)) Z<|V 2 Z ?_
    replace a:=a.pick (os':=[]++[Y p [b,c,I d]]) [0] (by decide) rfl
    obtain⟨j,f,i,a⟩:=j.frzK hTT f i a
    refine J h fun aJ ao h=>aH Z (br d ao (j.okT hTT a) (f.i i 3 Z) (f.i i 4 Z) (f.i i 5 Z) (f.i i 0 Z)) Z ?_
    rintro ap w ⟨_,rfl,E,G⟩
    obtain⟨be,a2,j,f,i,a⟩:=j.l f i a E G rfl
    exact V 1 Z<|aE<|aF<|ak<|aG (C aJ _ _ ⟨ap,Z,(SfT.mk' j (f.pick [4,3,6,1,0] Z) (i.pick [4,3,6,1,0] Z) a)⟩ h) Z
   exact cd<|aF<|ak<|aG (C aD _ _ ⟨H,Z,(SfT.mk' j (f.pick [4,3,5,1,0] Z) (i.pick [4,3,5,1,0] Z) a)⟩ h) Z
  rintro aL L w hJ h
  try dsimp only at hJ
  obtain⟨y,rfl,⟨bh,a3,j,f,i,a⟩⟩:=hJ
  unfold F.Hc at h
  exact al<|V 3 Z<|aE<|bd (bc (ae (aL,wI (x - 1)) _ _ ⟨y,Z,(SfT.mk' j (f.pick [4,3,2,1,0] Z) (i.pick [4,3,2,1,0] Z) a)⟩ (aK h B)) Z)
 refine aQ<|av<|av<|have h:=aI h B;aR<|ak<|R<|V 2 Z<|P<|ay ?_
 cases h
 obtain⟨aW,hR⟩:=j.outT hTT f i a
 exact az Z Z ⟨u,Z,aW,(hR.pick [2] Z)⟩
end Go.Proofs
