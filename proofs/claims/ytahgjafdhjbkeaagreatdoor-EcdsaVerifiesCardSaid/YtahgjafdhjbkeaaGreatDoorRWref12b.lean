import Derived.Test.YtahgjafdhjbkeaaGreatDoorRW0
import Derived.Test.YtahgjafdhjbkeaaGreatDoorGkFman
import Derived.Test.YtahgjafdhjbkeaaGreatDoorRWref12a
import Derived.Test.YtahgjafdhjbkeaaGreatDoorRWref7
set_option linter.unusedVariables false
set_option linter.unusedSimpArgs false
set_option linter.unusedSectionVars false
set_option maxRecDepth 4000
namespace Go.Proofs
open Go Go.RowKit Go.Gk
open Go.Gk renaming aa → V, af → J, ag → N, e32 → X, gl3 → Q, gl4 → R, own → U, pB → O, red → P, vI → H
open Nat renaming le_of_ble_eq_true → W
open Go.Gk.OE renaming bx → Y
open Go.Gk.Rds renaming cons → M
theorem fk {w0:World} {aF aH aI aJ aK aL aM aN:List UInt32} {f g l m n o p s:Value} {T:List Nat} (e:Int) {r:List UInt32×List UInt32×List UInt32}
  (h:F.DH aF aH e aI aJ aK aL aM aN=some r) (hTT:TOk [] T w0) (bL:RP T w0 X f aF) (bN:RP T w0 X g aH) (bO:RP T w0 X l aI) (bS:RP T w0 X m aJ) (bU:RP T w0 X n aK) (bW:RP T w0 X o aL) (bX:RP T w0 X p aM) (bY:RP T w0 X s aN):Calls Tryz.prog 92 #[.agg #[f,g,H e],.agg #[l,m,n],.agg #[o,p,s]] w0 (Ret fun v w=>∃bu:Value,∃bv:Value,∃bw:Value,v=.agg #[bu,bv,bw]∧St [] w0 w []∧Rds T w [P X bw r.2.2,P X bv r.2.1,P X bu r.1]):=by
 refine aB 134 Tryz.func92 Z Z Z<|have a:=St.k w0;have d:=Fz.k (S:=[]) (w0:=w0);?_
 have hA0:Rds T w0 [P X s aN,P X p aM,P X o aL,P X n aK,P X m aJ,P X l aI,P X g aH,P X f aF]:=M (RP.h (W Z) bY) (M (RP.h (W Z) bX) (M (RP.h (W Z) bW) (M (RP.h (W Z) bU) (M (RP.h (W Z) bS) (M (RP.h (W Z) bO) (M (RP.h (W Z) bN) (M (RP.h (W Z) bL) (Rds.nil))))))))
 have b:=hA0.all
 have c:=hA0.off Z
 refine ax [(0,.agg #[f,g,H e]),(1,.agg #[l,m,n]),(2,.agg #[o,p,s])] Z ?_
 unfold F.DH at h
 refine R<|bh (cu (cs:=[f,g,H e]) Z Z a) Z fun G w a=>bh (cu (cs:=[l,m,n]) Z Z a) Z fun L w a=>bh (cu (cs:=[o,p,s]) Z Z a) Z fun ab w a=>bh (ba (cs:=[.slice none 0 0,.slice none 0 0,.slice none 0 0]) lZ Z a) Z fun E w a=>gl1<|R<|N (ao (k:=2) u104 Z Z cZ Z) Z<|N (aw u31 Z Z (a.q 2 Z 2)) Z<|N (aC u31 Z ((b.rp 4 Z).b a.fr)) Z<|V 1 Z<|Q ?_
 refine gl9 Z h (fun h=>?_) (fun h=>?_)
 ·refine R<|N (aP (us:=[o,p,s]) u104 Z cQ Z (a.p 1 Z Z)) Z<|bl (bq (i:=0) (us:=[o,p,s]) Z cQ Z Z Z ⟨((b.rp 5 Z).b a.fr).one,((b.rp 6 Z).b a.fr).one,((b.rp 7 Z).b a.fr).one,I⟩ Z a) fun w a=>gl8 ?_
  cases h
  obtain ⟨a0,hR⟩:=d.outT hTT b c a
  exact dc Z ⟨_,Z,bM (us:=[o,p,s]) u104 Z cQ (a.p 0 Z Z)⟩ ⟨o,p,s,Z,a0,(hR.pick [7,6,5] Z)⟩
 refine gl5<|av<|R<|N (ao (k:=2) u104 Z Z cZ Z) Z<|N (aw u31 Z Z (a.q 1 Z 2)) Z<|N (aC u31 Z ((b.rp 7 Z).b a.fr)) Z<|V 1 Z<|Q ?_
 refine gl9 Z h (fun h=>?_) (fun h=>?_)
 ·refine R<|N (aP (us:=[l,m,n]) u104 Z cQ Z (a.p 2 Z Z)) Z<|bl (bq (i:=0) (us:=[l,m,n]) Z cQ Z Z Z ⟨((b.rp 2 Z).b a.fr).one,((b.rp 3 Z).b a.fr).one,((b.rp 4 Z).b a.fr).one,I⟩ Z a) fun w a=>gl8 ?_
  cases h
  obtain ⟨a0,hR⟩:=d.outT hTT b c a
  exact dc Z ⟨_,Z,bM (us:=[l,m,n]) u104 Z cQ (a.p 0 Z Z)⟩ ⟨l,m,n,Z,a0,(hR.pick [4,3,2] Z)⟩
 refine gl6<|N (aP (us:=[f,g,H e]) u101 Z bV Z (a.p 3 Z Z)) Z<|N (ao (k:=2) u104 Z Z cZ Z) Z<|N (aw u31 Z Z (a.q 2 Z 2)) Z<|N (ao (k:=2) u104 Z Z cZ Z) Z<|N (aw u31 Z Z (a.q 2 Z 2)) Z ?_
 replace a:=a.pick (os':=[]++[Y E [.slice none 0 0,.slice none 0 0,.slice none 0 0],Y ab [o,p,s],Y L [l,m,n],Y G [f,g,H e]]) [0,1,2,3] (by decide) rfl
 obtain ⟨d,b,c,a⟩:=d.frzK hTT b c a
 refine J h fun bf cd h=>aG Z (bp e cd (d.okT hTT a) (b.i c 0 Z) (b.i c 1 Z) (b.i c 4 Z) (b.i c 4 Z)) Z ?_
 rintro aS w ⟨_,rfl,t,B⟩
 obtain ⟨cN,cm,d,b,c,a⟩:=d.l b c a t B rfl
 refine V 1 Z<|gl2<|N (aP (us:=[f,g,H e]) u101 Z bV Z (a.p 3 Z Z)) Z<|N (ao (k:=2) u104 Z Z cZ Z) Z<|N (aw u31 Z Z (a.q 1 Z 2)) Z<|N (ao (k:=2) u104 Z Z cZ Z) Z<|N (aw u31 Z Z (a.q 1 Z 2)) Z ?_
 replace a:=a.pick (os':=[]++[Y E [.slice none 0 0,.slice none 0 0,.slice none 0 0],Y ab [o,p,s],Y L [l,m,n],Y G [f,g,H e]]) [0,1,2,3] (by decide) rfl
 obtain ⟨d,b,c,a⟩:=d.frzK hTT b c a
 refine J h fun a1 bZ h=>aG Z (bp e bZ (d.okT hTT a) (b.i c 0 Z) (b.i c 1 Z) (b.i c 7 Z) (b.i c 7 Z)) Z ?_
 rintro aT w ⟨_,rfl,t,B⟩
 obtain ⟨cP,cn,d,b,c,a⟩:=d.l b c a t B rfl
 refine V 1 Z<|gl2<|N (aP (us:=[f,g,H e]) u101 Z bV Z (a.p 3 Z Z)) Z<|N (ao (k:=0) u104 Z Z cZ Z) Z<|N (aw u31 Z Z (a.q 2 Z 0)) Z<|V 1 Z ?_
 replace a:=a.pick (os':=[]++[Y E [.slice none 0 0,.slice none 0 0,.slice none 0 0],Y ab [o,p,s],Y L [l,m,n],Y G [f,g,H e]]) [0,1,2,3] (by decide) rfl
 obtain ⟨d,b,c,a⟩:=d.frzK hTT b c a
 refine J h fun a2 b0 h=>aG Z (bp e b0 (d.okT hTT a) (b.i c 0 Z) (b.i c 1 Z) (b.i c 2 Z) (b.i c 9 Z)) Z ?_
 rintro aU w ⟨_,rfl,t,B⟩
 obtain ⟨cR,co,d,b,c,a⟩:=d.l b c a t B rfl
 refine V 1 rfl<|gl1<|J h fun aR b1 h=>J h fun ar b2 h=>cO (es:=[P X aU a2,P X aT a1,P X aS bf,P X s aN,P X p aM,P X o aL,P X n aK,P X m aJ,P X l aI,P X g aH,P X f aF]) (os:=[Y E [.slice none 0 0,.slice none 0 0,.slice none 0 0],Y ab [o,p,s],Y L [l,m,n],Y G [f,g,H e]]) (fun i=>[5,7].contains i) (fun i=>none) (fun i=>if i=7 then [5] else []) (fun i=>[]) (fun i=>[]) (fun i=>[]) (fun i=>if i=5 then (fun h v x y=>∃ac:Value,v=ac∧x=[]∧y=[P X ac aR]) else (fun h v x y=>∃D:Value,v=D∧x=[U X D ar]∧y=[])) (SfT.mk' d b c a) (fun k hk=>rfl) hTT rfl (fun i=>(cl (by rintro h v x y ⟨_,rfl,rfl,rfl⟩; exact bQ rfl) (by rintro h v x y ⟨_,rfl,rfl,rfl⟩; exact bQ rfl))) bR (by kernel_rfl) (by kernel_rfl)<|show dY _ _ _ _ _ _ _ _ _ _ _ _ _ _ _ _ [0,1,2,3,4,5,6,7,8] _ _ from bz rfl rfl (fun w Sb wb d b c A=>aP (us:=[f,g,H e]) u101 rfl bV rfl (A.p 3 rfl rfl)) rfl<|bz rfl rfl (fun w Sb wb d b c A=>aP (us:=[f,g,H e]) u101 rfl bV rfl (A.p 3 rfl rfl)) rfl<|bz rfl rfl (fun w Sb wb d b c A=>ao (k:=0) u104 rfl rfl cZ rfl) rfl<|bz rfl rfl (fun w Sb wb d b c A=>aw u31 rfl rfl (A.q 1 rfl 0)) rfl ?_
 refine bP 1 Z ?_
 refine bK (fun h v x y=>∃ac:Value,v=ac∧x=[]∧y=[P X ac aR]) [] [] [] _ Z Z (fun h v x y=>Z) Z Z Z Z ⟨_,_,_,undef,Z,Z,Z⟩ (by kernel_rfl) Z (fun w Sl Tl d hTT b c a=>?_) Z ?_
 ·replace a:=a.pick (os':=[]++[Y E [.slice none 0 0,.slice none 0 0,.slice none 0 0],Y ab [o,p,s],Y L [l,m,n],Y G [f,g,H e]]) [0,1,2,3] (by decide) rfl
  obtain ⟨d,b,c,a⟩:=d.frzK hTT b c a
  refine bJ (bp e b1 (d.okT hTT a) (b.i c 0 Z) (b.i c 1 Z) (b.i c 5 Z) (b.i c 8 Z)) ?_
  rintro ac w ⟨_,rfl,t,B⟩
  obtain ⟨cS,cp,d,b,c,a⟩:=d.l b c a t B rfl
  exact ⟨_,_,⟨ac,Z,Z,Z⟩,SfT.mk' d (b.pick [11] Z) (c.pick [11] Z) a⟩
 rintro ac x_q y_q ⟨_,rfl,rfl,rfl⟩
 refine bP 1 Z ?_
 refine bK (fun h v x y=>∃D:Value,v=D∧x=[U X D ar]∧y=[]) [] [] [P X ac aR] _ Z Z (fun h v x y=>Z) Z Z Z Z ⟨_,_,_,undef,Z,Z,Z⟩ (by kernel_rfl) Z (fun w Sl Tl d hTT b c a=>?_) Z ?_
 ·refine bJ (cU e b2 ((b.rp 0 Z).b a.fr).rp ((b.rp 1 Z).b a.fr).rp ((b.rp 11 Z).b a.fr).rp ((b.rp 10 Z).b a.fr).rp) ?_
  rintro D w t
  have a:=a.e t
  exact ⟨_,_,⟨D,Z,Z,Z⟩,SfT.mk' d Rds.nil Off.nil a⟩
 rintro D x_q y_q ⟨_,rfl,rfl,rfl⟩
 refine bP 1 Z<|dH fun w hQ=>?_
 obtain ⟨cT,cq,d,b,c,a⟩:=hQ
 refine ak<|av<|J h fun aY b3 h=>J h fun a3 b4 h=>cO (es:=[P X ac aR,P X aU a2,P X aT a1,P X aS bf,P X s aN,P X p aM,P X o aL,P X n aK,P X m aJ,P X l aI,P X g aH,P X f aF]) (os:=[U X D ar,Y E [.slice none 0 0,.slice none 0 0,.slice none 0 0],Y ab [o,p,s],Y L [l,m,n],Y G [f,g,H e]]) (fun i=>[7,8].contains i) (fun i=>none) (fun i=>if i=8 then [7] else []) (fun i=>[]) (fun i=>[]) (fun i=>[]) (fun i=>if i=7 then (fun h v x y=>∃ad:Value,v=ad∧x=[]∧y=[P X ad aY]) else (fun h v x y=>∃ai:Value,v=ai∧x=[]∧y=[P X ai a3])) (SfT.mk' d b c a) (fun k hk=>rfl) hTT rfl (fun i=>(cl (by rintro h v x y ⟨_,rfl,rfl,rfl⟩; exact bQ rfl) (by rintro h v x y ⟨_,rfl,rfl,rfl⟩; exact bQ rfl))) bR (by kernel_rfl) (by kernel_rfl)<|show dY _ _ _ _ _ _ _ _ _ _ _ _ _ _ _ _ [0,1,2,3,4,5,6,7,8,9] _ _ from bz rfl rfl (fun w Sb wb d b c A=>aP (us:=[f,g,H e]) u101 rfl bV rfl (A.p 4 rfl rfl)) rfl<|bz rfl rfl (fun w Sb wb d b c A=>ao (k:=1) u104 rfl rfl cZ rfl) rfl<|bz rfl rfl (fun w Sb wb d b c A=>aw u31 rfl rfl (A.q 3 rfl 1)) rfl<|bz rfl rfl (fun w Sb wb d b c A=>aP (us:=[f,g,H e]) u101 rfl bV rfl (A.p 4 rfl rfl)) rfl ?_
 refine bP 1 Z<|bz Z Z (fun w Sb wb d b c A=>ao (k:=2) u104 Z Z cZ Z) Z<|bz Z Z (fun w Sb wb d b c A=>aw u31 Z Z (A.q 2 Z 2)) Z ?_
 refine bK (fun h v x y=>∃ad:Value,v=ad∧x=[]∧y=[P X ad aY]) [] [] [] _ Z Z (fun h v x y=>Z) Z Z Z Z ⟨_,_,_,undef,Z,Z,Z⟩ (by kernel_rfl) Z (fun w Sl Tl d hTT b c a=>?_) Z ?_
 ·replace a:=a.pick (os':=[]++[U X D ar,Y E [.slice none 0 0,.slice none 0 0,.slice none 0 0],Y ab [o,p,s],Y L [l,m,n],Y G [f,g,H e]]) [0,1,2,3,4] (by decide) rfl
  obtain ⟨d,b,c,a⟩:=d.frzK hTT b c a
  refine bJ (bp e b3 (d.okT hTT a) (b.i c 0 Z) (b.i c 1 Z) (b.i c 9 Z) (b.i c 7 Z)) ?_
  rintro ad w ⟨_,rfl,t,B⟩
  obtain ⟨cV,cr,d,b,c,a⟩:=d.l b c a t B rfl
  exact ⟨_,_,⟨ad,Z,Z,Z⟩,SfT.mk' d (b.pick [12] Z) (c.pick [12] Z) a⟩
 rintro ad x_q y_q ⟨_,rfl,rfl,rfl⟩
 refine bK (fun h v x y=>∃ai:Value,v=ai∧x=[]∧y=[P X ai a3]) [] [] [P X ad aY] _ Z Z (fun h v x y=>Z) Z Z Z Z ⟨_,_,_,undef,Z,Z,Z⟩ (by kernel_rfl) Z (fun w Sl Tl d hTT b c a=>?_) Z ?_
 ·replace a:=a.pick (os':=[]++[U X D ar,Y E [.slice none 0 0,.slice none 0 0,.slice none 0 0],Y ab [o,p,s],Y L [l,m,n],Y G [f,g,H e]]) [0,1,2,3,4] (by decide) rfl
  obtain ⟨d,b,c,a⟩:=d.frzK hTT b c a
  refine bJ (bp e b4 (d.okT hTT a) (b.i c 0 Z) (b.i c 1 Z) (b.i c 3 Z) (b.i c 12 Z)) ?_
  rintro ai w ⟨_,rfl,t,B⟩
  obtain ⟨cW,ct,d,b,c,a⟩:=d.l b c a t B rfl
  exact ⟨_,_,⟨ai,Z,Z,Z⟩,SfT.mk' d (b.pick [13] Z) (c.pick [13] Z) a⟩
 rintro ai x_q y_q ⟨_,rfl,rfl,rfl⟩
 refine bP 1 Z<|dH fun w hQ=>?_
 obtain ⟨cX,cv,d,b,c,a⟩:=hQ
 refine ak<|av<|J h fun a4 b5 h=>J h fun a5 b6 h=>J h fun aZ b7 h=>cO (es:=[P X ad aY,P X ai a3,P X ac aR,P X aU a2,P X aT a1,P X aS bf,P X s aN,P X p aM,P X o aL,P X n aK,P X m aJ,P X l aI,P X g aH,P X f aF]) (os:=[U X D ar,Y E [.slice none 0 0,.slice none 0 0,.slice none 0 0],Y ab [o,p,s],Y L [l,m,n],Y G [f,g,H e]]) (fun i=>[8,9,11].contains i) (fun i=>none) (fun i=>if i=9 then [8] else if i=11 then [9] else []) (fun i=>[]) (fun i=>[]) (fun i=>[]) (fun i=>if i=8 then (fun h v x y=>∃aj:Value,v=aj∧x=[]∧y=[P X aj a4]) else if i=9 then (fun h v x y=>∃al:Value,v=al∧x=[]∧y=[P X al a5]) else (fun h v x y=>∃au:Value,v=au∧x=[U X au aZ]∧y=[])) (SfT.mk' d b c a) (fun k hk=>rfl) hTT rfl (fun i=>(cl (by rintro h v x y ⟨_,rfl,rfl,rfl⟩; exact bQ rfl) (cl (by rintro h v x y ⟨_,rfl,rfl,rfl⟩; exact bQ rfl) (by rintro h v x y ⟨_,rfl,rfl,rfl⟩; exact bQ rfl)))) bR (by kernel_rfl) (by kernel_rfl)<|show dY _ _ _ _ _ _ _ _ _ _ _ _ _ _ _ _ [0,1,2,3,4,5,6,7,8,9,10,11,12] _ _ from bz rfl rfl (fun w Sb wb d b c A=>aP (us:=[f,g,H e]) u101 rfl bV rfl (A.p 4 rfl rfl)) rfl<|bz rfl rfl (fun w Sb wb d b c A=>aP (us:=[f,g,H e]) u101 rfl bV rfl (A.p 4 rfl rfl)) rfl ?_
 refine bz Z Z (fun w Sb wb d b c A=>ao (k:=1) u104 Z Z cZ Z) Z<|bz Z Z (fun w Sb wb d b c A=>aw u31 Z Z (A.q 2 Z 1)) Z<|bz Z Z (fun w Sb wb d b c A=>aP (us:=[f,g,H e]) u101 Z bV Z (A.p 4 Z Z)) Z<|bP 1 Z<|bz Z Z (fun w Sb wb d b c A=>ao (k:=2) u104 Z Z cZ Z) Z<|bz Z Z (fun w Sb wb d b c A=>aw u31 Z Z (A.q 3 Z 2)) Z ?_
 refine bK (fun h v x y=>∃aj:Value,v=aj∧x=[]∧y=[P X aj a4]) [] [] [] _ Z Z (fun h v x y=>Z) Z Z Z Z ⟨_,_,_,undef,Z,Z,Z⟩ (by kernel_rfl) Z (fun w Sl Tl d hTT b c a=>?_) Z ?_
 ·replace a:=a.pick (os':=[]++[U X D ar,Y E [.slice none 0 0,.slice none 0 0,.slice none 0 0],Y ab [o,p,s],Y L [l,m,n],Y G [f,g,H e]]) [0,1,2,3,4] (by decide) rfl
  obtain ⟨d,b,c,a⟩:=d.frzK hTT b c a
  refine bJ (bp e b5 (d.okT hTT a) (b.i c 0 Z) (b.i c 1 Z) (b.i c 8 Z) (b.i c 4 Z)) ?_
  rintro aj w ⟨_,rfl,t,B⟩
  obtain ⟨cY,cw,d,b,c,a⟩:=d.l b c a t B rfl
  exact ⟨_,_,⟨aj,Z,Z,Z⟩,SfT.mk' d (b.pick [14] Z) (c.pick [14] Z) a⟩
 rintro aj x_q y_q ⟨_,rfl,rfl,rfl⟩
 refine bK (fun h v x y=>∃al:Value,v=al∧x=[]∧y=[P X al a5]) [] [] [P X aj a4] _ Z Z (fun h v x y=>Z) Z Z Z Z ⟨_,_,_,undef,Z,Z,Z⟩ (by kernel_rfl) Z (fun w Sl Tl d hTT b c a=>?_) Z ?_
 ·replace a:=a.pick (os':=[]++[U X D ar,Y E [.slice none 0 0,.slice none 0 0,.slice none 0 0],Y ab [o,p,s],Y L [l,m,n],Y G [f,g,H e]]) [0,1,2,3,4] (by decide) rfl
  obtain ⟨d,b,c,a⟩:=d.frzK hTT b c a
  refine bJ (bp e b6 (d.okT hTT a) (b.i c 0 Z) (b.i c 1 Z) (b.i c 6 Z) (b.i c 14 Z)) ?_
  rintro al w ⟨_,rfl,t,B⟩
  obtain ⟨c0,cx,d,b,c,a⟩:=d.l b c a t B rfl
  exact ⟨_,_,⟨al,Z,Z,Z⟩,SfT.mk' d (b.pick [15] Z) (c.pick [15] Z) a⟩
 rintro al x_q y_q ⟨_,rfl,rfl,rfl⟩
 refine bP 1 Z ?_
 refine bK (fun h v x y=>∃au:Value,v=au∧x=[U X au aZ]∧y=[]) [] [] [P X al a5] _ Z Z (fun h v x y=>Z) Z Z Z Z ⟨_,_,_,undef,Z,Z,Z⟩ (by kernel_rfl) Z (fun w Sl Tl d hTT b c a=>?_) Z ?_
 ·refine bJ (cU e b7 ((b.rp 0 Z).b a.fr).rp ((b.rp 1 Z).b a.fr).rp ((b.rp 14 Z).b a.fr).rp ((b.rp 12 Z).b a.fr).rp) ?_
  rintro au w t
  have a:=a.e t
  exact ⟨_,_,⟨au,Z,Z,Z⟩,SfT.mk' d Rds.nil Off.nil a⟩
 rintro au x_q y_q ⟨_,rfl,rfl,rfl⟩
 refine bP 1 Z<|dH fun w hQ=>?_
 obtain ⟨c1,cy,d,b,c,a⟩:=hQ
 refine ak<|av<|R<|V 1 Z<|N (aC u31 Z (a.ro 1 Z)) Z<|V 1 Z<|Q ?_
 refine gl9 Z h (fun h=>?_) (fun h=>?_)
 ·refine av<|R<|V 1 Z<|N (aC u31 Z (a.ro 0 Z)) Z<|V 1 Z<|Q ?_
  refine gl9 Z h (fun h=>?_) (fun h=>?_)
  ·refine R<|N (aP (us:=[f,g,H e]) u101 Z bV Z (a.p 5 Z Z)) Z<|N (aP (us:=[l,m,n]) u104 Z cQ Z (a.p 4 Z Z)) Z ?_
   replace a:=a.pick (os':=[U X au aZ,U X D ar]++[Y E [.slice none 0 0,.slice none 0 0,.slice none 0 0],Y ab [o,p,s],Y L [l,m,n],Y G [f,g,H e]]) [0,1,2,3,4,5] (by decide) rfl
   obtain ⟨d,b,c,a⟩:=d.frzK hTT b c a
   refine J h fun c2 b8 h=>aG Z (iE e b8 (d.okT hTT a) (b.i c 0 Z) (b.i c 1 Z) (b.i c 2 Z) (b.i c 3 Z) (b.i c 4 Z)) Z ?_
   rintro _ w ⟨a6,a7,a8,rfl,t,B⟩
   obtain ⟨c3,cA,d,b,c,a⟩:=d.l b c a t B rfl
   refine bl (bq (i:=0) (us:=[a6,a7,a8]) Z cQ Z Z Z ⟨((b.rp 18 Z).b a.fr).one,((b.rp 19 Z).b a.fr).one,((b.rp 20 Z).b a.fr).one,I⟩ Z a) fun w a=>gl8<|aW ?_
   cases h
   obtain ⟨a0,hR⟩:=d.outT hTT b c a
   exact dc Z ⟨_,Z,bM (us:=[a6,a7,a8]) u104 Z cQ (a.p 0 Z Z)⟩ ⟨a6,a7,a8,Z,a0,(hR.pick [20,19,18] Z)⟩
  refine gl6<|N (bT (vs:=[]) (cells:=[.slice none 0 0,.slice none 0 0,.slice none 0 0]) Z k7 I Z) Z<|bl (bq (i:=2) (us:=[.slice none 0 0,.slice none 0 0,.slice none 0 0]) Z cQ Z Z Z ⟨Z,Z,Z,I⟩ Z a) fun w a=>gl8 ?_
  cases h
  obtain ⟨a0,hR⟩:=d.outT hTT b c a
  exact dc Z ⟨_,Z,bM (us:=[.slice none 0 0,.slice none 0 0,.slice none 0 0]) u104 Z cQ (a.p 2 Z Z)⟩ ⟨.slice none 0 0,.slice none 0 0,.slice none 0 0,Z,a0,(M OE.kept.nil (M OE.kept.nil (M OE.kept.nil Rds.nil)))⟩
 refine gl6<|N (aP (us:=[f,g,H e]) u101 Z bV Z (a.p 5 Z Z)) Z<|V 2 Z ?_
 replace a:=a.pick (os':=[U X au aZ,U X D ar]++[Y E [.slice none 0 0,.slice none 0 0,.slice none 0 0],Y ab [o,p,s],Y L [l,m,n],Y G [f,g,H e]]) [0,1,2,3,4,5] (by decide) rfl
 obtain ⟨d,b,c,a⟩:=d.frzK hTT b c a
 refine J h fun br b9 h=>aG Z (bp e b9 (d.okT hTT a) (b.i c 0 Z) (b.i c 1 Z) (b.i c 16 Z) (b.i c 16 Z)) Z ?_
 rintro bg w ⟨_,rfl,t,B⟩
 obtain ⟨c4,cB,d,b,c,a⟩:=d.l b c a t B rfl
 refine V 1 Z<|gl2<|N (aP (us:=[f,g,H e]) u101 Z bV Z (a.p 3 Z Z)) Z<|V 2 Z ?_
 replace a:=a.pick (os':=[]++[Y E [.slice none 0 0,.slice none 0 0,.slice none 0 0],Y ab [o,p,s],Y L [l,m,n],Y G [f,g,H e]]) [0,1,2,3] (by decide) rfl
 obtain ⟨d,b,c,a⟩:=d.frzK hTT b c a
 refine J h fun bs ca h=>aG Z (bp e ca (d.okT hTT a) (b.i c 0 Z) (b.i c 1 Z) (b.i c 18 Z) (b.i c 16 Z)) Z ?_
 rintro bi w ⟨_,rfl,t,B⟩
 obtain ⟨c5,cC,d,b,c,a⟩:=d.l b c a t B rfl
 refine V 1 Z<|gl2<|N (aP (us:=[f,g,H e]) u101 Z bV Z (a.p 3 Z Z)) Z<|V 2 Z ?_
 replace a:=a.pick (os':=[]++[Y E [.slice none 0 0,.slice none 0 0,.slice none 0 0],Y ab [o,p,s],Y L [l,m,n],Y G [f,g,H e]]) [0,1,2,3] (by decide) rfl
 obtain ⟨d,b,c,a⟩:=d.frzK hTT b c a
 refine J h fun bt cb h=>aG Z (bp e cb (d.okT hTT a) (b.i c 0 Z) (b.i c 1 Z) (b.i c 10 Z) (b.i c 18 Z)) Z ?_
 rintro bj w ⟨_,rfl,t,B⟩
 obtain ⟨c6,cD,d,b,c,a⟩:=d.l b c a t B rfl
 refine V 1 rfl<|gl1<|J h fun be cc h=>J h fun bk bA h=>J h fun bm bB h=>J h fun aA bC h=>cO (es:=[P X bj bt,P X bi bs,P X bg br,P X au aZ,P X D ar,P X aj a4,P X al a5,P X ad aY,P X ai a3,P X ac aR,P X aU a2,P X aT a1,P X aS bf,P X s aN,P X p aM,P X o aL,P X n aK,P X m aJ,P X l aI,P X g aH,P X f aF]) (os:=[Y E [.slice none 0 0,.slice none 0 0,.slice none 0 0],Y ab [o,p,s],Y L [l,m,n],Y G [f,g,H e]]) (fun i=>[5,7,11,12].contains i) (fun i=>if i=7 then some 12 else if i=11 then some 12 else none) (fun i=>if i=7 then [5] else []) (fun i=>[]) (fun i=>[]) (fun i=>[]) (fun i=>if i=5 then (fun h v x y=>∃ap:Value,v=ap∧x=[]∧y=[P X ap be]) else if i=7 then (fun h v x y=>∃aD:Value,v=aD∧x=[U X aD bk]∧y=[]) else if i=11 then (fun h v x y=>∃aE:Value,v=aE∧x=[U X aE bm]∧y=[]) else (fun h v x y=>∃u:Value,v=u∧x=[U X u aA]∧y=[])) (SfT.mk' d b c a) (fun k hk=>rfl) hTT rfl (fun i=>(cl (by rintro h v x y ⟨_,rfl,rfl,rfl⟩; exact bQ rfl) (cl (by rintro h v x y ⟨_,rfl,rfl,rfl⟩; exact bQ rfl) (cl (by rintro h v x y ⟨_,rfl,rfl,rfl⟩; exact bQ rfl) (by rintro h v x y ⟨_,rfl,rfl,rfl⟩; exact bQ rfl))))) bR (by kernel_rfl) (by kernel_rfl) ?_
 show dY _ _ _ _ _ _ _ _ _ _ _ _ _ _ _ _ [0,1,2,3,4,5,6,7,8,9,10,11,12,13] _ _
 refine bz Z Z (fun w Sb wb d b c A=>aP (us:=[f,g,H e]) u101 Z bV Z (A.p 3 Z Z)) Z<|bz Z Z (fun w Sb wb d b c A=>aP (us:=[f,g,H e]) u101 Z bV Z (A.p 3 Z Z)) Z<|bz Z Z (fun w Sb wb d b c A=>aP (us:=[f,g,H e]) u101 Z bV Z (A.p 3 Z Z)) Z<|bP 2 Z ?_
 refine bK (fun h v x y=>∃ap:Value,v=ap∧x=[]∧y=[P X ap be]) [] [] [] _ Z Z (fun h v x y=>Z) Z Z Z Z ⟨_,_,_,undef,Z,Z,Z⟩ (by kernel_rfl) Z (fun w Sl Tl d hTT b c a=>?_) Z ?_
 ·replace a:=a.pick (os':=[]++[Y E [.slice none 0 0,.slice none 0 0,.slice none 0 0],Y ab [o,p,s],Y L [l,m,n],Y G [f,g,H e]]) [0,1,2,3] (by decide) rfl
  obtain ⟨d,b,c,a⟩:=d.frzK hTT b c a
  refine bJ (bp e cc (d.okT hTT a) (b.i c 0 Z) (b.i c 1 Z) (b.i c 17 Z) (b.i c 17 Z)) ?_
  rintro ap w ⟨_,rfl,t,B⟩
  obtain ⟨c7,cE,d,b,c,a⟩:=d.l b c a t B rfl
  exact ⟨_,_,⟨ap,Z,Z,Z⟩,SfT.mk' d (b.pick [21] Z) (c.pick [21] Z) a⟩
 rintro ap x_q y_q ⟨_,rfl,rfl,rfl⟩
 refine bP 1 Z ?_
 refine bK (fun h v x y=>∃aD:Value,v=aD∧x=[U X aD bk]∧y=[]) [] [] [P X ap be] _ Z Z (fun h v x y=>Z) Z Z Z Z ⟨_,_,_,undef,Z,Z,Z⟩ (by kernel_rfl) Z (fun w Sl Tl d hTT b c a=>?_) Z ?_
 ·refine bJ (cU e bA ((b.rp 0 Z).b a.fr).rp ((b.rp 1 Z).b a.fr).rp ((b.rp 21 Z).b a.fr).rp ((b.rp 19 Z).b a.fr).rp) ?_
  rintro aD w t
  have a:=a.e t
  exact ⟨_,_,⟨aD,Z,Z,Z⟩,SfT.mk' d Rds.nil Off.nil a⟩
 rintro aD x_q y_q ⟨_,rfl,rfl,rfl⟩
 refine bz Z Z (fun w Sb wb d b c A=>aP (us:=[f,g,H e]) u101 Z bV Z (A.p 3 Z Z)) Z<|bP 2 Z ?_
 refine bK (fun h v x y=>∃aE:Value,v=aE∧x=[U X aE bm]∧y=[]) [] [] [] _ Z Z (fun h v x y=>Z) Z Z Z Z ⟨_,_,_,undef,Z,Z,Z⟩ (by kernel_rfl) Z (fun w Sl Tl d hTT b c a=>?_) Z ?_
 ·refine bJ (cK e bB ((b.rp 0 Z).b a.fr).rp ((b.rp 1 Z).b a.fr).rp ((b.rp 20 Z).b a.fr).rp ((b.rp 20 Z).b a.fr).rp) ?_
  rintro aE w t
  have a:=a.e t
  exact ⟨_,_,⟨aE,Z,Z,Z⟩,SfT.mk' d Rds.nil Off.nil a⟩
 rintro aE x_q y_q ⟨_,rfl,rfl,rfl⟩
 refine bK (fun h v x y=>∃u:Value,v=u∧x=[U X u aA]∧y=[]) [] [U X aD bk,U X aE bm] [] _ Z Z (fun h v x y=>Z) Z Z Z Z ⟨_,_,_,undef,Z,Z,Z⟩ (by kernel_rfl) Z (fun w Sl Tl d hTT b c a=>?_) Z ?_
 ·refine bJ (cU e bC ((b.rp 0 Z).b a.fr).rp ((b.rp 1 Z).b a.fr).rp (a.ro 0 Z).rp (a.ro 1 Z).rp) ?_
  rintro u w t
  have a:=a.e t
  exact ⟨_,_,⟨u,Z,Z,Z⟩,SfT.mk' d Rds.nil Off.nil (a.d [0,3,4,5,6] Z Z)⟩
 rintro u x_q y_q ⟨_,rfl,rfl,rfl⟩
 refine bP 1 Z<|dH fun w hQ=>?_
 obtain ⟨cF,ce,d,b,c,a⟩:=hQ
 refine ak<|av<|J h fun a9 bD h=>J h fun bb bE h=>J h fun bc bF h=>J h fun aV bG h=>cO (es:=[P X ap be,P X bj bt,P X bi bs,P X bg br,P X au aZ,P X D ar,P X aj a4,P X al a5,P X ad aY,P X ai a3,P X ac aR,P X aU a2,P X aT a1,P X aS bf,P X s aN,P X p aM,P X o aL,P X n aK,P X m aJ,P X l aI,P X g aH,P X f aF]) (os:=[U X u aA,Y E [.slice none 0 0,.slice none 0 0,.slice none 0 0],Y ab [o,p,s],Y L [l,m,n],Y G [f,g,H e]]) (fun i=>[6,7,11,12].contains i) (fun i=>if i=6 then some 7 else none) (fun i=>if i=12 then [7,11] else []) (fun i=>[]) (fun i=>[]) (fun i=>[]) (fun i=>if i=6 then (fun h v x y=>∃ay:Value,v=ay∧x=[U X ay a9]∧y=[]) else if i=7 then (fun h v x y=>∃ae:Value,v=ae∧x=[]∧y=[P X ae bb]) else if i=11 then (fun h v x y=>∃ah:Value,v=ah∧x=[]∧y=[P X ah bc]) else (fun h v x y=>∃z:Value,v=z∧x=[U X z aV]∧y=[])) (SfT.mk' d b c a) (fun k hk=>rfl) hTT rfl (fun i=>(cl (by rintro h v x y ⟨_,rfl,rfl,rfl⟩; exact bQ rfl) (cl (by rintro h v x y ⟨_,rfl,rfl,rfl⟩; exact bQ rfl) (cl (by rintro h v x y ⟨_,rfl,rfl,rfl⟩; exact bQ rfl) (by rintro h v x y ⟨_,rfl,rfl,rfl⟩; exact bQ rfl))))) bR (by kernel_rfl) (by kernel_rfl) ?_
 show dY _ _ _ _ _ _ _ _ _ _ _ _ _ _ _ _ [0,1,2,3,4,5,6,7,8,9,10,11,12,13] _ _
 refine bz Z Z (fun w Sb wb d b c A=>aP (us:=[f,g,H e]) u101 Z bV Z (A.p 4 Z Z)) Z<|bz Z Z (fun w Sb wb d b c A=>aP (us:=[f,g,H e]) u101 Z bV Z (A.p 4 Z Z)) Z<|bP 1 Z<|bz Z Z (fun w Sb wb d b c A=>aP (us:=[f,g,H e]) u101 Z bV Z (A.p 4 Z Z)) Z<|bP 2 Z ?_
 refine bK (fun h v x y=>∃ay:Value,v=ay∧x=[U X ay a9]∧y=[]) [] [] [] _ Z Z (fun h v x y=>Z) Z Z Z Z ⟨_,_,_,undef,Z,Z,Z⟩ (by kernel_rfl) Z (fun w Sl Tl d hTT b c a=>?_) Z ?_
 ·refine bJ (cU e bD ((b.rp 0 Z).b a.fr).rp ((b.rp 1 Z).b a.fr).rp ((b.rp 20 Z).b a.fr).rp (a.ro 0 Z).rp) ?_
  rintro ay w t
  have a:=a.e t
  exact ⟨_,_,⟨ay,Z,Z,Z⟩,SfT.mk' d Rds.nil Off.nil a⟩
 rintro ay x_q y_q ⟨_,rfl,rfl,rfl⟩
 refine bK (fun h v x y=>∃ae:Value,v=ae∧x=[]∧y=[P X ae bb]) [] [U X ay a9] [] _ Z Z (fun h v x y=>Z) Z Z Z Z ⟨_,_,_,undef,Z,Z,Z⟩ (by kernel_rfl) Z (fun w Sl Tl d hTT b c a=>?_) Z ?_
 ·replace a:=a.pick (os':=[U X ay a9]++[U X u aA,Y E [.slice none 0 0,.slice none 0 0,.slice none 0 0],Y ab [o,p,s],Y L [l,m,n],Y G [f,g,H e]]) [0,1,2,3,4,5] (by decide) rfl
  obtain ⟨d,b,c,a⟩:=d.frzK hTT b c a
  refine bJ (bp e bE (d.okT hTT a) (b.i c 0 Z) (b.i c 1 Z) (b.i c 17 Z) (b.i c 22 Z)) ?_
  rintro ae w ⟨_,rfl,t,B⟩
  obtain ⟨cG,cf,d,b,c,a⟩:=d.l b c a t B rfl
  exact ⟨_,_,⟨ae,Z,Z,Z⟩,SfT.mk' d (b.pick [23] Z) (c.pick [23] Z) a⟩
 rintro ae x_q y_q ⟨_,rfl,rfl,rfl⟩
 refine bz Z Z (fun w Sb wb d b c A=>aP (us:=[f,g,H e]) u101 Z bV Z (A.p 4 Z Z)) Z<|bP 2 Z ?_
 refine bK (fun h v x y=>∃ah:Value,v=ah∧x=[]∧y=[P X ah bc]) [] [] [] _ Z Z (fun h v x y=>Z) Z Z Z Z ⟨_,_,_,undef,Z,Z,Z⟩ (by kernel_rfl) Z (fun w Sl Tl d hTT b c a=>?_) Z ?_
 ·replace a:=a.pick (os':=[]++[U X u aA,Y E [.slice none 0 0,.slice none 0 0,.slice none 0 0],Y ab [o,p,s],Y L [l,m,n],Y G [f,g,H e]]) [0,1,2,3,4] (by decide) rfl
  obtain ⟨d,b,c,a⟩:=d.frzK hTT b c a
  refine bJ (bp e bF (d.okT hTT a) (b.i c 0 Z) (b.i c 1 Z) (b.i c 12 Z) (b.i c 19 Z)) ?_
  rintro ah w ⟨_,rfl,t,B⟩
  obtain ⟨cH,cg,d,b,c,a⟩:=d.l b c a t B rfl
  exact ⟨_,_,⟨ah,Z,Z,Z⟩,SfT.mk' d (b.pick [22] Z) (c.pick [22] Z) a⟩
 rintro ah x_q y_q ⟨_,rfl,rfl,rfl⟩
 refine bK (fun h v x y=>∃z:Value,v=z∧x=[U X z aV]∧y=[]) [] [] [P X ae bb,P X ah bc] _ Z Z (fun h v x y=>Z) Z Z Z Z ⟨_,_,_,undef,Z,Z,Z⟩ (by kernel_rfl) Z (fun w Sl Tl d hTT b c a=>?_) Z ?_
 ·refine bJ (cU e bG ((b.rp 0 Z).b a.fr).rp ((b.rp 1 Z).b a.fr).rp ((b.rp 23 Z).b a.fr).rp ((b.rp 22 Z).b a.fr).rp) ?_
  rintro z w t
  have a:=a.e t
  exact ⟨_,_,⟨z,Z,Z,Z⟩,SfT.mk' d Rds.nil Off.nil a⟩
 rintro z x_q y_q ⟨_,rfl,rfl,rfl⟩
 refine bP 1 Z<|dH fun w hQ=>?_
 obtain ⟨cI,ch,d,b,c,a⟩:=hQ
 refine ak<|av<|J h fun bn bH h=>J h fun C bI h=>cO (es:=[P X ae bb,P X ah bc,P X ap be,P X bj bt,P X bi bs,P X bg br,P X au aZ,P X D ar,P X aj a4,P X al a5,P X ad aY,P X ai a3,P X ac aR,P X aU a2,P X aT a1,P X aS bf,P X s aN,P X p aM,P X o aL,P X n aK,P X m aJ,P X l aI,P X g aH,P X f aF]) (os:=[U X z aV,U X u aA,Y ab [o,p,s],Y L [l,m,n],Y G [f,g,H e]]) (fun i=>[9,10,11,12].contains i) (fun i=>none) (fun i=>if i=10 then [9] else if i=11 then [10] else if i=12 then [10] else []) (fun i=>if i=12 then [Y E [.slice none 0 0,.slice none 0 0,.slice none 0 0]] else []) (fun i=>[]) (fun i=>if i=11 then [10] else if i=12 then [10] else []) (fun i=>if i=9 then (fun h v x y=>∃aq:Value,v=aq∧x=[]∧y=[P X aq bn]) else if i=10 then (fun h v x y=>∃j:Value,v=j∧x=[]∧y=[P X j C]) else if i=11 then (fun h v x y=>∃j:Value,h=[(j,[],[P X j C])]∧v=.agg #[u,z,j]∧x=[]∧y=[]) else (fun h v x y=>∃j:Value,h=[(j,[],[P X j C])]∧v=undef∧x=[Y E [u,z,j]]∧y=[P X j C])) (SfT.mk' d b c (a.pick (os':=[Y E [.slice none 0 0,.slice none 0 0,.slice none 0 0],U X z aV,U X u aA,Y ab [o,p,s],Y L [l,m,n],Y G [f,g,H e]]) [2,0,1,3,4,5] (by decide) rfl)) (fun k hk=>(if_neg (fun q=>by subst q; exact absurd hk (by decide)))) hTT rfl (fun i=>(cl (by rintro h v x y ⟨_,rfl,rfl,rfl⟩; exact bQ rfl) (cl (by rintro h v x y ⟨_,rfl,rfl,rfl⟩; exact bQ rfl) (cl (by rintro h v x y ⟨_,_,rfl,rfl,rfl⟩; exact bQ rfl) (by rintro h v x y ⟨_,_,rfl,rfl,rfl⟩; exact bQ rfl))))) bR (by kernel_rfl) (by kernel_rfl) ?_
 show dY _ _ _ _ _ _ _ _ _ _ _ _ _ _ _ _ [0,1,2,3,4,5,6,7,8,9,10,11,12] _ _
 refine bP 2 Z<|bz Z Z (fun w Sb wb d b c A=>aP (us:=[f,g,H e]) u101 Z bV Z (A.p 4 Z Z)) Z<|bP 1 Z<|bz Z Z (fun w Sb wb d b c A=>aP (us:=[f,g,H e]) u101 Z bV Z (A.p 4 Z Z)) Z<|bz Z Z (fun w Sb wb d b c A=>ao (k:=2) u104 Z Z cZ Z) Z<|bz Z Z (fun w Sb wb d b c A=>aw u31 Z Z (A.q 3 Z 2)) Z<|bz Z Z (fun w Sb wb d b c A=>ao (k:=2) u104 Z Z cZ Z) Z<|bz Z Z (fun w Sb wb d b c A=>aw u31 Z Z (A.q 2 Z 2)) Z ?_
 refine bK (fun h v x y=>∃aq:Value,v=aq∧x=[]∧y=[P X aq bn]) [] [] [] _ Z Z (fun h v x y=>Z) Z Z Z Z ⟨_,_,_,undef,Z,Z,Z⟩ (by kernel_rfl) Z (fun w Sl Tl d hTT b c a=>?_) Z ?_
 ·replace a:=a.pick (os':=[]++[U X z aV,U X u aA,Y ab [o,p,s],Y L [l,m,n],Y G [f,g,H e]]) [0,1,2,3,4] (by decide) rfl
  obtain ⟨d,b,c,a⟩:=d.frzK hTT b c a
  refine bJ (bp e bH (d.okT hTT a) (b.i c 0 Z) (b.i c 1 Z) (b.i c 4 Z) (b.i c 7 Z)) ?_
  rintro aq w ⟨_,rfl,t,B⟩
  obtain ⟨cJ,ci,d,b,c,a⟩:=d.l b c a t B rfl
  exact ⟨_,_,⟨aq,Z,Z,Z⟩,SfT.mk' d (b.pick [24] Z) (c.pick [24] Z) a⟩
 rintro aq x_q y_q ⟨_,rfl,rfl,rfl⟩
 refine bK (fun h v x y=>∃j:Value,v=j∧x=[]∧y=[P X j C]) [] [] [P X aq bn] _ Z Z (fun h v x y=>Z) Z Z Z Z ⟨_,_,_,undef,Z,Z,Z⟩ (by kernel_rfl) Z (fun w Sl Tl d hTT b c a=>?_) Z ?_
 ·replace a:=a.pick (os':=[]++[U X z aV,U X u aA,Y ab [o,p,s],Y L [l,m,n],Y G [f,g,H e]]) [0,1,2,3,4] (by decide) rfl
  obtain ⟨d,b,c,a⟩:=d.frzK hTT b c a
  refine bJ (bp e bI (d.okT hTT a) (b.i c 0 Z) (b.i c 1 Z) (b.i c 16 Z) (b.i c 24 Z)) ?_
  rintro j w ⟨_,rfl,t,B⟩
  obtain ⟨cL,cj,d,b,c,a⟩:=d.l b c a t B rfl
  exact ⟨_,_,⟨j,Z,Z,Z⟩,SfT.mk' d (b.pick [25] Z) (c.pick [25] Z) a⟩
 rintro j x_q y_q ⟨_,rfl,rfl,rfl⟩
 refine gl (fun h v x y=>∃j:Value,h=[(j,[],[P X j C])]∧v=.agg #[u,z,j]∧x=[]∧y=[]) [(j,[],[P X j C])] [] [P X j C] _ Z Z (fun h v x y=>Z) Z Z Z Z ⟨_,_,_,j,Z,Z,Z,Z⟩ (fun w Sl Tl d hTT b c a=>?_) Z ?_
 ·exact ry (bT (vs:=[(0,u,[u]),(1,z,[z]),(2,j,[j])]) (cells:=[u,z,j]) Z k7 ⟨(cz (a.ro 1 Z).one),(cz (a.ro 0 Z).one),(cz ((b.rp 24 Z).b a.fr).one),I⟩ Z) ⟨_,_,⟨j,Z,Z,Z,Z⟩,SfT.mk' d Rds.nil Off.nil a⟩
 rintro v_q x_q y_q ⟨u0_138',hh,rfl,rfl,rfl⟩
 replace hh:([(j,[],[P X j C])]:List Th)=[(u0_138',[],[P X u0_138' C])]:=hh
 cases hh
 refine kU (fun h v x y=>∃j:Value,h=[(j,[],[P X j C])]∧v=undef∧x=[Y E [u,z,j]]∧y=[P X j C]) [(j,[],[P X j C])] [Y E [.slice none 0 0,.slice none 0 0,.slice none 0 0]] [P X j C] _ Z Z (fun h v x y=>Z) Z Z Z Z ⟨_,_,_,j,Z,Z,Z,Z⟩ (fun w Sl Tl d hTT b c a=>?_) ?_
 ·refine jL (bq (i:=0) (us:=[u,z,j]) Z cQ Z Z Z ⟨(a.ro 2 Z).one,(a.ro 1 Z).one,((b.rp 24 Z).b a.fr).one,I⟩ Z a) ?_
  intro w a
  exact ⟨_,_,⟨j,Z,Z,Z,Z⟩,SfT.mk' d (b.pick [24] Z) (c.pick [24] Z) a⟩
 rintro v_q x_q y_q ⟨u0_138',hh,rfl,rfl,rfl⟩
 replace hh:([(j,[],[P X j C])]:List Th)=[(u0_138',[],[P X u0_138' C])]:=hh
 cases hh
 refine dH fun w hQ=>?_
 obtain ⟨cM,ck,d,b,c,a⟩:=hQ
 refine ak<|az ?_
 cases h
 obtain ⟨a0,hR⟩:=d.outT hTT b c a
 exact dc Z ⟨_,Z,bM (us:=[u,z,j]) u104 Z cQ (a.p 0 Z Z)⟩ ⟨u,z,j,Z,a0,(hR.pick [24,31,30] Z)⟩
theorem kT {q:World} {n o a1:List UInt32} {b c m:Value} {T:List Nat} (d:Int) {r:List UInt32}
  (h:F.Hn n o d a1=some r) (hTT:TOk [] T q) (ab:RP T q X b n) (ac:RP T q X c o) (aM:RP T q X m a1):Calls Tryz.prog 141 #[.agg #[b,c,H d],m] q (Ret fun v w=>∃u0:Value,v=u0∧St [] q w []∧Rds T w [P X u0 r]):=by
 refine aB 33 Tryz.func141 Z Z Z<|have a:=St.k q;have j:=Fz.k (S:=[]) (w0:=q);?_
 have hA0:Rds T q [P X m a1,P X c o,P X b n]:=M (RP.h (W Z) aM) (M (RP.h (W Z) ac) (M (RP.h (W Z) ab) (Rds.nil)))
 have f:=hA0.all
 have i:=hA0.off Z
 refine ax [(0,.agg #[b,c,H d]),(1,m)] Z ?_
 unfold F.Hn at h
 refine R<|bh (cu (cs:=[b,c,H d]) Z Z a) Z fun p w a=>V 1 Z<|gl2<|N (ao (k:=0) u101 Z Z cZ Z) Z<|N (aw u31 Z Z (a.q 0 Z 0)) Z<|bG (cp (e:=X) (l:=([2]:List UInt32)) (vs:=[v32 2]) u31 aN Z Z Z Z (by decide) (by decide) a) Z fun aO w a=>J h fun z aq h=>aU a Z (ez  aq ((f.rp 0 Z).b a.fr).rp (a.ro 0 Z).rp) Z fun t w a=>V 1 Z<|gl2<|bG (cp (e:=X) (l:=([1]:List UInt32)) (vs:=[v32 1]) u31 aN Z Z Z Z (by decide) (by decide) a) Z fun D w a=>V 1 Z<|gl1<|R<|V 1 Z<|N (aC u31 Z (a.ro 1 Z)) Z<|N (aj Z Z (dR _ 32 (z.length:Int))) Z<|V 1 Z<|a7 h fun A ad h=>N (a9 (v:=H A) (by rw [←ad]; rfl)) Z<|Q<|ar ?_
 replace a:=a.pick (os':=[U X D ([1]:List UInt32),U X t z,U X aO ([2]:List UInt32)]++[Y p [b,c,H d]]) [0,1,2,3] (by decide) rfl
 obtain ⟨a4,aX,j,f,i,a⟩:=j.frzT hTT f i a
 refine ax [(1,m),(2,O p 0),(5,t),(6,D),(7,H A)] Z ?_
 refine aT (F.GM n o d a1 z) (fun (s:List UInt32×Int) L w=>∃(u:Value),L=[(1,m),(2,O p 0),(5,t),(6,u),(7,H s.2)]∧SfT [] T q w [P X c o,P X b n,P X u s.1,P X t z,P X m a1] [Y p [b,c,H d]]) ?_ (([1]:List UInt32),A) ⟨D,Z,(SfT.mk' j (f.pick [1,0,5,4,2] Z) (i.pick [1,0,5,4,2] Z) a)⟩ h
 rintro a5 ⟨a6,x⟩ L w aA hI ae h B
 try dsimp only at hI
 obtain ⟨u,rfl,⟨a8,aY,j,f,i,a⟩⟩:=hI
 unfold F.GM at h
 refine av<|R<|V 2 Z<|Q ?_
 refine gl9 Z h (fun h=>?_) (fun h=>?_)
 ·refine gl5 ?_
  refine aZ (r:=aA) (fun (g:List UInt32) L w=>∃(y:Value),L=[(1,m),(2,O p 0),(5,t),(6,y),(7,H x)]∧SfT [] T q w [P X c o,P X b n,P X y g,P X t z,P X m a1] [Y p [b,c,H d]]) (F.Gy x) ?_ ?_
  rotate_left
  ·intro C
   refine ar<|R<|N (aP (us:=[b,c,H d]) u101 Z bV Z (a.p 0 Z Z)) Z<|V 2 Z ?_
   replace a:=a.pick (os':=[]++[Y p [b,c,H d]]) [0] (by decide) rfl
   obtain ⟨j,f,i,a⟩:=j.frzK hTT f i a
   refine J h fun aD ah h=>aG Z (bp d ah (j.okT hTT a) (f.i i 3 Z) (f.i i 4 Z) (f.i i 2 Z) (f.i i 2 Z)) Z ?_
   rintro ai w ⟨_,rfl,E,G⟩
   obtain ⟨ba,a0,j,f,i,a⟩:=j.l f i a E G rfl
   refine V 1 Z<|gl2<|V 2 Z<|J h fun bb am h=>bc a Z (jB x am ((f.rp 1 Z).b a.fr).rp) Z fun w a=>Q ?_
   refine gl9 Z h (fun h=>?_) (fun h=>?_)
   ·refine al<|N (aP (us:=[b,c,H d]) u101 Z bV Z (a.p 0 Z Z)) Z<|V 2 Z ?_
    replace a:=a.pick (os':=[]++[Y p [b,c,H d]]) [0] (by decide) rfl
    obtain ⟨j,f,i,a⟩:=j.frzK hTT f i a
    refine J h fun aJ an h=>aG Z (bp d an (j.okT hTT a) (f.i i 3 Z) (f.i i 4 Z) (f.i i 5 Z) (f.i i 0 Z)) Z ?_
    rintro ap w ⟨_,rfl,E,G⟩
    obtain ⟨be,a2,j,f,i,a⟩:=j.l f i a E G rfl
    exact V 1 Z<|aE<|aF<|ak<|aH (C aJ _ _ ⟨ap,Z,(SfT.mk' j (f.pick [4,3,6,1,0] Z) (i.pick [4,3,6,1,0] Z) a)⟩ h) Z
   exact cd<|aF<|ak<|aH (C aD _ _ ⟨ai,Z,(SfT.mk' j (f.pick [4,3,5,1,0] Z) (i.pick [4,3,5,1,0] Z) a)⟩ h) Z
  rintro aK L w hJ h
  try dsimp only at hJ
  obtain ⟨y,rfl,⟨bg,a3,j,f,i,a⟩⟩:=hJ
  unfold F.Gy at h
  exact al<|V 3 Z<|aE<|bf (bd (ae (aK,wI (x - 1)) _ _ ⟨y,Z,(SfT.mk' j (f.pick [4,3,2,1,0] Z) (i.pick [4,3,2,1,0] Z) a)⟩ (aL h B)) Z)
 refine aQ<|au<|au<|have h:=aI h B;aR<|ak<|R<|V 2 Z<|Q<|az ?_
 cases h
 obtain ⟨aW,hR⟩:=j.outT hTT f i a
 exact ay Z Z ⟨u,Z,aW,(hR.pick [2] Z)⟩
end Go.Proofs
