import Derived.Test.YtahgjafdhjbkeaaGreatDoorRW0
import Derived.Test.YtahgjafdhjbkeaaGreatDoorGkFman
import Derived.Test.YtahgjafdhjbkeaaGreatDoorRWbignumc
import Derived.Test.YtahgjafdhjbkeaaGreatDoorRWcurvec
set_option linter.unusedVariables false
set_option linter.unusedSimpArgs false
set_option linter.unusedSectionVars false
set_option maxRecDepth 4000
namespace Go.Proofs
open Go Go.RowKit Go.Gk
open Go.Gk renaming aa -> V, af -> J, ag -> N, ai -> H, e32 -> X, gl3 -> P, gl4 -> R, own -> U, pB -> O, red -> Q, vB -> K, vI -> I
open Nat renaming le_of_ble_eq_true -> W
open Go.Gk.OE renaming bx -> Y
open Go.Gk.Rds renaming cons -> M
theorem wl {e:World} {f g:L0} {b c:Value} (a0:Int) (d:Bool) {r:Bool}
  (h:F.Ic a0 f g d=some r) (s:RP [] e X b f) (t:RP [] e X c g):Calls Tryz.prog 31 #[I a0,.agg #[b,c,K d]] e (Ret fun v w=>v=K r/\St [] e w []):=by
 refine aB 16 Tryz.func31 Z Z Z<|have a:=St.k e;have j:=Fz.k (S:=[]) (w0:=e);?_
 have hTT:TOk [] [] e:=TOk.nil
 have l:Rds [] e [Q X c g,Q X b f]:=M (RP.h (W Z) t) (M (RP.h (W Z) s) (Rds.nil))
 have m:Off [] [Q X c g,Q X b f]:=Off.emp
 refine ax [(0,I a0),(1,.agg #[b,c,K d])] Z ?_
 unfold F.Ic at h
 refine R<|bg (cg (cs:=[b,c,K d]) Z Z a) Z fun L w a=>V 1 Z<|gl2<|V 1 Z<|N (aM (us:=[b,c,K d]) u33 Z cR Z (a.p 0 Z Z)) Z ?_
 replace a:=a.pick (os':=[]++[Y L [b,c,K d]]) [0] (by decide) rfl
 obtain⟨j,l,m,a⟩:=j.frzK hTT l m a
 refine J h fun T x h=>aH Z (ke a0 d x (j.okT hTT a) (l.i m 0 Z) (l.i m 1 Z)) Z fun v_q w u=>?_
 cases k:T.1 with
 | none=>
  have h:=iQ h k
  rw[k]at u
  obtain⟨rfl,n⟩:=ir u
  obtain⟨ao,ak,j,l,m,a⟩:=j.l l m a n Rds.nil rfl
  refine V 4 Z<|bg (bb (cs:=[.pointer none,.pointer none,.pointer none]) gq Z a) Z fun al w a=>V 1 Z<|bo (bz (i:=0) (us:=[.pointer none,.pointer none,.pointer none]) Z cp Z Z Z ⟨Z,Z,Z,trivial⟩ Z a) fun w a=>V 1 Z<|gl2<|V 2 Z<|P<|ay ?_
  cases h
  replace a:=j.st a
  exact az Z Z ⟨Z,a.d [] Z Z⟩
 | some ap=>
  have h:=i0 h k
  rw[k]at u
  obtain⟨am,ab,y,ac,z,ad,A,ae,B,ah,C,o,D,p,E,q,G,rfl,n,H⟩:=il u
  obtain⟨aq,aj,j,l,m,a⟩:=j.l l m a n H rfl
  refine V 4 Z<|bg (bb (cs:=[.pointer none,.pointer none,.pointer none]) gq Z a) Z fun an w a=>V 1 Z<|bo (bz (i:=0) (us:=[O o 0,O p 0,O q 0]) Z cp Z Z Z ⟨Z,Z,Z,trivial⟩ Z a) fun w a=>V 1 Z<|gl2<|V 2 Z<|P<|ay ?_
  cases h
  replace a:=j.st a
  exact az Z Z ⟨Z,a.d [] Z Z⟩
theorem mM {f:World} {g:L0} {a1:L1} {c d:Value} {j:Nat} {S:L2} (b:Bool) {r:L1}
  (h:F.EV b g a1=some r) (a:St S f f [U e8 d a1]) (l:RP S f X c g) (hBa0:RB S f j [K b,c]):Calls Tryz.prog 73 #[O j 0,d] f (Ret fun v w=>∃u0:Value,v=u0/\St S f w [U e8 u0 r]):=by
 refine aB 19 Tryz.func73 Z Z Z<|ax [(0,O j 0),(1,d)] Z ?_
 unfold F.EV at h
 refine R<|V 1 Z<|gl2<|V 1 Z<|J h fun p m h=>aV a Z (jk b m (l.b a.fr).rp (hBa0.b a.fr)) Z fun q w a=>V 1 Z<|gl2<|V 1 Z<|CI (AJ (e:=e8) 0 u24 ti5 Z Z Z Z a (i:=1) Z) ?_
 rintro _ w ⟨_,a⟩
 obtain⟨s,n,h⟩:=eK h
 rw[n]at a
 refine gl2<|V 2 Z<|N (aC u24 Z (a.ro 1 Z)) Z<|V 1 Z<|N (aC u24 Z (a.ro 0 Z)) Z<|V 1 Z<|J h fun t k h=>N (pr u24 ti5 Z Z (a.ro 1 Z) k) Z<|V 1 Z<|bC (ul (e:=e8) u24 ti5 Z Z Z a (i:=1) Z (a.ro 0 Z) (ia k).1.2 (Nat.le_refl _)) Z ?_
 rintro v_q w ⟨hv_q,a⟩
 subst v_q
 obtain⟨u,o,h⟩:=eK h
 rw[o]at a
 refine gl2<|V 2 Z<|P<|ay ?_
 cases h
 exact az Z Z ⟨d,Z,a.d [1] Z Z⟩
theorem qX {w0:World} {av az:L0} {n o:Value} (a0:Int) (ac:Bool) {r:L1×L1×Int}
  (h:F.Iz a0 av az ac=some r) (aT:RP [] w0 X n av) (aU:RP [] w0 X o az):Calls Tryz.prog 33 #[I a0,.agg #[n,o,K ac]] w0 (Ret fun v w=>∃u0 u1:Value,v=.tuple #[u0,u1,I r.2.2]/\St [] w0 w [U e8 u0 r.1,U e8 u1 r.2.1]):=by
 refine aB 41 Tryz.func33 Z Z Z<|have b:=St.k w0;have d:=Fz.k (S:=[]) (w0:=w0);?_
 have hTT:TOk [] [] w0:=TOk.nil
 have c:Rds [] w0 [Q X o az,Q X n av]:=M (RP.h (W Z) aU) (M (RP.h (W Z) aT) (Rds.nil))
 have f:Off [] [Q X o az,Q X n av]:=Off.emp
 refine ax [(0,I a0),(1,.agg #[n,o,K ac])] Z ?_
 unfold F.Iz at h
 refine R<|bg (cg (cs:=[n,o,K ac]) Z Z b) Z fun a5 w b=>V 3 Z<|gl2<|V 1 Z<|N (aM (us:=[n,o,K ac]) u33 Z cR Z (b.p 0 Z Z)) Z ?_
 replace b:=b.pick (os':=[]++[Y a5 [n,o,K ac]]) [0] (by decide) rfl
 obtain⟨d,c,f,b⟩:=d.frzK hTT c f b
 refine J h fun aO a1 h=>aH Z (ke a0 ac a1 (d.okT hTT b) (c.i f 0 Z) (c.i f 1 Z)) Z fun v_q w hQ=>?_
 cases aA:aO.1 with
 | none=>
  have h:=iQ h aA
  rw[aA]at hQ
  obtain⟨rfl,ab⟩:=ir hQ
  obtain⟨bm,bf,d,c,f,b⟩:=d.l c f b ab Rds.nil rfl
  refine V 4 Z<|bg (bb (cs:=[.pointer none,.pointer none,.pointer none]) gq Z b) Z fun bh w b=>V 1 Z<|bo (bz (i:=0) (us:=[.pointer none,.pointer none,.pointer none]) Z cp Z Z Z ⟨Z,Z,Z,trivial⟩ Z b) fun w b=>V 1 Z<|gl1<|R<|V 3 Z ?_
  cases ao:(!aO.2)
  case true=>
   have h:=cz h ao
   try simp only[ao]
   refine V 5 Z<|P<|fR Z<|R<|V 3 Z<|gl8 ?_
   cases h
   replace b:=d.st b
   exact dH Z Z Z Z ⟨L3,L3,Z,((b.nil e8).nil e8).d [1,0] Z Z⟩
  case false=>
   have h:=cA h ao
   try simp only[ao]
   refine bB (t:=19) Z Z (am (k:=2) u78 Z Z dn Z) Z<|bB (t:=19) Z Z (au u59 Z Z (b.q 0 Z 2)) Z ?_
   cases h
 | some a=>
  have h:=i0 h aA
  rw[aA]at hQ
  obtain⟨aJ,ad,s,ae,u,ah,z,H,A,aj,B,j,C,l,D,m,E,rfl,ab,a6⟩:=il hQ
  obtain⟨bn,a9,d,c,f,b⟩:=d.l c f b ab a6 rfl
  refine V 4 Z<|bg (bb (cs:=[.pointer none,.pointer none,.pointer none]) gq Z b) Z fun aq w b=>V 1 Z<|bo (bz (i:=0) (us:=[O j 0,O l 0,O m 0]) Z cp Z Z Z ⟨Z,Z,Z,trivial⟩ Z b) fun w b=>V 1 Z<|gl1 ?_
  refine a8 (r:=r) (fun (g:Bool) L w=>L=[(7,O aJ 0),(8,O aq 0),(24,K g)]/\SfT [] [] w0 w [Y m [K a.2.2.2.2.2.2.2.2.2.2.2.2.2.2.2.1,E],Q X E a.2.2.2.2.2.2.2.2.2.2.2.2.2.2.2.2,Y l [K a.2.2.2.2.2.2.2.2.2.2.2.2.2.1,D],Q X D a.2.2.2.2.2.2.2.2.2.2.2.2.2.2.1,Y j [K a.2.2.2.2.2.2.2.2.2.2.2.1,C],Q X C a.2.2.2.2.2.2.2.2.2.2.2.2.1,Y aJ [O ad 0,O ae 0,O ah 0,O H 0,O aj 0,I a.2.2.2.2.2.2.2.2.2.2.1,.func (.func 144) #[] #[]],Y aj [K a.2.2.2.2.2.2.2.2.1,B],Q X B a.2.2.2.2.2.2.2.2.2.1,Y H [K a.2.2.2.2.2.2.1,A],Q X A a.2.2.2.2.2.2.2.1,Y ah [K a.2.2.2.2.1,z],Q X z a.2.2.2.2.2.1,Y ae [K a.2.2.1,u],Q X u a.2.2.2.1,Y ad [K a.1,s],Q X s a.2.1] [Y aq [O j 0,O l 0,O m 0]]) (F.FJ a) ?_ ?_
  rotate_left
  ·intro aK
   refine al<|V 3 Z ?_
   cases ap:(!aO.2)
   case true=>
    have h:=cz h ap
    try simp only[ap]
    exact V 5 Z<|P<|aG (aK true _ _ ⟨Z,(SfT.mk' d (c.pick [18,17,16,15,14,13,12,11,10,9,8,7,6,5,4,3,2] Z) (f.pick [18,17,16,15,14,13,12,11,10,9,8,7,6,5,4,3,2] Z) (b.d [0] Z Z))⟩ h) Z
   case false=>
    have h:=cA h ap
    try simp only[ap]
    refine bB (t:=19) Z Z (am (k:=2) u78 Z Z dn Z) Z<|bB (t:=19) Z Z (au u59 Z Z (b.q 0 Z 2)) Z<|J h fun a2 aV h=>cw (t:=19) Z Z (by kernel_rfl) Z (de a.2.2.2.2.2.2.2.2.2.2.2.2.2.2.2.1 aV ((c.rp 17 Z).b b.fr).rp ((c.rb 18 Z).b b.fr)) Z ?_
    rintro _ w ⟨rfl,ab⟩
    have b:=b.e ab
    exact V 2 Z<|P<|aG (aK (a2 == 0) _ _ ⟨Z,(SfT.mk' d (c.pick [18,17,16,15,14,13,12,11,10,9,8,7,6,5,4,3,2] Z) (f.pick [18,17,16,15,14,13,12,11,10,9,8,7,6,5,4,3,2] Z) (b.d [0] Z Z))⟩ h) Z
  rintro bi L w hJ h
  try dsimp only at hJ
  obtain⟨rfl,⟨bk,ba,d,c,f,b⟩⟩:=hJ
  unfold F.FJ at h
  apply gl9 Z h<;>intro h
  ·refine R<|V 3 Z<|gl8 ?_
   cases h
   replace b:=d.st b
   exact dH Z Z Z Z ⟨L3,L3,Z,((b.nil e8).nil e8).d [1,0] Z Z⟩
  refine gl5<|aw<|J h fun aC aW h=>J h fun aP aX h=>J h fun aD aY h=>J h fun aQ aZ h=>cF (es:=[Y m [K a.2.2.2.2.2.2.2.2.2.2.2.2.2.2.2.1,E],Q X E a.2.2.2.2.2.2.2.2.2.2.2.2.2.2.2.2,Y l [K a.2.2.2.2.2.2.2.2.2.2.2.2.2.1,D],Q X D a.2.2.2.2.2.2.2.2.2.2.2.2.2.2.1,Y j [K a.2.2.2.2.2.2.2.2.2.2.2.1,C],Q X C a.2.2.2.2.2.2.2.2.2.2.2.2.1,Y aJ [O ad 0,O ae 0,O ah 0,O H 0,O aj 0,I a.2.2.2.2.2.2.2.2.2.2.1,.func (.func 144) #[] #[]],Y aj [K a.2.2.2.2.2.2.2.2.1,B],Q X B a.2.2.2.2.2.2.2.2.2.1,Y H [K a.2.2.2.2.2.2.1,A],Q X A a.2.2.2.2.2.2.2.1,Y ah [K a.2.2.2.2.1,z],Q X z a.2.2.2.2.2.1,Y ae [K a.2.2.1,u],Q X u a.2.2.2.1,Y ad [K a.1,s],Q X s a.2.1]) (os:=[Y aq [O j 0,O l 0,O m 0]]) (fun i=>[6,7,14,15].contains i) (fun i=>if i=6 then some 7 else if i=14 then some 15 else none) (fun i=>[]) (fun i=>[]) (fun i=>[]) (fun i=>[]) (fun i=>if i=6 then (fun h v x y=>∃p:Value,v=p/\x=[U e8 p aC]/\y=[]) else if i=7 then (fun h v x y=>∃G:Value,v=G/\x=[U e8 G aP]/\y=[]) else if i=14 then (fun h v x y=>∃q:Value,v=q/\x=[U e8 q aD]/\y=[]) else (fun h v x y=>∃T:Value,v=T/\x=[U e8 T aQ]/\y=[])) (SfT.mk' d c f b) (fun k hk=>rfl) hTT rfl (fun i=>(bZ (by rintro h v x y ⟨_,rfl,rfl,rfl⟩; exact bM rfl) (bZ (by rintro h v x y ⟨_,rfl,rfl,rfl⟩; exact bM rfl) (bZ (by rintro h v x y ⟨_,rfl,rfl,rfl⟩; exact bM rfl) (by rintro h v x y ⟨_,rfl,rfl,rfl⟩; exact bM rfl))))) bQ (by kernel_rfl) (by kernel_rfl) ?_
  show dZ _ _ _ _ _ _ _ _ _ _ _ _ _ _ _ _ [0,1,2,3,4,5,6,7,8,9,10,11,12,13,14,15,16,17,18] _ _
  refine bj Z Z (fun w Sb wb d c f hF=>am (k:=0) u78 Z Z dn Z) Z<|bj Z Z (fun w Sb wb d c f hF=>au u59 Z Z (hF.q 0 Z 0)) Z<|bN 1 Z<|bj Z Z (fun w Sb wb d c f hF=>aL Z) Z<|bj Z Z (fun w Sb wb d c f hF=>am (k:=5) u62 Z Z nz3 Z) Z<|bj Z Z (fun w Sb wb d c f hF=>au u3 Z Z ((c.rb 10 Z).cell hF.fr 5 Z)) Z ?_
  refine eP (fun h v x y=>∃p:Value,v=p/\x=[U e8 p aC]/\y=[]) [] [] [] _ Z Z (fun h v x y=>Z) Z Z Z Z ⟨_,_,_,undef,Z,Z,Z⟩ (fun w Sl Tl d hTT c f b=>?_) Z ?_
  ·refine iV (c9 (e:=e8) u24 ti5 Z Z Z b aW) ?_
   rintro p w b
   exact⟨_,_,⟨p,Z,Z,Z⟩,SfT.mk' d Rds.nil Off.nil b⟩
  rintro p x_q y_q ⟨_,rfl,rfl,rfl⟩
  refine bI (fun h v x y=>∃G:Value,v=G/\x=[U e8 G aP]/\y=[]) [] [U e8 p aC] [] _ Z Z (fun h v x y=>Z) Z Z Z Z ⟨_,_,_,undef,Z,Z,Z⟩ (by kernel_rfl) Z (fun w Sl Tl d hTT c f b=>?_) Z ?_
  ·have hG:=b.pick (os':=[U e8 p aC]++[Y aq [O j 0,O l 0,O m 0]]) [0,1] (by decide) Z
   refine bG (mM a.2.2.2.2.2.2.2.2.2.2.2.1 aX hG.f ((c.rp 11 Z).f (W Z) hG) ((c.rb 12 Z).f hG)) ?_
   rintro G w ⟨bc,aR,ab⟩
   rw[<-aR]at ab
   have b:=hG.g ab
   exact⟨_,_,⟨G,Z,Z,Z⟩,SfT.mk' d Rds.nil Off.nil b⟩
  rintro G x_q y_q ⟨_,rfl,rfl,rfl⟩
  refine bj Z Z (fun w Sb wb d c f hF=>am (k:=1) u78 Z Z dn Z) Z<|bj Z Z (fun w Sb wb d c f hF=>au u59 Z Z (hF.q 0 Z 1)) Z<|bN 1 Z<|bj Z Z (fun w Sb wb d c f hF=>aL Z) Z<|bj Z Z (fun w Sb wb d c f hF=>am (k:=5) u62 Z Z nz3 Z) Z<|bj Z Z (fun w Sb wb d c f hF=>au u3 Z Z ((c.rb 10 Z).cell hF.fr 5 Z)) Z ?_
  refine eP (fun h v x y=>∃q:Value,v=q/\x=[U e8 q aD]/\y=[]) [] [] [] _ Z Z (fun h v x y=>Z) Z Z Z Z ⟨_,_,_,undef,Z,Z,Z⟩ (fun w Sl Tl d hTT c f b=>?_) Z ?_
  ·refine iV (c9 (e:=e8) u24 ti5 Z Z Z b aY) ?_
   rintro q w b
   exact⟨_,_,⟨q,Z,Z,Z⟩,SfT.mk' d Rds.nil Off.nil b⟩
  rintro q x_q y_q ⟨_,rfl,rfl,rfl⟩
  refine bI (fun h v x y=>∃T:Value,v=T/\x=[U e8 T aQ]/\y=[]) [] [U e8 q aD] [] _ Z Z (fun h v x y=>Z) Z Z Z Z ⟨_,_,_,undef,Z,Z,Z⟩ (by kernel_rfl) Z (fun w Sl Tl d hTT c f b=>?_) Z ?_
  ·have hG:=b.pick (os':=[U e8 q aD]++[Y aq [O j 0,O l 0,O m 0]]) [0,1] (by decide) Z
   refine bG (mM a.2.2.2.2.2.2.2.2.2.2.2.2.2.1 aZ hG.f ((c.rp 13 Z).f (W Z) hG) ((c.rb 14 Z).f hG)) ?_
   rintro T w ⟨bd,aS,ab⟩
   rw[<-aS]at ab
   have b:=hG.g ab
   exact⟨_,_,⟨T,Z,Z,Z⟩,SfT.mk' d Rds.nil Off.nil b⟩
  rintro T x_q y_q ⟨_,rfl,rfl,rfl⟩
  refine bN 3 Z<|dv fun w hQ=>?_
  obtain⟨bl,be,d,c,f,b⟩:=hQ
  refine ak<|ay ?_
  cases h
  replace b:=d.st b
  exact dH Z Z Z Z ⟨G,T,Z,b.d [0,1] Z Z⟩
end Go.Proofs
