import Derived.Test.YtmegjloifgfldaaGreatDoorRW0
import Derived.Test.YtmegjloifgfldaaGreatDoorGkFman
import Derived.Test.YtmegjloifgfldaaGreatDoorRWbignumc
import Derived.Test.YtmegjloifgfldaaGreatDoorRWcurveb
set_option linter.unusedVariables false
set_option linter.unusedSimpArgs false
set_option linter.unusedSectionVars false
set_option maxRecDepth 4000
namespace Go.Proofs
open Go Go.RowKit Go.Gk
open Go.Gk renaming aa -> V, af -> M, ag -> O, ai -> J, e32 -> X, gl3 -> Q, gl4 -> R, own -> U, pB -> P, vB -> N, vI -> H
open Nat renaming le_of_ble_eq_true -> W
open Go.Gk.OE renaming bx -> Y
open Go.Gk.Rds renaming cons -> I
set_option maxHeartbeats 8000000 in
theorem tu {w0:World} {a1 a2 b4 b5:Q0} {cj ck aZ a3:Value} (a0:Int) (bk:Bool) {r:Q0×Q0×Bool×Int}
  (h:F.LY a0 a1 a2 b4 b5 bk=some r) (da:RP [] w0 X cj a1) (db:RP [] w0 X ck a2) (cU:RP [] w0 X aZ b4) (cV:RP [] w0 X a3 b5):Calls Tryz.prog 41 #[H a0,cj,ck,.agg #[aZ,a3,N bk]] w0 (Ret fun v w=>∃cE cI:Value,v=.tuple #[.agg #[cE,cI,N r.2.2.1],H r.2.2.2]/\St [] w0 w [U X cE r.1,U X cI r.2.1]):=by
 refine ax 109 Tryz.func41 Z Z Z<|have a:=St.k w0;have z:=Fz.k (S:=[]) (w0:=w0);?_
 have hTT:TOk [] [] w0:=TOk.nil
 have d:Rds [] w0 [red X a3 b5,red X aZ b4,red X ck a2,red X cj a1]:=I (RP.h (W Z) cV) (I (RP.h (W Z) cU) (I (RP.h (W Z) db) (I (RP.h (W Z) da) (Rds.nil))))
 have l:Off [] [red X a3 b5,red X aZ b4,red X ck a2,red X cj a1]:=Off.emp
 refine ay [(0,H a0),(1,cj),(2,ck),(3,.agg #[aZ,a3,N bk])] Z ?_
 unfold F.LY at h
 refine R<|bl (cz (cs:=[aZ,a3,N bk]) Z Z a) Z fun cl w a=>bl (bf (cs:=[Q3,Q3,N false]) jg Z a) Z fun aU w a=>V 1 Z<|gl2<|V 1 Z<|O (bX (us:=[aZ,a3,N bk]) u71 Z cF Z (a.p 1 Z Z)) Z ?_
 replace a:=a.pick (os':=[]++[Y aU [Q3,Q3,N false],Y cl [aZ,a3,N bk]]) [0,1] (by decide) rfl
 obtain⟨z,d,l,a⟩:=z.frzK hTT d l a
 refine M h fun dc c9 h=>aK Z (vH a0 bk c9 (z.okT hTT a) (d.i l 2 Z) (d.i l 3 Z)) Z fun v_q w hQ=>?_
 cases b6:dc.1 with
 | none=>
  have h:=kn h b6
  rw[b6]at hQ
  obtain⟨rfl,bp⟩:=jQ hQ
  obtain⟨dS,dj,z,d,l,a⟩:=z.l d l a bp Rds.nil rfl
  refine V 4 Z<|bl (bf (cs:=[.pointer none,.pointer none,.pointer none]) ia Z a) Z fun b7 w a=>V 1 Z<|bo (bq (i:=0) (us:=[.pointer none,.pointer none,.pointer none]) Z bV Z Z Z ⟨Z,Z,Z,K⟩ Z a) fun w a=>V 1 Z<|gl1<|az ?_
  refine am<|V 2 Z<|Q ?_
  apply gl9 Z h<;>intro h
  ·refine R<|O (bR (vs:=[]) (cells:=[Q3,Q3,N false]) Z fO K Z) Z<|bo (bq (i:=1) (us:=[Q3,Q3,N false]) Z cF Z Z Z ⟨Z,Z,Z,K⟩ Z a) fun w a=>V 1 Z<|gl8 ?_
   cases h
   replace a:=z.st a
   exact fh Z ⟨_,Z,bP (us:=[Q3,Q3,N false]) u71 Z cF (a.p 1 Z Z)⟩ Z ⟨Q3,Q3,Z,((a.nil X).nil X).d [1,0] Z Z⟩
  refine gl6<|V 1 Z<|M h fun bw cW h=>bz a Z (gS  cW ((d.rp 0 Z).b a.fr).rp) Z fun bO b8 w a=>V 5 Z<|gl2<|V 1 Z<|M h fun bA cX h=>bz a Z (gS  cX ((d.rp 1 Z).b a.fr).rp) Z fun bQ b9 w a=>V 5 Z<|gl1 ?_
  refine aT (r:=r) (fun (g:Bool) L w=>L=[(8,P aU 0),(10,.pointer none),(11,P b7 0),(13,P b8 0),(15,P b9 0),(49,N g)]/\SfT [] [] w0 w [Y b9 [N bA.1,bQ],red X bQ bA.2.1,Y b8 [N bw.1,bO],red X bO bw.2.1] [Y aU [Q3,Q3,N false],Y b7 [.pointer none,.pointer none,.pointer none]]) (F.Ms) ?_ ?_
  rotate_left
  ·intro cu
   refine am<|V 3 Z ?_
   cases bS:(!bw.2.2)
   case true=>
    have h:=bD h bS
    try simp only[bS]
    refine V 3 Z<|Q ?_
    replace a:=a.pick (os':=[Y b9 [N bA.1,bQ],U X bQ bA.2.1,Y b8 [N bw.1,bO],U X bO bw.2.1]++[Y b7 [.pointer none,.pointer none,.pointer none],Y aU [Q3,Q3,N false],Y cl [aZ,a3,N bk]]) [0,1,2,3,4,5,6] (by decide) rfl
    obtain⟨dF,dk,z,d,l,a⟩:=z.frzT hTT d l a
    exact aA (cu true _ _ ⟨Z,(SfT.mk' z (d.pick [7,6,5,4] Z) (l.pick [7,6,5,4] Z) (a.d [1,0] Z Z))⟩ h) Z
   case false=>
    have h:=bE h bS
    try simp only[bS]
    refine V 3 Z<|Q ?_
    replace a:=a.pick (os':=[Y b9 [N bA.1,bQ],U X bQ bA.2.1,Y b8 [N bw.1,bO],U X bO bw.2.1]++[Y b7 [.pointer none,.pointer none,.pointer none],Y aU [Q3,Q3,N false],Y cl [aZ,a3,N bk]]) [0,1,2,3,4,5,6] (by decide) rfl
    obtain⟨dG,dl,z,d,l,a⟩:=z.frzT hTT d l a
    exact aA (cu (!bA.2.2) _ _ ⟨Z,(SfT.mk' z (d.pick [7,6,5,4] Z) (l.pick [7,6,5,4] Z) (a.d [1,0] Z Z))⟩ h) Z
  rintro dH L w hJ h
  try dsimp only at hJ
  obtain⟨rfl,⟨dI,dm,z,d,l,a⟩⟩:=hJ
  unfold F.Ms at h
  apply gl9 Z h<;>intro h
  ·refine R<|O (bR (vs:=[]) (cells:=[Q3,Q3,N false]) Z fO K Z) Z<|bo (bq (i:=0) (us:=[Q3,Q3,N false]) Z cF Z Z Z ⟨Z,Z,Z,K⟩ Z a) fun w a=>V 1 Z<|gl8 ?_
   cases h
   replace a:=z.st a
   exact fh Z ⟨_,Z,bP (us:=[Q3,Q3,N false]) u71 Z cF (a.p 0 Z Z)⟩ Z ⟨Q3,Q3,Z,((a.nil X).nil X).d [1,0] Z Z⟩
  refine gl5<|az ?_
  cases h
 | some b=>
  have h:=ku h b6
  rw[b6]at hQ
  obtain⟨bm,aO,aq,aP,au,aQ,aw,p,ae,t,ah,A,J,B,an,C,ap,rfl,bp,cn⟩:=jN hQ
  obtain⟨dJ,dn,z,d,l,a⟩:=z.l d l a bp cn rfl
  refine V 4 Z<|bl (bf (cs:=[.pointer none,.pointer none,.pointer none]) ia Z a) Z fun aN w a=>V 1 Z<|bo (bq (i:=0) (us:=[P A 0,P B 0,P C 0]) Z bV Z Z Z ⟨Z,Z,Z,K⟩ Z a) fun w a=>V 1 Z<|gl1<|az ?_
  refine am<|V 2 Z<|Q ?_
  apply gl9 Z h<;>intro h
  ·refine R<|O (bR (vs:=[]) (cells:=[Q3,Q3,N false]) Z fO K Z) Z<|bo (bq (i:=1) (us:=[Q3,Q3,N false]) Z cF Z Z Z ⟨Z,Z,Z,K⟩ Z a) fun w a=>V 1 Z<|gl8 ?_
   cases h
   replace a:=z.st a
   exact fh Z ⟨_,Z,bP (us:=[Q3,Q3,N false]) u71 Z cF (a.p 1 Z Z)⟩ Z ⟨Q3,Q3,Z,((a.nil X).nil X).d [1,0] Z Z⟩
  refine gl6<|V 1 Z<|M h fun aJ cY h=>bz a Z (gS  cY ((d.rp 0 Z).b a.fr).rp) Z fun aW a6 w a=>V 5 Z<|gl2<|V 1 Z<|M h fun aM c0 h=>bz a Z (gS  c0 ((d.rp 1 Z).b a.fr).rp) Z fun aY a9 w a=>V 5 Z<|gl1 ?_
  refine aT (r:=r) (fun (g:Bool) L w=>L=[(8,P aU 0),(10,P bm 0),(11,P aN 0),(13,P a6 0),(15,P a9 0),(49,N g)]/\SfT [] [] w0 w [Y C [N b.2.2.2.2.2.2.2.2.2.2.2.2.2.2.2.1,ap],red X ap b.2.2.2.2.2.2.2.2.2.2.2.2.2.2.2.2,Y B [N b.2.2.2.2.2.2.2.2.2.2.2.2.2.1,an],red X an b.2.2.2.2.2.2.2.2.2.2.2.2.2.2.1,Y A [N b.2.2.2.2.2.2.2.2.2.2.2.1,J],red X J b.2.2.2.2.2.2.2.2.2.2.2.2.1,Y a9 [N aM.1,aY],red X aY aM.2.1,Y a6 [N aJ.1,aW],red X aW aJ.2.1,Y bm [P aO 0,P aP 0,P aQ 0,P p 0,P t 0,H b.2.2.2.2.2.2.2.2.2.2.1,.func (.func 159) #[] #[]],Y t [N b.2.2.2.2.2.2.2.2.1,ah],red X ah b.2.2.2.2.2.2.2.2.2.1,Y p [N b.2.2.2.2.2.2.1,ae],red X ae b.2.2.2.2.2.2.2.1,Y aQ [N b.2.2.2.2.1,aw],red X aw b.2.2.2.2.2.1,Y aP [N b.2.2.1,au],red X au b.2.2.2.1,Y aO [N b.1,aq],red X aq b.2.1] [Y aU [Q3,Q3,N false],Y aN [P A 0,P B 0,P C 0]]) (F.J9 b aJ aM) ?_ ?_
  rotate_left
  ·intro cv
   refine am<|V 3 Z ?_
   cases bT:(!aJ.2.2)
   case true=>
    have h:=bD h bT
    try simp only[bT]
    refine V 3 Z<|Q ?_
    replace a:=a.pick (os':=[Y a9 [N aM.1,aY],U X aY aM.2.1,Y a6 [N aJ.1,aW],U X aW aJ.2.1]++[Y aN [P A 0,P B 0,P C 0],Y aU [Q3,Q3,N false],Y cl [aZ,a3,N bk]]) [0,1,2,3,4,5,6] (by decide) rfl
    obtain⟨dK,dq,z,d,l,a⟩:=z.frzT hTT d l a
    exact aA (cv true _ _ ⟨Z,(SfT.mk' z (d.pick [20,19,18,17,16,15,24,23,22,21,14,13,12,11,10,9,8,7,6,5,4] Z) (l.pick [20,19,18,17,16,15,24,23,22,21,14,13,12,11,10,9,8,7,6,5,4] Z) (a.d [1,0] Z Z))⟩ h) Z
   case false=>
    have h:=bE h bT
    try simp only[bT]
    refine V 3 Z<|Q ?_
    replace a:=a.pick (os':=[Y a9 [N aM.1,aY],U X aY aM.2.1,Y a6 [N aJ.1,aW],U X aW aJ.2.1]++[Y aN [P A 0,P B 0,P C 0],Y aU [Q3,Q3,N false],Y cl [aZ,a3,N bk]]) [0,1,2,3,4,5,6] (by decide) rfl
    obtain⟨dL,dr,z,d,l,a⟩:=z.frzT hTT d l a
    exact aA (cv (!aM.2.2) _ _ ⟨Z,(SfT.mk' z (d.pick [20,19,18,17,16,15,24,23,22,21,14,13,12,11,10,9,8,7,6,5,4] Z) (l.pick [20,19,18,17,16,15,24,23,22,21,14,13,12,11,10,9,8,7,6,5,4] Z) (a.d [1,0] Z Z))⟩ h) Z
  rintro dM L w hJ h
  try dsimp only at hJ
  obtain⟨rfl,⟨dN,ds,z,d,l,a⟩⟩:=hJ
  unfold F.J9 at h
  apply gl9 Z h<;>intro h
  ·refine R<|O (bR (vs:=[]) (cells:=[Q3,Q3,N false]) Z fO K Z) Z<|bo (bq (i:=0) (us:=[Q3,Q3,N false]) Z cF Z Z Z ⟨Z,Z,Z,K⟩ Z a) fun w a=>V 1 Z<|gl8 ?_
   cases h
   replace a:=z.st a
   exact fh Z ⟨_,Z,bP (us:=[Q3,Q3,N false]) u71 Z cF (a.p 0 Z Z)⟩ Z ⟨Q3,Q3,Z,((a.nil X).nil X).d [1,0] Z Z⟩
  refine gl5<|az<|M h fun G c1 h=>gq (es:=[Y C [N b.2.2.2.2.2.2.2.2.2.2.2.2.2.2.2.1,ap],red X ap b.2.2.2.2.2.2.2.2.2.2.2.2.2.2.2.2,Y B [N b.2.2.2.2.2.2.2.2.2.2.2.2.2.1,an],red X an b.2.2.2.2.2.2.2.2.2.2.2.2.2.2.1,Y A [N b.2.2.2.2.2.2.2.2.2.2.2.1,J],red X J b.2.2.2.2.2.2.2.2.2.2.2.2.1,Y a9 [N aM.1,aY],red X aY aM.2.1,Y a6 [N aJ.1,aW],red X aW aJ.2.1,Y bm [P aO 0,P aP 0,P aQ 0,P p 0,P t 0,H b.2.2.2.2.2.2.2.2.2.2.1,.func (.func 159) #[] #[]],Y t [N b.2.2.2.2.2.2.2.2.1,ah],red X ah b.2.2.2.2.2.2.2.2.2.1,Y p [N b.2.2.2.2.2.2.1,ae],red X ae b.2.2.2.2.2.2.2.1,Y aQ [N b.2.2.2.2.1,aw],red X aw b.2.2.2.2.2.1,Y aP [N b.2.2.1,au],red X au b.2.2.2.1,Y aO [N b.1,aq],red X aq b.2.1]) (os:=[Y aU [Q3,Q3,N false],Y aN [P A 0,P B 0,P C 0]]) (fun i=>[8,10,11].contains i) (fun i=>if i=8 then some 11 else if i=10 then some 11 else none) (fun i=>[]) (fun i=>[]) (fun i=>[]) (fun i=>if i=11 then [8,10] else []) (fun i=>if i=8 then (fun h v x y=>∃u:Nat,∃D:Value,v=P u 0/\x=[Y u [N G.1,D],U X D G.2]/\y=[]) else if i=10 then (fun h v x y=>∃E:Nat,v=P E 0/\x=[Y E [.pointer none,.pointer none,.pointer none]]/\y=[]) else (fun h v x y=>∃u:Nat,∃D:Value,∃E:Nat,h=[(P u 0,[Y u [N G.1,D],U X D G.2],[]),(P E 0,[Y E [.pointer none,.pointer none,.pointer none]],[])]/\v=undef/\x=[Y u [N G.1,D],U X D G.2,Y E [P p 0,P t 0,P u 0]]/\y=[])) (SfT.mk' z d l a) (fun k hk=>rfl) hTT rfl (fun i=>(dp (by rintro h v x y ⟨_,_,rfl,rfl,rfl⟩; exact cy rfl) (dp (by rintro h v x y ⟨_,rfl,rfl,rfl⟩; exact cy rfl) (by rintro h v x y ⟨_,_,_,_,rfl,rfl,rfl⟩; exact cy rfl)))) bL (by kernel_rfl) (by kernel_rfl) ?_
  show fo _ _ _ _ _ _ _ _ _ _ _ _ _ _ _ _ [0,1,2,3,4,5,6,7,8,9,10,11] _ _
  refine eE 1 Z<|cH Z Z (fun w Sb wb z d l hF=>aL Z) Z<|cH Z Z (fun w Sb wb z d l hF=>ak (k:=3) u127 Z Z cG Z) Z<|cH Z Z (fun w Sb wb z d l hF=>ao u124 Z Z ((d.rb 10 Z).cell hF.fr 3 Z)) Z<|eE 1 Z<|cH Z Z (fun w Sb wb z d l hF=>aL Z) Z<|cH Z Z (fun w Sb wb z d l hF=>ak (k:=4) u127 Z Z cG Z) Z<|cH Z Z (fun w Sb wb z d l hF=>ao u124 Z Z ((d.rb 10 Z).cell hF.fr 4 Z)) Z ?_
  refine iH (fun h v x y=>∃u:Nat,∃D:Value,v=P u 0/\x=[Y u [N G.1,D],U X D G.2]/\y=[]) [] [] [] _ Z Z (fun h v x y=>Z) Z Z Z Z ⟨_,_,_,0,undef,Z,Z,Z⟩ (by kernel_rfl) Z (fun w Sl Tl z hTT d l a=>?_) Z ?_
  ·refine cT (cZ 1 c1 ) ?_
   rintro _ w ⟨D,u,rfl,bp⟩
   have a:=a.e bp
   exact⟨_,_,⟨u,D,Z,Z,Z⟩,SfT.mk' z Rds.nil Off.nil a⟩
  rintro v_q x_q y_q ⟨u,D,rfl,rfl,rfl⟩
  refine cH Z Z (fun w Sb wb z d l hF=>bR (vs:=[(0,P p 0,[P p 0]),(1,P t 0,[P t 0]),(2,P u 0,[P u 0])]) (cells:=[P p 0,P t 0,P u 0]) Z mo ⟨Z,Z,Z,K⟩ Z) Z ?_
  refine gF (fun h v x y=>∃E:Nat,v=P E 0/\x=[Y E [.pointer none,.pointer none,.pointer none]]/\y=[]) [] [] [] _ Z Z (fun h v x y=>Z) Z Z Z Z ⟨_,_,_,0,Z,Z,Z⟩ (fun w Sl Tl z hTT d l a=>?_) Z ?_
  ·refine lY (bf (cs:=[.pointer none,.pointer none,.pointer none]) ia Z a) ?_
   rintro _ w ⟨E,rfl,a⟩
   exact⟨_,_,⟨E,Z,Z,Z⟩,SfT.mk' z Rds.nil Off.nil a⟩
  rintro v_q x_q y_q ⟨E,rfl,rfl,rfl⟩
  refine n7 (fun h v x y=>∃u:Nat,∃D:Value,∃E:Nat,h=[(P u 0,[Y u [N G.1,D],U X D G.2],[]),(P E 0,[Y E [.pointer none,.pointer none,.pointer none]],[])]/\v=undef/\x=[Y u [N G.1,D],U X D G.2,Y E [P p 0,P t 0,P u 0]]/\y=[]) [(P u 0,[Y u [N G.1,D],U X D G.2],[]),(P E 0,[Y E [.pointer none,.pointer none,.pointer none]],[])] [Y u [N G.1,D],U X D G.2,Y E [.pointer none,.pointer none,.pointer none]] [] _ Z Z (fun h v x y=>Z) Z Z Z Z ⟨_,_,_,u,D,E,Z,Z,Z,Z⟩ (fun w Sl Tl z hTT d l a=>?_) ?_
  ·refine mr (bq (i:=2) (us:=[P p 0,P t 0,P u 0]) Z bV Z Z Z ⟨Z,Z,Z,K⟩ Z a) ?_
   intro w a
   exact⟨_,_,⟨u,D,E,Z,Z,Z,Z⟩,SfT.mk' z Rds.nil Off.nil a⟩
  rintro v_q x_q y_q ⟨b_60',v_58',b_62',hh,rfl,rfl,rfl⟩
  replace hh:([(P u 0,[Y u [N G.1,D],U X D G.2],[]),(P E 0,[Y E [.pointer none,.pointer none,.pointer none]],[])]:List Th)=[(P b_60' 0,[Y b_60' [N G.1,v_58'],U X v_58' G.2],[]),(P b_62' 0,[Y b_62' [.pointer none,.pointer none,.pointer none]],[])]:=hh
  cases hh
  refine jm fun w hQ=>?_
  obtain⟨dO,dt,z,d,l,a⟩:=hQ
  refine al<|R<|V 1 Z<|O (bX (us:=[P p 0,P t 0,P u 0]) u136 Z bV Z (a.p 2 Z Z)) Z<|O (bX (us:=[P A 0,P B 0,P C 0]) u136 Z bV Z (a.p 4 Z Z)) Z ?_
  replace a:=a.pick (os':=[Y u [N G.1,D],U X D G.2]++[Y E [P p 0,P t 0,P u 0],Y aU [Q3,Q3,N false],Y aN [P A 0,P B 0,P C 0]]) [0,1,2,3,4] (by decide) rfl
  obtain⟨z,d,l,a⟩:=z.frzK hTT d l a
  refine M h fun T c2 h=>aK Z (ke b.1 b.2.2.1 b.2.2.2.2.1 b.2.2.2.2.2.2.1 b.2.2.2.2.2.2.2.2.1 b.2.2.2.2.2.2.2.2.2.2.1 b.2.2.2.2.2.2.1 b.2.2.2.2.2.2.2.2.1 G.1 b.2.2.2.2.2.2.2.2.2.2.2.1 b.2.2.2.2.2.2.2.2.2.2.2.2.2.1 b.2.2.2.2.2.2.2.2.2.2.2.2.2.2.2.1 c2 (z.okT hTT a) (d.i l 0 Z) (d.j l 1 Z) (d.i l 2 Z) (d.j l 3 Z) (d.i l 4 Z) (d.j l 5 Z) (d.i l 6 Z) (d.j l 7 Z) (d.i l 8 Z) (d.j l 9 Z) (d.j l 10 Z) (d.i l 6 Z) (d.j l 7 Z) (d.i l 8 Z) (d.j l 9 Z) (d.i l 21 Z) (d.j l 22 Z) (d.i l 15 Z) (d.j l 16 Z) (d.i l 17 Z) (d.j l 18 Z) (d.i l 19 Z) (d.j l 20 Z)) Z ?_
  rintro _ w ⟨ab,aC,ac,aD,ad,aG,rfl,bp,cn⟩
  obtain⟨dP,du,z,d,l,a⟩:=z.l d l a bp cn rfl
  refine bl (bf (cs:=[.pointer none,.pointer none,.pointer none]) ia Z a) Z fun ba w a=>bo (bq (i:=0) (us:=[P ab 0,P ac 0,P ad 0]) Z bV Z Z Z ⟨Z,Z,Z,K⟩ Z a) fun w a=>gl1 ?_
  refine am<|M h fun bb c3 h=>aK Z (ge  c3 ) Z ?_
  rintro _ w ⟨cq,cr,ct,ca,cb,cc,rfl,bp⟩
  have a:=a.e bp
  refine bl (bf (cs:=[.pointer none,.pointer none,.pointer none]) ia Z a) Z fun a5 w a=>bo (bq (i:=0) (us:=[P ca 0,P cb 0,P cc 0]) Z bV Z Z Z ⟨Z,Z,Z,K⟩ Z a) fun w a=>gl1<|az ?_
  refine am<|V 1 Z<|M h fun cL c4 h=>aR a Z (ja aJ.1 c4 ((d.rp 11 Z).b a.fr).rp ((d.rb 12 Z).b a.fr)) Z fun w a=>V 1 Z<|M h fun cM c5 h=>aR a Z (ja aM.1 c5 ((d.rp 13 Z).b a.fr).rp ((d.rb 14 Z).b a.fr)) Z fun w a=>O (xz Z Z) Z<|V 2 Z<|Q<|av ?_
  replace a:=a.pick (os':=[Y ca [N bb.1,cq],U X cq bb.2.1,Y cb [N bb.2.2.1,cr],U X cr bb.2.2.2.1,Y cc [N bb.2.2.2.2.1,ct],U X ct bb.2.2.2.2.2]++[Y a5 [P ca 0,P cb 0,P cc 0],Y ba [P ab 0,P ac 0,P ad 0],Y E [P p 0,P t 0,P u 0],Y aU [Q3,Q3,N false],Y aN [P A 0,P B 0,P C 0]]) [1,2,3,4,5,6,0,7,8,9,10] (by decide) rfl
  obtain⟨dQ,dv,z,d,l,a⟩:=z.frzT hTT d l a
  refine ay [(8,P aU 0),(10,P bm 0),(11,P aN 0),(13,P a6 0),(15,P a9 0),(17,P E 0),(18,P ba 0),(19,P a5 0),(20,H (wI ((max cL cM) - 1)))] Z ?_
  refine bg (F.Ik b aJ aM G T) (fun (s:Int×Bool×Q0×Bool×Q0×Bool×Q0) L w=>∃(aV:Nat) (bs:Value) (aH:Nat) (bc:Value) (aI:Nat) (bd:Value),L=[(8,P aU 0),(10,P bm 0),(11,P aN 0),(13,P a6 0),(15,P a9 0),(17,P E 0),(18,P ba 0),(19,P a5 0),(20,H s.1)]/\SfT [] [] w0 w [Y aI [N s.2.2.2.2.2.1,bd],red X bd s.2.2.2.2.2.2,Y aH [N s.2.2.2.1,bc],red X bc s.2.2.2.2.1,Y aV [N s.2.1,bs],red X bs s.2.2.1,Y ad [N T.2.2.2.2.1,aG],red X aG T.2.2.2.2.2,Y ac [N T.2.2.1,aD],red X aD T.2.2.2.1,Y ab [N T.1,aC],red X aC T.2.1,Y u [N G.1,D],red X D G.2,Y C [N b.2.2.2.2.2.2.2.2.2.2.2.2.2.2.2.1,ap],red X ap b.2.2.2.2.2.2.2.2.2.2.2.2.2.2.2.2,Y B [N b.2.2.2.2.2.2.2.2.2.2.2.2.2.1,an],red X an b.2.2.2.2.2.2.2.2.2.2.2.2.2.2.1,Y A [N b.2.2.2.2.2.2.2.2.2.2.2.1,J],red X J b.2.2.2.2.2.2.2.2.2.2.2.2.1,Y a9 [N aM.1,aY],red X aY aM.2.1,Y a6 [N aJ.1,aW],red X aW aJ.2.1,Y bm [P aO 0,P aP 0,P aQ 0,P p 0,P t 0,H b.2.2.2.2.2.2.2.2.2.2.1,.func (.func 159) #[] #[]],Y t [N b.2.2.2.2.2.2.2.2.1,ah],red X ah b.2.2.2.2.2.2.2.2.2.1,Y p [N b.2.2.2.2.2.2.1,ae],red X ae b.2.2.2.2.2.2.2.1,Y aQ [N b.2.2.2.2.1,aw],red X aw b.2.2.2.2.2.1,Y aP [N b.2.2.1,au],red X au b.2.2.2.1,Y aO [N b.1,aq],red X aq b.2.1] [Y aU [Q3,Q3,N false],Y aN [P A 0,P B 0,P C 0],Y E [P p 0,P t 0,P u 0],Y ba [P ab 0,P ac 0,P ad 0],Y a5 [P aV 0,P aH 0,P aI 0]]) ?_ (wI ((max cL cM) - 1),bb.1,bb.2.1,bb.2.2.1,bb.2.2.2.1,bb.2.2.2.2.1,bb.2.2.2.2.2) ⟨ca,cq,cb,cr,cc,ct,Z,(SfT.mk' z (d.pick [30,29,32,31,34,33,28,27,26,25,24,23,22,21,20,19,18,17,16,15,14,13,12,11,10,9,8,7,6,5,4,3,2,1,0] Z) (l.pick [30,29,32,31,34,33,28,27,26,25,24,23,22,21,20,19,18,17,16,15,14,13,12,11,10,9,8,7,6,5,4,3,2,1,0] Z) (a.d [3,4,2,1,0] Z Z))⟩ h
  rintro dw ⟨bB,bC,b1,bt,bG,bu,bH⟩ L w cw hI cN h co
  try dsimp only at hI
  obtain⟨aV,bs,aH,bc,aI,bd,rfl,⟨dR,dx,z,d,l,a⟩⟩:=hI
  unfold F.Ik at h
  refine az<|R<|V 2 Z<|Q ?_
  apply gl9 Z h<;>intro h
  ·refine gl5<|az<|av<|R<|O (bX (us:=[P p 0,P t 0,P u 0]) u136 Z bV Z (a.p 2 Z Z)) Z<|bl (bf (cs:=[.pointer none,.pointer none,.pointer none]) ia Z a) Z fun be w a=>bo (bq (i:=0) (us:=[P p 0,P t 0,P u 0]) Z bV Z Z Z ⟨Z,Z,Z,K⟩ Z a) fun w a=>Q ?_
   refine aT (r:=cw) (fun (g:Bool×Q0×Bool×Q0×Bool×Q0) L w=>∃(bh:Nat) (bI:Value) (bi:Nat) (bJ:Value) (bj:Nat) (bK:Value),L=[(8,P aU 0),(10,P bm 0),(11,P aN 0),(13,P a6 0),(15,P a9 0),(17,P E 0),(18,P ba 0),(19,P a5 0),(20,H bB),(21,P be 0)]/\SfT [] [] w0 w [Y bj [N g.2.2.2.2.1,bK],red X bK g.2.2.2.2.2,Y bi [N g.2.2.1,bJ],red X bJ g.2.2.2.1,Y bh [N g.1,bI],red X bI g.2.1,Y aI [N bu,bd],red X bd bH,Y aH [N bt,bc],red X bc bG,Y aV [N bC,bs],red X bs b1,Y ad [N T.2.2.2.2.1,aG],red X aG T.2.2.2.2.2,Y ac [N T.2.2.1,aD],red X aD T.2.2.2.1,Y ab [N T.1,aC],red X aC T.2.1,Y u [N G.1,D],red X D G.2,Y C [N b.2.2.2.2.2.2.2.2.2.2.2.2.2.2.2.1,ap],red X ap b.2.2.2.2.2.2.2.2.2.2.2.2.2.2.2.2,Y B [N b.2.2.2.2.2.2.2.2.2.2.2.2.2.1,an],red X an b.2.2.2.2.2.2.2.2.2.2.2.2.2.2.1,Y A [N b.2.2.2.2.2.2.2.2.2.2.2.1,J],red X J b.2.2.2.2.2.2.2.2.2.2.2.2.1,Y a9 [N aM.1,aY],red X aY aM.2.1,Y a6 [N aJ.1,aW],red X aW aJ.2.1,Y bm [P aO 0,P aP 0,P aQ 0,P p 0,P t 0,H b.2.2.2.2.2.2.2.2.2.2.1,.func (.func 159) #[] #[]],Y t [N b.2.2.2.2.2.2.2.2.1,ah],red X ah b.2.2.2.2.2.2.2.2.2.1,Y p [N b.2.2.2.2.2.2.1,ae],red X ae b.2.2.2.2.2.2.2.1,Y aQ [N b.2.2.2.2.1,aw],red X aw b.2.2.2.2.2.1,Y aP [N b.2.2.1,au],red X au b.2.2.2.1,Y aO [N b.1,aq],red X aq b.2.1] [Y aU [Q3,Q3,N false],Y aN [P A 0,P B 0,P C 0],Y E [P p 0,P t 0,P u 0],Y ba [P ab 0,P ac 0,P ad 0],Y a5 [P aV 0,P aH 0,P aI 0],Y be [P bh 0,P bi 0,P bj 0]]) (F.Hm b bB bC b1 bt bG bu bH) ?_ ?_
   rotate_left
   ·intro bM
    refine R<|V 2 Z<|M h fun cx cO h=>aR a Z (ky aJ.1 bB cO ((d.rp 11 Z).b a.fr).rp ((d.rb 12 Z).b a.fr)) Z fun w a=>O (aj Z Z (mb _ cx 1)) Z<|V 2 Z<|M h fun bU cP h=>aR a Z (ky aM.1 bB cP ((d.rp 13 Z).b a.fr).rp ((d.rb 14 Z).b a.fr)) Z fun w a=>O (aj Z Z (mb _ bU 1)) Z<|V 2 Z<|Q<|av ?_
    refine aT (r:=cw) (fun (g:Bool×Bool) L w=>L=[(8,P aU 0),(10,P bm 0),(11,P aN 0),(13,P a6 0),(15,P a9 0),(17,P E 0),(18,P ba 0),(19,P a5 0),(20,H bB),(21,P be 0),(22,N g.1),(23,N (bU == 1)),(85,N g.2)]/\SfT [] [] w0 w [Y aI [N bu,bd],red X bd bH,Y aH [N bt,bc],red X bc bG,Y aV [N bC,bs],red X bs b1,Y ad [N T.2.2.2.2.1,aG],red X aG T.2.2.2.2.2,Y ac [N T.2.2.1,aD],red X aD T.2.2.2.1,Y ab [N T.1,aC],red X aC T.2.1,Y u [N G.1,D],red X D G.2,Y C [N b.2.2.2.2.2.2.2.2.2.2.2.2.2.2.2.1,ap],red X ap b.2.2.2.2.2.2.2.2.2.2.2.2.2.2.2.2,Y B [N b.2.2.2.2.2.2.2.2.2.2.2.2.2.1,an],red X an b.2.2.2.2.2.2.2.2.2.2.2.2.2.2.1,Y A [N b.2.2.2.2.2.2.2.2.2.2.2.1,J],red X J b.2.2.2.2.2.2.2.2.2.2.2.2.1,Y a9 [N aM.1,aY],red X aY aM.2.1,Y a6 [N aJ.1,aW],red X aW aJ.2.1,Y bm [P aO 0,P aP 0,P aQ 0,P p 0,P t 0,H b.2.2.2.2.2.2.2.2.2.2.1,.func (.func 159) #[] #[]],Y t [N b.2.2.2.2.2.2.2.2.1,ah],red X ah b.2.2.2.2.2.2.2.2.2.1,Y p [N b.2.2.2.2.2.2.1,ae],red X ae b.2.2.2.2.2.2.2.1,Y aQ [N b.2.2.2.2.1,aw],red X aw b.2.2.2.2.2.1,Y aP [N b.2.2.1,au],red X au b.2.2.2.1,Y aO [N b.1,aq],red X aq b.2.1] [Y aU [Q3,Q3,N false],Y aN [P A 0,P B 0,P C 0],Y E [P p 0,P t 0,P u 0],Y ba [P ab 0,P ac 0,P ad 0],Y a5 [P aV 0,P aH 0,P aI 0],Y be [P p 0,P t 0,P u 0]]) (F.K5 b G T bU bB bC b1 bt bG bu bH) ?_ ?_
    rotate_left
    ·intro cp
     refine am<|V 2 Z ?_
     cases bN:(cx == 1)
     case true=>
      have h:=bD h bN
      try simp only[bN]
      exact V 3 Z<|Q<|aA (cp (true,bU == 1) _ _ ⟨Z,(SfT.mk' z (d.pick [34,33,32,31,30,29,28,27,26,25,24,23,22,21,20,19,18,17,16,15,14,13,12,11,10,9,8,7,6,5,4,3,2,1,0] Z) (l.pick [34,33,32,31,30,29,28,27,26,25,24,23,22,21,20,19,18,17,16,15,14,13,12,11,10,9,8,7,6,5,4,3,2,1,0] Z) (a.d [1,2,3,4,5,0] Z Z))⟩ h) Z
     case false=>
      have h:=bE h bN
      try simp only[bN]
      exact V 3 Z<|Q<|aA (cp (false,false) _ _ ⟨Z,(SfT.mk' z (d.pick [34,33,32,31,30,29,28,27,26,25,24,23,22,21,20,19,18,17,16,15,14,13,12,11,10,9,8,7,6,5,4,3,2,1,0] Z) (l.pick [34,33,32,31,30,29,28,27,26,25,24,23,22,21,20,19,18,17,16,15,14,13,12,11,10,9,8,7,6,5,4,3,2,1,0] Z) (a.d [1,2,3,4,5,0] Z Z))⟩ h) Z
    rintro⟨dy,dz⟩ L w hJ h
    try dsimp only at hJ
    obtain⟨rfl,⟨dA,de,z,d,l,a⟩⟩:=hJ
    unfold F.K5 at h
    apply gl9 Z h<;>intro h
    ·refine am<|O (bX (us:=[P ab 0,P ac 0,P ad 0]) u136 Z bV Z (a.p 3 Z Z)) Z<|bo (bq (i:=5) (us:=[P ab 0,P ac 0,P ad 0]) Z bV Z Z Z ⟨Z,Z,Z,K⟩ Z a) fun w a=>aE<|aF<|al ?_
     exact aA (bM (T.1,T.2.1,T.2.2.1,T.2.2.2.1,T.2.2.2.2.1,T.2.2.2.2.2) _ _ ⟨ab,aC,ac,aD,ad,aG,Z,(SfT.mk' z (d.pick [28,27,26,25,24,23,34,33,32,31,30,29,28,27,26,25,24,23,22,21,20,19,18,17,16,15,14,13,12,11,10,9,8,7,6,5,4,3,2,1,0] Z) (l.pick [28,27,26,25,24,23,34,33,32,31,30,29,28,27,26,25,24,23,22,21,20,19,18,17,16,15,14,13,12,11,10,9,8,7,6,5,4,3,2,1,0] Z) a)⟩ h) Z
    refine R<|V 2 Z<|Q ?_
    apply gl9 Z h<;>intro h
    ·refine am<|O (bX (us:=[P A 0,P B 0,P C 0]) u136 Z bV Z (a.p 1 Z Z)) Z<|bo (bq (i:=5) (us:=[P A 0,P B 0,P C 0]) Z bV Z Z Z ⟨Z,Z,Z,K⟩ Z a) fun w a=>aE<|aF<|al ?_
     exact aA (bM (b.2.2.2.2.2.2.2.2.2.2.2.1,b.2.2.2.2.2.2.2.2.2.2.2.2.1,b.2.2.2.2.2.2.2.2.2.2.2.2.2.1,b.2.2.2.2.2.2.2.2.2.2.2.2.2.2.1,b.2.2.2.2.2.2.2.2.2.2.2.2.2.2.2.1,b.2.2.2.2.2.2.2.2.2.2.2.2.2.2.2.2) _ _ ⟨A,J,B,an,C,ap,Z,(SfT.mk' z (d.pick [20,19,18,17,16,15,34,33,32,31,30,29,28,27,26,25,24,23,22,21,20,19,18,17,16,15,14,13,12,11,10,9,8,7,6,5,4,3,2,1,0] Z) (l.pick [20,19,18,17,16,15,34,33,32,31,30,29,28,27,26,25,24,23,22,21,20,19,18,17,16,15,14,13,12,11,10,9,8,7,6,5,4,3,2,1,0] Z) a)⟩ h) Z
    refine R<|V 3 Z<|Q ?_
    apply gl9 Z h<;>intro h
    ·refine am<|M h fun a4 cQ h=>aK Z (ge  cQ ) Z ?_
     rintro _ w ⟨cd,ce,cf,bW,bY,bZ,rfl,bp⟩
     have a:=a.e bp
     refine bo (bq (i:=11) (us:=[P bW 0,P bY 0,P bZ 0]) Z bV Z Z Z ⟨Z,Z,Z,K⟩ Z a) fun w a=>aE<|aF<|al ?_
     replace a:=a.pick (os':=[Y bW [N a4.1,cd],U X cd a4.2.1,Y bY [N a4.2.2.1,ce],U X ce a4.2.2.2.1,Y bZ [N a4.2.2.2.2.1,cf],U X cf a4.2.2.2.2.2]++[Y aU [Q3,Q3,N false],Y aN [P A 0,P B 0,P C 0],Y E [P p 0,P t 0,P u 0],Y ba [P ab 0,P ac 0,P ad 0],Y a5 [P aV 0,P aH 0,P aI 0],Y be [P bW 0,P bY 0,P bZ 0]]) [0,1,2,3,4,5,6,7,8,9,10,11] (by decide) rfl
     obtain⟨dB,df,z,d,l,a⟩:=z.frzT hTT d l a
     exact aA (bM (a4.1,a4.2.1,a4.2.2.1,a4.2.2.2.1,a4.2.2.2.2.1,a4.2.2.2.2.2) _ _ ⟨bW,cd,bY,ce,bZ,cf,Z,(SfT.mk' z (d.pick [36,35,38,37,40,39,34,33,32,31,30,29,28,27,26,25,24,23,22,21,20,19,18,17,16,15,14,13,12,11,10,9,8,7,6,5,4,3,2,1,0] Z) (l.pick [36,35,38,37,40,39,34,33,32,31,30,29,28,27,26,25,24,23,22,21,20,19,18,17,16,15,14,13,12,11,10,9,8,7,6,5,4,3,2,1,0] Z) a)⟩ h) Z
    exact cg<|aF<|al<|aA (bM (b.2.2.2.2.2.2.1,b.2.2.2.2.2.2.2.1,b.2.2.2.2.2.2.2.2.1,b.2.2.2.2.2.2.2.2.2.1,G.1,G.2) _ _ ⟨p,ae,t,ah,u,D,Z,(SfT.mk' z (d.pick [22,21,9,8,7,6,34,33,32,31,30,29,28,27,26,25,24,23,22,21,20,19,18,17,16,15,14,13,12,11,10,9,8,7,6,5,4,3,2,1,0] Z) (l.pick [22,21,9,8,7,6,34,33,32,31,30,29,28,27,26,25,24,23,22,21,20,19,18,17,16,15,14,13,12,11,10,9,8,7,6,5,4,3,2,1,0] Z) a)⟩ h) Z
   rintro⟨cA,c6,cB,c7,cC,c8⟩ L w hJ h
   try dsimp only at hJ
   obtain⟨bh,bI,bi,bJ,bj,bK,rfl,⟨dC,dg,z,d,l,a⟩⟩:=hJ
   unfold F.Hm at h
   refine M h fun c cR h=>gq (es:=[Y bj [N cC,bK],red X bK c8,Y bi [N cB,bJ],red X bJ c7,Y bh [N cA,bI],red X bI c6,Y aI [N bu,bd],red X bd bH,Y aH [N bt,bc],red X bc bG,Y aV [N bC,bs],red X bs b1,Y ad [N T.2.2.2.2.1,aG],red X aG T.2.2.2.2.2,Y ac [N T.2.2.1,aD],red X aD T.2.2.2.1,Y ab [N T.1,aC],red X aC T.2.1,Y u [N G.1,D],red X D G.2,Y C [N b.2.2.2.2.2.2.2.2.2.2.2.2.2.2.2.1,ap],red X ap b.2.2.2.2.2.2.2.2.2.2.2.2.2.2.2.2,Y B [N b.2.2.2.2.2.2.2.2.2.2.2.2.2.1,an],red X an b.2.2.2.2.2.2.2.2.2.2.2.2.2.2.1,Y A [N b.2.2.2.2.2.2.2.2.2.2.2.1,J],red X J b.2.2.2.2.2.2.2.2.2.2.2.2.1,Y a9 [N aM.1,aY],red X aY aM.2.1,Y a6 [N aJ.1,aW],red X aW aJ.2.1,Y bm [P aO 0,P aP 0,P aQ 0,P p 0,P t 0,H b.2.2.2.2.2.2.2.2.2.2.1,.func (.func 159) #[] #[]],Y t [N b.2.2.2.2.2.2.2.2.1,ah],red X ah b.2.2.2.2.2.2.2.2.2.1,Y p [N b.2.2.2.2.2.2.1,ae],red X ae b.2.2.2.2.2.2.2.1,Y aQ [N b.2.2.2.2.1,aw],red X aw b.2.2.2.2.2.1,Y aP [N b.2.2.1,au],red X au b.2.2.2.1,Y aO [N b.1,aq],red X aq b.2.1]) (os:=[Y aU [Q3,Q3,N false],Y aN [P A 0,P B 0,P C 0],Y E [P p 0,P t 0,P u 0],Y ba [P ab 0,P ac 0,P ad 0],Y be [P bh 0,P bi 0,P bj 0]]) (fun i=>[5,7,8].contains i) (fun i=>none) (fun i=>if i=8 then [7] else []) (fun i=>if i=8 then [Y a5 [P aV 0,P aH 0,P aI 0]] else []) (fun i=>if i=5 then [8] else []) (fun i=>if i=8 then [7] else []) (fun i=>if i=5 then (fun h v x y=>v=.agg #[P aV 0,P aH 0,P aI 0]/\x=[]/\y=[]) else if i=7 then (fun h v x y=>∃m:Nat,∃n:Nat,∃o:Nat,∃e:Value,∃f:Value,∃j:Value,v=.agg #[P m 0,P n 0,P o 0]/\x=[]/\y=[red X e c.2.1,Y m [N c.1,e],red X f c.2.2.2.1,Y n [N c.2.2.1,f],red X j c.2.2.2.2.2,Y o [N c.2.2.2.2.1,j]]) else (fun h v x y=>∃m:Nat,∃n:Nat,∃o:Nat,∃e:Value,∃f:Value,∃j:Value,h=[(.agg #[P m 0,P n 0,P o 0],[],[red X e c.2.1,Y m [N c.1,e],red X f c.2.2.2.1,Y n [N c.2.2.1,f],red X j c.2.2.2.2.2,Y o [N c.2.2.2.2.1,j]])]/\v=undef/\x=[Y a5 [P m 0,P n 0,P o 0]]/\y=[red X e c.2.1,Y m [N c.1,e],red X f c.2.2.2.1,Y n [N c.2.2.1,f],red X j c.2.2.2.2.2,Y o [N c.2.2.2.2.1,j]])) (SfT.mk' z d l (a.pick (os':=[Y a5 [P aV 0,P aH 0,P aI 0],Y aU [Q3,Q3,N false],Y aN [P A 0,P B 0,P C 0],Y E [P p 0,P t 0,P u 0],Y ba [P ab 0,P ac 0,P ad 0],Y be [P bh 0,P bi 0,P bj 0]]) [4,0,1,2,3,5] (by decide) rfl)) (fun k hk=>(if_neg (fun q=>by subst q; exact absurd hk (by decide)))) hTT rfl (fun i=>(dp (by rintro h v x y ⟨rfl,rfl,rfl⟩; exact cy rfl) (dp (by rintro h v x y ⟨_,_,_,_,_,_,rfl,rfl,rfl⟩; exact cy rfl) (by rintro h v x y ⟨_,_,_,_,_,_,_,rfl,rfl,rfl⟩; exact cy rfl)))) bL (by kernel_rfl) (by kernel_rfl) ?_
   show fo _ _ _ _ _ _ _ _ _ _ _ _ _ _ _ _ [0,1,2,3,4,5,6,7,8] _ _
   refine eE 1 Z<|cH Z Z (fun w Sb wb z d l hF=>aL Z) Z<|cH Z Z (fun w Sb wb z d l hF=>ak (k:=6) u127 Z Z FQ Z) Z<|cH Z Z (fun w Sb wb z d l hF=>ao Tryz.underlying125 Z Z ((d.rb 10 Z).cell hF.fr 6 Z)) Z<|eE 1 Z ?_
   refine gF (fun h v x y=>v=.agg #[P aV 0,P aH 0,P aI 0]/\x=[]/\y=[]) [] [] [] [Y a5 [P aV 0,P aH 0,P aI 0],Y aU [Q3,Q3,N false],Y aN [P A 0,P B 0,P C 0],Y E [P p 0,P t 0,P u 0],Y ba [P ab 0,P ac 0,P ad 0],Y be [P bh 0,P bi 0,P bj 0]] Z Z (fun h v x y=>Z) Z Z Z Z ⟨_,_,_,Z,Z,Z⟩ (fun w Sl Tl z hTT d l a=>?_) Z ?_
   ·exact yt (bX (us:=[P aV 0,P aH 0,P aI 0]) u136 Z bV Z (a.p 0 Z Z)) ⟨_,_,⟨Z,Z,Z⟩,SfT.mk' z Rds.nil Off.nil a⟩
   rintro v_q x_q y_q ⟨rfl,rfl,rfl⟩
   refine cH Z Z (fun w Sb wb z d l hF=>bX (us:=[P bh 0,P bi 0,P bj 0]) u136 Z bV Z (hF.p 4 Z Z)) Z ?_
   refine yE (fun h v x y=>∃m:Nat,∃n:Nat,∃o:Nat,∃e:Value,∃f:Value,∃j:Value,v=.agg #[P m 0,P n 0,P o 0]/\x=[]/\y=[red X e c.2.1,Y m [N c.1,e],red X f c.2.2.2.1,Y n [N c.2.2.1,f],red X j c.2.2.2.2.2,Y o [N c.2.2.2.2.1,j]]) [] [] [] _ Z Z (fun h v x y=>Z) Z Z Z Z ⟨_,_,_,0,0,0,undef,undef,undef,Z,Z,Z⟩ Z (by kernel_rfl) Z (fun w Sl Tl z hTT d l a=>?_) Z ?_
   ·replace a:=a.pick (os':=[]++[Y aU [Q3,Q3,N false],Y aN [P A 0,P B 0,P C 0],Y E [P p 0,P t 0,P u 0],Y ba [P ab 0,P ac 0,P ad 0],Y be [P bh 0,P bi 0,P bj 0]]) [0,1,2,3,4] (by decide) rfl
    obtain⟨z,d,l,a⟩:=z.frzK hTT d l a
    refine cT (uM b.1 b.2.2.1 b.2.2.2.2.1 b.2.2.2.2.2.2.1 b.2.2.2.2.2.2.2.2.1 b.2.2.2.2.2.2.2.2.2.2.1 bC bt bu true cA cB cC cR (z.okT hTT a) (d.i l 0 Z) (d.j l 1 Z) (d.i l 2 Z) (d.j l 3 Z) (d.i l 4 Z) (d.j l 5 Z) (d.i l 6 Z) (d.j l 7 Z) (d.i l 8 Z) (d.j l 9 Z) (d.j l 10 Z) (d.i l 29 Z) (d.j l 30 Z) (d.i l 31 Z) (d.j l 32 Z) (d.i l 33 Z) (d.j l 34 Z) (d.i l 35 Z) (d.j l 36 Z) (d.i l 37 Z) (d.j l 38 Z) (d.i l 39 Z) (d.j l 40 Z)) ?_
    rintro _ w ⟨m,e,n,f,o,j,rfl,bp,cn⟩
    obtain⟨dD,dh,z,d,l,a⟩:=z.l d l a bp cn rfl
    exact⟨_,_,⟨m,n,o,e,f,j,Z,Z,Z⟩,SfT.mk' z (d.pick [41,42,43,44,45,46] Z) (l.pick [41,42,43,44,45,46] Z) a⟩
   rintro v_q x_q y_q ⟨m,n,o,e,f,j,rfl,rfl,rfl⟩
   refine n7 (fun h v x y=>∃m:Nat,∃n:Nat,∃o:Nat,∃e:Value,∃f:Value,∃j:Value,h=[(.agg #[P m 0,P n 0,P o 0],[],[red X e c.2.1,Y m [N c.1,e],red X f c.2.2.2.1,Y n [N c.2.2.1,f],red X j c.2.2.2.2.2,Y o [N c.2.2.2.2.1,j]])]/\v=undef/\x=[Y a5 [P m 0,P n 0,P o 0]]/\y=[red X e c.2.1,Y m [N c.1,e],red X f c.2.2.2.1,Y n [N c.2.2.1,f],red X j c.2.2.2.2.2,Y o [N c.2.2.2.2.1,j]]) [(.agg #[P m 0,P n 0,P o 0],[],[red X e c.2.1,Y m [N c.1,e],red X f c.2.2.2.1,Y n [N c.2.2.1,f],red X j c.2.2.2.2.2,Y o [N c.2.2.2.2.1,j]])] [Y a5 [P aV 0,P aH 0,P aI 0]] [red X e c.2.1,Y m [N c.1,e],red X f c.2.2.2.1,Y n [N c.2.2.1,f],red X j c.2.2.2.2.2,Y o [N c.2.2.2.2.1,j]] _ Z Z (fun h v x y=>Z) Z Z Z Z ⟨_,_,_,m,n,o,e,f,j,Z,Z,Z,Z⟩ (fun w Sl Tl z hTT d l a=>?_) ?_
   ·refine mr (bq (i:=0) (us:=[P m 0,P n 0,P o 0]) Z bV Z Z Z ⟨Z,Z,Z,K⟩ Z a) ?_
    intro w a
    exact⟨_,_,⟨m,n,o,e,f,j,Z,Z,Z,Z⟩,SfT.mk' z (d.pick [46,45,44,43,42,41] Z) (l.pick [46,45,44,43,42,41] Z) a⟩
   rintro v_q x_q y_q ⟨b0_155_0',b0_155_1',b0_155_2',u0_155_0_1',u0_155_1_1',u0_155_2_1',hh,rfl,rfl,rfl⟩
   replace hh:([(.agg #[P m 0,P n 0,P o 0],[],[red X e c.2.1,Y m [N c.1,e],red X f c.2.2.2.1,Y n [N c.2.2.1,f],red X j c.2.2.2.2.2,Y o [N c.2.2.2.2.1,j]])]:List Th)=[(.agg #[P b0_155_0' 0,P b0_155_1' 0,P b0_155_2' 0],[],[red X u0_155_0_1' c.2.1,Y b0_155_0' [N c.1,u0_155_0_1'],red X u0_155_1_1' c.2.2.2.1,Y b0_155_1' [N c.2.2.1,u0_155_1_1'],red X u0_155_2_1' c.2.2.2.2.2,Y b0_155_2' [N c.2.2.2.2.1,u0_155_2_1']])]:=hh
   cases hh
   refine jm fun w hQ=>?_
   obtain⟨dE,di,z,d,l,a⟩:=hQ
   exact aF<|al<|am<|V 3 Z<|aE<|bn (br (cN (wI (bB - 1),c.1,c.2.1,c.2.2.1,c.2.2.2.1,c.2.2.2.2.1,c.2.2.2.2.2) _ _ ⟨m,e,n,f,o,j,Z,(SfT.mk' z (d.pick [41,42,43,44,45,46,28,27,26,25,24,23,22,21,20,19,18,17,16,15,14,13,12,11,10,9,8,7,6,5,4,3,2,1,0] Z) (l.pick [41,42,43,44,45,46,28,27,26,25,24,23,22,21,20,19,18,17,16,15,14,13,12,11,10,9,8,7,6,5,4,3,2,1,0] Z) (a.d [1,2,3,4,0] Z Z))⟩ (aX h co)) Z)
  refine a7<|aB<|aB<|have h:=aS h co;a8<|al<|R<|V 1 Z<|O (bX (us:=[P aV 0,P aH 0,P aI 0]) u136 Z bV Z (a.p 4 Z Z)) Z<|M h fun cD cS h=>bz a Z (ow b.1 b.2.2.1 b.2.2.2.2.1 b.2.2.2.2.2.2.1 b.2.2.2.2.2.2.2.2.1 b.2.2.2.2.2.2.2.2.2.2.1 bC bt bu cS ((d.rp 0 Z).b a.fr).rp ((d.rb 1 Z).b a.fr) ((d.rp 2 Z).b a.fr).rp ((d.rb 3 Z).b a.fr) ((d.rp 4 Z).b a.fr).rp ((d.rb 5 Z).b a.fr) ((d.rp 6 Z).b a.fr).rp ((d.rb 7 Z).b a.fr) ((d.rp 8 Z).b a.fr).rp ((d.rb 9 Z).b a.fr) ((d.rb 10 Z).b a.fr) ((d.rp 29 Z).b a.fr).rp ((d.rb 30 Z).b a.fr) ((d.rp 31 Z).b a.fr).rp ((d.rb 32 Z).b a.fr) ((d.rp 33 Z).b a.fr).rp ((d.rb 34 Z).b a.fr)) Z fun ch ci w a=>bo (bq (i:=2) (us:=[ch,ci,N cD.2.2]) Z cF Z Z Z ⟨(a.ro 0 Z).one,(a.ro 1 Z).one,Z,K⟩ Z a) fun w a=>V 1 Z<|Q<|ar ?_
  cases h
  replace a:=z.st a
  exact fh Z ⟨_,Z,bP (us:=[ch,ci,N cD.2.2]) u71 Z cF (a.p 2 Z Z)⟩ Z ⟨ch,ci,Z,a.d [0,1] Z Z⟩
end Go.Proofs
