import Derived.Test.YtmegjloifgfldaaGreatDoorRW0
import Derived.Test.YtmegjloifgfldaaGreatDoorGkFman
import Derived.Test.YtmegjloifgfldaaGreatDoorRWbignumc
import Derived.Test.YtmegjloifgfldaaGreatDoorRWcurveb
set_option linter.unusedVariables false
set_option linter.unusedSimpArgs false
set_option linter.unusedSectionVars false
set_option maxRecDepth 4000
namespace Go.Proofs
open Go Go.RowKit Go.Gk
open Go.Gk renaming aa -> V, af -> M, ag -> O, ai -> J, e32 -> X, gl3 -> Q, gl4 -> R, own -> U, pB -> P, vB -> N, vI -> H
open Nat renaming le_of_ble_eq_true -> W
open Go.Gk.OE renaming bx -> Y
open Go.Gk.Rds renaming cons -> I
set_option maxHeartbeats 8000000 in
theorem tm {w0:World} {a1 a2 b4 b5:Q0} {cj ck a3 a4:Value} (a0:Int) (bk:Bool) {r:Q0×Q0×Bool×Int}
  (h:F.LQ a0 a1 a2 b4 b5 bk=some r) (da:RP [] w0 X cj a1) (db:RP [] w0 X ck a2) (cU:RP [] w0 X a3 b4) (cV:RP [] w0 X a4 b5):Calls Tryz.prog 41 #[H a0,cj,ck,.agg #[a3,a4,N bk]] w0 (Ret fun v w=>∃cH cI:Value,v=.tuple #[.agg #[cH,cI,N r.2.2.1],H r.2.2.2]/\St [] w0 w [U X cH r.1,U X cI r.2.1]):=by
 refine ay 109 Tryz.func41 Z Z Z<|have a:=St.k w0;have z:=Fz.k (S:=[]) (w0:=w0);?_
 have hTT:TOk [] [] w0:=TOk.nil
 have d:Rds [] w0 [red X a4 b5,red X a3 b4,red X ck a2,red X cj a1]:=I (RP.h (W Z) cV) (I (RP.h (W Z) cU) (I (RP.h (W Z) db) (I (RP.h (W Z) da) (Rds.nil))))
 have l:Off [] [red X a4 b5,red X a3 b4,red X ck a2,red X cj a1]:=Off.emp
 refine ax [(0,H a0),(1,cj),(2,ck),(3,.agg #[a3,a4,N bk])] Z ?_
 unfold F.LQ at h
 refine R<|bl (cy (cs:=[a3,a4,N bk]) Z Z a) Z fun cl w a=>bl (bc (cs:=[Q3,Q3,N false]) jd Z a) Z fun aT w a=>V 1 Z<|gl2<|V 1 Z<|O (bO (us:=[a3,a4,N bk]) u71 Z cE Z (a.p 1 Z Z)) Z ?_
 replace a:=a.pick (os':=[]++[Y aT [Q3,Q3,N false],Y cl [a3,a4,N bk]]) [0,1] (by decide) rfl
 obtain⟨z,d,l,a⟩:=z.frzK hTT d l a
 refine M h fun dc c9 h=>aJ Z (vz a0 bk c9 (z.okT hTT a) (d.i l 2 Z) (d.i l 3 Z)) Z fun v_q w hQ=>?_
 cases b6:dc.1 with
 | none=>
  have h:=kj h b6
  rw[b6]at hQ
  obtain⟨rfl,bq⟩:=jL hQ
  obtain⟨dS,dj,z,d,l,a⟩:=z.l d l a bq Rds.nil rfl
  refine V 4 Z<|bl (bc (cs:=[.pointer none,.pointer none,.pointer none]) gZ Z a) Z fun b7 w a=>V 1 Z<|bm (bp (i:=0) (us:=[.pointer none,.pointer none,.pointer none]) Z bV Z Z Z ⟨Z,Z,Z,K⟩ Z a) fun w a=>V 1 Z<|gl1<|az ?_
  refine al<|V 2 Z<|Q ?_
  apply gl9 Z h<;>intro h
  ·refine R<|O (bR (vs:=[]) (cells:=[Q3,Q3,N false]) Z fL K Z) Z<|bm (bp (i:=1) (us:=[Q3,Q3,N false]) Z cE Z Z Z ⟨Z,Z,Z,K⟩ Z a) fun w a=>V 1 Z<|gl8 ?_
   cases h
   replace a:=z.st a
   exact ff Z ⟨_,Z,bP (us:=[Q3,Q3,N false]) u71 Z cE (a.p 1 Z Z)⟩ Z ⟨Q3,Q3,Z,((a.nil X).nil X).d [1,0] Z Z⟩
  refine gl6<|V 1 Z<|M h fun bw cX h=>bA a Z (gO  cX ((d.rp 0 Z).b a.fr).rp) Z fun bQ b8 w a=>V 5 Z<|gl2<|V 1 Z<|M h fun bz cY h=>bA a Z (gO  cY ((d.rp 1 Z).b a.fr).rp) Z fun bS b9 w a=>V 5 Z<|gl1 ?_
  refine aU (r:=r) (fun (g:Bool) L w=>L=[(8,P aT 0),(10,.pointer none),(11,P b7 0),(13,P b8 0),(15,P b9 0),(49,N g)]/\SfT [] [] w0 w [Y b9 [N bz.1,bS],red X bS bz.2.1,Y b8 [N bw.1,bQ],red X bQ bw.2.1] [Y aT [Q3,Q3,N false],Y b7 [.pointer none,.pointer none,.pointer none]]) (F.Mj) ?_ ?_
  rotate_left
  ·intro cu
   refine al<|V 3 Z ?_
   cases bT:(!bw.2.2)
   case true=>
    have h:=bH h bT
    try simp only[bT]
    refine V 3 Z<|Q ?_
    replace a:=a.pick (os':=[Y b9 [N bz.1,bS],U X bS bz.2.1,Y b8 [N bw.1,bQ],U X bQ bw.2.1]++[Y b7 [.pointer none,.pointer none,.pointer none],Y aT [Q3,Q3,N false],Y cl [a3,a4,N bk]]) [0,1,2,3,4,5,6] (by decide) rfl
    obtain⟨dF,dk,z,d,l,a⟩:=z.frzT hTT d l a
    exact aB (cu true _ _ ⟨Z,(SfT.mk' z (d.pick [7,6,5,4] Z) (l.pick [7,6,5,4] Z) (a.d [1,0] Z Z))⟩ h) Z
   case false=>
    have h:=bI h bT
    try simp only[bT]
    refine V 3 Z<|Q ?_
    replace a:=a.pick (os':=[Y b9 [N bz.1,bS],U X bS bz.2.1,Y b8 [N bw.1,bQ],U X bQ bw.2.1]++[Y b7 [.pointer none,.pointer none,.pointer none],Y aT [Q3,Q3,N false],Y cl [a3,a4,N bk]]) [0,1,2,3,4,5,6] (by decide) rfl
    obtain⟨dG,dm,z,d,l,a⟩:=z.frzT hTT d l a
    exact aB (cu (!bz.2.2) _ _ ⟨Z,(SfT.mk' z (d.pick [7,6,5,4] Z) (l.pick [7,6,5,4] Z) (a.d [1,0] Z Z))⟩ h) Z
  rintro dH L w hJ h
  try dsimp only at hJ
  obtain⟨rfl,⟨dI,dn,z,d,l,a⟩⟩:=hJ
  unfold F.Mj at h
  apply gl9 Z h<;>intro h
  ·refine R<|O (bR (vs:=[]) (cells:=[Q3,Q3,N false]) Z fL K Z) Z<|bm (bp (i:=0) (us:=[Q3,Q3,N false]) Z cE Z Z Z ⟨Z,Z,Z,K⟩ Z a) fun w a=>V 1 Z<|gl8 ?_
   cases h
   replace a:=z.st a
   exact ff Z ⟨_,Z,bP (us:=[Q3,Q3,N false]) u71 Z cE (a.p 0 Z Z)⟩ Z ⟨Q3,Q3,Z,((a.nil X).nil X).d [1,0] Z Z⟩
  refine gl5<|az ?_
  cases h
 | some b=>
  have h:=kn h b6
  rw[b6]at hQ
  obtain⟨bn,aO,ap,aP,au,aQ,aw,p,ae,t,ah,A,J,B,an,C,ao,rfl,bq,cn⟩:=jJ hQ
  obtain⟨dJ,dp,z,d,l,a⟩:=z.l d l a bq cn rfl
  refine V 4 Z<|bl (bc (cs:=[.pointer none,.pointer none,.pointer none]) gZ Z a) Z fun aN w a=>V 1 Z<|bm (bp (i:=0) (us:=[P A 0,P B 0,P C 0]) Z bV Z Z Z ⟨Z,Z,Z,K⟩ Z a) fun w a=>V 1 Z<|gl1<|az ?_
  refine al<|V 2 Z<|Q ?_
  apply gl9 Z h<;>intro h
  ·refine R<|O (bR (vs:=[]) (cells:=[Q3,Q3,N false]) Z fL K Z) Z<|bm (bp (i:=1) (us:=[Q3,Q3,N false]) Z cE Z Z Z ⟨Z,Z,Z,K⟩ Z a) fun w a=>V 1 Z<|gl8 ?_
   cases h
   replace a:=z.st a
   exact ff Z ⟨_,Z,bP (us:=[Q3,Q3,N false]) u71 Z cE (a.p 1 Z Z)⟩ Z ⟨Q3,Q3,Z,((a.nil X).nil X).d [1,0] Z Z⟩
  refine gl6<|V 1 Z<|M h fun aL cZ h=>bA a Z (gO  cZ ((d.rp 0 Z).b a.fr).rp) Z fun aX a8 w a=>V 5 Z<|gl2<|V 1 Z<|M h fun aM c0 h=>bA a Z (gO  c0 ((d.rp 1 Z).b a.fr).rp) Z fun aY a9 w a=>V 5 Z<|gl1 ?_
  refine aU (r:=r) (fun (g:Bool) L w=>L=[(8,P aT 0),(10,P bn 0),(11,P aN 0),(13,P a8 0),(15,P a9 0),(49,N g)]/\SfT [] [] w0 w [Y C [N b.2.2.2.2.2.2.2.2.2.2.2.2.2.2.2.1,ao],red X ao b.2.2.2.2.2.2.2.2.2.2.2.2.2.2.2.2,Y B [N b.2.2.2.2.2.2.2.2.2.2.2.2.2.1,an],red X an b.2.2.2.2.2.2.2.2.2.2.2.2.2.2.1,Y A [N b.2.2.2.2.2.2.2.2.2.2.2.1,J],red X J b.2.2.2.2.2.2.2.2.2.2.2.2.1,Y a9 [N aM.1,aY],red X aY aM.2.1,Y a8 [N aL.1,aX],red X aX aL.2.1,Y bn [P aO 0,P aP 0,P aQ 0,P p 0,P t 0,H b.2.2.2.2.2.2.2.2.2.2.1,.func (.func 159) #[] #[]],Y t [N b.2.2.2.2.2.2.2.2.1,ah],red X ah b.2.2.2.2.2.2.2.2.2.1,Y p [N b.2.2.2.2.2.2.1,ae],red X ae b.2.2.2.2.2.2.2.1,Y aQ [N b.2.2.2.2.1,aw],red X aw b.2.2.2.2.2.1,Y aP [N b.2.2.1,au],red X au b.2.2.2.1,Y aO [N b.1,ap],red X ap b.2.1] [Y aT [Q3,Q3,N false],Y aN [P A 0,P B 0,P C 0]]) (F.JY b aL aM) ?_ ?_
  rotate_left
  ·intro cv
   refine al<|V 3 Z ?_
   cases bU:(!aL.2.2)
   case true=>
    have h:=bH h bU
    try simp only[bU]
    refine V 3 Z<|Q ?_
    replace a:=a.pick (os':=[Y a9 [N aM.1,aY],U X aY aM.2.1,Y a8 [N aL.1,aX],U X aX aL.2.1]++[Y aN [P A 0,P B 0,P C 0],Y aT [Q3,Q3,N false],Y cl [a3,a4,N bk]]) [0,1,2,3,4,5,6] (by decide) rfl
    obtain⟨dK,dq,z,d,l,a⟩:=z.frzT hTT d l a
    exact aB (cv true _ _ ⟨Z,(SfT.mk' z (d.pick [20,19,18,17,16,15,24,23,22,21,14,13,12,11,10,9,8,7,6,5,4] Z) (l.pick [20,19,18,17,16,15,24,23,22,21,14,13,12,11,10,9,8,7,6,5,4] Z) (a.d [1,0] Z Z))⟩ h) Z
   case false=>
    have h:=bI h bU
    try simp only[bU]
    refine V 3 Z<|Q ?_
    replace a:=a.pick (os':=[Y a9 [N aM.1,aY],U X aY aM.2.1,Y a8 [N aL.1,aX],U X aX aL.2.1]++[Y aN [P A 0,P B 0,P C 0],Y aT [Q3,Q3,N false],Y cl [a3,a4,N bk]]) [0,1,2,3,4,5,6] (by decide) rfl
    obtain⟨dL,dr,z,d,l,a⟩:=z.frzT hTT d l a
    exact aB (cv (!aM.2.2) _ _ ⟨Z,(SfT.mk' z (d.pick [20,19,18,17,16,15,24,23,22,21,14,13,12,11,10,9,8,7,6,5,4] Z) (l.pick [20,19,18,17,16,15,24,23,22,21,14,13,12,11,10,9,8,7,6,5,4] Z) (a.d [1,0] Z Z))⟩ h) Z
  rintro dM L w hJ h
  try dsimp only at hJ
  obtain⟨rfl,⟨dN,ds,z,d,l,a⟩⟩:=hJ
  unfold F.JY at h
  apply gl9 Z h<;>intro h
  ·refine R<|O (bR (vs:=[]) (cells:=[Q3,Q3,N false]) Z fL K Z) Z<|bm (bp (i:=0) (us:=[Q3,Q3,N false]) Z cE Z Z Z ⟨Z,Z,Z,K⟩ Z a) fun w a=>V 1 Z<|gl8 ?_
   cases h
   replace a:=z.st a
   exact ff Z ⟨_,Z,bP (us:=[Q3,Q3,N false]) u71 Z cE (a.p 0 Z Z)⟩ Z ⟨Q3,Q3,Z,((a.nil X).nil X).d [1,0] Z Z⟩
  refine gl5<|az<|M h fun G c1 h=>gm (es:=[Y C [N b.2.2.2.2.2.2.2.2.2.2.2.2.2.2.2.1,ao],red X ao b.2.2.2.2.2.2.2.2.2.2.2.2.2.2.2.2,Y B [N b.2.2.2.2.2.2.2.2.2.2.2.2.2.1,an],red X an b.2.2.2.2.2.2.2.2.2.2.2.2.2.2.1,Y A [N b.2.2.2.2.2.2.2.2.2.2.2.1,J],red X J b.2.2.2.2.2.2.2.2.2.2.2.2.1,Y a9 [N aM.1,aY],red X aY aM.2.1,Y a8 [N aL.1,aX],red X aX aL.2.1,Y bn [P aO 0,P aP 0,P aQ 0,P p 0,P t 0,H b.2.2.2.2.2.2.2.2.2.2.1,.func (.func 159) #[] #[]],Y t [N b.2.2.2.2.2.2.2.2.1,ah],red X ah b.2.2.2.2.2.2.2.2.2.1,Y p [N b.2.2.2.2.2.2.1,ae],red X ae b.2.2.2.2.2.2.2.1,Y aQ [N b.2.2.2.2.1,aw],red X aw b.2.2.2.2.2.1,Y aP [N b.2.2.1,au],red X au b.2.2.2.1,Y aO [N b.1,ap],red X ap b.2.1]) (os:=[Y aT [Q3,Q3,N false],Y aN [P A 0,P B 0,P C 0]]) (fun i=>[8,10,11].contains i) (fun i=>if i=8 then some 11 else if i=10 then some 11 else none) (fun i=>[]) (fun i=>[]) (fun i=>[]) (fun i=>if i=11 then [8,10] else []) (fun i=>if i=8 then (fun h v x y=>∃u:Nat,∃D:Value,v=P u 0/\x=[Y u [N G.1,D],U X D G.2]/\y=[]) else if i=10 then (fun h v x y=>∃E:Nat,v=P E 0/\x=[Y E [.pointer none,.pointer none,.pointer none]]/\y=[]) else (fun h v x y=>∃u:Nat,∃D:Value,∃E:Nat,h=[(P u 0,[Y u [N G.1,D],U X D G.2],[]),(P E 0,[Y E [.pointer none,.pointer none,.pointer none]],[])]/\v=undef/\x=[Y u [N G.1,D],U X D G.2,Y E [P p 0,P t 0,P u 0]]/\y=[])) (SfT.mk' z d l a) (fun k hk=>rfl) hTT rfl (fun i=>(dl (by rintro h v x y ⟨_,_,rfl,rfl,rfl⟩; exact cx rfl) (dl (by rintro h v x y ⟨_,rfl,rfl,rfl⟩; exact cx rfl) (by rintro h v x y ⟨_,_,_,_,rfl,rfl,rfl⟩; exact cx rfl)))) bK (by kernel_rfl) (by kernel_rfl) ?_
  show fj _ _ _ _ _ _ _ _ _ _ _ _ _ _ _ _ [0,1,2,3,4,5,6,7,8,9,10,11] _ _
  refine eB 1 Z<|cG Z Z (fun w Sb wb z d l hF=>aK Z) Z<|cG Z Z (fun w Sb wb z d l hF=>ak (k:=3) u127 Z Z cF Z) Z<|cG Z Z (fun w Sb wb z d l hF=>ar u124 Z Z ((d.rb 10 Z).cell hF.fr 3 Z)) Z<|eB 1 Z<|cG Z Z (fun w Sb wb z d l hF=>aK Z) Z<|cG Z Z (fun w Sb wb z d l hF=>ak (k:=4) u127 Z Z cF Z) Z<|cG Z Z (fun w Sb wb z d l hF=>ar u124 Z Z ((d.rb 10 Z).cell hF.fr 4 Z)) Z ?_
  refine iC (fun h v x y=>∃u:Nat,∃D:Value,v=P u 0/\x=[Y u [N G.1,D],U X D G.2]/\y=[]) [] [] [] _ Z Z (fun h v x y=>Z) Z Z Z Z ⟨_,_,_,0,undef,Z,Z,Z⟩ (by kernel_rfl) Z (fun w Sl Tl z hTT d l a=>?_) Z ?_
  ·refine cR (cW 1 c1 ) ?_
   rintro _ w ⟨D,u,rfl,bq⟩
   have a:=a.e bq
   exact⟨_,_,⟨u,D,Z,Z,Z⟩,SfT.mk' z Rds.nil Off.nil a⟩
  rintro v_q x_q y_q ⟨u,D,rfl,rfl,rfl⟩
  refine cG Z Z (fun w Sb wb z d l hF=>bR (vs:=[(0,P p 0,[P p 0]),(1,P t 0,[P t 0]),(2,P u 0,[P u 0])]) (cells:=[P p 0,P t 0,P u 0]) Z mh ⟨Z,Z,Z,K⟩ Z) Z ?_
  refine gD (fun h v x y=>∃E:Nat,v=P E 0/\x=[Y E [.pointer none,.pointer none,.pointer none]]/\y=[]) [] [] [] _ Z Z (fun h v x y=>Z) Z Z Z Z ⟨_,_,_,0,Z,Z,Z⟩ (fun w Sl Tl z hTT d l a=>?_) Z ?_
  ·refine lS (bc (cs:=[.pointer none,.pointer none,.pointer none]) gZ Z a) ?_
   rintro _ w ⟨E,rfl,a⟩
   exact⟨_,_,⟨E,Z,Z,Z⟩,SfT.mk' z Rds.nil Off.nil a⟩
  rintro v_q x_q y_q ⟨E,rfl,rfl,rfl⟩
  refine nY (fun h v x y=>∃u:Nat,∃D:Value,∃E:Nat,h=[(P u 0,[Y u [N G.1,D],U X D G.2],[]),(P E 0,[Y E [.pointer none,.pointer none,.pointer none]],[])]/\v=undef/\x=[Y u [N G.1,D],U X D G.2,Y E [P p 0,P t 0,P u 0]]/\y=[]) [(P u 0,[Y u [N G.1,D],U X D G.2],[]),(P E 0,[Y E [.pointer none,.pointer none,.pointer none]],[])] [Y u [N G.1,D],U X D G.2,Y E [.pointer none,.pointer none,.pointer none]] [] _ Z Z (fun h v x y=>Z) Z Z Z Z ⟨_,_,_,u,D,E,Z,Z,Z,Z⟩ (fun w Sl Tl z hTT d l a=>?_) ?_
  ·refine mn (bp (i:=2) (us:=[P p 0,P t 0,P u 0]) Z bV Z Z Z ⟨Z,Z,Z,K⟩ Z a) ?_
   intro w a
   exact⟨_,_,⟨u,D,E,Z,Z,Z,Z⟩,SfT.mk' z Rds.nil Off.nil a⟩
  rintro v_q x_q y_q ⟨b_60',v_58',b_62',hh,rfl,rfl,rfl⟩
  replace hh:([(P u 0,[Y u [N G.1,D],U X D G.2],[]),(P E 0,[Y E [.pointer none,.pointer none,.pointer none]],[])]:List Th)=[(P b_60' 0,[Y b_60' [N G.1,v_58'],U X v_58' G.2],[]),(P b_62' 0,[Y b_62' [.pointer none,.pointer none,.pointer none]],[])]:=hh
  cases hh
  refine ji fun w hQ=>?_
  obtain⟨dO,dt,z,d,l,a⟩:=hQ
  refine am<|R<|V 1 Z<|O (bO (us:=[P p 0,P t 0,P u 0]) u136 Z bV Z (a.p 2 Z Z)) Z<|O (bO (us:=[P A 0,P B 0,P C 0]) u136 Z bV Z (a.p 4 Z Z)) Z ?_
  replace a:=a.pick (os':=[Y u [N G.1,D],U X D G.2]++[Y E [P p 0,P t 0,P u 0],Y aT [Q3,Q3,N false],Y aN [P A 0,P B 0,P C 0]]) [0,1,2,3,4] (by decide) rfl
  obtain⟨z,d,l,a⟩:=z.frzK hTT d l a
  refine M h fun T c2 h=>aJ Z (j8 b.1 b.2.2.1 b.2.2.2.2.1 b.2.2.2.2.2.2.1 b.2.2.2.2.2.2.2.2.1 b.2.2.2.2.2.2.2.2.2.2.1 b.2.2.2.2.2.2.1 b.2.2.2.2.2.2.2.2.1 G.1 b.2.2.2.2.2.2.2.2.2.2.2.1 b.2.2.2.2.2.2.2.2.2.2.2.2.2.1 b.2.2.2.2.2.2.2.2.2.2.2.2.2.2.2.1 c2 (z.okT hTT a) (d.i l 0 Z) (d.j l 1 Z) (d.i l 2 Z) (d.j l 3 Z) (d.i l 4 Z) (d.j l 5 Z) (d.i l 6 Z) (d.j l 7 Z) (d.i l 8 Z) (d.j l 9 Z) (d.j l 10 Z) (d.i l 6 Z) (d.j l 7 Z) (d.i l 8 Z) (d.j l 9 Z) (d.i l 21 Z) (d.j l 22 Z) (d.i l 15 Z) (d.j l 16 Z) (d.i l 17 Z) (d.j l 18 Z) (d.i l 19 Z) (d.j l 20 Z)) Z ?_
  rintro _ w ⟨ab,aC,ac,aD,ad,aE,rfl,bq,cn⟩
  obtain⟨dP,du,z,d,l,a⟩:=z.l d l a bq cn rfl
  refine bl (bc (cs:=[.pointer none,.pointer none,.pointer none]) gZ Z a) Z fun ba w a=>bm (bp (i:=0) (us:=[P ab 0,P ac 0,P ad 0]) Z bV Z Z Z ⟨Z,Z,Z,K⟩ Z a) fun w a=>gl1 ?_
  refine al<|M h fun bb c3 h=>aJ Z (f9  c3 ) Z ?_
  rintro _ w ⟨cq,cr,ct,ca,cb,cc,rfl,bq⟩
  have a:=a.e bq
  refine bl (bc (cs:=[.pointer none,.pointer none,.pointer none]) gZ Z a) Z fun a6 w a=>bm (bp (i:=0) (us:=[P ca 0,P cb 0,P cc 0]) Z bV Z Z Z ⟨Z,Z,Z,K⟩ Z a) fun w a=>gl1<|az ?_
  refine al<|V 1 Z<|M h fun cL c4 h=>aS a Z (i7 aL.1 c4 ((d.rp 11 Z).b a.fr).rp ((d.rb 12 Z).b a.fr)) Z fun w a=>V 1 Z<|M h fun cM c5 h=>aS a Z (i7 aM.1 c5 ((d.rp 13 Z).b a.fr).rp ((d.rb 14 Z).b a.fr)) Z fun w a=>O (xp Z Z) Z<|V 2 Z<|Q<|av ?_
  replace a:=a.pick (os':=[Y ca [N bb.1,cq],U X cq bb.2.1,Y cb [N bb.2.2.1,cr],U X cr bb.2.2.2.1,Y cc [N bb.2.2.2.2.1,ct],U X ct bb.2.2.2.2.2]++[Y a6 [P ca 0,P cb 0,P cc 0],Y ba [P ab 0,P ac 0,P ad 0],Y E [P p 0,P t 0,P u 0],Y aT [Q3,Q3,N false],Y aN [P A 0,P B 0,P C 0]]) [1,2,3,4,5,6,0,7,8,9,10] (by decide) rfl
  obtain⟨dQ,dv,z,d,l,a⟩:=z.frzT hTT d l a
  refine ax [(8,P aT 0),(10,P bn 0),(11,P aN 0),(13,P a8 0),(15,P a9 0),(17,P E 0),(18,P ba 0),(19,P a6 0),(20,H (wI ((max cL cM) - 1)))] Z ?_
  refine bf (F.Ie b aL aM G T) (fun (s:Int×Bool×Q0×Bool×Q0×Bool×Q0) L w=>∃(aV:Nat) (bs:Value) (aF:Nat) (bd:Value) (aI:Nat) (be:Value),L=[(8,P aT 0),(10,P bn 0),(11,P aN 0),(13,P a8 0),(15,P a9 0),(17,P E 0),(18,P ba 0),(19,P a6 0),(20,H s.1)]/\SfT [] [] w0 w [Y aI [N s.2.2.2.2.2.1,be],red X be s.2.2.2.2.2.2,Y aF [N s.2.2.2.1,bd],red X bd s.2.2.2.2.1,Y aV [N s.2.1,bs],red X bs s.2.2.1,Y ad [N T.2.2.2.2.1,aE],red X aE T.2.2.2.2.2,Y ac [N T.2.2.1,aD],red X aD T.2.2.2.1,Y ab [N T.1,aC],red X aC T.2.1,Y u [N G.1,D],red X D G.2,Y C [N b.2.2.2.2.2.2.2.2.2.2.2.2.2.2.2.1,ao],red X ao b.2.2.2.2.2.2.2.2.2.2.2.2.2.2.2.2,Y B [N b.2.2.2.2.2.2.2.2.2.2.2.2.2.1,an],red X an b.2.2.2.2.2.2.2.2.2.2.2.2.2.2.1,Y A [N b.2.2.2.2.2.2.2.2.2.2.2.1,J],red X J b.2.2.2.2.2.2.2.2.2.2.2.2.1,Y a9 [N aM.1,aY],red X aY aM.2.1,Y a8 [N aL.1,aX],red X aX aL.2.1,Y bn [P aO 0,P aP 0,P aQ 0,P p 0,P t 0,H b.2.2.2.2.2.2.2.2.2.2.1,.func (.func 159) #[] #[]],Y t [N b.2.2.2.2.2.2.2.2.1,ah],red X ah b.2.2.2.2.2.2.2.2.2.1,Y p [N b.2.2.2.2.2.2.1,ae],red X ae b.2.2.2.2.2.2.2.1,Y aQ [N b.2.2.2.2.1,aw],red X aw b.2.2.2.2.2.1,Y aP [N b.2.2.1,au],red X au b.2.2.2.1,Y aO [N b.1,ap],red X ap b.2.1] [Y aT [Q3,Q3,N false],Y aN [P A 0,P B 0,P C 0],Y E [P p 0,P t 0,P u 0],Y ba [P ab 0,P ac 0,P ad 0],Y a6 [P aV 0,P aF 0,P aI 0]]) ?_ (wI ((max cL cM) - 1),bb.1,bb.2.1,bb.2.2.1,bb.2.2.2.1,bb.2.2.2.2.1,bb.2.2.2.2.2) ⟨ca,cq,cb,cr,cc,ct,Z,(SfT.mk' z (d.pick [30,29,32,31,34,33,28,27,26,25,24,23,22,21,20,19,18,17,16,15,14,13,12,11,10,9,8,7,6,5,4,3,2,1,0] Z) (l.pick [30,29,32,31,34,33,28,27,26,25,24,23,22,21,20,19,18,17,16,15,14,13,12,11,10,9,8,7,6,5,4,3,2,1,0] Z) (a.d [3,4,2,1,0] Z Z))⟩ h
  rintro dw ⟨bB,bC,b1,bt,bE,bu,bF⟩ L w cw hI cN h co
  try dsimp only at hI
  obtain⟨aV,bs,aF,bd,aI,be,rfl,⟨dR,dx,z,d,l,a⟩⟩:=hI
  unfold F.Ie at h
  refine az<|R<|V 2 Z<|Q ?_
  apply gl9 Z h<;>intro h
  ·refine gl5<|az<|av<|R<|O (bO (us:=[P p 0,P t 0,P u 0]) u136 Z bV Z (a.p 2 Z Z)) Z<|bl (bc (cs:=[.pointer none,.pointer none,.pointer none]) gZ Z a) Z fun bg w a=>bm (bp (i:=0) (us:=[P p 0,P t 0,P u 0]) Z bV Z Z Z ⟨Z,Z,Z,K⟩ Z a) fun w a=>Q ?_
   refine aU (r:=cw) (fun (g:Bool×Q0×Bool×Q0×Bool×Q0) L w=>∃(bh:Nat) (bG:Value) (bi:Nat) (bJ:Value) (bj:Nat) (bL:Value),L=[(8,P aT 0),(10,P bn 0),(11,P aN 0),(13,P a8 0),(15,P a9 0),(17,P E 0),(18,P ba 0),(19,P a6 0),(20,H bB),(21,P bg 0)]/\SfT [] [] w0 w [Y bj [N g.2.2.2.2.1,bL],red X bL g.2.2.2.2.2,Y bi [N g.2.2.1,bJ],red X bJ g.2.2.2.1,Y bh [N g.1,bG],red X bG g.2.1,Y aI [N bu,be],red X be bF,Y aF [N bt,bd],red X bd bE,Y aV [N bC,bs],red X bs b1,Y ad [N T.2.2.2.2.1,aE],red X aE T.2.2.2.2.2,Y ac [N T.2.2.1,aD],red X aD T.2.2.2.1,Y ab [N T.1,aC],red X aC T.2.1,Y u [N G.1,D],red X D G.2,Y C [N b.2.2.2.2.2.2.2.2.2.2.2.2.2.2.2.1,ao],red X ao b.2.2.2.2.2.2.2.2.2.2.2.2.2.2.2.2,Y B [N b.2.2.2.2.2.2.2.2.2.2.2.2.2.1,an],red X an b.2.2.2.2.2.2.2.2.2.2.2.2.2.2.1,Y A [N b.2.2.2.2.2.2.2.2.2.2.2.1,J],red X J b.2.2.2.2.2.2.2.2.2.2.2.2.1,Y a9 [N aM.1,aY],red X aY aM.2.1,Y a8 [N aL.1,aX],red X aX aL.2.1,Y bn [P aO 0,P aP 0,P aQ 0,P p 0,P t 0,H b.2.2.2.2.2.2.2.2.2.2.1,.func (.func 159) #[] #[]],Y t [N b.2.2.2.2.2.2.2.2.1,ah],red X ah b.2.2.2.2.2.2.2.2.2.1,Y p [N b.2.2.2.2.2.2.1,ae],red X ae b.2.2.2.2.2.2.2.1,Y aQ [N b.2.2.2.2.1,aw],red X aw b.2.2.2.2.2.1,Y aP [N b.2.2.1,au],red X au b.2.2.2.1,Y aO [N b.1,ap],red X ap b.2.1] [Y aT [Q3,Q3,N false],Y aN [P A 0,P B 0,P C 0],Y E [P p 0,P t 0,P u 0],Y ba [P ab 0,P ac 0,P ad 0],Y a6 [P aV 0,P aF 0,P aI 0],Y bg [P bh 0,P bi 0,P bj 0]]) (F.Hi b bB bC b1 bt bE bu bF) ?_ ?_
   rotate_left
   ·intro bM
    refine R<|V 2 Z<|M h fun cz cO h=>aS a Z (ku aL.1 bB cO ((d.rp 11 Z).b a.fr).rp ((d.rb 12 Z).b a.fr)) Z fun w a=>O (aj Z Z (lZ _ cz 1)) Z<|V 2 Z<|M h fun bW cP h=>aS a Z (ku aM.1 bB cP ((d.rp 13 Z).b a.fr).rp ((d.rb 14 Z).b a.fr)) Z fun w a=>O (aj Z Z (lZ _ bW 1)) Z<|V 2 Z<|Q<|av ?_
    refine aU (r:=cw) (fun (g:Bool×Bool) L w=>L=[(8,P aT 0),(10,P bn 0),(11,P aN 0),(13,P a8 0),(15,P a9 0),(17,P E 0),(18,P ba 0),(19,P a6 0),(20,H bB),(21,P bg 0),(22,N g.1),(23,N (bW == 1)),(85,N g.2)]/\SfT [] [] w0 w [Y aI [N bu,be],red X be bF,Y aF [N bt,bd],red X bd bE,Y aV [N bC,bs],red X bs b1,Y ad [N T.2.2.2.2.1,aE],red X aE T.2.2.2.2.2,Y ac [N T.2.2.1,aD],red X aD T.2.2.2.1,Y ab [N T.1,aC],red X aC T.2.1,Y u [N G.1,D],red X D G.2,Y C [N b.2.2.2.2.2.2.2.2.2.2.2.2.2.2.2.1,ao],red X ao b.2.2.2.2.2.2.2.2.2.2.2.2.2.2.2.2,Y B [N b.2.2.2.2.2.2.2.2.2.2.2.2.2.1,an],red X an b.2.2.2.2.2.2.2.2.2.2.2.2.2.2.1,Y A [N b.2.2.2.2.2.2.2.2.2.2.2.1,J],red X J b.2.2.2.2.2.2.2.2.2.2.2.2.1,Y a9 [N aM.1,aY],red X aY aM.2.1,Y a8 [N aL.1,aX],red X aX aL.2.1,Y bn [P aO 0,P aP 0,P aQ 0,P p 0,P t 0,H b.2.2.2.2.2.2.2.2.2.2.1,.func (.func 159) #[] #[]],Y t [N b.2.2.2.2.2.2.2.2.1,ah],red X ah b.2.2.2.2.2.2.2.2.2.1,Y p [N b.2.2.2.2.2.2.1,ae],red X ae b.2.2.2.2.2.2.2.1,Y aQ [N b.2.2.2.2.1,aw],red X aw b.2.2.2.2.2.1,Y aP [N b.2.2.1,au],red X au b.2.2.2.1,Y aO [N b.1,ap],red X ap b.2.1] [Y aT [Q3,Q3,N false],Y aN [P A 0,P B 0,P C 0],Y E [P p 0,P t 0,P u 0],Y ba [P ab 0,P ac 0,P ad 0],Y a6 [P aV 0,P aF 0,P aI 0],Y bg [P p 0,P t 0,P u 0]]) (F.KU b G T bW bB bC b1 bt bE bu bF) ?_ ?_
    rotate_left
    ·intro cp
     refine al<|V 2 Z ?_
     cases bN:(cz == 1)
     case true=>
      have h:=bH h bN
      try simp only[bN]
      exact V 3 Z<|Q<|aB (cp (true,bW == 1) _ _ ⟨Z,(SfT.mk' z (d.pick [34,33,32,31,30,29,28,27,26,25,24,23,22,21,20,19,18,17,16,15,14,13,12,11,10,9,8,7,6,5,4,3,2,1,0] Z) (l.pick [34,33,32,31,30,29,28,27,26,25,24,23,22,21,20,19,18,17,16,15,14,13,12,11,10,9,8,7,6,5,4,3,2,1,0] Z) (a.d [1,2,3,4,5,0] Z Z))⟩ h) Z
     case false=>
      have h:=bI h bN
      try simp only[bN]
      exact V 3 Z<|Q<|aB (cp (false,false) _ _ ⟨Z,(SfT.mk' z (d.pick [34,33,32,31,30,29,28,27,26,25,24,23,22,21,20,19,18,17,16,15,14,13,12,11,10,9,8,7,6,5,4,3,2,1,0] Z) (l.pick [34,33,32,31,30,29,28,27,26,25,24,23,22,21,20,19,18,17,16,15,14,13,12,11,10,9,8,7,6,5,4,3,2,1,0] Z) (a.d [1,2,3,4,5,0] Z Z))⟩ h) Z
    rintro⟨dy,dz⟩ L w hJ h
    try dsimp only at hJ
    obtain⟨rfl,⟨dA,de,z,d,l,a⟩⟩:=hJ
    unfold F.KU at h
    apply gl9 Z h<;>intro h
    ·refine al<|O (bO (us:=[P ab 0,P ac 0,P ad 0]) u136 Z bV Z (a.p 3 Z Z)) Z<|bm (bp (i:=5) (us:=[P ab 0,P ac 0,P ad 0]) Z bV Z Z Z ⟨Z,Z,Z,K⟩ Z a) fun w a=>aG<|aH<|am ?_
     exact aB (bM (T.1,T.2.1,T.2.2.1,T.2.2.2.1,T.2.2.2.2.1,T.2.2.2.2.2) _ _ ⟨ab,aC,ac,aD,ad,aE,Z,(SfT.mk' z (d.pick [28,27,26,25,24,23,34,33,32,31,30,29,28,27,26,25,24,23,22,21,20,19,18,17,16,15,14,13,12,11,10,9,8,7,6,5,4,3,2,1,0] Z) (l.pick [28,27,26,25,24,23,34,33,32,31,30,29,28,27,26,25,24,23,22,21,20,19,18,17,16,15,14,13,12,11,10,9,8,7,6,5,4,3,2,1,0] Z) a)⟩ h) Z
    refine R<|V 2 Z<|Q ?_
    apply gl9 Z h<;>intro h
    ·refine al<|O (bO (us:=[P A 0,P B 0,P C 0]) u136 Z bV Z (a.p 1 Z Z)) Z<|bm (bp (i:=5) (us:=[P A 0,P B 0,P C 0]) Z bV Z Z Z ⟨Z,Z,Z,K⟩ Z a) fun w a=>aG<|aH<|am ?_
     exact aB (bM (b.2.2.2.2.2.2.2.2.2.2.2.1,b.2.2.2.2.2.2.2.2.2.2.2.2.1,b.2.2.2.2.2.2.2.2.2.2.2.2.2.1,b.2.2.2.2.2.2.2.2.2.2.2.2.2.2.1,b.2.2.2.2.2.2.2.2.2.2.2.2.2.2.2.1,b.2.2.2.2.2.2.2.2.2.2.2.2.2.2.2.2) _ _ ⟨A,J,B,an,C,ao,Z,(SfT.mk' z (d.pick [20,19,18,17,16,15,34,33,32,31,30,29,28,27,26,25,24,23,22,21,20,19,18,17,16,15,14,13,12,11,10,9,8,7,6,5,4,3,2,1,0] Z) (l.pick [20,19,18,17,16,15,34,33,32,31,30,29,28,27,26,25,24,23,22,21,20,19,18,17,16,15,14,13,12,11,10,9,8,7,6,5,4,3,2,1,0] Z) a)⟩ h) Z
    refine R<|V 3 Z<|Q ?_
    apply gl9 Z h<;>intro h
    ·refine al<|M h fun a5 cQ h=>aJ Z (f9  cQ ) Z ?_
     rintro _ w ⟨cd,ce,cg,bX,bY,bZ,rfl,bq⟩
     have a:=a.e bq
     refine bm (bp (i:=11) (us:=[P bX 0,P bY 0,P bZ 0]) Z bV Z Z Z ⟨Z,Z,Z,K⟩ Z a) fun w a=>aG<|aH<|am ?_
     replace a:=a.pick (os':=[Y bX [N a5.1,cd],U X cd a5.2.1,Y bY [N a5.2.2.1,ce],U X ce a5.2.2.2.1,Y bZ [N a5.2.2.2.2.1,cg],U X cg a5.2.2.2.2.2]++[Y aT [Q3,Q3,N false],Y aN [P A 0,P B 0,P C 0],Y E [P p 0,P t 0,P u 0],Y ba [P ab 0,P ac 0,P ad 0],Y a6 [P aV 0,P aF 0,P aI 0],Y bg [P bX 0,P bY 0,P bZ 0]]) [0,1,2,3,4,5,6,7,8,9,10,11] (by decide) rfl
     obtain⟨dB,df,z,d,l,a⟩:=z.frzT hTT d l a
     exact aB (bM (a5.1,a5.2.1,a5.2.2.1,a5.2.2.2.1,a5.2.2.2.2.1,a5.2.2.2.2.2) _ _ ⟨bX,cd,bY,ce,bZ,cg,Z,(SfT.mk' z (d.pick [36,35,38,37,40,39,34,33,32,31,30,29,28,27,26,25,24,23,22,21,20,19,18,17,16,15,14,13,12,11,10,9,8,7,6,5,4,3,2,1,0] Z) (l.pick [36,35,38,37,40,39,34,33,32,31,30,29,28,27,26,25,24,23,22,21,20,19,18,17,16,15,14,13,12,11,10,9,8,7,6,5,4,3,2,1,0] Z) a)⟩ h) Z
    exact cf<|aH<|am<|aB (bM (b.2.2.2.2.2.2.1,b.2.2.2.2.2.2.2.1,b.2.2.2.2.2.2.2.2.1,b.2.2.2.2.2.2.2.2.2.1,G.1,G.2) _ _ ⟨p,ae,t,ah,u,D,Z,(SfT.mk' z (d.pick [22,21,9,8,7,6,34,33,32,31,30,29,28,27,26,25,24,23,22,21,20,19,18,17,16,15,14,13,12,11,10,9,8,7,6,5,4,3,2,1,0] Z) (l.pick [22,21,9,8,7,6,34,33,32,31,30,29,28,27,26,25,24,23,22,21,20,19,18,17,16,15,14,13,12,11,10,9,8,7,6,5,4,3,2,1,0] Z) a)⟩ h) Z
   rintro⟨cA,c6,cB,c7,cC,c8⟩ L w hJ h
   try dsimp only at hJ
   obtain⟨bh,bG,bi,bJ,bj,bL,rfl,⟨dC,dg,z,d,l,a⟩⟩:=hJ
   unfold F.Hi at h
   refine M h fun c cS h=>gm (es:=[Y bj [N cC,bL],red X bL c8,Y bi [N cB,bJ],red X bJ c7,Y bh [N cA,bG],red X bG c6,Y aI [N bu,be],red X be bF,Y aF [N bt,bd],red X bd bE,Y aV [N bC,bs],red X bs b1,Y ad [N T.2.2.2.2.1,aE],red X aE T.2.2.2.2.2,Y ac [N T.2.2.1,aD],red X aD T.2.2.2.1,Y ab [N T.1,aC],red X aC T.2.1,Y u [N G.1,D],red X D G.2,Y C [N b.2.2.2.2.2.2.2.2.2.2.2.2.2.2.2.1,ao],red X ao b.2.2.2.2.2.2.2.2.2.2.2.2.2.2.2.2,Y B [N b.2.2.2.2.2.2.2.2.2.2.2.2.2.1,an],red X an b.2.2.2.2.2.2.2.2.2.2.2.2.2.2.1,Y A [N b.2.2.2.2.2.2.2.2.2.2.2.1,J],red X J b.2.2.2.2.2.2.2.2.2.2.2.2.1,Y a9 [N aM.1,aY],red X aY aM.2.1,Y a8 [N aL.1,aX],red X aX aL.2.1,Y bn [P aO 0,P aP 0,P aQ 0,P p 0,P t 0,H b.2.2.2.2.2.2.2.2.2.2.1,.func (.func 159) #[] #[]],Y t [N b.2.2.2.2.2.2.2.2.1,ah],red X ah b.2.2.2.2.2.2.2.2.2.1,Y p [N b.2.2.2.2.2.2.1,ae],red X ae b.2.2.2.2.2.2.2.1,Y aQ [N b.2.2.2.2.1,aw],red X aw b.2.2.2.2.2.1,Y aP [N b.2.2.1,au],red X au b.2.2.2.1,Y aO [N b.1,ap],red X ap b.2.1]) (os:=[Y aT [Q3,Q3,N false],Y aN [P A 0,P B 0,P C 0],Y E [P p 0,P t 0,P u 0],Y ba [P ab 0,P ac 0,P ad 0],Y bg [P bh 0,P bi 0,P bj 0]]) (fun i=>[5,7,8].contains i) (fun i=>none) (fun i=>if i=8 then [7] else []) (fun i=>if i=8 then [Y a6 [P aV 0,P aF 0,P aI 0]] else []) (fun i=>if i=5 then [8] else []) (fun i=>if i=8 then [7] else []) (fun i=>if i=5 then (fun h v x y=>v=.agg #[P aV 0,P aF 0,P aI 0]/\x=[]/\y=[]) else if i=7 then (fun h v x y=>∃m:Nat,∃n:Nat,∃o:Nat,∃e:Value,∃f:Value,∃j:Value,v=.agg #[P m 0,P n 0,P o 0]/\x=[]/\y=[red X e c.2.1,Y m [N c.1,e],red X f c.2.2.2.1,Y n [N c.2.2.1,f],red X j c.2.2.2.2.2,Y o [N c.2.2.2.2.1,j]]) else (fun h v x y=>∃m:Nat,∃n:Nat,∃o:Nat,∃e:Value,∃f:Value,∃j:Value,h=[(.agg #[P m 0,P n 0,P o 0],[],[red X e c.2.1,Y m [N c.1,e],red X f c.2.2.2.1,Y n [N c.2.2.1,f],red X j c.2.2.2.2.2,Y o [N c.2.2.2.2.1,j]])]/\v=undef/\x=[Y a6 [P m 0,P n 0,P o 0]]/\y=[red X e c.2.1,Y m [N c.1,e],red X f c.2.2.2.1,Y n [N c.2.2.1,f],red X j c.2.2.2.2.2,Y o [N c.2.2.2.2.1,j]])) (SfT.mk' z d l (a.pick (os':=[Y a6 [P aV 0,P aF 0,P aI 0],Y aT [Q3,Q3,N false],Y aN [P A 0,P B 0,P C 0],Y E [P p 0,P t 0,P u 0],Y ba [P ab 0,P ac 0,P ad 0],Y bg [P bh 0,P bi 0,P bj 0]]) [4,0,1,2,3,5] (by decide) rfl)) (fun k hk=>(if_neg (fun q=>by subst q; exact absurd hk (by decide)))) hTT rfl (fun i=>(dl (by rintro h v x y ⟨rfl,rfl,rfl⟩; exact cx rfl) (dl (by rintro h v x y ⟨_,_,_,_,_,_,rfl,rfl,rfl⟩; exact cx rfl) (by rintro h v x y ⟨_,_,_,_,_,_,_,rfl,rfl,rfl⟩; exact cx rfl)))) bK (by kernel_rfl) (by kernel_rfl) ?_
   show fj _ _ _ _ _ _ _ _ _ _ _ _ _ _ _ _ [0,1,2,3,4,5,6,7,8] _ _
   refine eB 1 Z<|cG Z Z (fun w Sb wb z d l hF=>aK Z) Z<|cG Z Z (fun w Sb wb z d l hF=>ak (k:=6) u127 Z Z FJ Z) Z<|cG Z Z (fun w Sb wb z d l hF=>ar Tryz.underlying125 Z Z ((d.rb 10 Z).cell hF.fr 6 Z)) Z<|eB 1 Z ?_
   refine gD (fun h v x y=>v=.agg #[P aV 0,P aF 0,P aI 0]/\x=[]/\y=[]) [] [] [] [Y a6 [P aV 0,P aF 0,P aI 0],Y aT [Q3,Q3,N false],Y aN [P A 0,P B 0,P C 0],Y E [P p 0,P t 0,P u 0],Y ba [P ab 0,P ac 0,P ad 0],Y bg [P bh 0,P bi 0,P bj 0]] Z Z (fun h v x y=>Z) Z Z Z Z ⟨_,_,_,Z,Z,Z⟩ (fun w Sl Tl z hTT d l a=>?_) Z ?_
   ·exact yl (bO (us:=[P aV 0,P aF 0,P aI 0]) u136 Z bV Z (a.p 0 Z Z)) ⟨_,_,⟨Z,Z,Z⟩,SfT.mk' z Rds.nil Off.nil a⟩
   rintro v_q x_q y_q ⟨rfl,rfl,rfl⟩
   refine cG Z Z (fun w Sb wb z d l hF=>bO (us:=[P bh 0,P bi 0,P bj 0]) u136 Z bV Z (hF.p 4 Z Z)) Z ?_
   refine yv (fun h v x y=>∃m:Nat,∃n:Nat,∃o:Nat,∃e:Value,∃f:Value,∃j:Value,v=.agg #[P m 0,P n 0,P o 0]/\x=[]/\y=[red X e c.2.1,Y m [N c.1,e],red X f c.2.2.2.1,Y n [N c.2.2.1,f],red X j c.2.2.2.2.2,Y o [N c.2.2.2.2.1,j]]) [] [] [] _ Z Z (fun h v x y=>Z) Z Z Z Z ⟨_,_,_,0,0,0,undef,undef,undef,Z,Z,Z⟩ Z (by kernel_rfl) Z (fun w Sl Tl z hTT d l a=>?_) Z ?_
   ·replace a:=a.pick (os':=[]++[Y aT [Q3,Q3,N false],Y aN [P A 0,P B 0,P C 0],Y E [P p 0,P t 0,P u 0],Y ba [P ab 0,P ac 0,P ad 0],Y bg [P bh 0,P bi 0,P bj 0]]) [0,1,2,3,4] (by decide) rfl
    obtain⟨z,d,l,a⟩:=z.frzK hTT d l a
    refine cR (uG b.1 b.2.2.1 b.2.2.2.2.1 b.2.2.2.2.2.2.1 b.2.2.2.2.2.2.2.2.1 b.2.2.2.2.2.2.2.2.2.2.1 bC bt bu true cA cB cC cS (z.okT hTT a) (d.i l 0 Z) (d.j l 1 Z) (d.i l 2 Z) (d.j l 3 Z) (d.i l 4 Z) (d.j l 5 Z) (d.i l 6 Z) (d.j l 7 Z) (d.i l 8 Z) (d.j l 9 Z) (d.j l 10 Z) (d.i l 29 Z) (d.j l 30 Z) (d.i l 31 Z) (d.j l 32 Z) (d.i l 33 Z) (d.j l 34 Z) (d.i l 35 Z) (d.j l 36 Z) (d.i l 37 Z) (d.j l 38 Z) (d.i l 39 Z) (d.j l 40 Z)) ?_
    rintro _ w ⟨m,e,n,f,o,j,rfl,bq,cn⟩
    obtain⟨dD,dh,z,d,l,a⟩:=z.l d l a bq cn rfl
    exact⟨_,_,⟨m,n,o,e,f,j,Z,Z,Z⟩,SfT.mk' z (d.pick [41,42,43,44,45,46] Z) (l.pick [41,42,43,44,45,46] Z) a⟩
   rintro v_q x_q y_q ⟨m,n,o,e,f,j,rfl,rfl,rfl⟩
   refine nY (fun h v x y=>∃m:Nat,∃n:Nat,∃o:Nat,∃e:Value,∃f:Value,∃j:Value,h=[(.agg #[P m 0,P n 0,P o 0],[],[red X e c.2.1,Y m [N c.1,e],red X f c.2.2.2.1,Y n [N c.2.2.1,f],red X j c.2.2.2.2.2,Y o [N c.2.2.2.2.1,j]])]/\v=undef/\x=[Y a6 [P m 0,P n 0,P o 0]]/\y=[red X e c.2.1,Y m [N c.1,e],red X f c.2.2.2.1,Y n [N c.2.2.1,f],red X j c.2.2.2.2.2,Y o [N c.2.2.2.2.1,j]]) [(.agg #[P m 0,P n 0,P o 0],[],[red X e c.2.1,Y m [N c.1,e],red X f c.2.2.2.1,Y n [N c.2.2.1,f],red X j c.2.2.2.2.2,Y o [N c.2.2.2.2.1,j]])] [Y a6 [P aV 0,P aF 0,P aI 0]] [red X e c.2.1,Y m [N c.1,e],red X f c.2.2.2.1,Y n [N c.2.2.1,f],red X j c.2.2.2.2.2,Y o [N c.2.2.2.2.1,j]] _ Z Z (fun h v x y=>Z) Z Z Z Z ⟨_,_,_,m,n,o,e,f,j,Z,Z,Z,Z⟩ (fun w Sl Tl z hTT d l a=>?_) ?_
   ·refine mn (bp (i:=0) (us:=[P m 0,P n 0,P o 0]) Z bV Z Z Z ⟨Z,Z,Z,K⟩ Z a) ?_
    intro w a
    exact⟨_,_,⟨m,n,o,e,f,j,Z,Z,Z,Z⟩,SfT.mk' z (d.pick [46,45,44,43,42,41] Z) (l.pick [46,45,44,43,42,41] Z) a⟩
   rintro v_q x_q y_q ⟨b0_155_0',b0_155_1',b0_155_2',u0_155_0_1',u0_155_1_1',u0_155_2_1',hh,rfl,rfl,rfl⟩
   replace hh:([(.agg #[P m 0,P n 0,P o 0],[],[red X e c.2.1,Y m [N c.1,e],red X f c.2.2.2.1,Y n [N c.2.2.1,f],red X j c.2.2.2.2.2,Y o [N c.2.2.2.2.1,j]])]:List Th)=[(.agg #[P b0_155_0' 0,P b0_155_1' 0,P b0_155_2' 0],[],[red X u0_155_0_1' c.2.1,Y b0_155_0' [N c.1,u0_155_0_1'],red X u0_155_1_1' c.2.2.2.1,Y b0_155_1' [N c.2.2.1,u0_155_1_1'],red X u0_155_2_1' c.2.2.2.2.2,Y b0_155_2' [N c.2.2.2.2.1,u0_155_2_1']])]:=hh
   cases hh
   refine ji fun w hQ=>?_
   obtain⟨dE,di,z,d,l,a⟩:=hQ
   exact aH<|am<|al<|V 3 Z<|aG<|bo (br (cN (wI (bB - 1),c.1,c.2.1,c.2.2.1,c.2.2.2.1,c.2.2.2.2.1,c.2.2.2.2.2) _ _ ⟨m,e,n,f,o,j,Z,(SfT.mk' z (d.pick [41,42,43,44,45,46,28,27,26,25,24,23,22,21,20,19,18,17,16,15,14,13,12,11,10,9,8,7,6,5,4,3,2,1,0] Z) (l.pick [41,42,43,44,45,46,28,27,26,25,24,23,22,21,20,19,18,17,16,15,14,13,12,11,10,9,8,7,6,5,4,3,2,1,0] Z) (a.d [1,2,3,4,0] Z Z))⟩ (aW h co)) Z)
  refine aZ<|aA<|aA<|have h:=aR h co;a7<|am<|R<|V 1 Z<|O (bO (us:=[P aV 0,P aF 0,P aI 0]) u136 Z bV Z (a.p 4 Z Z)) Z<|M h fun cD cT h=>bA a Z (ot b.1 b.2.2.1 b.2.2.2.2.1 b.2.2.2.2.2.2.1 b.2.2.2.2.2.2.2.2.1 b.2.2.2.2.2.2.2.2.2.2.1 bC bt bu cT ((d.rp 0 Z).b a.fr).rp ((d.rb 1 Z).b a.fr) ((d.rp 2 Z).b a.fr).rp ((d.rb 3 Z).b a.fr) ((d.rp 4 Z).b a.fr).rp ((d.rb 5 Z).b a.fr) ((d.rp 6 Z).b a.fr).rp ((d.rb 7 Z).b a.fr) ((d.rp 8 Z).b a.fr).rp ((d.rb 9 Z).b a.fr) ((d.rb 10 Z).b a.fr) ((d.rp 29 Z).b a.fr).rp ((d.rb 30 Z).b a.fr) ((d.rp 31 Z).b a.fr).rp ((d.rb 32 Z).b a.fr) ((d.rp 33 Z).b a.fr).rp ((d.rb 34 Z).b a.fr)) Z fun ch ci w a=>bm (bp (i:=2) (us:=[ch,ci,N cD.2.2]) Z cE Z Z Z ⟨(a.ro 0 Z).one,(a.ro 1 Z).one,Z,K⟩ Z a) fun w a=>V 1 Z<|Q<|aq ?_
  cases h
  replace a:=z.st a
  exact ff Z ⟨_,Z,bP (us:=[ch,ci,N cD.2.2]) u71 Z cE (a.p 2 Z Z)⟩ Z ⟨ch,ci,Z,a.d [0,1] Z Z⟩
end Go.Proofs
