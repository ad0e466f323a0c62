import Derived.Test.YtahgjafdhjbkeaaGreatDoorRW0
import Derived.Test.YtahgjafdhjbkeaaGreatDoorGkFman
import Derived.Test.YtahgjafdhjbkeaaGreatDoorRWbignumc
import Derived.Test.YtahgjafdhjbkeaaGreatDoorRWcurveb
set_option linter.unusedVariables false
set_option linter.unusedSimpArgs false
set_option linter.unusedSectionVars false
set_option maxRecDepth 4000
namespace Go.Proofs
open Go Go.RowKit Go.Gk
open Go.Gk renaming aa -> V, af -> J, ag -> N, ai -> H, e32 -> X, gl3 -> P, gl4 -> R, own -> U, pB -> O, red -> Q, vB -> K, vI -> I
open Nat renaming le_of_ble_eq_true -> W
open Go.Gk.OE renaming bx -> Y
open Go.Gk.Rds renaming cons -> M
set_option maxHeartbeats 8000000 in
theorem rR {w0:World} {a1 a2 b6 b7:L0} {cn co a4 a5:Value} (a0:Int) (bq:Bool) {r:L0×L0×Bool×Int}
  (h:F.Jg a0 a1 a2 b6 b7 bq=some r) (dc:RP [] w0 X cn a1) (dd:RP [] w0 X co a2) (cX:RP [] w0 X a4 b6) (cY:RP [] w0 X a5 b7):Calls Tryz.prog 23 #[I a0,cn,co,.agg #[a4,a5,K bq]] w0 (Ret fun v w=>∃cK cL:Value,v=.tuple #[.agg #[cK,cL,K r.2.2.1],I r.2.2.2]/\St [] w0 w [U X cK r.1,U X cL r.2.1]):=by
 refine aB 109 Tryz.func23 Z Z Z<|have a:=St.k w0;have z:=Fz.k (S:=[]) (w0:=w0);?_
 have hTT:TOk [] [] w0:=TOk.nil
 have d:Rds [] w0 [Q X a5 b7,Q X a4 b6,Q X co a2,Q X cn a1]:=M (RP.h (W Z) cY) (M (RP.h (W Z) cX) (M (RP.h (W Z) dd) (M (RP.h (W Z) dc) (Rds.nil))))
 have l:Off [] [Q X a5 b7,Q X a4 b6,Q X co a2,Q X cn a1]:=Off.emp
 refine ax [(0,I a0),(1,cn),(2,co),(3,.agg #[a4,a5,K bq])] Z ?_
 unfold F.Jg at h
 refine R<|bg (cg (cs:=[a4,a5,K bq]) Z Z a) Z fun cq w a=>bg (bb (cs:=[L3,L3,K false]) mY Z a) Z fun aX w a=>V 1 Z<|gl2<|V 1 Z<|N (aM (us:=[a4,a5,K bq]) u33 Z cR Z (a.p 1 Z Z)) Z ?_
 replace a:=a.pick (os':=[]++[Y aX [L3,L3,K false],Y cq [a4,a5,K bq]]) [0,1] (by decide) rfl
 obtain⟨z,d,l,a⟩:=z.frzK hTT d l a
 refine J h fun de db h=>aH Z (ke a0 bq db (z.okT hTT a) (d.i l 2 Z) (d.i l 3 Z)) Z fun v_q w hQ=>?_
 cases b8:de.1 with
 | none=>
  have h:=iQ h b8
  rw[b8]at hQ
  obtain⟨rfl,bs⟩:=ir hQ
  obtain⟨dW,dl,z,d,l,a⟩:=z.l d l a bs Rds.nil rfl
  refine V 4 Z<|bg (bb (cs:=[.pointer none,.pointer none,.pointer none]) gq Z a) Z fun b9 w a=>V 1 Z<|bo (bz (i:=0) (us:=[.pointer none,.pointer none,.pointer none]) Z cp Z Z Z ⟨Z,Z,Z,trivial⟩ Z a) fun w a=>V 1 Z<|gl1<|R<|V 2 Z<|P ?_
  apply gl9 Z h<;>intro h
  ·refine R<|N (cb (vs:=[]) (cells:=[L3,L3,K false]) Z gW trivial Z) Z<|bo (bz (i:=1) (us:=[L3,L3,K false]) Z cR Z Z Z ⟨Z,Z,Z,trivial⟩ Z a) fun w a=>V 1 Z<|gl8 ?_
   cases h
   replace a:=z.st a
   exact js Z ⟨_,Z,bS (us:=[L3,L3,K false]) u33 Z cR (a.p 1 Z Z)⟩ Z ⟨L3,L3,Z,((a.nil X).nil X).d [1,0] Z Z⟩
  refine gl6<|V 1 Z<|J h fun bA cZ h=>bE a Z (gA  cZ ((d.rp 0 Z).b a.fr).rp) Z fun bT ca w a=>V 5 Z<|gl2<|V 1 Z<|J h fun bB c0 h=>bE a Z (gA  c0 ((d.rp 1 Z).b a.fr).rp) Z fun bU cc w a=>V 5 Z<|gl1 ?_
  refine a8 (r:=r) (fun (g:Bool) L w=>L=[(8,O aX 0),(10,.pointer none),(11,O b9 0),(13,O ca 0),(15,O cc 0),(49,K g)]/\SfT [] [] w0 w [Y cc [K bB.1,bU],Q X bU bB.2.1,Y ca [K bA.1,bT],Q X bT bA.2.1] [Y aX [L3,L3,K false],Y b9 [.pointer none,.pointer none,.pointer none]]) (F.Jy) ?_ ?_
  rotate_left
  ·intro cB
   refine al<|V 3 Z ?_
   cases bV:(!bA.2.2)
   case true=>
    have h:=cz h bV
    try simp only[bV]
    refine V 3 Z<|P ?_
    replace a:=a.pick (os':=[Y cc [K bB.1,bU],U X bU bB.2.1,Y ca [K bA.1,bT],U X bT bA.2.1]++[Y b9 [.pointer none,.pointer none,.pointer none],Y aX [L3,L3,K false],Y cq [a4,a5,K bq]]) [0,1,2,3,4,5,6] (by decide) rfl
    obtain⟨dJ,dp,z,d,l,a⟩:=z.frzT hTT d l a
    exact aG (cB true _ _ ⟨Z,(SfT.mk' z (d.pick [7,6,5,4] Z) (l.pick [7,6,5,4] Z) (a.d [1,0] Z Z))⟩ h) Z
   case false=>
    have h:=cA h bV
    try simp only[bV]
    refine V 3 Z<|P ?_
    replace a:=a.pick (os':=[Y cc [K bB.1,bU],U X bU bB.2.1,Y ca [K bA.1,bT],U X bT bA.2.1]++[Y b9 [.pointer none,.pointer none,.pointer none],Y aX [L3,L3,K false],Y cq [a4,a5,K bq]]) [0,1,2,3,4,5,6] (by decide) rfl
    obtain⟨dK,dq,z,d,l,a⟩:=z.frzT hTT d l a
    exact aG (cB (!bB.2.2) _ _ ⟨Z,(SfT.mk' z (d.pick [7,6,5,4] Z) (l.pick [7,6,5,4] Z) (a.d [1,0] Z Z))⟩ h) Z
  rintro dL L w hJ h
  try dsimp only at hJ
  obtain⟨rfl,⟨dM,dr,z,d,l,a⟩⟩:=hJ
  unfold F.Jy at h
  apply gl9 Z h<;>intro h
  ·refine R<|N (cb (vs:=[]) (cells:=[L3,L3,K false]) Z gW trivial Z) Z<|bo (bz (i:=0) (us:=[L3,L3,K false]) Z cR Z Z Z ⟨Z,Z,Z,trivial⟩ Z a) fun w a=>V 1 Z<|gl8 ?_
   cases h
   replace a:=z.st a
   exact js Z ⟨_,Z,bS (us:=[L3,L3,K false]) u33 Z cR (a.p 0 Z Z)⟩ Z ⟨L3,L3,Z,((a.nil X).nil X).d [1,0] Z Z⟩
  refine gl5<|aw ?_
  cases h
 | some b=>
  have h:=i0 h b8
  rw[b8]at hQ
  obtain⟨br,aU,ap,aV,ar,aW,az,p,ae,t,ah,A,H,B,an,C,ao,rfl,bs,ct⟩:=il hQ
  obtain⟨dN,ds,z,d,l,a⟩:=z.l d l a bs ct rfl
  refine V 4 Z<|bg (bb (cs:=[.pointer none,.pointer none,.pointer none]) gq Z a) Z fun aS w a=>V 1 Z<|bo (bz (i:=0) (us:=[O A 0,O B 0,O C 0]) Z cp Z Z Z ⟨Z,Z,Z,trivial⟩ Z a) fun w a=>V 1 Z<|gl1<|R<|V 2 Z<|P ?_
  apply gl9 Z h<;>intro h
  ·refine R<|N (cb (vs:=[]) (cells:=[L3,L3,K false]) Z gW trivial Z) Z<|bo (bz (i:=1) (us:=[L3,L3,K false]) Z cR Z Z Z ⟨Z,Z,Z,trivial⟩ Z a) fun w a=>V 1 Z<|gl8 ?_
   cases h
   replace a:=z.st a
   exact js Z ⟨_,Z,bS (us:=[L3,L3,K false]) u33 Z cR (a.p 1 Z Z)⟩ Z ⟨L3,L3,Z,((a.nil X).nil X).d [1,0] Z Z⟩
  refine gl6<|V 1 Z<|J h fun aO c1 h=>bE a Z (gA  c1 ((d.rp 0 Z).b a.fr).rp) Z fun aZ a9 w a=>V 5 Z<|gl2<|V 1 Z<|J h fun aP c2 h=>bE a Z (gA  c2 ((d.rp 1 Z).b a.fr).rp) Z fun a3 ba w a=>V 5 Z<|gl1 ?_
  refine a8 (r:=r) (fun (g:Bool) L w=>L=[(8,O aX 0),(10,O br 0),(11,O aS 0),(13,O a9 0),(15,O ba 0),(49,K g)]/\SfT [] [] w0 w [Y C [K b.2.2.2.2.2.2.2.2.2.2.2.2.2.2.2.1,ao],Q X ao b.2.2.2.2.2.2.2.2.2.2.2.2.2.2.2.2,Y B [K b.2.2.2.2.2.2.2.2.2.2.2.2.2.1,an],Q X an b.2.2.2.2.2.2.2.2.2.2.2.2.2.2.1,Y A [K b.2.2.2.2.2.2.2.2.2.2.2.1,H],Q X H b.2.2.2.2.2.2.2.2.2.2.2.2.1,Y ba [K aP.1,a3],Q X a3 aP.2.1,Y a9 [K aO.1,aZ],Q X aZ aO.2.1,Y br [O aU 0,O aV 0,O aW 0,O p 0,O t 0,I b.2.2.2.2.2.2.2.2.2.2.1,.func (.func 144) #[] #[]],Y t [K b.2.2.2.2.2.2.2.2.1,ah],Q X ah b.2.2.2.2.2.2.2.2.2.1,Y p [K b.2.2.2.2.2.2.1,ae],Q X ae b.2.2.2.2.2.2.2.1,Y aW [K b.2.2.2.2.1,az],Q X az b.2.2.2.2.2.1,Y aV [K b.2.2.1,ar],Q X ar b.2.2.2.1,Y aU [K b.1,ap],Q X ap b.2.1] [Y aX [L3,L3,K false],Y aS [O A 0,O B 0,O C 0]]) (F.Hg b aO aP) ?_ ?_
  rotate_left
  ·intro cC
   refine al<|V 3 Z ?_
   cases bW:(!aO.2.2)
   case true=>
    have h:=cz h bW
    try simp only[bW]
    refine V 3 Z<|P ?_
    replace a:=a.pick (os':=[Y ba [K aP.1,a3],U X a3 aP.2.1,Y a9 [K aO.1,aZ],U X aZ aO.2.1]++[Y aS [O A 0,O B 0,O C 0],Y aX [L3,L3,K false],Y cq [a4,a5,K bq]]) [0,1,2,3,4,5,6] (by decide) rfl
    obtain⟨dO,dt,z,d,l,a⟩:=z.frzT hTT d l a
    exact aG (cC true _ _ ⟨Z,(SfT.mk' z (d.pick [20,19,18,17,16,15,24,23,22,21,14,13,12,11,10,9,8,7,6,5,4] Z) (l.pick [20,19,18,17,16,15,24,23,22,21,14,13,12,11,10,9,8,7,6,5,4] Z) (a.d [1,0] Z Z))⟩ h) Z
   case false=>
    have h:=cA h bW
    try simp only[bW]
    refine V 3 Z<|P ?_
    replace a:=a.pick (os':=[Y ba [K aP.1,a3],U X a3 aP.2.1,Y a9 [K aO.1,aZ],U X aZ aO.2.1]++[Y aS [O A 0,O B 0,O C 0],Y aX [L3,L3,K false],Y cq [a4,a5,K bq]]) [0,1,2,3,4,5,6] (by decide) rfl
    obtain⟨dP,du,z,d,l,a⟩:=z.frzT hTT d l a
    exact aG (cC (!aP.2.2) _ _ ⟨Z,(SfT.mk' z (d.pick [20,19,18,17,16,15,24,23,22,21,14,13,12,11,10,9,8,7,6,5,4] Z) (l.pick [20,19,18,17,16,15,24,23,22,21,14,13,12,11,10,9,8,7,6,5,4] Z) (a.d [1,0] Z Z))⟩ h) Z
  rintro dQ L w hJ h
  try dsimp only at hJ
  obtain⟨rfl,⟨dR,dw,z,d,l,a⟩⟩:=hJ
  unfold F.Hg at h
  apply gl9 Z h<;>intro h
  ·refine R<|N (cb (vs:=[]) (cells:=[L3,L3,K false]) Z gW trivial Z) Z<|bo (bz (i:=0) (us:=[L3,L3,K false]) Z cR Z Z Z ⟨Z,Z,Z,trivial⟩ Z a) fun w a=>V 1 Z<|gl8 ?_
   cases h
   replace a:=z.st a
   exact js Z ⟨_,Z,bS (us:=[L3,L3,K false]) u33 Z cR (a.p 0 Z Z)⟩ Z ⟨L3,L3,Z,((a.nil X).nil X).d [1,0] Z Z⟩
  refine gl5<|aw<|J h fun G c3 h=>cF (es:=[Y C [K b.2.2.2.2.2.2.2.2.2.2.2.2.2.2.2.1,ao],Q X ao b.2.2.2.2.2.2.2.2.2.2.2.2.2.2.2.2,Y B [K b.2.2.2.2.2.2.2.2.2.2.2.2.2.1,an],Q X an b.2.2.2.2.2.2.2.2.2.2.2.2.2.2.1,Y A [K b.2.2.2.2.2.2.2.2.2.2.2.1,H],Q X H b.2.2.2.2.2.2.2.2.2.2.2.2.1,Y ba [K aP.1,a3],Q X a3 aP.2.1,Y a9 [K aO.1,aZ],Q X aZ aO.2.1,Y br [O aU 0,O aV 0,O aW 0,O p 0,O t 0,I b.2.2.2.2.2.2.2.2.2.2.1,.func (.func 144) #[] #[]],Y t [K b.2.2.2.2.2.2.2.2.1,ah],Q X ah b.2.2.2.2.2.2.2.2.2.1,Y p [K b.2.2.2.2.2.2.1,ae],Q X ae b.2.2.2.2.2.2.2.1,Y aW [K b.2.2.2.2.1,az],Q X az b.2.2.2.2.2.1,Y aV [K b.2.2.1,ar],Q X ar b.2.2.2.1,Y aU [K b.1,ap],Q X ap b.2.1]) (os:=[Y aX [L3,L3,K false],Y aS [O A 0,O B 0,O C 0]]) (fun i=>[8,10,11].contains i) (fun i=>if i=8 then some 11 else if i=10 then some 11 else none) (fun i=>[]) (fun i=>[]) (fun i=>[]) (fun i=>if i=11 then [8,10] else []) (fun i=>if i=8 then (fun h v x y=>∃u:Nat,∃D:Value,v=O u 0/\x=[Y u [K G.1,D],U X D G.2]/\y=[]) else if i=10 then (fun h v x y=>∃E:Nat,v=O E 0/\x=[Y E [.pointer none,.pointer none,.pointer none]]/\y=[]) else (fun h v x y=>∃u:Nat,∃D:Value,∃E:Nat,h=[(O u 0,[Y u [K G.1,D],U X D G.2],[]),(O E 0,[Y E [.pointer none,.pointer none,.pointer none]],[])]/\v=undef/\x=[Y u [K G.1,D],U X D G.2,Y E [O p 0,O t 0,O u 0]]/\y=[])) (SfT.mk' z d l a) (fun k hk=>rfl) hTT rfl (fun i=>(bZ (by rintro h v x y ⟨_,_,rfl,rfl,rfl⟩; exact bM rfl) (bZ (by rintro h v x y ⟨_,rfl,rfl,rfl⟩; exact bM rfl) (by rintro h v x y ⟨_,_,_,_,rfl,rfl,rfl⟩; exact bM rfl)))) bQ (by kernel_rfl) (by kernel_rfl) ?_
  show dZ _ _ _ _ _ _ _ _ _ _ _ _ _ _ _ _ [0,1,2,3,4,5,6,7,8,9,10,11] _ _
  refine bN 1 Z<|bj Z Z (fun w Sb wb z d l hF=>aL Z) Z<|bj Z Z (fun w Sb wb z d l hF=>am (k:=3) u62 Z Z dn Z) Z<|bj Z Z (fun w Sb wb z d l hF=>au u59 Z Z ((d.rb 10 Z).cell hF.fr 3 Z)) Z<|bN 1 Z<|bj Z Z (fun w Sb wb z d l hF=>aL Z) Z<|bj Z Z (fun w Sb wb z d l hF=>am (k:=4) u62 Z Z dn Z) Z<|bj Z Z (fun w Sb wb z d l hF=>au u59 Z Z ((d.rb 10 Z).cell hF.fr 4 Z)) Z ?_
  refine bI (fun h v x y=>∃u:Nat,∃D:Value,v=O u 0/\x=[Y u [K G.1,D],U X D G.2]/\y=[]) [] [] [] _ Z Z (fun h v x y=>Z) Z Z Z Z ⟨_,_,_,0,undef,Z,Z,Z⟩ (by kernel_rfl) Z (fun w Sl Tl z hTT d l a=>?_) Z ?_
  ·refine bG (dm 1 c3 ) ?_
   rintro _ w ⟨D,u,rfl,bs⟩
   have a:=a.e bs
   exact⟨_,_,⟨u,D,Z,Z,Z⟩,SfT.mk' z Rds.nil Off.nil a⟩
  rintro v_q x_q y_q ⟨u,D,rfl,rfl,rfl⟩
  refine bj Z Z (fun w Sb wb z d l hF=>cb (vs:=[(0,O p 0,[O p 0]),(1,O t 0,[O t 0]),(2,O u 0,[O u 0])]) (cells:=[O p 0,O t 0,O u 0]) Z od ⟨Z,Z,Z,trivial⟩ Z) Z ?_
  refine eP (fun h v x y=>∃E:Nat,v=O E 0/\x=[Y E [.pointer none,.pointer none,.pointer none]]/\y=[]) [] [] [] _ Z Z (fun h v x y=>Z) Z Z Z Z ⟨_,_,_,0,Z,Z,Z⟩ (fun w Sl Tl z hTT d l a=>?_) Z ?_
  ·refine iV (bb (cs:=[.pointer none,.pointer none,.pointer none]) gq Z a) ?_
   rintro _ w ⟨E,rfl,a⟩
   exact⟨_,_,⟨E,Z,Z,Z⟩,SfT.mk' z Rds.nil Off.nil a⟩
  rintro v_q x_q y_q ⟨E,rfl,rfl,rfl⟩
  refine j1 (fun h v x y=>∃u:Nat,∃D:Value,∃E:Nat,h=[(O u 0,[Y u [K G.1,D],U X D G.2],[]),(O E 0,[Y E [.pointer none,.pointer none,.pointer none]],[])]/\v=undef/\x=[Y u [K G.1,D],U X D G.2,Y E [O p 0,O t 0,O u 0]]/\y=[]) [(O u 0,[Y u [K G.1,D],U X D G.2],[]),(O E 0,[Y E [.pointer none,.pointer none,.pointer none]],[])] [Y u [K G.1,D],U X D G.2,Y E [.pointer none,.pointer none,.pointer none]] [] _ Z Z (fun h v x y=>Z) Z Z Z Z ⟨_,_,_,u,D,E,Z,Z,Z,Z⟩ (fun w Sl Tl z hTT d l a=>?_) ?_
  ·refine i6 (bz (i:=2) (us:=[O p 0,O t 0,O u 0]) Z cp Z Z Z ⟨Z,Z,Z,trivial⟩ Z a) ?_
   intro w a
   exact⟨_,_,⟨u,D,E,Z,Z,Z,Z⟩,SfT.mk' z Rds.nil Off.nil a⟩
  rintro v_q x_q y_q ⟨b_60',v_58',b_62',hh,rfl,rfl,rfl⟩
  replace hh:([(O u 0,[Y u [K G.1,D],U X D G.2],[]),(O E 0,[Y E [.pointer none,.pointer none,.pointer none]],[])]:List Th)=[(O b_60' 0,[Y b_60' [K G.1,v_58'],U X v_58' G.2],[]),(O b_62' 0,[Y b_62' [.pointer none,.pointer none,.pointer none]],[])]:=hh
  cases hh
  refine dv fun w hQ=>?_
  obtain⟨dS,dx,z,d,l,a⟩:=hQ
  refine ak<|R<|V 1 Z<|N (aM (us:=[O p 0,O t 0,O u 0]) u78 Z cp Z (a.p 2 Z Z)) Z<|N (aM (us:=[O A 0,O B 0,O C 0]) u78 Z cp Z (a.p 4 Z Z)) Z ?_
  replace a:=a.pick (os':=[Y u [K G.1,D],U X D G.2]++[Y E [O p 0,O t 0,O u 0],Y aX [L3,L3,K false],Y aS [O A 0,O B 0,O C 0]]) [0,1,2,3,4] (by decide) rfl
  obtain⟨z,d,l,a⟩:=z.frzK hTT d l a
  refine J h fun T c4 h=>aH Z (jE b.1 b.2.2.1 b.2.2.2.2.1 b.2.2.2.2.2.2.1 b.2.2.2.2.2.2.2.2.1 b.2.2.2.2.2.2.2.2.2.2.1 b.2.2.2.2.2.2.1 b.2.2.2.2.2.2.2.2.1 G.1 b.2.2.2.2.2.2.2.2.2.2.2.1 b.2.2.2.2.2.2.2.2.2.2.2.2.2.1 b.2.2.2.2.2.2.2.2.2.2.2.2.2.2.2.1 c4 (z.okT hTT a) (d.i l 0 Z) (d.j l 1 Z) (d.i l 2 Z) (d.j l 3 Z) (d.i l 4 Z) (d.j l 5 Z) (d.i l 6 Z) (d.j l 7 Z) (d.i l 8 Z) (d.j l 9 Z) (d.j l 10 Z) (d.i l 6 Z) (d.j l 7 Z) (d.i l 8 Z) (d.j l 9 Z) (d.i l 21 Z) (d.j l 22 Z) (d.i l 15 Z) (d.j l 16 Z) (d.i l 17 Z) (d.j l 18 Z) (d.i l 19 Z) (d.j l 20 Z)) Z ?_
  rintro _ w ⟨ab,aA,ac,aC,ad,aD,rfl,bs,ct⟩
  obtain⟨dT,dy,z,d,l,a⟩:=z.l d l a bs ct rfl
  refine bg (bb (cs:=[.pointer none,.pointer none,.pointer none]) gq Z a) Z fun be w a=>bo (bz (i:=0) (us:=[O ab 0,O ac 0,O ad 0]) Z cp Z Z Z ⟨Z,Z,Z,trivial⟩ Z a) fun w a=>gl2<|J h fun bh c5 h=>aH Z (fY  c5 ) Z ?_
  rintro _ w ⟨cw,cx,cy,ce,cf,ch,rfl,bs⟩
  have a:=a.e bs
  refine bg (bb (cs:=[.pointer none,.pointer none,.pointer none]) gq Z a) Z fun a7 w a=>bo (bz (i:=0) (us:=[O ce 0,O cf 0,O ch 0]) Z cp Z Z Z ⟨Z,Z,Z,trivial⟩ Z a) fun w a=>gl1<|R<|V 1 Z<|J h fun cO c6 h=>bf a Z (iN aO.1 c6 ((d.rp 11 Z).b a.fr).rp ((d.rb 12 Z).b a.fr)) Z fun w a=>V 1 Z<|J h fun cP c7 h=>bf a Z (iN aP.1 c7 ((d.rp 13 Z).b a.fr).rp ((d.rb 14 Z).b a.fr)) Z fun w a=>N (k8 Z Z) Z<|V 2 Z<|P<|aq ?_
  replace a:=a.pick (os':=[Y ce [K bh.1,cw],U X cw bh.2.1,Y cf [K bh.2.2.1,cx],U X cx bh.2.2.2.1,Y ch [K bh.2.2.2.2.1,cy],U X cy bh.2.2.2.2.2]++[Y a7 [O ce 0,O cf 0,O ch 0],Y be [O ab 0,O ac 0,O ad 0],Y E [O p 0,O t 0,O u 0],Y aX [L3,L3,K false],Y aS [O A 0,O B 0,O C 0]]) [1,2,3,4,5,6,0,7,8,9,10] (by decide) rfl
  obtain⟨dU,dz,z,d,l,a⟩:=z.frzT hTT d l a
  refine ax [(8,O aX 0),(10,O br 0),(11,O aS 0),(13,O a9 0),(15,O ba 0),(17,O E 0),(18,O be 0),(19,O a7 0),(20,I (wI ((max cO cP) - 1)))] Z ?_
  refine aT (F.Fb b aO aP G T) (fun (s:Int×Bool×L0×Bool×L0×Bool×L0) L w=>∃(aY:Nat) (bt:Value) (aJ:Nat) (bi:Value) (aN:Nat) (bk:Value),L=[(8,O aX 0),(10,O br 0),(11,O aS 0),(13,O a9 0),(15,O ba 0),(17,O E 0),(18,O be 0),(19,O a7 0),(20,I s.1)]/\SfT [] [] w0 w [Y aN [K s.2.2.2.2.2.1,bk],Q X bk s.2.2.2.2.2.2,Y aJ [K s.2.2.2.1,bi],Q X bi s.2.2.2.2.1,Y aY [K s.2.1,bt],Q X bt s.2.2.1,Y ad [K T.2.2.2.2.1,aD],Q X aD T.2.2.2.2.2,Y ac [K T.2.2.1,aC],Q X aC T.2.2.2.1,Y ab [K T.1,aA],Q X aA T.2.1,Y u [K G.1,D],Q X D G.2,Y C [K b.2.2.2.2.2.2.2.2.2.2.2.2.2.2.2.1,ao],Q X ao b.2.2.2.2.2.2.2.2.2.2.2.2.2.2.2.2,Y B [K b.2.2.2.2.2.2.2.2.2.2.2.2.2.1,an],Q X an b.2.2.2.2.2.2.2.2.2.2.2.2.2.2.1,Y A [K b.2.2.2.2.2.2.2.2.2.2.2.1,H],Q X H b.2.2.2.2.2.2.2.2.2.2.2.2.1,Y ba [K aP.1,a3],Q X a3 aP.2.1,Y a9 [K aO.1,aZ],Q X aZ aO.2.1,Y br [O aU 0,O aV 0,O aW 0,O p 0,O t 0,I b.2.2.2.2.2.2.2.2.2.2.1,.func (.func 144) #[] #[]],Y t [K b.2.2.2.2.2.2.2.2.1,ah],Q X ah b.2.2.2.2.2.2.2.2.2.1,Y p [K b.2.2.2.2.2.2.1,ae],Q X ae b.2.2.2.2.2.2.2.1,Y aW [K b.2.2.2.2.1,az],Q X az b.2.2.2.2.2.1,Y aV [K b.2.2.1,ar],Q X ar b.2.2.2.1,Y aU [K b.1,ap],Q X ap b.2.1] [Y aX [L3,L3,K false],Y aS [O A 0,O B 0,O C 0],Y E [O p 0,O t 0,O u 0],Y be [O ab 0,O ac 0,O ad 0],Y a7 [O aY 0,O aJ 0,O aN 0]]) ?_ (wI ((max cO cP) - 1),bh.1,bh.2.1,bh.2.2.1,bh.2.2.2.1,bh.2.2.2.2.1,bh.2.2.2.2.2) ⟨ce,cw,cf,cx,ch,cy,Z,(SfT.mk' z (d.pick [30,29,32,31,34,33,28,27,26,25,24,23,22,21,20,19,18,17,16,15,14,13,12,11,10,9,8,7,6,5,4,3,2,1,0] Z) (l.pick [30,29,32,31,34,33,28,27,26,25,24,23,22,21,20,19,18,17,16,15,14,13,12,11,10,9,8,7,6,5,4,3,2,1,0] Z) (a.d [3,4,2,1,0] Z Z))⟩ h
  rintro dA ⟨bC,bD,b3,bu,bH,bv,bJ⟩ L w cD hI cQ h cu
  try dsimp only at hI
  obtain⟨aY,bt,aJ,bi,aN,bk,rfl,⟨dV,dB,z,d,l,a⟩⟩:=hI
  unfold F.Fb at h
  refine aw<|R<|V 2 Z<|P ?_
  apply gl9 Z h<;>intro h
  ·refine gl5<|aw<|aq<|R<|N (aM (us:=[O p 0,O t 0,O u 0]) u78 Z cp Z (a.p 2 Z Z)) Z<|bg (bb (cs:=[.pointer none,.pointer none,.pointer none]) gq Z a) Z fun bl w a=>bo (bz (i:=0) (us:=[O p 0,O t 0,O u 0]) Z cp Z Z Z ⟨Z,Z,Z,trivial⟩ Z a) fun w a=>P ?_
   refine a8 (r:=cD) (fun (g:Bool×L0×Bool×L0×Bool×L0) L w=>∃(bm:Nat) (bK:Value) (bn:Nat) (bL:Value) (bp:Nat) (bO:Value),L=[(8,O aX 0),(10,O br 0),(11,O aS 0),(13,O a9 0),(15,O ba 0),(17,O E 0),(18,O be 0),(19,O a7 0),(20,I bC),(21,O bl 0)]/\SfT [] [] w0 w [Y bp [K g.2.2.2.2.1,bO],Q X bO g.2.2.2.2.2,Y bn [K g.2.2.1,bL],Q X bL g.2.2.2.1,Y bm [K g.1,bK],Q X bK g.2.1,Y aN [K bv,bk],Q X bk bJ,Y aJ [K bu,bi],Q X bi bH,Y aY [K bD,bt],Q X bt b3,Y ad [K T.2.2.2.2.1,aD],Q X aD T.2.2.2.2.2,Y ac [K T.2.2.1,aC],Q X aC T.2.2.2.1,Y ab [K T.1,aA],Q X aA T.2.1,Y u [K G.1,D],Q X D G.2,Y C [K b.2.2.2.2.2.2.2.2.2.2.2.2.2.2.2.1,ao],Q X ao b.2.2.2.2.2.2.2.2.2.2.2.2.2.2.2.2,Y B [K b.2.2.2.2.2.2.2.2.2.2.2.2.2.1,an],Q X an b.2.2.2.2.2.2.2.2.2.2.2.2.2.2.1,Y A [K b.2.2.2.2.2.2.2.2.2.2.2.1,H],Q X H b.2.2.2.2.2.2.2.2.2.2.2.2.1,Y ba [K aP.1,a3],Q X a3 aP.2.1,Y a9 [K aO.1,aZ],Q X aZ aO.2.1,Y br [O aU 0,O aV 0,O aW 0,O p 0,O t 0,I b.2.2.2.2.2.2.2.2.2.2.1,.func (.func 144) #[] #[]],Y t [K b.2.2.2.2.2.2.2.2.1,ah],Q X ah b.2.2.2.2.2.2.2.2.2.1,Y p [K b.2.2.2.2.2.2.1,ae],Q X ae b.2.2.2.2.2.2.2.1,Y aW [K b.2.2.2.2.1,az],Q X az b.2.2.2.2.2.1,Y aV [K b.2.2.1,ar],Q X ar b.2.2.2.1,Y aU [K b.1,ap],Q X ap b.2.1] [Y aX [L3,L3,K false],Y aS [O A 0,O B 0,O C 0],Y E [O p 0,O t 0,O u 0],Y be [O ab 0,O ac 0,O ad 0],Y a7 [O aY 0,O aJ 0,O aN 0],Y bl [O bm 0,O bn 0,O bp 0]]) (F.D7 b bC bD b3 bu bH bv bJ) ?_ ?_
   rotate_left
   ·intro bP
    refine R<|V 2 Z<|J h fun cE cS h=>bf a Z (jU aO.1 bC cS ((d.rp 11 Z).b a.fr).rp ((d.rb 12 Z).b a.fr)) Z fun w a=>N (aj Z Z (qA _ cE 1)) Z<|V 2 Z<|J h fun bX cT h=>bf a Z (jU aP.1 bC cT ((d.rp 13 Z).b a.fr).rp ((d.rb 14 Z).b a.fr)) Z fun w a=>N (aj Z Z (qA _ bX 1)) Z<|V 2 Z<|P<|aq ?_
    refine a8 (r:=cD) (fun (g:Bool×Bool) L w=>L=[(8,O aX 0),(10,O br 0),(11,O aS 0),(13,O a9 0),(15,O ba 0),(17,O E 0),(18,O be 0),(19,O a7 0),(20,I bC),(21,O bl 0),(22,K g.1),(23,K (bX == 1)),(85,K g.2)]/\SfT [] [] w0 w [Y aN [K bv,bk],Q X bk bJ,Y aJ [K bu,bi],Q X bi bH,Y aY [K bD,bt],Q X bt b3,Y ad [K T.2.2.2.2.1,aD],Q X aD T.2.2.2.2.2,Y ac [K T.2.2.1,aC],Q X aC T.2.2.2.1,Y ab [K T.1,aA],Q X aA T.2.1,Y u [K G.1,D],Q X D G.2,Y C [K b.2.2.2.2.2.2.2.2.2.2.2.2.2.2.2.1,ao],Q X ao b.2.2.2.2.2.2.2.2.2.2.2.2.2.2.2.2,Y B [K b.2.2.2.2.2.2.2.2.2.2.2.2.2.1,an],Q X an b.2.2.2.2.2.2.2.2.2.2.2.2.2.2.1,Y A [K b.2.2.2.2.2.2.2.2.2.2.2.1,H],Q X H b.2.2.2.2.2.2.2.2.2.2.2.2.1,Y ba [K aP.1,a3],Q X a3 aP.2.1,Y a9 [K aO.1,aZ],Q X aZ aO.2.1,Y br [O aU 0,O aV 0,O aW 0,O p 0,O t 0,I b.2.2.2.2.2.2.2.2.2.2.1,.func (.func 144) #[] #[]],Y t [K b.2.2.2.2.2.2.2.2.1,ah],Q X ah b.2.2.2.2.2.2.2.2.2.1,Y p [K b.2.2.2.2.2.2.1,ae],Q X ae b.2.2.2.2.2.2.2.1,Y aW [K b.2.2.2.2.1,az],Q X az b.2.2.2.2.2.1,Y aV [K b.2.2.1,ar],Q X ar b.2.2.2.1,Y aU [K b.1,ap],Q X ap b.2.1] [Y aX [L3,L3,K false],Y aS [O A 0,O B 0,O C 0],Y E [O p 0,O t 0,O u 0],Y be [O ab 0,O ac 0,O ad 0],Y a7 [O aY 0,O aJ 0,O aN 0],Y bl [O p 0,O t 0,O u 0]]) (F.Id b G T bX bC bD b3 bu bH bv bJ) ?_ ?_
    rotate_left
    ·intro cv
     refine al<|V 2 Z ?_
     cases bR:(cE == 1)
     case true=>
      have h:=cz h bR
      try simp only[bR]
      exact V 3 Z<|P<|aG (cv (true,bX == 1) _ _ ⟨Z,(SfT.mk' z (d.pick [34,33,32,31,30,29,28,27,26,25,24,23,22,21,20,19,18,17,16,15,14,13,12,11,10,9,8,7,6,5,4,3,2,1,0] Z) (l.pick [34,33,32,31,30,29,28,27,26,25,24,23,22,21,20,19,18,17,16,15,14,13,12,11,10,9,8,7,6,5,4,3,2,1,0] Z) (a.d [1,2,3,4,5,0] Z Z))⟩ h) Z
     case false=>
      have h:=cA h bR
      try simp only[bR]
      exact V 3 Z<|P<|aG (cv (false,false) _ _ ⟨Z,(SfT.mk' z (d.pick [34,33,32,31,30,29,28,27,26,25,24,23,22,21,20,19,18,17,16,15,14,13,12,11,10,9,8,7,6,5,4,3,2,1,0] Z) (l.pick [34,33,32,31,30,29,28,27,26,25,24,23,22,21,20,19,18,17,16,15,14,13,12,11,10,9,8,7,6,5,4,3,2,1,0] Z) (a.d [1,2,3,4,5,0] Z Z))⟩ h) Z
    rintro⟨dC,dD⟩ L w hJ h
    try dsimp only at hJ
    obtain⟨rfl,⟨dE,dg,z,d,l,a⟩⟩:=hJ
    unfold F.Id at h
    apply gl9 Z h<;>intro h
    ·refine al<|N (aM (us:=[O ab 0,O ac 0,O ad 0]) u78 Z cp Z (a.p 3 Z Z)) Z<|bo (bz (i:=5) (us:=[O ab 0,O ac 0,O ad 0]) Z cp Z Z Z ⟨Z,Z,Z,trivial⟩ Z a) fun w a=>aE<|aF<|ak ?_
     exact aG (bP (T.1,T.2.1,T.2.2.1,T.2.2.2.1,T.2.2.2.2.1,T.2.2.2.2.2) _ _ ⟨ab,aA,ac,aC,ad,aD,Z,(SfT.mk' z (d.pick [28,27,26,25,24,23,34,33,32,31,30,29,28,27,26,25,24,23,22,21,20,19,18,17,16,15,14,13,12,11,10,9,8,7,6,5,4,3,2,1,0] Z) (l.pick [28,27,26,25,24,23,34,33,32,31,30,29,28,27,26,25,24,23,22,21,20,19,18,17,16,15,14,13,12,11,10,9,8,7,6,5,4,3,2,1,0] Z) a)⟩ h) Z
    refine R<|V 2 Z<|P ?_
    apply gl9 Z h<;>intro h
    ·refine al<|N (aM (us:=[O A 0,O B 0,O C 0]) u78 Z cp Z (a.p 1 Z Z)) Z<|bo (bz (i:=5) (us:=[O A 0,O B 0,O C 0]) Z cp Z Z Z ⟨Z,Z,Z,trivial⟩ Z a) fun w a=>aE<|aF<|ak ?_
     exact aG (bP (b.2.2.2.2.2.2.2.2.2.2.2.1,b.2.2.2.2.2.2.2.2.2.2.2.2.1,b.2.2.2.2.2.2.2.2.2.2.2.2.2.1,b.2.2.2.2.2.2.2.2.2.2.2.2.2.2.1,b.2.2.2.2.2.2.2.2.2.2.2.2.2.2.2.1,b.2.2.2.2.2.2.2.2.2.2.2.2.2.2.2.2) _ _ ⟨A,H,B,an,C,ao,Z,(SfT.mk' z (d.pick [20,19,18,17,16,15,34,33,32,31,30,29,28,27,26,25,24,23,22,21,20,19,18,17,16,15,14,13,12,11,10,9,8,7,6,5,4,3,2,1,0] Z) (l.pick [20,19,18,17,16,15,34,33,32,31,30,29,28,27,26,25,24,23,22,21,20,19,18,17,16,15,14,13,12,11,10,9,8,7,6,5,4,3,2,1,0] Z) a)⟩ h) Z
    refine R<|V 3 Z<|P ?_
    apply gl9 Z h<;>intro h
    ·refine al<|J h fun a6 cU h=>aH Z (fY  cU ) Z ?_
     rintro _ w ⟨ci,cj,ck,bY,b0,b1,rfl,bs⟩
     have a:=a.e bs
     refine bo (bz (i:=11) (us:=[O bY 0,O b0 0,O b1 0]) Z cp Z Z Z ⟨Z,Z,Z,trivial⟩ Z a) fun w a=>aE<|aF<|ak ?_
     replace a:=a.pick (os':=[Y bY [K a6.1,ci],U X ci a6.2.1,Y b0 [K a6.2.2.1,cj],U X cj a6.2.2.2.1,Y b1 [K a6.2.2.2.2.1,ck],U X ck a6.2.2.2.2.2]++[Y aX [L3,L3,K false],Y aS [O A 0,O B 0,O C 0],Y E [O p 0,O t 0,O u 0],Y be [O ab 0,O ac 0,O ad 0],Y a7 [O aY 0,O aJ 0,O aN 0],Y bl [O bY 0,O b0 0,O b1 0]]) [0,1,2,3,4,5,6,7,8,9,10,11] (by decide) rfl
     obtain⟨dF,dh,z,d,l,a⟩:=z.frzT hTT d l a
     exact aG (bP (a6.1,a6.2.1,a6.2.2.1,a6.2.2.2.1,a6.2.2.2.2.1,a6.2.2.2.2.2) _ _ ⟨bY,ci,b0,cj,b1,ck,Z,(SfT.mk' z (d.pick [36,35,38,37,40,39,34,33,32,31,30,29,28,27,26,25,24,23,22,21,20,19,18,17,16,15,14,13,12,11,10,9,8,7,6,5,4,3,2,1,0] Z) (l.pick [36,35,38,37,40,39,34,33,32,31,30,29,28,27,26,25,24,23,22,21,20,19,18,17,16,15,14,13,12,11,10,9,8,7,6,5,4,3,2,1,0] Z) a)⟩ h) Z
    exact cd<|aF<|ak<|aG (bP (b.2.2.2.2.2.2.1,b.2.2.2.2.2.2.2.1,b.2.2.2.2.2.2.2.2.1,b.2.2.2.2.2.2.2.2.2.1,G.1,G.2) _ _ ⟨p,ae,t,ah,u,D,Z,(SfT.mk' z (d.pick [22,21,9,8,7,6,34,33,32,31,30,29,28,27,26,25,24,23,22,21,20,19,18,17,16,15,14,13,12,11,10,9,8,7,6,5,4,3,2,1,0] Z) (l.pick [22,21,9,8,7,6,34,33,32,31,30,29,28,27,26,25,24,23,22,21,20,19,18,17,16,15,14,13,12,11,10,9,8,7,6,5,4,3,2,1,0] Z) a)⟩ h) Z
   rintro⟨cG,c8,cH,c9,cI,da⟩ L w hJ h
   try dsimp only at hJ
   obtain⟨bm,bK,bn,bL,bp,bO,rfl,⟨dG,di,z,d,l,a⟩⟩:=hJ
   unfold F.D7 at h
   refine J h fun c cV h=>cF (es:=[Y bp [K cI,bO],Q X bO da,Y bn [K cH,bL],Q X bL c9,Y bm [K cG,bK],Q X bK c8,Y aN [K bv,bk],Q X bk bJ,Y aJ [K bu,bi],Q X bi bH,Y aY [K bD,bt],Q X bt b3,Y ad [K T.2.2.2.2.1,aD],Q X aD T.2.2.2.2.2,Y ac [K T.2.2.1,aC],Q X aC T.2.2.2.1,Y ab [K T.1,aA],Q X aA T.2.1,Y u [K G.1,D],Q X D G.2,Y C [K b.2.2.2.2.2.2.2.2.2.2.2.2.2.2.2.1,ao],Q X ao b.2.2.2.2.2.2.2.2.2.2.2.2.2.2.2.2,Y B [K b.2.2.2.2.2.2.2.2.2.2.2.2.2.1,an],Q X an b.2.2.2.2.2.2.2.2.2.2.2.2.2.2.1,Y A [K b.2.2.2.2.2.2.2.2.2.2.2.1,H],Q X H b.2.2.2.2.2.2.2.2.2.2.2.2.1,Y ba [K aP.1,a3],Q X a3 aP.2.1,Y a9 [K aO.1,aZ],Q X aZ aO.2.1,Y br [O aU 0,O aV 0,O aW 0,O p 0,O t 0,I b.2.2.2.2.2.2.2.2.2.2.1,.func (.func 144) #[] #[]],Y t [K b.2.2.2.2.2.2.2.2.1,ah],Q X ah b.2.2.2.2.2.2.2.2.2.1,Y p [K b.2.2.2.2.2.2.1,ae],Q X ae b.2.2.2.2.2.2.2.1,Y aW [K b.2.2.2.2.1,az],Q X az b.2.2.2.2.2.1,Y aV [K b.2.2.1,ar],Q X ar b.2.2.2.1,Y aU [K b.1,ap],Q X ap b.2.1]) (os:=[Y aX [L3,L3,K false],Y aS [O A 0,O B 0,O C 0],Y E [O p 0,O t 0,O u 0],Y be [O ab 0,O ac 0,O ad 0],Y bl [O bm 0,O bn 0,O bp 0]]) (fun i=>[5,7,8].contains i) (fun i=>none) (fun i=>if i=8 then [7] else []) (fun i=>if i=8 then [Y a7 [O aY 0,O aJ 0,O aN 0]] else []) (fun i=>if i=5 then [8] else []) (fun i=>if i=8 then [7] else []) (fun i=>if i=5 then (fun h v x y=>v=.agg #[O aY 0,O aJ 0,O aN 0]/\x=[]/\y=[]) else if i=7 then (fun h v x y=>∃m:Nat,∃n:Nat,∃o:Nat,∃e:Value,∃f:Value,∃j:Value,v=.agg #[O m 0,O n 0,O o 0]/\x=[]/\y=[Q X e c.2.1,Y m [K c.1,e],Q X f c.2.2.2.1,Y n [K c.2.2.1,f],Q X j c.2.2.2.2.2,Y o [K c.2.2.2.2.1,j]]) else (fun h v x y=>∃m:Nat,∃n:Nat,∃o:Nat,∃e:Value,∃f:Value,∃j:Value,h=[(.agg #[O m 0,O n 0,O o 0],[],[Q X e c.2.1,Y m [K c.1,e],Q X f c.2.2.2.1,Y n [K c.2.2.1,f],Q X j c.2.2.2.2.2,Y o [K c.2.2.2.2.1,j]])]/\v=undef/\x=[Y a7 [O m 0,O n 0,O o 0]]/\y=[Q X e c.2.1,Y m [K c.1,e],Q X f c.2.2.2.1,Y n [K c.2.2.1,f],Q X j c.2.2.2.2.2,Y o [K c.2.2.2.2.1,j]])) (SfT.mk' z d l (a.pick (os':=[Y a7 [O aY 0,O aJ 0,O aN 0],Y aX [L3,L3,K false],Y aS [O A 0,O B 0,O C 0],Y E [O p 0,O t 0,O u 0],Y be [O ab 0,O ac 0,O ad 0],Y bl [O bm 0,O bn 0,O bp 0]]) [4,0,1,2,3,5] (by decide) rfl)) (fun k hk=>(if_neg (fun q=>by subst q; exact absurd hk (by decide)))) hTT rfl (fun i=>(bZ (by rintro h v x y ⟨rfl,rfl,rfl⟩; exact bM rfl) (bZ (by rintro h v x y ⟨_,_,_,_,_,_,rfl,rfl,rfl⟩; exact bM rfl) (by rintro h v x y ⟨_,_,_,_,_,_,_,rfl,rfl,rfl⟩; exact bM rfl)))) bQ (by kernel_rfl) (by kernel_rfl) ?_
   show dZ _ _ _ _ _ _ _ _ _ _ _ _ _ _ _ _ [0,1,2,3,4,5,6,7,8] _ _
   refine bN 1 Z<|bj Z Z (fun w Sb wb z d l hF=>aL Z) Z<|bj Z Z (fun w Sb wb z d l hF=>am (k:=6) u62 Z Z Dm Z) Z<|bj Z Z (fun w Sb wb z d l hF=>au Tryz.underlying60 Z Z ((d.rb 10 Z).cell hF.fr 6 Z)) Z<|bN 1 Z ?_
   refine eP (fun h v x y=>v=.agg #[O aY 0,O aJ 0,O aN 0]/\x=[]/\y=[]) [] [] [] [Y a7 [O aY 0,O aJ 0,O aN 0],Y aX [L3,L3,K false],Y aS [O A 0,O B 0,O C 0],Y E [O p 0,O t 0,O u 0],Y be [O ab 0,O ac 0,O ad 0],Y bl [O bm 0,O bn 0,O bp 0]] Z Z (fun h v x y=>Z) Z Z Z Z ⟨_,_,_,Z,Z,Z⟩ (fun w Sl Tl z hTT d l a=>?_) Z ?_
   ·exact pC (aM (us:=[O aY 0,O aJ 0,O aN 0]) u78 Z cp Z (a.p 0 Z Z)) ⟨_,_,⟨Z,Z,Z⟩,SfT.mk' z Rds.nil Off.nil a⟩
   rintro v_q x_q y_q ⟨rfl,rfl,rfl⟩
   refine bj Z Z (fun w Sb wb z d l hF=>aM (us:=[O bm 0,O bn 0,O bp 0]) u78 Z cp Z (hF.p 4 Z Z)) Z ?_
   refine wu (fun h v x y=>∃m:Nat,∃n:Nat,∃o:Nat,∃e:Value,∃f:Value,∃j:Value,v=.agg #[O m 0,O n 0,O o 0]/\x=[]/\y=[Q X e c.2.1,Y m [K c.1,e],Q X f c.2.2.2.1,Y n [K c.2.2.1,f],Q X j c.2.2.2.2.2,Y o [K c.2.2.2.2.1,j]]) [] [] [] _ Z Z (fun h v x y=>Z) Z Z Z Z ⟨_,_,_,0,0,0,undef,undef,undef,Z,Z,Z⟩ Z (by kernel_rfl) Z (fun w Sl Tl z hTT d l a=>?_) Z ?_
   ·replace a:=a.pick (os':=[]++[Y aX [L3,L3,K false],Y aS [O A 0,O B 0,O C 0],Y E [O p 0,O t 0,O u 0],Y be [O ab 0,O ac 0,O ad 0],Y bl [O bm 0,O bn 0,O bp 0]]) [0,1,2,3,4] (by decide) rfl
    obtain⟨z,d,l,a⟩:=z.frzK hTT d l a
    refine bG (sY b.1 b.2.2.1 b.2.2.2.2.1 b.2.2.2.2.2.2.1 b.2.2.2.2.2.2.2.2.1 b.2.2.2.2.2.2.2.2.2.2.1 bD bu bv true cG cH cI cV (z.okT hTT a) (d.i l 0 Z) (d.j l 1 Z) (d.i l 2 Z) (d.j l 3 Z) (d.i l 4 Z) (d.j l 5 Z) (d.i l 6 Z) (d.j l 7 Z) (d.i l 8 Z) (d.j l 9 Z) (d.j l 10 Z) (d.i l 29 Z) (d.j l 30 Z) (d.i l 31 Z) (d.j l 32 Z) (d.i l 33 Z) (d.j l 34 Z) (d.i l 35 Z) (d.j l 36 Z) (d.i l 37 Z) (d.j l 38 Z) (d.i l 39 Z) (d.j l 40 Z)) ?_
    rintro _ w ⟨m,e,n,f,o,j,rfl,bs,ct⟩
    obtain⟨dH,dj,z,d,l,a⟩:=z.l d l a bs ct rfl
    exact⟨_,_,⟨m,n,o,e,f,j,Z,Z,Z⟩,SfT.mk' z (d.pick [41,42,43,44,45,46] Z) (l.pick [41,42,43,44,45,46] Z) a⟩
   rintro v_q x_q y_q ⟨m,n,o,e,f,j,rfl,rfl,rfl⟩
   refine j1 (fun h v x y=>∃m:Nat,∃n:Nat,∃o:Nat,∃e:Value,∃f:Value,∃j:Value,h=[(.agg #[O m 0,O n 0,O o 0],[],[Q X e c.2.1,Y m [K c.1,e],Q X f c.2.2.2.1,Y n [K c.2.2.1,f],Q X j c.2.2.2.2.2,Y o [K c.2.2.2.2.1,j]])]/\v=undef/\x=[Y a7 [O m 0,O n 0,O o 0]]/\y=[Q X e c.2.1,Y m [K c.1,e],Q X f c.2.2.2.1,Y n [K c.2.2.1,f],Q X j c.2.2.2.2.2,Y o [K c.2.2.2.2.1,j]]) [(.agg #[O m 0,O n 0,O o 0],[],[Q X e c.2.1,Y m [K c.1,e],Q X f c.2.2.2.1,Y n [K c.2.2.1,f],Q X j c.2.2.2.2.2,Y o [K c.2.2.2.2.1,j]])] [Y a7 [O aY 0,O aJ 0,O aN 0]] [Q X e c.2.1,Y m [K c.1,e],Q X f c.2.2.2.1,Y n [K c.2.2.1,f],Q X j c.2.2.2.2.2,Y o [K c.2.2.2.2.1,j]] _ Z Z (fun h v x y=>Z) Z Z Z Z ⟨_,_,_,m,n,o,e,f,j,Z,Z,Z,Z⟩ (fun w Sl Tl z hTT d l a=>?_) ?_
   ·refine i6 (bz (i:=0) (us:=[O m 0,O n 0,O o 0]) Z cp Z Z Z ⟨Z,Z,Z,trivial⟩ Z a) ?_
    intro w a
    exact⟨_,_,⟨m,n,o,e,f,j,Z,Z,Z,Z⟩,SfT.mk' z (d.pick [46,45,44,43,42,41] Z) (l.pick [46,45,44,43,42,41] Z) a⟩
   rintro v_q x_q y_q ⟨b0_155_0',b0_155_1',b0_155_2',u0_155_0_1',u0_155_1_1',u0_155_2_1',hh,rfl,rfl,rfl⟩
   replace hh:([(.agg #[O m 0,O n 0,O o 0],[],[Q X e c.2.1,Y m [K c.1,e],Q X f c.2.2.2.1,Y n [K c.2.2.1,f],Q X j c.2.2.2.2.2,Y o [K c.2.2.2.2.1,j]])]:List Th)=[(.agg #[O b0_155_0' 0,O b0_155_1' 0,O b0_155_2' 0],[],[Q X u0_155_0_1' c.2.1,Y b0_155_0' [K c.1,u0_155_0_1'],Q X u0_155_1_1' c.2.2.2.1,Y b0_155_1' [K c.2.2.1,u0_155_1_1'],Q X u0_155_2_1' c.2.2.2.2.2,Y b0_155_2' [K c.2.2.2.2.1,u0_155_2_1']])]:=hh
   cases hh
   refine dv fun w hQ=>?_
   obtain⟨dI,dk,z,d,l,a⟩:=hQ
   exact aF<|ak<|al<|V 3 Z<|aE<|bd (bc (cQ (wI (bC - 1),c.1,c.2.1,c.2.2.1,c.2.2.2.1,c.2.2.2.2.1,c.2.2.2.2.2) _ _ ⟨m,e,n,f,o,j,Z,(SfT.mk' z (d.pick [41,42,43,44,45,46,28,27,26,25,24,23,22,21,20,19,18,17,16,15,14,13,12,11,10,9,8,7,6,5,4,3,2,1,0] Z) (l.pick [41,42,43,44,45,46,28,27,26,25,24,23,22,21,20,19,18,17,16,15,14,13,12,11,10,9,8,7,6,5,4,3,2,1,0] Z) (a.d [1,2,3,4,0] Z Z))⟩ (aK h cu)) Z)
  refine aQ<|av<|av<|have h:=aI h cu;aR<|ak<|R<|V 1 Z<|N (aM (us:=[O aY 0,O aJ 0,O aN 0]) u78 Z cp Z (a.p 4 Z Z)) Z<|J h fun cJ cW h=>bE a Z (nI b.1 b.2.2.1 b.2.2.2.2.1 b.2.2.2.2.2.2.1 b.2.2.2.2.2.2.2.2.1 b.2.2.2.2.2.2.2.2.2.2.1 bD bu bv cW ((d.rp 0 Z).b a.fr).rp ((d.rb 1 Z).b a.fr) ((d.rp 2 Z).b a.fr).rp ((d.rb 3 Z).b a.fr) ((d.rp 4 Z).b a.fr).rp ((d.rb 5 Z).b a.fr) ((d.rp 6 Z).b a.fr).rp ((d.rb 7 Z).b a.fr) ((d.rp 8 Z).b a.fr).rp ((d.rb 9 Z).b a.fr) ((d.rb 10 Z).b a.fr) ((d.rp 29 Z).b a.fr).rp ((d.rb 30 Z).b a.fr) ((d.rp 31 Z).b a.fr).rp ((d.rb 32 Z).b a.fr) ((d.rp 33 Z).b a.fr).rp ((d.rb 34 Z).b a.fr)) Z fun cl cm w a=>bo (bz (i:=2) (us:=[cl,cm,K cJ.2.2]) Z cR Z Z Z ⟨(a.ro 0 Z).one,(a.ro 1 Z).one,Z,trivial⟩ Z a) fun w a=>V 1 Z<|P<|ay ?_
  cases h
  replace a:=z.st a
  exact js Z ⟨_,Z,bS (us:=[cl,cm,K cJ.2.2]) u33 Z cR (a.p 2 Z Z)⟩ Z ⟨cl,cm,Z,a.d [0,1] Z Z⟩
end Go.Proofs
