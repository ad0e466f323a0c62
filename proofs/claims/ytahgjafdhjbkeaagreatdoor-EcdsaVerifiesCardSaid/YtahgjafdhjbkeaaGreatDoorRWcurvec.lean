import Derived.Test.YtahgjafdhjbkeaaGreatDoorRW0
import Derived.Test.YtahgjafdhjbkeaaGreatDoorGkFman
import Derived.Test.YtahgjafdhjbkeaaGreatDoorRWbignumc
import Derived.Test.YtahgjafdhjbkeaaGreatDoorRWcurveb
set_option linter.unusedVariables false
set_option linter.unusedSimpArgs false
set_option linter.unusedSectionVars false
set_option maxRecDepth 4000
namespace Go.Proofs
open Go Go.RowKit Go.Gk
open Go.Gk renaming aa → V, af → J, ag → N, e32 → X, gl3 → Q, gl4 → R, own → U, pB → O, red → P, vB → K, vI → H
open Nat renaming le_of_ble_eq_true → W
open Go.Gk.OE renaming bx → Y
open Go.Gk.Rds renaming cons → M
set_option maxHeartbeats 8000000 in
theorem rj {w0:World} {a1 a2 b6 b7:List UInt32} {cm cn a5 a6:Value} (a0:Int) (bp:Bool) {r:List UInt32×List UInt32×Bool×Int}
  (h:F.IB a0 a1 a2 b6 b7 bp=some r) (dc:RP [] w0 X cm a1) (dd:RP [] w0 X cn a2) (cX:RP [] w0 X a5 b6) (cY:RP [] w0 X a6 b7):Calls Tryz.prog 23 #[H a0,cm,cn,.agg #[a5,a6,K bp]] w0 (Ret fun v w=>∃cK cL:Value,v=.tuple #[.agg #[cK,cL,K r.2.2.1],H r.2.2.2]∧St [] w0 w [U X cK r.1,U X cL r.2.1]):=by
 refine aB 109 Tryz.func23 Z Z Z<|have a:=St.k w0;have z:=Fz.k (S:=[]) (w0:=w0);?_
 have hTT:TOk [] [] w0:=TOk.nil
 have d:Rds [] w0 [P X a6 b7,P X a5 b6,P X cn a2,P X cm a1]:=M (RP.h (W Z) cY) (M (RP.h (W Z) cX) (M (RP.h (W Z) dd) (M (RP.h (W Z) dc) (Rds.nil))))
 have l:Off [] [P X a6 b7,P X a5 b6,P X cn a2,P X cm a1]:=Off.emp
 refine ax [(0,H a0),(1,cm),(2,cn),(3,.agg #[a5,a6,K bp])] Z ?_
 unfold F.IB at h
 refine R<|bh (cu (cs:=[a5,a6,K bp]) Z Z a) Z fun co w a=>bh (ba (cs:=[.slice none 0 0,.slice none 0 0,K false]) jk Z a) Z fun aX w a=>V 1 Z<|gl2<|V 1 Z<|N (aP (us:=[a5,a6,K bp]) u33 Z cC Z (a.p 1 Z Z)) Z ?_
 replace a:=a.pick (os':=[]++[Y aX [.slice none 0 0,.slice none 0 0,K false],Y co [a5,a6,K bp]]) [0,1] (by decide) rfl
 obtain ⟨z,d,l,a⟩:=z.frzK hTT d l a
 refine J h fun de db h=>aG Z (tj a0 bp db (z.okT hTT a) (d.i l 2 Z) (d.i l 3 Z)) Z fun v_q w hQ=>?_
 cases b8:de.1 with
 | none=>
  have h:=jC h b8
  rw [b8]at hQ
  obtain ⟨rfl,bs⟩:=jg hQ
  obtain ⟨dW,dm,z,d,l,a⟩:=z.l d l a bs Rds.nil rfl
  refine V 4 Z<|bh (ba (cs:=[.pointer none,.pointer none,.pointer none]) iT Z a) Z fun b9 w a=>V 1 Z<|bl (bq (i:=0) (us:=[.pointer none,.pointer none,.pointer none]) Z ct Z Z Z ⟨Z,Z,Z,I⟩ Z a) fun w a=>V 1 Z<|gl1<|R<|V 2 Z<|Q ?_
  refine gl9 Z h (fun h=>?_) (fun h=>?_)
  ·refine R<|N (bT (vs:=[]) (cells:=[.slice none 0 0,.slice none 0 0,K false]) Z fp I Z) Z<|bl (bq (i:=1) (us:=[.slice none 0 0,.slice none 0 0,K false]) Z cC Z Z Z ⟨Z,Z,Z,I⟩ Z a) fun w a=>V 1 Z<|gl8 ?_
   cases h
   replace a:=z.st a
   exact fq Z ⟨_,Z,bM (us:=[.slice none 0 0,.slice none 0 0,K false]) u33 Z cC (a.p 1 Z Z)⟩ Z ⟨.slice none 0 0,.slice none 0 0,Z,((a.nil X).nil X).d [1,0] Z Z⟩
  refine gl6<|V 1 Z<|J h fun bA cZ h=>bH a Z (gu  cZ ((d.rp 0 Z).b a.fr).rp) Z fun bU ca w a=>V 5 Z<|gl2<|V 1 Z<|J h fun bB c0 h=>bH a Z (gu  c0 ((d.rp 1 Z).b a.fr).rp) Z fun bV cb w a=>V 5 Z<|gl1 ?_
  refine aZ (r:=r) (fun (g:Bool) L w=>L=[(8,O aX 0),(10,.pointer none),(11,O b9 0),(13,O ca 0),(15,O cb 0),(49,K g)]∧SfT [] [] w0 w [Y cb [K bB.1,bV],P X bV bB.2.1,Y ca [K bA.1,bU],P X bU bA.2.1] [Y aX [.slice none 0 0,.slice none 0 0,K false],Y b9 [.pointer none,.pointer none,.pointer none]]) (F.IV) ?_ ?_
  rotate_left
  ·intro cz
   refine al<|V 3 Z ?_
   cases bW:(!bA.2.2)
   case true=>
    have h:=cH h bW
    try simp only [bW]
    refine V 3 Z<|Q ?_
    replace a:=a.pick (os':=[Y cb [K bB.1,bV],U X bV bB.2.1,Y ca [K bA.1,bU],U X bU bA.2.1]++[Y b9 [.pointer none,.pointer none,.pointer none],Y aX [.slice none 0 0,.slice none 0 0,K false],Y co [a5,a6,K bp]]) [0,1,2,3,4,5,6] (by decide) rfl
    obtain ⟨dJ,dn,z,d,l,a⟩:=z.frzT hTT d l a
    exact aH (cz true _ _ ⟨Z,(SfT.mk' z (d.pick [7,6,5,4] Z) (l.pick [7,6,5,4] Z) (a.d [1,0] Z Z))⟩ h) Z
   case false=>
    have h:=cI h bW
    try simp only [bW]
    refine V 3 Z<|Q ?_
    replace a:=a.pick (os':=[Y cb [K bB.1,bV],U X bV bB.2.1,Y ca [K bA.1,bU],U X bU bA.2.1]++[Y b9 [.pointer none,.pointer none,.pointer none],Y aX [.slice none 0 0,.slice none 0 0,K false],Y co [a5,a6,K bp]]) [0,1,2,3,4,5,6] (by decide) rfl
    obtain ⟨dK,dp,z,d,l,a⟩:=z.frzT hTT d l a
    exact aH (cz (!bB.2.2) _ _ ⟨Z,(SfT.mk' z (d.pick [7,6,5,4] Z) (l.pick [7,6,5,4] Z) (a.d [1,0] Z Z))⟩ h) Z
  rintro dL L w hJ h
  try dsimp only at hJ
  obtain ⟨rfl,⟨dM,dq,z,d,l,a⟩⟩:=hJ
  unfold F.IV at h
  refine gl9 Z h (fun h=>?_) (fun h=>?_)
  ·refine R<|N (bT (vs:=[]) (cells:=[.slice none 0 0,.slice none 0 0,K false]) Z fp I Z) Z<|bl (bq (i:=0) (us:=[.slice none 0 0,.slice none 0 0,K false]) Z cC Z Z Z ⟨Z,Z,Z,I⟩ Z a) fun w a=>V 1 Z<|gl8 ?_
   cases h
   replace a:=z.st a
   exact fq Z ⟨_,Z,bM (us:=[.slice none 0 0,.slice none 0 0,K false]) u33 Z cC (a.p 0 Z Z)⟩ Z ⟨.slice none 0 0,.slice none 0 0,Z,((a.nil X).nil X).d [1,0] Z Z⟩
  refine gl5<|av ?_
  cases h
 | some b=>
  have h:=jK h b8
  rw [b8]at hQ
  obtain ⟨br,aU,ap,aV,aq,aW,ay,p,ae,t,ah,A,ai,B,am,C,an,rfl,bs,cq⟩:=jd hQ
  obtain ⟨dN,dr,z,d,l,a⟩:=z.l d l a bs cq rfl
  refine V 4 Z<|bh (ba (cs:=[.pointer none,.pointer none,.pointer none]) iT Z a) Z fun aS w a=>V 1 Z<|bl (bq (i:=0) (us:=[O A 0,O B 0,O C 0]) Z ct Z Z Z ⟨Z,Z,Z,I⟩ Z a) fun w a=>V 1 Z<|gl1<|R<|V 2 Z<|Q ?_
  refine gl9 Z h (fun h=>?_) (fun h=>?_)
  ·refine R<|N (bT (vs:=[]) (cells:=[.slice none 0 0,.slice none 0 0,K false]) Z fp I Z) Z<|bl (bq (i:=1) (us:=[.slice none 0 0,.slice none 0 0,K false]) Z cC Z Z Z ⟨Z,Z,Z,I⟩ Z a) fun w a=>V 1 Z<|gl8 ?_
   cases h
   replace a:=z.st a
   exact fq Z ⟨_,Z,bM (us:=[.slice none 0 0,.slice none 0 0,K false]) u33 Z cC (a.p 1 Z Z)⟩ Z ⟨.slice none 0 0,.slice none 0 0,Z,((a.nil X).nil X).d [1,0] Z Z⟩
  refine gl6<|V 1 Z<|J h fun aN c1 h=>bH a Z (gu  c1 ((d.rp 0 Z).b a.fr).rp) Z fun a3 a9 w a=>V 5 Z<|gl2<|V 1 Z<|J h fun aO c2 h=>bH a Z (gu  c2 ((d.rp 1 Z).b a.fr).rp) Z fun a4 bb w a=>V 5 Z<|gl1 ?_
  refine aZ (r:=r) (fun (g:Bool) L w=>L=[(8,O aX 0),(10,O br 0),(11,O aS 0),(13,O a9 0),(15,O bb 0),(49,K g)]∧SfT [] [] w0 w [Y C [K b.2.2.2.2.2.2.2.2.2.2.2.2.2.2.2.1,an],P X an b.2.2.2.2.2.2.2.2.2.2.2.2.2.2.2.2,Y B [K b.2.2.2.2.2.2.2.2.2.2.2.2.2.1,am],P X am b.2.2.2.2.2.2.2.2.2.2.2.2.2.2.1,Y A [K b.2.2.2.2.2.2.2.2.2.2.2.1,ai],P X ai b.2.2.2.2.2.2.2.2.2.2.2.2.1,Y bb [K aO.1,a4],P X a4 aO.2.1,Y a9 [K aN.1,a3],P X a3 aN.2.1,Y br [O aU 0,O aV 0,O aW 0,O p 0,O t 0,H b.2.2.2.2.2.2.2.2.2.2.1,.func (.func 144) #[] #[]],Y t [K b.2.2.2.2.2.2.2.2.1,ah],P X ah b.2.2.2.2.2.2.2.2.2.1,Y p [K b.2.2.2.2.2.2.1,ae],P X ae b.2.2.2.2.2.2.2.1,Y aW [K b.2.2.2.2.1,ay],P X ay b.2.2.2.2.2.1,Y aV [K b.2.2.1,aq],P X aq b.2.2.2.1,Y aU [K b.1,ap],P X ap b.2.1] [Y aX [.slice none 0 0,.slice none 0 0,K false],Y aS [O A 0,O B 0,O C 0]]) (F.GC b aN aO) ?_ ?_
  rotate_left
  ·intro cA
   refine al<|V 3 Z ?_
   cases bX:(!aN.2.2)
   case true=>
    have h:=cH h bX
    try simp only [bX]
    refine V 3 Z<|Q ?_
    replace a:=a.pick (os':=[Y bb [K aO.1,a4],U X a4 aO.2.1,Y a9 [K aN.1,a3],U X a3 aN.2.1]++[Y aS [O A 0,O B 0,O C 0],Y aX [.slice none 0 0,.slice none 0 0,K false],Y co [a5,a6,K bp]]) [0,1,2,3,4,5,6] (by decide) rfl
    obtain ⟨dO,ds,z,d,l,a⟩:=z.frzT hTT d l a
    exact aH (cA true _ _ ⟨Z,(SfT.mk' z (d.pick [20,19,18,17,16,15,24,23,22,21,14,13,12,11,10,9,8,7,6,5,4] Z) (l.pick [20,19,18,17,16,15,24,23,22,21,14,13,12,11,10,9,8,7,6,5,4] Z) (a.d [1,0] Z Z))⟩ h) Z
   case false=>
    have h:=cI h bX
    try simp only [bX]
    refine V 3 Z<|Q ?_
    replace a:=a.pick (os':=[Y bb [K aO.1,a4],U X a4 aO.2.1,Y a9 [K aN.1,a3],U X a3 aN.2.1]++[Y aS [O A 0,O B 0,O C 0],Y aX [.slice none 0 0,.slice none 0 0,K false],Y co [a5,a6,K bp]]) [0,1,2,3,4,5,6] (by decide) rfl
    obtain ⟨dP,dt,z,d,l,a⟩:=z.frzT hTT d l a
    exact aH (cA (!aO.2.2) _ _ ⟨Z,(SfT.mk' z (d.pick [20,19,18,17,16,15,24,23,22,21,14,13,12,11,10,9,8,7,6,5,4] Z) (l.pick [20,19,18,17,16,15,24,23,22,21,14,13,12,11,10,9,8,7,6,5,4] Z) (a.d [1,0] Z Z))⟩ h) Z
  rintro dQ L w hJ h
  try dsimp only at hJ
  obtain ⟨rfl,⟨dR,du,z,d,l,a⟩⟩:=hJ
  unfold F.GC at h
  refine gl9 Z h (fun h=>?_) (fun h=>?_)
  ·refine R<|N (bT (vs:=[]) (cells:=[.slice none 0 0,.slice none 0 0,K false]) Z fp I Z) Z<|bl (bq (i:=0) (us:=[.slice none 0 0,.slice none 0 0,K false]) Z cC Z Z Z ⟨Z,Z,Z,I⟩ Z a) fun w a=>V 1 Z<|gl8 ?_
   cases h
   replace a:=z.st a
   exact fq Z ⟨_,Z,bM (us:=[.slice none 0 0,.slice none 0 0,K false]) u33 Z cC (a.p 0 Z Z)⟩ Z ⟨.slice none 0 0,.slice none 0 0,Z,((a.nil X).nil X).d [1,0] Z Z⟩
  refine gl5<|av<|J h fun G c3 h=>cO (es:=[Y C [K b.2.2.2.2.2.2.2.2.2.2.2.2.2.2.2.1,an],P X an b.2.2.2.2.2.2.2.2.2.2.2.2.2.2.2.2,Y B [K b.2.2.2.2.2.2.2.2.2.2.2.2.2.1,am],P X am b.2.2.2.2.2.2.2.2.2.2.2.2.2.2.1,Y A [K b.2.2.2.2.2.2.2.2.2.2.2.1,ai],P X ai b.2.2.2.2.2.2.2.2.2.2.2.2.1,Y bb [K aO.1,a4],P X a4 aO.2.1,Y a9 [K aN.1,a3],P X a3 aN.2.1,Y br [O aU 0,O aV 0,O aW 0,O p 0,O t 0,H b.2.2.2.2.2.2.2.2.2.2.1,.func (.func 144) #[] #[]],Y t [K b.2.2.2.2.2.2.2.2.1,ah],P X ah b.2.2.2.2.2.2.2.2.2.1,Y p [K b.2.2.2.2.2.2.1,ae],P X ae b.2.2.2.2.2.2.2.1,Y aW [K b.2.2.2.2.1,ay],P X ay b.2.2.2.2.2.1,Y aV [K b.2.2.1,aq],P X aq b.2.2.2.1,Y aU [K b.1,ap],P X ap b.2.1]) (os:=[Y aX [.slice none 0 0,.slice none 0 0,K false],Y aS [O A 0,O B 0,O C 0]]) (fun i=>[8,10,11].contains i) (fun i=>if i=8 then some 11 else if i=10 then some 11 else none) (fun i=>[]) (fun i=>[]) (fun i=>[]) (fun i=>if i=11 then [8,10] else []) (fun i=>if i=8 then (fun h v x y=>∃u:Nat,∃D:Value,v=O u 0∧x=[Y u [K G.1,D],U X D G.2]∧y=[]) else if i=10 then (fun h v x y=>∃E:Nat,v=O E 0∧x=[Y E [.pointer none,.pointer none,.pointer none]]∧y=[]) else (fun h v x y=>∃u:Nat,∃D:Value,∃E:Nat,h=[(O u 0,[Y u [K G.1,D],U X D G.2],[]),(O E 0,[Y E [.pointer none,.pointer none,.pointer none]],[])]∧v=undef∧x=[Y u [K G.1,D],U X D G.2,Y E [O p 0,O t 0,O u 0]]∧y=[])) (SfT.mk' z d l a) (fun k hk=>rfl) hTT rfl (fun i=>(cl (by rintro h v x y ⟨_,_,rfl,rfl,rfl⟩; exact bQ rfl) (cl (by rintro h v x y ⟨_,rfl,rfl,rfl⟩; exact bQ rfl) (by rintro h v x y ⟨_,_,_,_,rfl,rfl,rfl⟩; exact bQ rfl)))) bR (by kernel_rfl) (by kernel_rfl) ?_
  show dY _ _ _ _ _ _ _ _ _ _ _ _ _ _ _ _ [0,1,2,3,4,5,6,7,8,9,10,11] _ _
  refine bP 1 Z<|bz Z Z (fun w Sb wb z d l hF=>aK Z) Z<|bz Z Z (fun w Sb wb z d l hF=>ao (k:=3) u62 Z Z dE Z) Z<|bz Z Z (fun w Sb wb z d l hF=>aw u59 Z Z ((d.rb 10 Z).cell hF.fr 3 Z)) Z<|bP 1 Z<|bz Z Z (fun w Sb wb z d l hF=>aK Z) Z<|bz Z Z (fun w Sb wb z d l hF=>ao (k:=4) u62 Z Z dE Z) Z<|bz Z Z (fun w Sb wb z d l hF=>aw u59 Z Z ((d.rb 10 Z).cell hF.fr 4 Z)) Z ?_
  refine bK (fun h v x y=>∃u:Nat,∃D:Value,v=O u 0∧x=[Y u [K G.1,D],U X D G.2]∧y=[]) [] [] [] _ Z Z (fun h v x y=>Z) Z Z Z Z ⟨_,_,_,0,undef,Z,Z,Z⟩ (by kernel_rfl) Z (fun w Sl Tl z hTT d l a=>?_) Z ?_
  ·refine bJ (dh 1 c3 ) ?_
   rintro _ w ⟨D,u,rfl,bs⟩
   have a:=a.e bs
   exact ⟨_,_,⟨u,D,Z,Z,Z⟩,SfT.mk' z Rds.nil Off.nil a⟩
  rintro v_q x_q y_q ⟨u,D,rfl,rfl,rfl⟩
  refine bz Z Z (fun w Sb wb z d l hF=>bT (vs:=[(0,O p 0,[O p 0]),(1,O t 0,[O t 0]),(2,O u 0,[O u 0])]) (cells:=[O p 0,O t 0,O u 0]) Z nT ⟨Z,Z,Z,I⟩ Z) Z ?_
  refine gl (fun h v x y=>∃E:Nat,v=O E 0∧x=[Y E [.pointer none,.pointer none,.pointer none]]∧y=[]) [] [] [] _ Z Z (fun h v x y=>Z) Z Z Z Z ⟨_,_,_,0,Z,Z,Z⟩ (fun w Sl Tl z hTT d l a=>?_) Z ?_
  ·refine nG (ba (cs:=[.pointer none,.pointer none,.pointer none]) iT Z a) ?_
   rintro _ w ⟨E,rfl,a⟩
   exact ⟨_,_,⟨E,Z,Z,Z⟩,SfT.mk' z Rds.nil Off.nil a⟩
  rintro v_q x_q y_q ⟨E,rfl,rfl,rfl⟩
  refine kU (fun h v x y=>∃u:Nat,∃D:Value,∃E:Nat,h=[(O u 0,[Y u [K G.1,D],U X D G.2],[]),(O E 0,[Y E [.pointer none,.pointer none,.pointer none]],[])]∧v=undef∧x=[Y u [K G.1,D],U X D G.2,Y E [O p 0,O t 0,O u 0]]∧y=[]) [(O u 0,[Y u [K G.1,D],U X D G.2],[]),(O E 0,[Y E [.pointer none,.pointer none,.pointer none]],[])] [Y u [K G.1,D],U X D G.2,Y E [.pointer none,.pointer none,.pointer none]] [] _ Z Z (fun h v x y=>Z) Z Z Z Z ⟨_,_,_,u,D,E,Z,Z,Z,Z⟩ (fun w Sl Tl z hTT d l a=>?_) ?_
  ·refine jL (bq (i:=2) (us:=[O p 0,O t 0,O u 0]) Z ct Z Z Z ⟨Z,Z,Z,I⟩ Z a) ?_
   intro w a
   exact ⟨_,_,⟨u,D,E,Z,Z,Z,Z⟩,SfT.mk' z Rds.nil Off.nil a⟩
  rintro v_q x_q y_q ⟨b_60',v_58',b_62',hh,rfl,rfl,rfl⟩
  replace hh:([(O u 0,[Y u [K G.1,D],U X D G.2],[]),(O E 0,[Y E [.pointer none,.pointer none,.pointer none]],[])]:List Th)=[(O b_60' 0,[Y b_60' [K G.1,v_58'],U X v_58' G.2],[]),(O b_62' 0,[Y b_62' [.pointer none,.pointer none,.pointer none]],[])]:=hh
  cases hh
  refine dH fun w hQ=>?_
  obtain ⟨dS,dv,z,d,l,a⟩:=hQ
  refine ak<|R<|V 1 Z<|N (aP (us:=[O p 0,O t 0,O u 0]) u78 Z ct Z (a.p 2 Z Z)) Z<|N (aP (us:=[O A 0,O B 0,O C 0]) u78 Z ct Z (a.p 4 Z Z)) Z ?_
  replace a:=a.pick (os':=[Y u [K G.1,D],U X D G.2]++[Y E [O p 0,O t 0,O u 0],Y aX [.slice none 0 0,.slice none 0 0,K false],Y aS [O A 0,O B 0,O C 0]]) [0,1,2,3,4] (by decide) rfl
  obtain ⟨z,d,l,a⟩:=z.frzK hTT d l a
  refine J h fun T c4 h=>aG Z (ju b.1 b.2.2.1 b.2.2.2.2.1 b.2.2.2.2.2.2.1 b.2.2.2.2.2.2.2.2.1 b.2.2.2.2.2.2.2.2.2.2.1 b.2.2.2.2.2.2.1 b.2.2.2.2.2.2.2.2.1 G.1 b.2.2.2.2.2.2.2.2.2.2.2.1 b.2.2.2.2.2.2.2.2.2.2.2.2.2.1 b.2.2.2.2.2.2.2.2.2.2.2.2.2.2.2.1 c4 (z.okT hTT a) (d.i l 0 Z) (d.j l 1 Z) (d.i l 2 Z) (d.j l 3 Z) (d.i l 4 Z) (d.j l 5 Z) (d.i l 6 Z) (d.j l 7 Z) (d.i l 8 Z) (d.j l 9 Z) (d.j l 10 Z) (d.i l 6 Z) (d.j l 7 Z) (d.i l 8 Z) (d.j l 9 Z) (d.i l 21 Z) (d.j l 22 Z) (d.i l 15 Z) (d.j l 16 Z) (d.i l 17 Z) (d.j l 18 Z) (d.i l 19 Z) (d.j l 20 Z)) Z ?_
  rintro _ w ⟨ab,aA,ac,aC,ad,aD,rfl,bs,cq⟩
  obtain ⟨dT,dw,z,d,l,a⟩:=z.l d l a bs cq rfl
  refine bh (ba (cs:=[.pointer none,.pointer none,.pointer none]) iT Z a) Z fun be w a=>bl (bq (i:=0) (us:=[O ab 0,O ac 0,O ad 0]) Z ct Z Z Z ⟨Z,Z,Z,I⟩ Z a) fun w a=>gl2<|J h fun bg c5 h=>aG Z (fS  c5 ) Z ?_
  rintro _ w ⟨cw,cx,cy,cc,ce,cf,rfl,bs⟩
  have a:=a.e bs
  refine bh (ba (cs:=[.pointer none,.pointer none,.pointer none]) iT Z a) Z fun a8 w a=>bl (bq (i:=0) (us:=[O cc 0,O ce 0,O cf 0]) Z ct Z Z Z ⟨Z,Z,Z,I⟩ Z a) fun w a=>gl1<|R<|V 1 Z<|J h fun cP c6 h=>bc a Z (iD aN.1 c6 ((d.rp 11 Z).b a.fr).rp ((d.rb 12 Z).b a.fr)) Z fun w a=>V 1 Z<|J h fun cQ c7 h=>bc a Z (iD aO.1 c7 ((d.rp 13 Z).b a.fr).rp ((d.rb 14 Z).b a.fr)) Z fun w a=>N (kR Z Z) Z<|V 2 Z<|Q<|ar ?_
  replace a:=a.pick (os':=[Y cc [K bg.1,cw],U X cw bg.2.1,Y ce [K bg.2.2.1,cx],U X cx bg.2.2.2.1,Y cf [K bg.2.2.2.2.1,cy],U X cy bg.2.2.2.2.2]++[Y a8 [O cc 0,O ce 0,O cf 0],Y be [O ab 0,O ac 0,O ad 0],Y E [O p 0,O t 0,O u 0],Y aX [.slice none 0 0,.slice none 0 0,K false],Y aS [O A 0,O B 0,O C 0]]) [1,2,3,4,5,6,0,7,8,9,10] (by decide) rfl
  obtain ⟨dU,dx,z,d,l,a⟩:=z.frzT hTT d l a
  refine ax [(8,O aX 0),(10,O br 0),(11,O aS 0),(13,O a9 0),(15,O bb 0),(17,O E 0),(18,O be 0),(19,O a8 0),(20,H (wI ((max cP cQ) - 1)))] Z ?_
  refine aT (F.EH b aN aO G T) (fun (s:Int×Bool×List UInt32×Bool×List UInt32×Bool×List UInt32) L w=>∃(aY:Nat) (bt:Value) (aJ:Nat) (bi:Value) (aM:Nat) (bj:Value),L=[(8,O aX 0),(10,O br 0),(11,O aS 0),(13,O a9 0),(15,O bb 0),(17,O E 0),(18,O be 0),(19,O a8 0),(20,H s.1)]∧SfT [] [] w0 w [Y aM [K s.2.2.2.2.2.1,bj],P X bj s.2.2.2.2.2.2,Y aJ [K s.2.2.2.1,bi],P X bi s.2.2.2.2.1,Y aY [K s.2.1,bt],P X bt s.2.2.1,Y ad [K T.2.2.2.2.1,aD],P X aD T.2.2.2.2.2,Y ac [K T.2.2.1,aC],P X aC T.2.2.2.1,Y ab [K T.1,aA],P X aA T.2.1,Y u [K G.1,D],P X D G.2,Y C [K b.2.2.2.2.2.2.2.2.2.2.2.2.2.2.2.1,an],P X an b.2.2.2.2.2.2.2.2.2.2.2.2.2.2.2.2,Y B [K b.2.2.2.2.2.2.2.2.2.2.2.2.2.1,am],P X am b.2.2.2.2.2.2.2.2.2.2.2.2.2.2.1,Y A [K b.2.2.2.2.2.2.2.2.2.2.2.1,ai],P X ai b.2.2.2.2.2.2.2.2.2.2.2.2.1,Y bb [K aO.1,a4],P X a4 aO.2.1,Y a9 [K aN.1,a3],P X a3 aN.2.1,Y br [O aU 0,O aV 0,O aW 0,O p 0,O t 0,H b.2.2.2.2.2.2.2.2.2.2.1,.func (.func 144) #[] #[]],Y t [K b.2.2.2.2.2.2.2.2.1,ah],P X ah b.2.2.2.2.2.2.2.2.2.1,Y p [K b.2.2.2.2.2.2.1,ae],P X ae b.2.2.2.2.2.2.2.1,Y aW [K b.2.2.2.2.1,ay],P X ay b.2.2.2.2.2.1,Y aV [K b.2.2.1,aq],P X aq b.2.2.2.1,Y aU [K b.1,ap],P X ap b.2.1] [Y aX [.slice none 0 0,.slice none 0 0,K false],Y aS [O A 0,O B 0,O C 0],Y E [O p 0,O t 0,O u 0],Y be [O ab 0,O ac 0,O ad 0],Y a8 [O aY 0,O aJ 0,O aM 0]]) ?_ (wI ((max cP cQ) - 1),bg.1,bg.2.1,bg.2.2.1,bg.2.2.2.1,bg.2.2.2.2.1,bg.2.2.2.2.2) ⟨cc,cw,ce,cx,cf,cy,Z,(SfT.mk' z (d.pick [30,29,32,31,34,33,28,27,26,25,24,23,22,21,20,19,18,17,16,15,14,13,12,11,10,9,8,7,6,5,4,3,2,1,0] Z) (l.pick [30,29,32,31,34,33,28,27,26,25,24,23,22,21,20,19,18,17,16,15,14,13,12,11,10,9,8,7,6,5,4,3,2,1,0] Z) (a.d [3,4,2,1,0] Z Z))⟩ h
  rintro dy ⟨bC,bD,b3,bu,bF,bv,bG⟩ L w cB hI cR h cr
  try dsimp only at hI
  obtain ⟨aY,bt,aJ,bi,aM,bj,rfl,⟨dV,dz,z,d,l,a⟩⟩:=hI
  unfold F.EH at h
  refine av<|R<|V 2 Z<|Q ?_
  refine gl9 Z h (fun h=>?_) (fun h=>?_)
  ·refine gl5<|av<|ar<|R<|N (aP (us:=[O p 0,O t 0,O u 0]) u78 Z ct Z (a.p 2 Z Z)) Z<|bh (ba (cs:=[.pointer none,.pointer none,.pointer none]) iT Z a) Z fun bk w a=>bl (bq (i:=0) (us:=[O p 0,O t 0,O u 0]) Z ct Z Z Z ⟨Z,Z,Z,I⟩ Z a) fun w a=>Q ?_
   refine aZ (r:=cB) (fun (g:Bool×List UInt32×Bool×List UInt32×Bool×List UInt32) L w=>∃(bm:Nat) (bI:Value) (bn:Nat) (bL:Value) (bo:Nat) (bN:Value),L=[(8,O aX 0),(10,O br 0),(11,O aS 0),(13,O a9 0),(15,O bb 0),(17,O E 0),(18,O be 0),(19,O a8 0),(20,H bC),(21,O bk 0)]∧SfT [] [] w0 w [Y bo [K g.2.2.2.2.1,bN],P X bN g.2.2.2.2.2,Y bn [K g.2.2.1,bL],P X bL g.2.2.2.1,Y bm [K g.1,bI],P X bI g.2.1,Y aM [K bv,bj],P X bj bG,Y aJ [K bu,bi],P X bi bF,Y aY [K bD,bt],P X bt b3,Y ad [K T.2.2.2.2.1,aD],P X aD T.2.2.2.2.2,Y ac [K T.2.2.1,aC],P X aC T.2.2.2.1,Y ab [K T.1,aA],P X aA T.2.1,Y u [K G.1,D],P X D G.2,Y C [K b.2.2.2.2.2.2.2.2.2.2.2.2.2.2.2.1,an],P X an b.2.2.2.2.2.2.2.2.2.2.2.2.2.2.2.2,Y B [K b.2.2.2.2.2.2.2.2.2.2.2.2.2.1,am],P X am b.2.2.2.2.2.2.2.2.2.2.2.2.2.2.1,Y A [K b.2.2.2.2.2.2.2.2.2.2.2.1,ai],P X ai b.2.2.2.2.2.2.2.2.2.2.2.2.1,Y bb [K aO.1,a4],P X a4 aO.2.1,Y a9 [K aN.1,a3],P X a3 aN.2.1,Y br [O aU 0,O aV 0,O aW 0,O p 0,O t 0,H b.2.2.2.2.2.2.2.2.2.2.1,.func (.func 144) #[] #[]],Y t [K b.2.2.2.2.2.2.2.2.1,ah],P X ah b.2.2.2.2.2.2.2.2.2.1,Y p [K b.2.2.2.2.2.2.1,ae],P X ae b.2.2.2.2.2.2.2.1,Y aW [K b.2.2.2.2.1,ay],P X ay b.2.2.2.2.2.1,Y aV [K b.2.2.1,aq],P X aq b.2.2.2.1,Y aU [K b.1,ap],P X ap b.2.1] [Y aX [.slice none 0 0,.slice none 0 0,K false],Y aS [O A 0,O B 0,O C 0],Y E [O p 0,O t 0,O u 0],Y be [O ab 0,O ac 0,O ad 0],Y a8 [O aY 0,O aJ 0,O aM 0],Y bk [O bm 0,O bn 0,O bo 0]]) (F.DC b bC bD b3 bu bF bv bG) ?_ ?_
   rotate_left
   ·intro bO
    refine R<|V 2 Z<|J h fun cD cS h=>bc a Z (jO aN.1 bC cS ((d.rp 11 Z).b a.fr).rp ((d.rb 12 Z).b a.fr)) Z fun w a=>N (aj Z Z (qb _ cD 1)) Z<|V 2 Z<|J h fun bY cT h=>bc a Z (jO aO.1 bC cT ((d.rp 13 Z).b a.fr).rp ((d.rb 14 Z).b a.fr)) Z fun w a=>N (aj Z Z (qb _ bY 1)) Z<|V 2 Z<|Q<|ar ?_
    refine aZ (r:=cB) (fun (g:Bool×Bool) L w=>L=[(8,O aX 0),(10,O br 0),(11,O aS 0),(13,O a9 0),(15,O bb 0),(17,O E 0),(18,O be 0),(19,O a8 0),(20,H bC),(21,O bk 0),(22,K g.1),(23,K (bY == 1)),(85,K g.2)]∧SfT [] [] w0 w [Y aM [K bv,bj],P X bj bG,Y aJ [K bu,bi],P X bi bF,Y aY [K bD,bt],P X bt b3,Y ad [K T.2.2.2.2.1,aD],P X aD T.2.2.2.2.2,Y ac [K T.2.2.1,aC],P X aC T.2.2.2.1,Y ab [K T.1,aA],P X aA T.2.1,Y u [K G.1,D],P X D G.2,Y C [K b.2.2.2.2.2.2.2.2.2.2.2.2.2.2.2.1,an],P X an b.2.2.2.2.2.2.2.2.2.2.2.2.2.2.2.2,Y B [K b.2.2.2.2.2.2.2.2.2.2.2.2.2.1,am],P X am b.2.2.2.2.2.2.2.2.2.2.2.2.2.2.1,Y A [K b.2.2.2.2.2.2.2.2.2.2.2.1,ai],P X ai b.2.2.2.2.2.2.2.2.2.2.2.2.1,Y bb [K aO.1,a4],P X a4 aO.2.1,Y a9 [K aN.1,a3],P X a3 aN.2.1,Y br [O aU 0,O aV 0,O aW 0,O p 0,O t 0,H b.2.2.2.2.2.2.2.2.2.2.1,.func (.func 144) #[] #[]],Y t [K b.2.2.2.2.2.2.2.2.1,ah],P X ah b.2.2.2.2.2.2.2.2.2.1,Y p [K b.2.2.2.2.2.2.1,ae],P X ae b.2.2.2.2.2.2.2.1,Y aW [K b.2.2.2.2.1,ay],P X ay b.2.2.2.2.2.1,Y aV [K b.2.2.1,aq],P X aq b.2.2.2.1,Y aU [K b.1,ap],P X ap b.2.1] [Y aX [.slice none 0 0,.slice none 0 0,K false],Y aS [O A 0,O B 0,O C 0],Y E [O p 0,O t 0,O u 0],Y be [O ab 0,O ac 0,O ad 0],Y a8 [O aY 0,O aJ 0,O aM 0],Y bk [O p 0,O t 0,O u 0]]) (F.Ht b G T bY bC bD b3 bu bF bv bG) ?_ ?_
    rotate_left
    ·intro cv
     refine al<|V 2 Z ?_
     cases bS:(cD == 1)
     case true=>
      have h:=cH h bS
      try simp only [bS]
      exact V 3 Z<|Q<|aH (cv (true,bY == 1) _ _ ⟨Z,(SfT.mk' z (d.pick [34,33,32,31,30,29,28,27,26,25,24,23,22,21,20,19,18,17,16,15,14,13,12,11,10,9,8,7,6,5,4,3,2,1,0] Z) (l.pick [34,33,32,31,30,29,28,27,26,25,24,23,22,21,20,19,18,17,16,15,14,13,12,11,10,9,8,7,6,5,4,3,2,1,0] Z) (a.d [1,2,3,4,5,0] Z Z))⟩ h) Z
     case false=>
      have h:=cI h bS
      try simp only [bS]
      exact V 3 Z<|Q<|aH (cv (false,false) _ _ ⟨Z,(SfT.mk' z (d.pick [34,33,32,31,30,29,28,27,26,25,24,23,22,21,20,19,18,17,16,15,14,13,12,11,10,9,8,7,6,5,4,3,2,1,0] Z) (l.pick [34,33,32,31,30,29,28,27,26,25,24,23,22,21,20,19,18,17,16,15,14,13,12,11,10,9,8,7,6,5,4,3,2,1,0] Z) (a.d [1,2,3,4,5,0] Z Z))⟩ h) Z
    rintro ⟨dA,dB⟩ L w hJ h
    try dsimp only at hJ
    obtain ⟨rfl,⟨dC,dg,z,d,l,a⟩⟩:=hJ
    unfold F.Ht at h
    refine gl9 Z h (fun h=>?_) (fun h=>?_)
    ·refine al<|N (aP (us:=[O ab 0,O ac 0,O ad 0]) u78 Z ct Z (a.p 3 Z Z)) Z<|bl (bq (i:=5) (us:=[O ab 0,O ac 0,O ad 0]) Z ct Z Z Z ⟨Z,Z,Z,I⟩ Z a) fun w a=>aE<|aF<|ak ?_
     exact aH (bO (T.1,T.2.1,T.2.2.1,T.2.2.2.1,T.2.2.2.2.1,T.2.2.2.2.2) _ _ ⟨ab,aA,ac,aC,ad,aD,Z,(SfT.mk' z (d.pick [28,27,26,25,24,23,34,33,32,31,30,29,28,27,26,25,24,23,22,21,20,19,18,17,16,15,14,13,12,11,10,9,8,7,6,5,4,3,2,1,0] Z) (l.pick [28,27,26,25,24,23,34,33,32,31,30,29,28,27,26,25,24,23,22,21,20,19,18,17,16,15,14,13,12,11,10,9,8,7,6,5,4,3,2,1,0] Z) a)⟩ h) Z
    refine R<|V 2 Z<|Q ?_
    refine gl9 Z h (fun h=>?_) (fun h=>?_)
    ·refine al<|N (aP (us:=[O A 0,O B 0,O C 0]) u78 Z ct Z (a.p 1 Z Z)) Z<|bl (bq (i:=5) (us:=[O A 0,O B 0,O C 0]) Z ct Z Z Z ⟨Z,Z,Z,I⟩ Z a) fun w a=>aE<|aF<|ak ?_
     exact aH (bO (b.2.2.2.2.2.2.2.2.2.2.2.1,b.2.2.2.2.2.2.2.2.2.2.2.2.1,b.2.2.2.2.2.2.2.2.2.2.2.2.2.1,b.2.2.2.2.2.2.2.2.2.2.2.2.2.2.1,b.2.2.2.2.2.2.2.2.2.2.2.2.2.2.2.1,b.2.2.2.2.2.2.2.2.2.2.2.2.2.2.2.2) _ _ ⟨A,ai,B,am,C,an,Z,(SfT.mk' z (d.pick [20,19,18,17,16,15,34,33,32,31,30,29,28,27,26,25,24,23,22,21,20,19,18,17,16,15,14,13,12,11,10,9,8,7,6,5,4,3,2,1,0] Z) (l.pick [20,19,18,17,16,15,34,33,32,31,30,29,28,27,26,25,24,23,22,21,20,19,18,17,16,15,14,13,12,11,10,9,8,7,6,5,4,3,2,1,0] Z) a)⟩ h) Z
    refine R<|V 3 Z<|Q ?_
    refine gl9 Z h (fun h=>?_) (fun h=>?_)
    ·refine al<|J h fun a7 cU h=>aG Z (fS  cU ) Z ?_
     rintro _ w ⟨cg,ch,ci,bZ,b0,b1,rfl,bs⟩
     have a:=a.e bs
     refine bl (bq (i:=11) (us:=[O bZ 0,O b0 0,O b1 0]) Z ct Z Z Z ⟨Z,Z,Z,I⟩ Z a) fun w a=>aE<|aF<|ak ?_
     replace a:=a.pick (os':=[Y bZ [K a7.1,cg],U X cg a7.2.1,Y b0 [K a7.2.2.1,ch],U X ch a7.2.2.2.1,Y b1 [K a7.2.2.2.2.1,ci],U X ci a7.2.2.2.2.2]++[Y aX [.slice none 0 0,.slice none 0 0,K false],Y aS [O A 0,O B 0,O C 0],Y E [O p 0,O t 0,O u 0],Y be [O ab 0,O ac 0,O ad 0],Y a8 [O aY 0,O aJ 0,O aM 0],Y bk [O bZ 0,O b0 0,O b1 0]]) [0,1,2,3,4,5,6,7,8,9,10,11] (by decide) rfl
     obtain ⟨dD,di,z,d,l,a⟩:=z.frzT hTT d l a
     exact aH (bO (a7.1,a7.2.1,a7.2.2.1,a7.2.2.2.1,a7.2.2.2.2.1,a7.2.2.2.2.2) _ _ ⟨bZ,cg,b0,ch,b1,ci,Z,(SfT.mk' z (d.pick [36,35,38,37,40,39,34,33,32,31,30,29,28,27,26,25,24,23,22,21,20,19,18,17,16,15,14,13,12,11,10,9,8,7,6,5,4,3,2,1,0] Z) (l.pick [36,35,38,37,40,39,34,33,32,31,30,29,28,27,26,25,24,23,22,21,20,19,18,17,16,15,14,13,12,11,10,9,8,7,6,5,4,3,2,1,0] Z) a)⟩ h) Z
    exact cd<|aF<|ak<|aH (bO (b.2.2.2.2.2.2.1,b.2.2.2.2.2.2.2.1,b.2.2.2.2.2.2.2.2.1,b.2.2.2.2.2.2.2.2.2.1,G.1,G.2) _ _ ⟨p,ae,t,ah,u,D,Z,(SfT.mk' z (d.pick [22,21,9,8,7,6,34,33,32,31,30,29,28,27,26,25,24,23,22,21,20,19,18,17,16,15,14,13,12,11,10,9,8,7,6,5,4,3,2,1,0] Z) (l.pick [22,21,9,8,7,6,34,33,32,31,30,29,28,27,26,25,24,23,22,21,20,19,18,17,16,15,14,13,12,11,10,9,8,7,6,5,4,3,2,1,0] Z) a)⟩ h) Z
   rintro ⟨cE,c8,cF,c9,cG,da⟩ L w hJ h
   try dsimp only at hJ
   obtain ⟨bm,bI,bn,bL,bo,bN,rfl,⟨dF,dj,z,d,l,a⟩⟩:=hJ
   unfold F.DC at h
   refine J h fun c cV h=>cO (es:=[Y bo [K cG,bN],P X bN da,Y bn [K cF,bL],P X bL c9,Y bm [K cE,bI],P X bI c8,Y aM [K bv,bj],P X bj bG,Y aJ [K bu,bi],P X bi bF,Y aY [K bD,bt],P X bt b3,Y ad [K T.2.2.2.2.1,aD],P X aD T.2.2.2.2.2,Y ac [K T.2.2.1,aC],P X aC T.2.2.2.1,Y ab [K T.1,aA],P X aA T.2.1,Y u [K G.1,D],P X D G.2,Y C [K b.2.2.2.2.2.2.2.2.2.2.2.2.2.2.2.1,an],P X an b.2.2.2.2.2.2.2.2.2.2.2.2.2.2.2.2,Y B [K b.2.2.2.2.2.2.2.2.2.2.2.2.2.1,am],P X am b.2.2.2.2.2.2.2.2.2.2.2.2.2.2.1,Y A [K b.2.2.2.2.2.2.2.2.2.2.2.1,ai],P X ai b.2.2.2.2.2.2.2.2.2.2.2.2.1,Y bb [K aO.1,a4],P X a4 aO.2.1,Y a9 [K aN.1,a3],P X a3 aN.2.1,Y br [O aU 0,O aV 0,O aW 0,O p 0,O t 0,H b.2.2.2.2.2.2.2.2.2.2.1,.func (.func 144) #[] #[]],Y t [K b.2.2.2.2.2.2.2.2.1,ah],P X ah b.2.2.2.2.2.2.2.2.2.1,Y p [K b.2.2.2.2.2.2.1,ae],P X ae b.2.2.2.2.2.2.2.1,Y aW [K b.2.2.2.2.1,ay],P X ay b.2.2.2.2.2.1,Y aV [K b.2.2.1,aq],P X aq b.2.2.2.1,Y aU [K b.1,ap],P X ap b.2.1]) (os:=[Y aX [.slice none 0 0,.slice none 0 0,K false],Y aS [O A 0,O B 0,O C 0],Y E [O p 0,O t 0,O u 0],Y be [O ab 0,O ac 0,O ad 0],Y bk [O bm 0,O bn 0,O bo 0]]) (fun i=>[5,7,8].contains i) (fun i=>none) (fun i=>if i=8 then [7] else []) (fun i=>if i=8 then [Y a8 [O aY 0,O aJ 0,O aM 0]] else []) (fun i=>if i=5 then [8] else []) (fun i=>if i=8 then [7] else []) (fun i=>if i=5 then (fun h v x y=>v=.agg #[O aY 0,O aJ 0,O aM 0]∧x=[]∧y=[]) else if i=7 then (fun h v x y=>∃m:Nat,∃n:Nat,∃o:Nat,∃e:Value,∃f:Value,∃j:Value,v=.agg #[O m 0,O n 0,O o 0]∧x=[]∧y=[P X e c.2.1,Y m [K c.1,e],P X f c.2.2.2.1,Y n [K c.2.2.1,f],P X j c.2.2.2.2.2,Y o [K c.2.2.2.2.1,j]]) else (fun h v x y=>∃m:Nat,∃n:Nat,∃o:Nat,∃e:Value,∃f:Value,∃j:Value,h=[(.agg #[O m 0,O n 0,O o 0],[],[P X e c.2.1,Y m [K c.1,e],P X f c.2.2.2.1,Y n [K c.2.2.1,f],P X j c.2.2.2.2.2,Y o [K c.2.2.2.2.1,j]])]∧v=undef∧x=[Y a8 [O m 0,O n 0,O o 0]]∧y=[P X e c.2.1,Y m [K c.1,e],P X f c.2.2.2.1,Y n [K c.2.2.1,f],P X j c.2.2.2.2.2,Y o [K c.2.2.2.2.1,j]])) (SfT.mk' z d l (a.pick (os':=[Y a8 [O aY 0,O aJ 0,O aM 0],Y aX [.slice none 0 0,.slice none 0 0,K false],Y aS [O A 0,O B 0,O C 0],Y E [O p 0,O t 0,O u 0],Y be [O ab 0,O ac 0,O ad 0],Y bk [O bm 0,O bn 0,O bo 0]]) [4,0,1,2,3,5] (by decide) rfl)) (fun k hk=>(if_neg (fun q=>by subst q; exact absurd hk (by decide)))) hTT rfl (fun i=>(cl (by rintro h v x y ⟨rfl,rfl,rfl⟩; exact bQ rfl) (cl (by rintro h v x y ⟨_,_,_,_,_,_,rfl,rfl,rfl⟩; exact bQ rfl) (by rintro h v x y ⟨_,_,_,_,_,_,_,rfl,rfl,rfl⟩; exact bQ rfl)))) bR (by kernel_rfl) (by kernel_rfl) ?_
   show dY _ _ _ _ _ _ _ _ _ _ _ _ _ _ _ _ [0,1,2,3,4,5,6,7,8] _ _
   refine bP 1 Z<|bz Z Z (fun w Sb wb z d l hF=>aK Z) Z<|bz Z Z (fun w Sb wb z d l hF=>ao (k:=6) u62 Z Z CT Z) Z<|bz Z Z (fun w Sb wb z d l hF=>aw Tryz.underlying60 Z Z ((d.rb 10 Z).cell hF.fr 6 Z)) Z<|bP 1 Z ?_
   refine gl (fun h v x y=>v=.agg #[O aY 0,O aJ 0,O aM 0]∧x=[]∧y=[]) [] [] [] [Y a8 [O aY 0,O aJ 0,O aM 0],Y aX [.slice none 0 0,.slice none 0 0,K false],Y aS [O A 0,O B 0,O C 0],Y E [O p 0,O t 0,O u 0],Y be [O ab 0,O ac 0,O ad 0],Y bk [O bm 0,O bn 0,O bo 0]] Z Z (fun h v x y=>Z) Z Z Z Z ⟨_,_,_,Z,Z,Z⟩ (fun w Sl Tl z hTT d l a=>?_) Z ?_
   ·exact ry (aP (us:=[O aY 0,O aJ 0,O aM 0]) u78 Z ct Z (a.p 0 Z Z)) ⟨_,_,⟨Z,Z,Z⟩,SfT.mk' z Rds.nil Off.nil a⟩
   rintro v_q x_q y_q ⟨rfl,rfl,rfl⟩
   refine bz Z Z (fun w Sb wb z d l hF=>aP (us:=[O bm 0,O bn 0,O bo 0]) u78 Z ct Z (hF.p 4 Z Z)) Z ?_
   refine vO (fun h v x y=>∃m:Nat,∃n:Nat,∃o:Nat,∃e:Value,∃f:Value,∃j:Value,v=.agg #[O m 0,O n 0,O o 0]∧x=[]∧y=[P X e c.2.1,Y m [K c.1,e],P X f c.2.2.2.1,Y n [K c.2.2.1,f],P X j c.2.2.2.2.2,Y o [K c.2.2.2.2.1,j]]) [] [] [] _ Z Z (fun h v x y=>Z) Z Z Z Z ⟨_,_,_,0,0,0,undef,undef,undef,Z,Z,Z⟩ Z (by kernel_rfl) Z (fun w Sl Tl z hTT d l a=>?_) Z ?_
   ·replace a:=a.pick (os':=[]++[Y aX [.slice none 0 0,.slice none 0 0,K false],Y aS [O A 0,O B 0,O C 0],Y E [O p 0,O t 0,O u 0],Y be [O ab 0,O ac 0,O ad 0],Y bk [O bm 0,O bn 0,O bo 0]]) [0,1,2,3,4] (by decide) rfl
    obtain ⟨z,d,l,a⟩:=z.frzK hTT d l a
    refine bJ (sw b.1 b.2.2.1 b.2.2.2.2.1 b.2.2.2.2.2.2.1 b.2.2.2.2.2.2.2.2.1 b.2.2.2.2.2.2.2.2.2.2.1 bD bu bv true cE cF cG cV (z.okT hTT a) (d.i l 0 Z) (d.j l 1 Z) (d.i l 2 Z) (d.j l 3 Z) (d.i l 4 Z) (d.j l 5 Z) (d.i l 6 Z) (d.j l 7 Z) (d.i l 8 Z) (d.j l 9 Z) (d.j l 10 Z) (d.i l 29 Z) (d.j l 30 Z) (d.i l 31 Z) (d.j l 32 Z) (d.i l 33 Z) (d.j l 34 Z) (d.i l 35 Z) (d.j l 36 Z) (d.i l 37 Z) (d.j l 38 Z) (d.i l 39 Z) (d.j l 40 Z)) ?_
    rintro _ w ⟨m,e,n,f,o,j,rfl,bs,cq⟩
    obtain ⟨dG,dk,z,d,l,a⟩:=z.l d l a bs cq rfl
    exact ⟨_,_,⟨m,n,o,e,f,j,Z,Z,Z⟩,SfT.mk' z (d.pick [41,42,43,44,45,46] Z) (l.pick [41,42,43,44,45,46] Z) a⟩
   rintro v_q x_q y_q ⟨m,n,o,e,f,j,rfl,rfl,rfl⟩
   refine kU (fun h v x y=>∃m:Nat,∃n:Nat,∃o:Nat,∃e:Value,∃f:Value,∃j:Value,h=[(.agg #[O m 0,O n 0,O o 0],[],[P X e c.2.1,Y m [K c.1,e],P X f c.2.2.2.1,Y n [K c.2.2.1,f],P X j c.2.2.2.2.2,Y o [K c.2.2.2.2.1,j]])]∧v=undef∧x=[Y a8 [O m 0,O n 0,O o 0]]∧y=[P X e c.2.1,Y m [K c.1,e],P X f c.2.2.2.1,Y n [K c.2.2.1,f],P X j c.2.2.2.2.2,Y o [K c.2.2.2.2.1,j]]) [(.agg #[O m 0,O n 0,O o 0],[],[P X e c.2.1,Y m [K c.1,e],P X f c.2.2.2.1,Y n [K c.2.2.1,f],P X j c.2.2.2.2.2,Y o [K c.2.2.2.2.1,j]])] [Y a8 [O aY 0,O aJ 0,O aM 0]] [P X e c.2.1,Y m [K c.1,e],P X f c.2.2.2.1,Y n [K c.2.2.1,f],P X j c.2.2.2.2.2,Y o [K c.2.2.2.2.1,j]] _ Z Z (fun h v x y=>Z) Z Z Z Z ⟨_,_,_,m,n,o,e,f,j,Z,Z,Z,Z⟩ (fun w Sl Tl z hTT d l a=>?_) ?_
   ·refine jL (bq (i:=0) (us:=[O m 0,O n 0,O o 0]) Z ct Z Z Z ⟨Z,Z,Z,I⟩ Z a) ?_
    intro w a
    exact ⟨_,_,⟨m,n,o,e,f,j,Z,Z,Z,Z⟩,SfT.mk' z (d.pick [46,45,44,43,42,41] Z) (l.pick [46,45,44,43,42,41] Z) a⟩
   rintro v_q x_q y_q ⟨b0_155_0',b0_155_1',b0_155_2',u0_155_0_1',u0_155_1_1',u0_155_2_1',hh,rfl,rfl,rfl⟩
   replace hh:([(.agg #[O m 0,O n 0,O o 0],[],[P X e c.2.1,Y m [K c.1,e],P X f c.2.2.2.1,Y n [K c.2.2.1,f],P X j c.2.2.2.2.2,Y o [K c.2.2.2.2.1,j]])]:List Th)=[(.agg #[O b0_155_0' 0,O b0_155_1' 0,O b0_155_2' 0],[],[P X u0_155_0_1' c.2.1,Y b0_155_0' [K c.1,u0_155_0_1'],P X u0_155_1_1' c.2.2.2.1,Y b0_155_1' [K c.2.2.1,u0_155_1_1'],P X u0_155_2_1' c.2.2.2.2.2,Y b0_155_2' [K c.2.2.2.2.1,u0_155_2_1']])]:=hh
   cases hh
   refine dH fun w hQ=>?_
   obtain ⟨dI,dl,z,d,l,a⟩:=hQ
   exact aF<|ak<|al<|V 3 Z<|aE<|bf (bd (cR (wI (bC - 1),c.1,c.2.1,c.2.2.1,c.2.2.2.1,c.2.2.2.2.1,c.2.2.2.2.2) _ _ ⟨m,e,n,f,o,j,Z,(SfT.mk' z (d.pick [41,42,43,44,45,46,28,27,26,25,24,23,22,21,20,19,18,17,16,15,14,13,12,11,10,9,8,7,6,5,4,3,2,1,0] Z) (l.pick [41,42,43,44,45,46,28,27,26,25,24,23,22,21,20,19,18,17,16,15,14,13,12,11,10,9,8,7,6,5,4,3,2,1,0] Z) (a.d [1,2,3,4,0] Z Z))⟩ (aL h cr)) Z)
  refine aQ<|au<|au<|have h:=aI h cr;aR<|ak<|R<|V 1 Z<|N (aP (us:=[O aY 0,O aJ 0,O aM 0]) u78 Z ct Z (a.p 4 Z Z)) Z<|J h fun cJ cW h=>bH a Z (nt b.1 b.2.2.1 b.2.2.2.2.1 b.2.2.2.2.2.2.1 b.2.2.2.2.2.2.2.2.1 b.2.2.2.2.2.2.2.2.2.2.1 bD bu bv cW ((d.rp 0 Z).b a.fr).rp ((d.rb 1 Z).b a.fr) ((d.rp 2 Z).b a.fr).rp ((d.rb 3 Z).b a.fr) ((d.rp 4 Z).b a.fr).rp ((d.rb 5 Z).b a.fr) ((d.rp 6 Z).b a.fr).rp ((d.rb 7 Z).b a.fr) ((d.rp 8 Z).b a.fr).rp ((d.rb 9 Z).b a.fr) ((d.rb 10 Z).b a.fr) ((d.rp 29 Z).b a.fr).rp ((d.rb 30 Z).b a.fr) ((d.rp 31 Z).b a.fr).rp ((d.rb 32 Z).b a.fr) ((d.rp 33 Z).b a.fr).rp ((d.rb 34 Z).b a.fr)) Z fun cj ck w a=>bl (bq (i:=2) (us:=[cj,ck,K cJ.2.2]) Z cC Z Z Z ⟨(a.ro 0 Z).one,(a.ro 1 Z).one,Z,I⟩ Z a) fun w a=>V 1 Z<|Q<|az ?_
  cases h
  replace a:=z.st a
  exact fq Z ⟨_,Z,bM (us:=[cj,ck,K cJ.2.2]) u33 Z cC (a.p 2 Z Z)⟩ Z ⟨cj,ck,Z,a.d [0,1] Z Z⟩
end Go.Proofs
