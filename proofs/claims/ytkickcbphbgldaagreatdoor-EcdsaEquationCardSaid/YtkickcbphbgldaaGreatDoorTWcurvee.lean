import Derived.Test.YtkickcbphbgldaaGreatDoorTW0
import Derived.Test.YtkickcbphbgldaaGreatDoorGkFman
import Derived.Test.YtkickcbphbgldaaGreatDoorTWbignumc
import Derived.Test.YtkickcbphbgldaaGreatDoorTWcurved
set_option linter.unusedVariables false
set_option linter.unusedSimpArgs false
set_option linter.unusedSectionVars false
set_option maxRecDepth 4000
namespace Go.Proofs
open Go Go.RowKit Go.Gk
open Go.Gk renaming Off → O, Rds → Q, aa → P, ae → M, ah → I, ai → H, e32 → U, own → K, pB → N, vB → J
open Nat renaming le_of_ble_eq_true → R
open Go.Gk.OE renaming bx → W
open Go.Gk.Off renaming cons → X
open Go.Gk.Rds renaming cons → Y
theorem fW {w0:World} {a1 ac ad:List UInt32} {aF o p:Value} (a0:Int) (A:Bool) {r:List UInt32×List UInt32×Bool×Int}
  (h:F.B4 a0 a1 ac ad A=some r) (bh:RP [] w0 U aF a1) (a5:RP [] w0 U o ac) (a6:RP [] w0 U p ad):Calls Tryz.prog 33 #[vI a0,aF,.agg #[o,p,J A]] w0 (Ret fun v w=>∃a2 a3:Value,v=.tuple #[.agg #[a2,a3,J r.2.2.1],vI r.2.2.2]∧St [] w0 w [K U a2 r.1,K U a3 r.2.1]):=by
 refine aJ 43 Tryz.func33 Z Z Z ?_
 have a:=St.l w0
 have hZ:=Fz.l (S:=[]) (w0:=w0)
 have hTT:TOk [] [] w0:=TOk.nil
 have b:Q [] w0 [red U p ad,red U o ac,red U aF a1]:=Y (RP.i (R Z) a6) (Y (RP.i (R Z) a5) (Y (RP.i (R Z) bh) (Q.nil)))
 have f:O [] [red U p ad,red U o ac,red U aF a1]:=O.emp
 refine au [(0,vI a0),(1,aF),(2,.agg #[o,p,J A])] ⟨Z,Z,Z,V⟩ ?_
 unfold F.B4 at h
 refine I (af (aP (cZ (cs:=[o,p,J A]) Z Z a) Z ?_))
 rintro _ w ⟨aS,rfl,a⟩
 refine aP (aT (cs:=[.slice none 0 0,.slice none 0 0,J false]) fu Z a) Z ?_
 rintro _ w ⟨aI,rfl,a⟩
 refine P 1 Z ?_
 refine H (M (I (af (P 1 Z ?_))))
 refine am (bo (us:=[o,p,J A]) u33 Z bI Z (a.q 1 Z Z)) Z ?_
 replace a:=a.pick (os':=[]++[W aI [.slice none 0 0,.slice none 0 0,J false],W aS [o,p,J A]]) [0,1] (by decide) rfl
 obtain ⟨hZ,b,f,a⟩:=hZ.frzK hTT b f a
 obtain ⟨bi,bf,h⟩:=aj h
 refine ao Z (en a0 A bf (hZ.okT hTT a) (b.j f 1 Z) (b.j f 2 Z)) Z ?_
 rintro v_q w hQ
 cases aL:bi.1 with
 | none=>
  have h:=ea h aL
  rw [aL]at hQ
  obtain ⟨rfl,G⟩:=dD hQ
  obtain ⟨bw,bj,hZ,b,f,a⟩:=hZ.m b f a G Q.nil rfl
  refine P 4 Z ?_
  refine aP (aT (cs:=[.pointer none,.pointer none,.pointer none]) dK Z a) Z ?_
  rintro _ w ⟨bn,rfl,a⟩
  refine P 1 Z ?_
  refine bb (a7 (i:=0) (us:=[.pointer none,.pointer none,.pointer none]) Z bB Z Z Z ⟨Z,Z,Z,V⟩ Z a) ?_
  intro w a
  refine P 1 Z ?_
  refine H (M (I (I (af (P 2 Z ?_)))))
  refine H (M ?_)
  refine ax Z (fun aM=>?_) (fun aM=>?_)
  ·have h:=aG h aM
   refine I (af (am (bN (vs:=[]) (cells:=[.slice none 0 0,.slice none 0 0,J false]) Z dU V Z) Z (bb (a7 (i:=1) (us:=[.slice none 0 0,.slice none 0 0,J false]) Z bI Z Z Z ⟨Z,Z,Z,V⟩ Z a) ?_)))
   intro w a
   refine P 1 Z ?_
   refine H (M (aw (aD ?_)))
   cases h
   replace a:=hZ.st a
   exact dk Z ⟨_,Z,bC (us:=[.slice none 0 0,.slice none 0 0,J false]) u33 Z bI (a.q 1 Z Z)⟩ Z ⟨.slice none 0 0,.slice none 0 0,Z,((a.nil U).nil U).e [1,0] Z Z⟩
  have h:=aH h aM
  refine az (M (I (af (P 1 Z ?_))))
  obtain ⟨bp,a8,h⟩:=aj h
  refine ao Z (ee  a8 ((b.rp 0 Z).d a.fr).rp) Z ?_
  rintro _ w ⟨bq,br,rfl,G⟩
  have a:=a.f G
  refine P 5 Z ?_
  refine H (M (I (I (af (P 2 Z ?_)))))
  refine H (M ?_)
  refine ax Z (fun aN=>?_) (fun aN=>?_)
  ·have h:=aG h aN
   refine I (af (am (bN (vs:=[]) (cells:=[.slice none 0 0,.slice none 0 0,J false]) Z dU V Z) Z (bb (a7 (i:=3) (us:=[.slice none 0 0,.slice none 0 0,J false]) Z bI Z Z Z ⟨Z,Z,Z,V⟩ Z a) ?_)))
   intro w a
   refine P 1 Z ?_
   refine H (M (aw (aD ?_)))
   cases h
   replace a:=hZ.st a
   exact dk Z ⟨_,Z,bC (us:=[.slice none 0 0,.slice none 0 0,J false]) u33 Z bI (a.q 3 Z Z)⟩ Z ⟨.slice none 0 0,.slice none 0 0,Z,((a.nil U).nil U).e [1,0] Z Z⟩
  have h:=aH h aN
  refine az (M (I ?_))
  cases h
 | some g=>
  have h:=d9 h aL
  rw [aL]at hQ
  obtain ⟨bg,aU,ag,aV,ak,aW,al,aX,an,aY,ap,B,aq,C,ay,D,aA,rfl,G,a4⟩:=dC hQ
  obtain ⟨bs,bk,hZ,b,f,a⟩:=hZ.m b f a G a4 rfl
  refine P 4 Z ?_
  refine aP (aT (cs:=[.pointer none,.pointer none,.pointer none]) dK Z a) Z ?_
  rintro _ w ⟨aO,rfl,a⟩
  refine P 1 Z ?_
  refine bb (a7 (i:=0) (us:=[N B 0,N C 0,N D 0]) Z bB Z Z Z ⟨Z,Z,Z,V⟩ Z a) ?_
  intro w a
  refine P 1 Z ?_
  refine H (M (I (I (af (P 2 Z ?_)))))
  refine H (M ?_)
  refine ax Z (fun aQ=>?_) (fun aQ=>?_)
  ·have h:=aG h aQ
   refine I (af (am (bN (vs:=[]) (cells:=[.slice none 0 0,.slice none 0 0,J false]) Z dU V Z) Z (bb (a7 (i:=1) (us:=[.slice none 0 0,.slice none 0 0,J false]) Z bI Z Z Z ⟨Z,Z,Z,V⟩ Z a) ?_)))
   intro w a
   refine P 1 Z ?_
   refine H (M (aw (aD ?_)))
   cases h
   replace a:=hZ.st a
   exact dk Z ⟨_,Z,bC (us:=[.slice none 0 0,.slice none 0 0,J false]) u33 Z bI (a.q 1 Z Z)⟩ Z ⟨.slice none 0 0,.slice none 0 0,Z,((a.nil U).nil U).e [1,0] Z Z⟩
  have h:=aH h aQ
  refine az (M (I (af (P 1 Z ?_))))
  obtain ⟨L,a9,h⟩:=aj h
  refine ao Z (ee  a9 ((b.rp 0 Z).d a.fr).rp) Z ?_
  rintro _ w ⟨ab,E,rfl,G⟩
  have a:=a.f G
  refine P 5 Z ?_
  refine H (M (I (I (af (P 2 Z ?_)))))
  refine H (M ?_)
  refine ax Z (fun aR=>?_) (fun aR=>?_)
  ·have h:=aG h aR
   refine I (af (am (bN (vs:=[]) (cells:=[.slice none 0 0,.slice none 0 0,J false]) Z dU V Z) Z (bb (a7 (i:=3) (us:=[.slice none 0 0,.slice none 0 0,J false]) Z bI Z Z Z ⟨Z,Z,Z,V⟩ Z a) ?_)))
   intro w a
   refine P 1 Z ?_
   refine H (M (aw (aD ?_)))
   cases h
   replace a:=hZ.st a
   exact dk Z ⟨_,Z,bC (us:=[.slice none 0 0,.slice none 0 0,J false]) u33 Z bI (a.q 3 Z Z)⟩ Z ⟨.slice none 0 0,.slice none 0 0,Z,((a.nil U).nil U).e [1,0] Z Z⟩
  have h:=aH h aR
  refine az (M (I ?_))
  obtain ⟨T,ba,h⟩:=aj h
  obtain ⟨n,bc,h⟩:=aj h
  obtain ⟨c,bd,h⟩:=aj h
  refine fq (es:=[W D [J g.2.2.2.2.2.2.2.2.2.2.2.2.2.2.2.1,aA],red U aA g.2.2.2.2.2.2.2.2.2.2.2.2.2.2.2.2,W C [J g.2.2.2.2.2.2.2.2.2.2.2.2.2.1,ay],red U ay g.2.2.2.2.2.2.2.2.2.2.2.2.2.2.1,W B [J g.2.2.2.2.2.2.2.2.2.2.2.1,aq],red U aq g.2.2.2.2.2.2.2.2.2.2.2.2.1,W bg [N aU 0,N aV 0,N aW 0,N aX 0,N aY 0,vI g.2.2.2.2.2.2.2.2.2.2.1,.func (.func 168) #[] #[]],W aY [J g.2.2.2.2.2.2.2.2.1,ap],red U ap g.2.2.2.2.2.2.2.2.2.1,W aX [J g.2.2.2.2.2.2.1,an],red U an g.2.2.2.2.2.2.2.1,W aW [J g.2.2.2.2.1,al],red U al g.2.2.2.2.2.1,W aV [J g.2.2.1,ak],red U ak g.2.2.2.1,W aU [J g.1,ag],red U ag g.2.1,red U p ad,red U o ac,red U aF a1]) (os:=[W aO [N B 0,N C 0,N D 0],W aS [o,p,J A]]) (fun i=>[8,10,11,12].contains i) (fun i=>if i=8 then some 10 else if i=11 then some 12 else none) (fun i=>if i=11 then [10] else []) (fun i=>if i=8 then [W E [J L.1,ab],K U ab L.2.1] else if i=12 then [W aI [.slice none 0 0,.slice none 0 0,J false]] else []) (fun i=>[]) (fun i=>if i=12 then [11] else []) (fun i=>if i=8 then (fun h v x y=>∃z:Value,v=N E 0∧x=[W E [J T.1,z],K U z T.2]∧y=[]) else if i=10 then (fun h v x y=>∃s:Nat,∃t:Nat,∃u:Nat,∃j:Value,∃l:Value,∃m:Value,v=.agg #[N s 0,N t 0,N u 0]∧x=[]∧y=[red U j n.2.1,W s [J n.1,j],red U l n.2.2.2.1,W t [J n.2.2.1,l],red U m n.2.2.2.2.2,W u [J n.2.2.2.2.1,m]]) else if i=11 then (fun h v x y=>∃d:Value,∃e:Value,v=.agg #[d,e,J c.2.2]∧x=[K U d c.1,K U e c.2.1]∧y=[]) else (fun h v x y=>∃d:Value,∃e:Value,h=[(.agg #[d,e,J c.2.2],[K U d c.1,K U e c.2.1],[])]∧v=undef∧x=[K U d c.1,K U e c.2.1,W aI [d,e,J c.2.2]]∧y=[])) (SfT.mk' hZ b f (a.pick (os':=[W E [J L.1,ab],K U ab L.2.1,W aI [.slice none 0 0,.slice none 0 0,J false],W aO [N B 0,N C 0,N D 0],W aS [o,p,J A]]) [0,1,3,2,4] (by decide) rfl)) (fun k hk=>(if_neg (fun q=>by subst q; exact absurd hk (by decide))).trans (if_neg (fun q=>by subst q; exact absurd hk (by decide)))) hTT rfl (fun i=>(dH (by rintro h v x y ⟨_,rfl,rfl,rfl⟩; exact cM rfl) (dH (by rintro h v x y ⟨_,_,_,_,_,_,rfl,rfl,rfl⟩; exact cM rfl) (dH (by rintro h v x y ⟨_,_,rfl,rfl,rfl⟩; exact cM rfl) (by rintro h v x y ⟨_,_,_,rfl,rfl,rfl⟩; exact cM rfl))))) bS (by kernel_rfl) (by kernel_rfl) ?_
  show fv _ _ _ _ _ _ _ _ _ _ _ _ _ _ _ _ [0,1,2,3,4,5,6,7,8,9,10,11,12,13] _ _
  refine bu Z Z (fun w Sb wb hZ b f hF=>ar Z) Z (bu Z Z (fun w Sb wb hZ b f hF=>ar Z) Z (bu Z Z (fun w Sb wb hZ b f hF=>ar Z) Z (bu Z Z (fun w Sb wb hZ b f hF=>ar Z) Z (bu Z Z (fun w Sb wb hZ b f hF=>ar Z) Z (bu Z Z (fun w Sb wb hZ b f hF=>aK Z) Z (bu Z Z (fun w Sb wb hZ b f hF=>av (k:=2) u76 Z Z cx Z) Z (bu Z Z (fun w Sb wb hZ b f hF=>aC u73 Z Z ((b.rb 13 Z).cell hF.fr 2 Z)) Z ?_)))))))
  refine dE (fun h v x y=>∃z:Value,v=N E 0∧x=[W E [J T.1,z],K U z T.2]∧y=[]) [] [W E [J L.1,ab],K U ab L.2.1] [] _ Z Z (fun h v x y=>Z) Z Z Z Z ⟨_,_,_,undef,Z,Z,Z⟩ (by kernel_rfl) Z (fun w Sl Tl hZ hTT b f a=>?_) Z ?_
  ·have hG:=a.pick (os':=[W E [J L.1,ab],K U ab L.2.1]++[W aO [N B 0,N C 0,N D 0],W aS [o,p,J A]]) [0,1,2,3] (by decide) Z
   refine dh (gr L.1 g.2.2.2.2.1 ba hG.g ((b.rp 7 Z).g (R Z) hG) ((b.rb 8 Z).g hG)) ?_
   rintro _ w ⟨z,rfl,G⟩
   have a:=hG.h G
   exact ⟨_,_,⟨z,Z,Z,Z⟩,SfT.mk' hZ Q.nil O.nil a⟩
  rintro v_q x_q y_q ⟨z,rfl,rfl,rfl⟩
  refine bu Z Z (fun w Sb wb hZ b f hF=>bo (us:=[N B 0,N C 0,N D 0]) u91 Z bB Z (hF.q 0 Z Z)) Z ?_
  refine dE (fun h v x y=>∃s:Nat,∃t:Nat,∃u:Nat,∃j:Value,∃l:Value,∃m:Value,v=.agg #[N s 0,N t 0,N u 0]∧x=[]∧y=[red U j n.2.1,W s [J n.1,j],red U l n.2.2.2.1,W t [J n.2.2.1,l],red U m n.2.2.2.2.2,W u [J n.2.2.2.2.1,m]]) [] [W E [J T.1,z],K U z T.2] [] _ Z Z (fun h v x y=>Z) Z Z Z Z ⟨_,_,_,0,0,0,undef,undef,undef,Z,Z,Z⟩ (by kernel_rfl) Z (fun w Sl Tl hZ hTT b f a=>?_) Z ?_
  ·replace a:=a.pick (os':=[W E [J T.1,z],K U z T.2]++[W aO [N B 0,N C 0,N D 0],W aS [o,p,J A]]) [0,1,2,3] (by decide) rfl
   obtain ⟨hZ,b,f,a⟩:=hZ.frzK hTT b f a
   refine dh (kN g.1 g.2.2.1 g.2.2.2.2.1 g.2.2.2.2.2.2.1 g.2.2.2.2.2.2.2.2.1 g.2.2.2.2.2.2.2.2.2.2.1 T.1 g.2.2.2.2.2.2.2.2.2.2.2.1 g.2.2.2.2.2.2.2.2.2.2.2.2.2.1 g.2.2.2.2.2.2.2.2.2.2.2.2.2.2.2.1 bc (hZ.okT hTT a) (b.j f 3 Z) (b.k f 4 Z) (b.j f 5 Z) (b.k f 6 Z) (b.j f 7 Z) (b.k f 8 Z) (b.j f 9 Z) (b.k f 10 Z) (b.j f 11 Z) (b.k f 12 Z) (b.k f 13 Z) (b.j f 20 Z) (b.k f 21 Z) (b.j f 14 Z) (b.k f 15 Z) (b.j f 16 Z) (b.k f 17 Z) (b.j f 18 Z) (b.k f 19 Z)) ?_
   rintro _ w ⟨s,j,t,l,u,m,rfl,G,a4⟩
   obtain ⟨bt,bl,hZ,b,f,a⟩:=hZ.m b f a G a4 rfl
   exact ⟨_,_,⟨s,t,u,j,l,m,Z,Z,Z⟩,SfT.mk' hZ (Y (b.b 22 Z) (Y (b.b 23 Z) (Y (b.b 24 Z) (Y (b.b 25 Z) (Y (b.b 26 Z) (Y (b.b 27 Z) Q.nil)))))) (X (f.b 22 Z) (X (f.b 23 Z) (X (f.b 24 Z) (X (f.b 25 Z) (X (f.b 26 Z) (X (f.b 27 Z) O.nil)))))) a⟩
  rintro v_q x_q y_q ⟨s,t,u,j,l,m,rfl,rfl,rfl⟩
  refine dE (fun h v x y=>∃d:Value,∃e:Value,v=.agg #[d,e,J c.2.2]∧x=[K U d c.1,K U e c.2.1]∧y=[]) [] [] [red U j n.2.1,W s [J n.1,j],red U l n.2.2.2.1,W t [J n.2.2.1,l],red U m n.2.2.2.2.2,W u [J n.2.2.2.2.1,m]] _ Z Z (fun h v x y=>Z) Z Z Z Z ⟨_,_,_,undef,undef,Z,Z,Z⟩ (by kernel_rfl) Z (fun w Sl Tl hZ hTT b f a=>?_) Z ?_
  ·refine dh (fw g.1 g.2.2.1 g.2.2.2.2.1 g.2.2.2.2.2.2.1 g.2.2.2.2.2.2.2.2.1 g.2.2.2.2.2.2.2.2.2.2.1 n.1 n.2.2.1 n.2.2.2.2.1 bd ((b.rp 3 Z).d a.fr).rp ((b.rb 4 Z).d a.fr) ((b.rp 5 Z).d a.fr).rp ((b.rb 6 Z).d a.fr) ((b.rp 7 Z).d a.fr).rp ((b.rb 8 Z).d a.fr) ((b.rp 9 Z).d a.fr).rp ((b.rb 10 Z).d a.fr) ((b.rp 11 Z).d a.fr).rp ((b.rb 12 Z).d a.fr) ((b.rb 13 Z).d a.fr) ((b.rp 25 Z).d a.fr).rp ((b.rb 24 Z).d a.fr) ((b.rp 23 Z).d a.fr).rp ((b.rb 22 Z).d a.fr) ((b.rp 21 Z).d a.fr).rp ((b.rb 20 Z).d a.fr)) ?_
   rintro _ w ⟨d,e,rfl,G⟩
   have a:=a.f G
   exact ⟨_,_,⟨d,e,Z,Z,Z⟩,SfT.mk' hZ Q.nil O.nil a⟩
  rintro v_q x_q y_q ⟨d,e,rfl,rfl,rfl⟩
  refine ow (fun h v x y=>∃d:Value,∃e:Value,h=[(.agg #[d,e,J c.2.2],[K U d c.1,K U e c.2.1],[])]∧v=undef∧x=[K U d c.1,K U e c.2.1,W aI [d,e,J c.2.2]]∧y=[]) [(.agg #[d,e,J c.2.2],[K U d c.1,K U e c.2.1],[])] [K U d c.1,K U e c.2.1,W aI [.slice none 0 0,.slice none 0 0,J false]] [] _ Z Z (fun h v x y=>Z) Z Z Z Z ⟨_,_,_,d,e,Z,Z,Z,Z⟩ (fun w Sl Tl hZ hTT b f a=>?_) ?_
  ·refine mq (a7 (i:=2) (us:=[d,e,J c.2.2]) Z bI Z Z Z ⟨(a.ro 0 Z).one,(a.ro 1 Z).one,Z,V⟩ Z a) ?_
   intro w a
   exact ⟨_,_,⟨d,e,Z,Z,Z,Z⟩,SfT.mk' hZ Q.nil O.nil a⟩
  rintro v_q x_q y_q ⟨v_39',v_41',hh,rfl,rfl,rfl⟩
  replace hh:([(.agg #[d,e,J c.2.2],[K U d c.1,K U e c.2.1],[])]:List Th)=[(.agg #[v_39',v_41',J c.2.2],[K U v_39' c.1,K U v_41' c.2.1],[])]:=hh
  cases hh
  refine bu Z Z (fun w Sb wb hZ b f hF=>aB Z) Z (gN fun w hQ=>?_)
  obtain ⟨bv,bm,hZ,b,f,a⟩:=hQ
  refine M (aw ?_)
  cases h
  replace a:=hZ.st a
  exact dk Z ⟨_,Z,bC (us:=[d,e,J c.2.2]) u33 Z bI (a.q 2 Z Z)⟩ Z ⟨d,e,Z,a.e [0,1] Z Z⟩
theorem mT {w0:World} {aU aV aW aX:List UInt32} {m n k l:Value} (a0:Int) (B o:Bool) {r:List UInt32×List UInt32×Bool×Int}
  (h:F.DM a0 aU aV B aW aX o=some r) (bs:RP [] w0 U m aU) (bt:RP [] w0 U n aV) (bu:RP [] w0 U k aW) (bv:RP [] w0 U l aX):Calls Tryz.prog 37 #[vI a0,.agg #[m,n,J B],.agg #[k,l,J o]] w0 (Ret fun v w=>∃bm bn:Value,v=.tuple #[.agg #[bm,bn,J r.2.2.1],vI r.2.2.2]∧St [] w0 w [K U bm r.1,K U bn r.2.1]):=by
 refine aJ 41 Tryz.func37 Z Z Z ?_
 have c:=St.l w0
 have hZ:=Fz.l (S:=[]) (w0:=w0)
 have hTT:TOk [] [] w0:=TOk.nil
 have a:Q [] w0 [red U l aX,red U k aW,red U n aV,red U m aU]:=Y (RP.i (R Z) bv) (Y (RP.i (R Z) bu) (Y (RP.i (R Z) bt) (Y (RP.i (R Z) bs) (Q.nil))))
 have b:O [] [red U l aX,red U k aW,red U n aV,red U m aU]:=O.emp
 refine au [(0,vI a0),(1,.agg #[m,n,J B]),(2,.agg #[k,l,J o])] ⟨Z,Z,Z,V⟩ ?_
 unfold F.DM at h
 refine I (af (aP (cZ (cs:=[m,n,J B]) Z Z c) Z ?_))
 rintro _ w ⟨bp,rfl,c⟩
 refine aP (cZ (cs:=[k,l,J o]) Z Z c) Z ?_
 rintro _ w ⟨bq,rfl,c⟩
 refine aP (aT (cs:=[.slice none 0 0,.slice none 0 0,J false]) fu Z c) Z ?_
 rintro _ w ⟨p,rfl,c⟩
 refine P 1 Z ?_
 refine H (M (I (af (P 1 Z ?_))))
 refine am (bo (us:=[m,n,J B]) u33 Z bI Z (c.q 2 Z Z)) Z ?_
 replace c:=c.pick (os':=[]++[W p [.slice none 0 0,.slice none 0 0,J false],W bq [k,l,J o],W bp [m,n,J B]]) [0,1,2] (by decide) rfl
 obtain ⟨hZ,a,b,c⟩:=hZ.frzK hTT a b c
 obtain ⟨a5,bT,h⟩:=aj h
 refine ao Z (en a0 B bT (hZ.okT hTT c) (a.j b 0 Z) (a.j b 1 Z)) Z ?_
 rintro v_q w hQ
 cases aY:a5.1 with
 | none=>
  have h:=ea h aY
  rw [aY]at hQ
  obtain ⟨rfl,q⟩:=dD hQ
  obtain ⟨ck,b7,hZ,a,b,c⟩:=hZ.m a b c q Q.nil rfl
  refine P 4 Z ?_
  refine aP (aT (cs:=[.pointer none,.pointer none,.pointer none]) dK Z c) Z ?_
  rintro _ w ⟨ak,rfl,c⟩
  refine P 1 Z ?_
  refine bb (a7 (i:=0) (us:=[.pointer none,.pointer none,.pointer none]) Z bB Z Z Z ⟨Z,Z,Z,V⟩ Z c) ?_
  intro w c
  refine P 1 Z ?_
  refine H (M (I (af (P 1 Z ?_))))
  refine am (bo (us:=[k,l,J o]) u33 Z bI Z (c.q 2 Z Z)) Z ?_
  replace c:=c.pick (os':=[]++[W ak [.pointer none,.pointer none,.pointer none],W p [.slice none 0 0,.slice none 0 0,J false],W bq [k,l,J o],W bp [m,n,J B]]) [0,1,2,3] (by decide) rfl
  obtain ⟨hZ,a,b,c⟩:=hZ.frzK hTT a b c
  obtain ⟨a6,bw,h⟩:=aj h
  refine ao Z (en a0 o bw (hZ.okT hTT c) (a.j b 2 Z) (a.j b 3 Z)) Z ?_
  rintro v_q w hQ
  cases aL:a6.1 with
  | none=>
   have h:=ea h aL
   rw [aL]at hQ
   obtain ⟨rfl,q⟩:=dD hQ
   obtain ⟨cl,b8,hZ,a,b,c⟩:=hZ.m a b c q Q.nil rfl
   refine P 4 Z ?_
   refine aP (aT (cs:=[.pointer none,.pointer none,.pointer none]) dK Z c) Z ?_
   rintro _ w ⟨a8,rfl,c⟩
   refine P 1 Z ?_
   refine bb (a7 (i:=0) (us:=[.pointer none,.pointer none,.pointer none]) Z bB Z Z Z ⟨Z,Z,Z,V⟩ Z c) ?_
   intro w c
   refine P 1 Z ?_
   refine H (M (I ?_))
   refine a9 (r:=r) (fun (g:Bool) L w=>L=[(6,N p 0),(8,.pointer none),(9,N ak 0),(12,N a8 0),(33,J g)]∧SfT [] [] w0 w [] [W p [.slice none 0 0,.slice none 0 0,J false],W ak [.pointer none,.pointer none,.pointer none],W a8 [.pointer none,.pointer none,.pointer none]]) (F.FN) ?_ ?_
   rotate_left
   ·intro bi
    refine af (P 3 Z ?_)
    cases aM:(!a5.2)
    case true=>
     have h:=aG h aM
     try simp only [aM]
     refine P 3 Z ?_
     refine H (M ?_)
     exact au _ (by exact ⟨Z,Z,Z,Z,Z,V⟩) (bi true _ _ ⟨Z,(SfT.mk' hZ Q.nil O.nil (c.e [2,1,0] Z Z))⟩ h)
    case false=>
     have h:=aH h aM
     try simp only [aM]
     refine P 3 Z ?_
     refine H (M ?_)
     exact au _ (by exact ⟨Z,Z,Z,Z,Z,V⟩) (bi (!a6.2) _ _ ⟨Z,(SfT.mk' hZ Q.nil O.nil (c.e [2,1,0] Z Z))⟩ h)
   rintro cm L w hJ h
   try dsimp only at hJ
   obtain ⟨rfl,⟨cn,b9,hZ,a,b,c⟩⟩:=hJ
   unfold F.FN at h
   refine ax Z (fun aZ=>?_) (fun aZ=>?_)
   ·have h:=aG h aZ
    refine I (af (am (bN (vs:=[]) (cells:=[.slice none 0 0,.slice none 0 0,J false]) Z dU V Z) Z (bb (a7 (i:=0) (us:=[.slice none 0 0,.slice none 0 0,J false]) Z bI Z Z Z ⟨Z,Z,Z,V⟩ Z c) ?_)))
    intro w c
    refine P 1 Z ?_
    refine H (M (aw (aD ?_)))
    cases h
    replace c:=hZ.st c
    exact dk Z ⟨_,Z,bC (us:=[.slice none 0 0,.slice none 0 0,J false]) u33 Z bI (c.q 0 Z Z)⟩ Z ⟨.slice none 0 0,.slice none 0 0,Z,((c.nil U).nil U).e [1,0] Z Z⟩
   have h:=aH h aZ
   refine az (M (I (af (P 2 Z ?_))))
   refine am (bo (us:=[.pointer none,.pointer none,.pointer none]) u91 Z bB Z (c.q 1 Z Z)) Z (am (bo (us:=[.pointer none,.pointer none,.pointer none]) u91 Z bB Z (c.q 2 Z Z)) Z ?_)
   replace c:=c.pick (os':=[]++[W p [.slice none 0 0,.slice none 0 0,J false],W ak [.pointer none,.pointer none,.pointer none],W a8 [.pointer none,.pointer none,.pointer none]]) [0,1,2] (by decide) rfl
   obtain ⟨hZ,a,b,c⟩:=hZ.frzK hTT a b c
   cases h
  | some aA=>
   have h:=d9 h aL
   rw [aL]at hQ
   obtain ⟨ca,bU,bE,bV,bF,bW,bG,bX,bH,bY,bJ,t,aB,u,aC,x,aE,rfl,q,aS⟩:=dC hQ
   obtain ⟨co,cb,hZ,a,b,c⟩:=hZ.m a b c q aS rfl
   refine P 4 Z ?_
   refine aP (aT (cs:=[.pointer none,.pointer none,.pointer none]) dK Z c) Z ?_
   rintro _ w ⟨ba,rfl,c⟩
   refine P 1 Z ?_
   refine bb (a7 (i:=0) (us:=[N t 0,N u 0,N x 0]) Z bB Z Z Z ⟨Z,Z,Z,V⟩ Z c) ?_
   intro w c
   refine P 1 Z ?_
   refine H (M (I ?_))
   refine a9 (r:=r) (fun (g:Bool) L w=>L=[(6,N p 0),(8,.pointer none),(9,N ak 0),(12,N ba 0),(33,J g)]∧SfT [] [] w0 w [W x [J aA.2.2.2.2.2.2.2.2.2.2.2.2.2.2.2.1,aE],red U aE aA.2.2.2.2.2.2.2.2.2.2.2.2.2.2.2.2,W u [J aA.2.2.2.2.2.2.2.2.2.2.2.2.2.1,aC],red U aC aA.2.2.2.2.2.2.2.2.2.2.2.2.2.2.1,W t [J aA.2.2.2.2.2.2.2.2.2.2.2.1,aB],red U aB aA.2.2.2.2.2.2.2.2.2.2.2.2.1] [W p [.slice none 0 0,.slice none 0 0,J false],W ak [.pointer none,.pointer none,.pointer none],W ba [N t 0,N u 0,N x 0]]) (F.FW) ?_ ?_
   rotate_left
   ·intro bj
    refine af (P 3 Z ?_)
    cases aN:(!a5.2)
    case true=>
     have h:=aG h aN
     try simp only [aN]
     refine P 3 Z ?_
     refine H (M ?_)
     exact au _ (by exact ⟨Z,Z,Z,Z,Z,V⟩) (bj true _ _ ⟨Z,(SfT.mk' hZ (Y (a.b 20 Z) (Y (a.b 19 Z) (Y (a.b 18 Z) (Y (a.b 17 Z) (Y (a.b 16 Z) (Y (a.b 15 Z) Q.nil)))))) (X (b.b 20 Z) (X (b.b 19 Z) (X (b.b 18 Z) (X (b.b 17 Z) (X (b.b 16 Z) (X (b.b 15 Z) O.nil)))))) (c.e [2,1,0] Z Z))⟩ h)
    case false=>
     have h:=aH h aN
     try simp only [aN]
     refine P 3 Z ?_
     refine H (M ?_)
     exact au _ (by exact ⟨Z,Z,Z,Z,Z,V⟩) (bj (!a6.2) _ _ ⟨Z,(SfT.mk' hZ (Y (a.b 20 Z) (Y (a.b 19 Z) (Y (a.b 18 Z) (Y (a.b 17 Z) (Y (a.b 16 Z) (Y (a.b 15 Z) Q.nil)))))) (X (b.b 20 Z) (X (b.b 19 Z) (X (b.b 18 Z) (X (b.b 17 Z) (X (b.b 16 Z) (X (b.b 15 Z) O.nil)))))) (c.e [2,1,0] Z Z))⟩ h)
   rintro cp L w hJ h
   try dsimp only at hJ
   obtain ⟨rfl,⟨cq,cc,hZ,a,b,c⟩⟩:=hJ
   unfold F.FW at h
   refine ax Z (fun a1=>?_) (fun a1=>?_)
   ·have h:=aG h a1
    refine I (af (am (bN (vs:=[]) (cells:=[.slice none 0 0,.slice none 0 0,J false]) Z dU V Z) Z (bb (a7 (i:=0) (us:=[.slice none 0 0,.slice none 0 0,J false]) Z bI Z Z Z ⟨Z,Z,Z,V⟩ Z c) ?_)))
    intro w c
    refine P 1 Z ?_
    refine H (M (aw (aD ?_)))
    cases h
    replace c:=hZ.st c
    exact dk Z ⟨_,Z,bC (us:=[.slice none 0 0,.slice none 0 0,J false]) u33 Z bI (c.q 0 Z Z)⟩ Z ⟨.slice none 0 0,.slice none 0 0,Z,((c.nil U).nil U).e [1,0] Z Z⟩
   have h:=aH h a1
   refine az (M (I (af (P 2 Z ?_))))
   refine am (bo (us:=[.pointer none,.pointer none,.pointer none]) u91 Z bB Z (c.q 1 Z Z)) Z (am (bo (us:=[N t 0,N u 0,N x 0]) u91 Z bB Z (c.q 2 Z Z)) Z ?_)
   replace c:=c.pick (os':=[]++[W p [.slice none 0 0,.slice none 0 0,J false],W ak [.pointer none,.pointer none,.pointer none],W ba [N t 0,N u 0,N x 0]]) [0,1,2] (by decide) rfl
   obtain ⟨hZ,a,b,c⟩:=hZ.frzK hTT a b c
   cases h
 | some d=>
  have h:=d9 h aY
  rw [aY]at hQ
  obtain ⟨a2,ap,C,aq,D,ar,E,av,G,ay,T,e,ab,f,ac,j,ad,rfl,q,aS⟩:=dC hQ
  obtain ⟨cr,cd,hZ,a,b,c⟩:=hZ.m a b c q aS rfl
  refine P 4 Z ?_
  refine aP (aT (cs:=[.pointer none,.pointer none,.pointer none]) dK Z c) Z ?_
  rintro _ w ⟨al,rfl,c⟩
  refine P 1 Z ?_
  refine bb (a7 (i:=0) (us:=[N e 0,N f 0,N j 0]) Z bB Z Z Z ⟨Z,Z,Z,V⟩ Z c) ?_
  intro w c
  refine P 1 Z ?_
  refine H (M (I (af (P 1 Z ?_))))
  refine am (bo (us:=[k,l,J o]) u33 Z bI Z (c.q 2 Z Z)) Z ?_
  replace c:=c.pick (os':=[]++[W al [N e 0,N f 0,N j 0],W p [.slice none 0 0,.slice none 0 0,J false],W bq [k,l,J o],W bp [m,n,J B]]) [0,1,2,3] (by decide) rfl
  obtain ⟨hZ,a,b,c⟩:=hZ.frzK hTT a b c
  obtain ⟨bc,bz,h⟩:=aj h
  refine ao Z (en a0 o bz (hZ.okT hTT c) (a.j b 2 Z) (a.j b 3 Z)) Z ?_
  rintro v_q w hQ
  cases aO:bc.1 with
  | none=>
   have h:=ea h aO
   rw [aO]at hQ
   obtain ⟨rfl,q⟩:=dD hQ
   obtain ⟨ct,ce,hZ,a,b,c⟩:=hZ.m a b c q Q.nil rfl
   refine P 4 Z ?_
   refine aP (aT (cs:=[.pointer none,.pointer none,.pointer none]) dK Z c) Z ?_
   rintro _ w ⟨bd,rfl,c⟩
   refine P 1 Z ?_
   refine bb (a7 (i:=0) (us:=[.pointer none,.pointer none,.pointer none]) Z bB Z Z Z ⟨Z,Z,Z,V⟩ Z c) ?_
   intro w c
   refine P 1 Z ?_
   refine H (M (I ?_))
   refine a9 (r:=r) (fun (g:Bool) L w=>L=[(6,N p 0),(8,N a2 0),(9,N al 0),(12,N bd 0),(33,J g)]∧SfT [] [] w0 w [W j [J d.2.2.2.2.2.2.2.2.2.2.2.2.2.2.2.1,ad],red U ad d.2.2.2.2.2.2.2.2.2.2.2.2.2.2.2.2,W f [J d.2.2.2.2.2.2.2.2.2.2.2.2.2.1,ac],red U ac d.2.2.2.2.2.2.2.2.2.2.2.2.2.2.1,W e [J d.2.2.2.2.2.2.2.2.2.2.2.1,ab],red U ab d.2.2.2.2.2.2.2.2.2.2.2.2.1,W a2 [N ap 0,N aq 0,N ar 0,N av 0,N ay 0,vI d.2.2.2.2.2.2.2.2.2.2.1,.func (.func 168) #[] #[]],W ay [J d.2.2.2.2.2.2.2.2.1,T],red U T d.2.2.2.2.2.2.2.2.2.1,W av [J d.2.2.2.2.2.2.1,G],red U G d.2.2.2.2.2.2.2.1,W ar [J d.2.2.2.2.1,E],red U E d.2.2.2.2.2.1,W aq [J d.2.2.1,D],red U D d.2.2.2.1,W ap [J d.1,C],red U C d.2.1] [W p [.slice none 0 0,.slice none 0 0,J false],W al [N e 0,N f 0,N j 0],W bd [.pointer none,.pointer none,.pointer none]]) (F.FR) ?_ ?_
   rotate_left
   ·intro bk
    refine af (P 3 Z ?_)
    cases aQ:(!a5.2)
    case true=>
     have h:=aG h aQ
     try simp only [aQ]
     refine P 3 Z ?_
     refine H (M ?_)
     exact au _ (by exact ⟨Z,Z,Z,Z,Z,V⟩) (bk true _ _ ⟨Z,(SfT.mk' hZ (Y (a.b 20 Z) (Y (a.b 19 Z) (Y (a.b 18 Z) (Y (a.b 17 Z) (Y (a.b 16 Z) (Y (a.b 15 Z) (Y (a.b 14 Z) (Y (a.b 13 Z) (Y (a.b 12 Z) (Y (a.b 11 Z) (Y (a.b 10 Z) (Y (a.b 9 Z) (Y (a.b 8 Z) (Y (a.b 7 Z) (Y (a.b 6 Z) (Y (a.b 5 Z) (Y (a.b 4 Z) Q.nil))))))))))))))))) (X (b.b 20 Z) (X (b.b 19 Z) (X (b.b 18 Z) (X (b.b 17 Z) (X (b.b 16 Z) (X (b.b 15 Z) (X (b.b 14 Z) (X (b.b 13 Z) (X (b.b 12 Z) (X (b.b 11 Z) (X (b.b 10 Z) (X (b.b 9 Z) (X (b.b 8 Z) (X (b.b 7 Z) (X (b.b 6 Z) (X (b.b 5 Z) (X (b.b 4 Z) O.nil))))))))))))))))) (c.e [2,1,0] Z Z))⟩ h)
    case false=>
     have h:=aH h aQ
     try simp only [aQ]
     refine P 3 Z ?_
     refine H (M ?_)
     exact au _ (by exact ⟨Z,Z,Z,Z,Z,V⟩) (bk (!bc.2) _ _ ⟨Z,(SfT.mk' hZ (Y (a.b 20 Z) (Y (a.b 19 Z) (Y (a.b 18 Z) (Y (a.b 17 Z) (Y (a.b 16 Z) (Y (a.b 15 Z) (Y (a.b 14 Z) (Y (a.b 13 Z) (Y (a.b 12 Z) (Y (a.b 11 Z) (Y (a.b 10 Z) (Y (a.b 9 Z) (Y (a.b 8 Z) (Y (a.b 7 Z) (Y (a.b 6 Z) (Y (a.b 5 Z) (Y (a.b 4 Z) Q.nil))))))))))))))))) (X (b.b 20 Z) (X (b.b 19 Z) (X (b.b 18 Z) (X (b.b 17 Z) (X (b.b 16 Z) (X (b.b 15 Z) (X (b.b 14 Z) (X (b.b 13 Z) (X (b.b 12 Z) (X (b.b 11 Z) (X (b.b 10 Z) (X (b.b 9 Z) (X (b.b 8 Z) (X (b.b 7 Z) (X (b.b 6 Z) (X (b.b 5 Z) (X (b.b 4 Z) O.nil))))))))))))))))) (c.e [2,1,0] Z Z))⟩ h)
   rintro cu L w hJ h
   try dsimp only at hJ
   obtain ⟨rfl,⟨cv,cf,hZ,a,b,c⟩⟩:=hJ
   unfold F.FR at h
   refine ax Z (fun a3=>?_) (fun a3=>?_)
   ·have h:=aG h a3
    refine I (af (am (bN (vs:=[]) (cells:=[.slice none 0 0,.slice none 0 0,J false]) Z dU V Z) Z (bb (a7 (i:=0) (us:=[.slice none 0 0,.slice none 0 0,J false]) Z bI Z Z Z ⟨Z,Z,Z,V⟩ Z c) ?_)))
    intro w c
    refine P 1 Z ?_
    refine H (M (aw (aD ?_)))
    cases h
    replace c:=hZ.st c
    exact dk Z ⟨_,Z,bC (us:=[.slice none 0 0,.slice none 0 0,J false]) u33 Z bI (c.q 0 Z Z)⟩ Z ⟨.slice none 0 0,.slice none 0 0,Z,((c.nil U).nil U).e [1,0] Z Z⟩
   have h:=aH h a3
   refine az (M (I (af (P 2 Z ?_))))
   refine am (bo (us:=[N e 0,N f 0,N j 0]) u91 Z bB Z (c.q 1 Z Z)) Z (am (bo (us:=[.pointer none,.pointer none,.pointer none]) u91 Z bB Z (c.q 2 Z Z)) Z ?_)
   replace c:=c.pick (os':=[]++[W p [.slice none 0 0,.slice none 0 0,J false],W al [N e 0,N f 0,N j 0],W bd [.pointer none,.pointer none,.pointer none]]) [0,1,2] (by decide) rfl
   obtain ⟨hZ,a,b,c⟩:=hZ.frzK hTT a b c
   cases h
  | some s=>
   have h:=d9 h aO
   rw [aO]at hQ
   obtain ⟨cg,bZ,bK,b0,bL,b1,bM,b2,bO,b3,bP,y,aF,z,aI,A,aK,rfl,q,aS⟩:=dC hQ
   obtain ⟨cw,ch,hZ,a,b,c⟩:=hZ.m a b c q aS rfl
   refine P 4 Z ?_
   refine aP (aT (cs:=[.pointer none,.pointer none,.pointer none]) dK Z c) Z ?_
   rintro _ w ⟨be,rfl,c⟩
   refine P 1 Z ?_
   refine bb (a7 (i:=0) (us:=[N y 0,N z 0,N A 0]) Z bB Z Z Z ⟨Z,Z,Z,V⟩ Z c) ?_
   intro w c
   refine P 1 Z ?_
   refine H (M (I ?_))
   refine a9 (r:=r) (fun (g:Bool) L w=>L=[(6,N p 0),(8,N a2 0),(9,N al 0),(12,N be 0),(33,J g)]∧SfT [] [] w0 w [W A [J s.2.2.2.2.2.2.2.2.2.2.2.2.2.2.2.1,aK],red U aK s.2.2.2.2.2.2.2.2.2.2.2.2.2.2.2.2,W z [J s.2.2.2.2.2.2.2.2.2.2.2.2.2.1,aI],red U aI s.2.2.2.2.2.2.2.2.2.2.2.2.2.2.1,W y [J s.2.2.2.2.2.2.2.2.2.2.2.1,aF],red U aF s.2.2.2.2.2.2.2.2.2.2.2.2.1,W j [J d.2.2.2.2.2.2.2.2.2.2.2.2.2.2.2.1,ad],red U ad d.2.2.2.2.2.2.2.2.2.2.2.2.2.2.2.2,W f [J d.2.2.2.2.2.2.2.2.2.2.2.2.2.1,ac],red U ac d.2.2.2.2.2.2.2.2.2.2.2.2.2.2.1,W e [J d.2.2.2.2.2.2.2.2.2.2.2.1,ab],red U ab d.2.2.2.2.2.2.2.2.2.2.2.2.1,W a2 [N ap 0,N aq 0,N ar 0,N av 0,N ay 0,vI d.2.2.2.2.2.2.2.2.2.2.1,.func (.func 168) #[] #[]],W ay [J d.2.2.2.2.2.2.2.2.1,T],red U T d.2.2.2.2.2.2.2.2.2.1,W av [J d.2.2.2.2.2.2.1,G],red U G d.2.2.2.2.2.2.2.1,W ar [J d.2.2.2.2.1,E],red U E d.2.2.2.2.2.1,W aq [J d.2.2.1,D],red U D d.2.2.2.1,W ap [J d.1,C],red U C d.2.1] [W p [.slice none 0 0,.slice none 0 0,J false],W al [N e 0,N f 0,N j 0],W be [N y 0,N z 0,N A 0]]) (F.Fc d s) ?_ ?_
   rotate_left
   ·intro bl
    refine af (P 3 Z ?_)
    cases aR:(!a5.2)
    case true=>
     have h:=aG h aR
     try simp only [aR]
     refine P 3 Z ?_
     refine H (M ?_)
     exact au _ (by exact ⟨Z,Z,Z,Z,Z,V⟩) (bl true _ _ ⟨Z,(SfT.mk' hZ (Y (a.b 37 Z) (Y (a.b 36 Z) (Y (a.b 35 Z) (Y (a.b 34 Z) (Y (a.b 33 Z) (Y (a.b 32 Z) (Y (a.b 20 Z) (Y (a.b 19 Z) (Y (a.b 18 Z) (Y (a.b 17 Z) (Y (a.b 16 Z) (Y (a.b 15 Z) (Y (a.b 14 Z) (Y (a.b 13 Z) (Y (a.b 12 Z) (Y (a.b 11 Z) (Y (a.b 10 Z) (Y (a.b 9 Z) (Y (a.b 8 Z) (Y (a.b 7 Z) (Y (a.b 6 Z) (Y (a.b 5 Z) (Y (a.b 4 Z) Q.nil))))))))))))))))))))))) (X (b.b 37 Z) (X (b.b 36 Z) (X (b.b 35 Z) (X (b.b 34 Z) (X (b.b 33 Z) (X (b.b 32 Z) (X (b.b 20 Z) (X (b.b 19 Z) (X (b.b 18 Z) (X (b.b 17 Z) (X (b.b 16 Z) (X (b.b 15 Z) (X (b.b 14 Z) (X (b.b 13 Z) (X (b.b 12 Z) (X (b.b 11 Z) (X (b.b 10 Z) (X (b.b 9 Z) (X (b.b 8 Z) (X (b.b 7 Z) (X (b.b 6 Z) (X (b.b 5 Z) (X (b.b 4 Z) O.nil))))))))))))))))))))))) (c.e [2,1,0] Z Z))⟩ h)
    case false=>
     have h:=aH h aR
     try simp only [aR]
     refine P 3 Z ?_
     refine H (M ?_)
     exact au _ (by exact ⟨Z,Z,Z,Z,Z,V⟩) (bl (!bc.2) _ _ ⟨Z,(SfT.mk' hZ (Y (a.b 37 Z) (Y (a.b 36 Z) (Y (a.b 35 Z) (Y (a.b 34 Z) (Y (a.b 33 Z) (Y (a.b 32 Z) (Y (a.b 20 Z) (Y (a.b 19 Z) (Y (a.b 18 Z) (Y (a.b 17 Z) (Y (a.b 16 Z) (Y (a.b 15 Z) (Y (a.b 14 Z) (Y (a.b 13 Z) (Y (a.b 12 Z) (Y (a.b 11 Z) (Y (a.b 10 Z) (Y (a.b 9 Z) (Y (a.b 8 Z) (Y (a.b 7 Z) (Y (a.b 6 Z) (Y (a.b 5 Z) (Y (a.b 4 Z) Q.nil))))))))))))))))))))))) (X (b.b 37 Z) (X (b.b 36 Z) (X (b.b 35 Z) (X (b.b 34 Z) (X (b.b 33 Z) (X (b.b 32 Z) (X (b.b 20 Z) (X (b.b 19 Z) (X (b.b 18 Z) (X (b.b 17 Z) (X (b.b 16 Z) (X (b.b 15 Z) (X (b.b 14 Z) (X (b.b 13 Z) (X (b.b 12 Z) (X (b.b 11 Z) (X (b.b 10 Z) (X (b.b 9 Z) (X (b.b 8 Z) (X (b.b 7 Z) (X (b.b 6 Z) (X (b.b 5 Z) (X (b.b 4 Z) O.nil))))))))))))))))))))))) (c.e [2,1,0] Z Z))⟩ h)
   rintro cx L w hJ h
   try dsimp only at hJ
   obtain ⟨rfl,⟨cy,ci,hZ,a,b,c⟩⟩:=hJ
   unfold F.Fc at h
   refine ax Z (fun a4=>?_) (fun a4=>?_)
   ·have h:=aG h a4
    refine I (af (am (bN (vs:=[]) (cells:=[.slice none 0 0,.slice none 0 0,J false]) Z dU V Z) Z (bb (a7 (i:=0) (us:=[.slice none 0 0,.slice none 0 0,J false]) Z bI Z Z Z ⟨Z,Z,Z,V⟩ Z c) ?_)))
    intro w c
    refine P 1 Z ?_
    refine H (M (aw (aD ?_)))
    cases h
    replace c:=hZ.st c
    exact dk Z ⟨_,Z,bC (us:=[.slice none 0 0,.slice none 0 0,J false]) u33 Z bI (c.q 0 Z Z)⟩ Z ⟨.slice none 0 0,.slice none 0 0,Z,((c.nil U).nil U).e [1,0] Z Z⟩
   have h:=aH h a4
   refine az (M (I (af (P 2 Z ?_))))
   refine am (bo (us:=[N e 0,N f 0,N j 0]) u91 Z bB Z (c.q 1 Z Z)) Z (am (bo (us:=[N y 0,N z 0,N A 0]) u91 Z bB Z (c.q 2 Z Z)) Z ?_)
   replace c:=c.pick (os':=[]++[W p [.slice none 0 0,.slice none 0 0,J false],W al [N e 0,N f 0,N j 0],W be [N y 0,N z 0,N A 0]]) [0,1,2] (by decide) rfl
   obtain ⟨hZ,a,b,c⟩:=hZ.frzK hTT a b c
   obtain ⟨bf,bA,h⟩:=aj h
   refine ao Z (fS d.1 d.2.2.1 d.2.2.2.2.1 d.2.2.2.2.2.2.1 d.2.2.2.2.2.2.2.2.1 d.2.2.2.2.2.2.2.2.2.2.1 d.2.2.2.2.2.2.2.2.2.2.2.1 d.2.2.2.2.2.2.2.2.2.2.2.2.2.1 d.2.2.2.2.2.2.2.2.2.2.2.2.2.2.2.1 s.2.2.2.2.2.2.2.2.2.2.2.1 s.2.2.2.2.2.2.2.2.2.2.2.2.2.1 s.2.2.2.2.2.2.2.2.2.2.2.2.2.2.2.1 bA (hZ.okT hTT c) (a.j b 0 Z) (a.k b 1 Z) (a.j b 2 Z) (a.k b 3 Z) (a.j b 4 Z) (a.k b 5 Z) (a.j b 6 Z) (a.k b 7 Z) (a.j b 8 Z) (a.k b 9 Z) (a.k b 10 Z) (a.j b 11 Z) (a.k b 12 Z) (a.j b 13 Z) (a.k b 14 Z) (a.j b 15 Z) (a.k b 16 Z) (a.j b 17 Z) (a.k b 18 Z) (a.j b 19 Z) (a.k b 20 Z) (a.j b 21 Z) (a.k b 22 Z)) Z ?_
   rintro _ w ⟨b4,bQ,b5,bR,b6,bS,rfl,q,aS⟩
   obtain ⟨cz,cj,hZ,a,b,c⟩:=hZ.m a b c q aS rfl
   obtain ⟨br,bD,h⟩:=aj h
   refine ao Z (fw d.1 d.2.2.1 d.2.2.2.2.1 d.2.2.2.2.2.2.1 d.2.2.2.2.2.2.2.2.1 d.2.2.2.2.2.2.2.2.2.2.1 bf.1 bf.2.2.1 bf.2.2.2.2.1 bD ((a.rp 0 Z).d c.fr).rp ((a.rb 1 Z).d c.fr) ((a.rp 2 Z).d c.fr).rp ((a.rb 3 Z).d c.fr) ((a.rp 4 Z).d c.fr).rp ((a.rb 5 Z).d c.fr) ((a.rp 6 Z).d c.fr).rp ((a.rb 7 Z).d c.fr) ((a.rp 8 Z).d c.fr).rp ((a.rb 9 Z).d c.fr) ((a.rb 10 Z).d c.fr) ((a.rp 23 Z).d c.fr).rp ((a.rb 24 Z).d c.fr) ((a.rp 25 Z).d c.fr).rp ((a.rb 26 Z).d c.fr) ((a.rp 27 Z).d c.fr).rp ((a.rb 28 Z).d c.fr)) Z ?_
   rintro _ w ⟨bg,bh,rfl,q⟩
   have c:=c.f q
   refine bb (a7 (i:=2) (us:=[bg,bh,J br.2.2]) Z bI Z Z Z ⟨(c.ro 0 Z).one,(c.ro 1 Z).one,Z,V⟩ Z c) ?_
   intro w c
   refine P 1 Z ?_
   refine H (M (aw ?_))
   cases h
   replace c:=hZ.st c
   exact dk Z ⟨_,Z,bC (us:=[bg,bh,J br.2.2]) u33 Z bI (c.q 2 Z Z)⟩ Z ⟨bg,bh,Z,c.e [0,1] Z Z⟩
end Go.Proofs
