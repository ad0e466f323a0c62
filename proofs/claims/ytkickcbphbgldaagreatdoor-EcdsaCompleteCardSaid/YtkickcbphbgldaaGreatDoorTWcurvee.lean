import Derived.Test.YtkickcbphbgldaaGreatDoorTW0
import Derived.Test.YtkickcbphbgldaaGreatDoorGkFman
import Derived.Test.YtkickcbphbgldaaGreatDoorTWbignumc
import Derived.Test.YtkickcbphbgldaaGreatDoorTWcurved
set_option linter.unusedVariables false
set_option linter.unusedSimpArgs false
set_option linter.unusedSectionVars false
set_option maxRecDepth 4000
namespace Go.Proofs
open Go Go.RowKit Go.Gk
open Go.Gk renaming Off → K, Rds → Q, aa → P, ae → O, ah → J, ai → H, e32 → U, own → M, pB → N, vB → I
open Nat renaming le_of_ble_eq_true → R
open Go.Gk.OE renaming bx → X
open Go.Gk.Off renaming cons → W
open Go.Gk.Rds renaming cons → Y
theorem mR {w0:World} {a1 ac ad:List UInt32} {aF o p:Value} (a0:Int) (A:Bool) {r:List UInt32×List UInt32×Bool×Int}
  (h:F.Dq a0 a1 ac ad A=some r) (bf:RP [] w0 U aF a1) (a5:RP [] w0 U o ac) (a6:RP [] w0 U p ad):Calls Tryz.prog 33 #[vI a0,aF,.agg #[o,p,I A]] w0 (Ret fun v w=>∃a2 a3:Value,v=.tuple #[.agg #[a2,a3,I r.2.2.1],vI r.2.2.2]∧St [] w0 w [M U a2 r.1,M U a3 r.2.1]):=by
 refine aJ 43 Tryz.func33 Z Z Z ?_
 have a:=St.l w0
 have hZ:=Fz.l (S:=[]) (w0:=w0)
 have hTT:TOk [] [] w0:=TOk.nil
 have b:Q [] w0 [red U p ad,red U o ac,red U aF a1]:=Y (RP.i (R Z) a6) (Y (RP.i (R Z) a5) (Y (RP.i (R Z) bf) (Q.nil)))
 have f:K [] [red U p ad,red U o ac,red U aF a1]:=K.emp
 refine au [(0,vI a0),(1,aF),(2,.agg #[o,p,I A])] ⟨Z,Z,Z,V⟩ ?_
 unfold F.Dq at h
 refine J (af (aT (da (cs:=[o,p,I A]) Z Z a) Z ?_))
 rintro _ w ⟨aR,rfl,a⟩
 refine aT (aY (cs:=[.slice none 0 0,.slice none 0 0,I false]) jc Z a) Z ?_
 rintro _ w ⟨aG,rfl,a⟩
 refine P 1 Z ?_
 refine H (O (J (af (P 1 Z ?_))))
 refine am (bI (us:=[o,p,I A]) u33 Z ce Z (a.q 1 Z Z)) Z ?_
 replace a:=a.pick (os':=[]++[X aG [.slice none 0 0,.slice none 0 0,I false],X aR [o,p,I A]]) [0,1] (by decide) rfl
 obtain ⟨hZ,b,f,a⟩:=hZ.frzK hTT b f a
 obtain ⟨bg,bd,h⟩:=aj h
 refine ao Z (gz a0 A bd (hZ.okT hTT a) (b.j f 1 Z) (b.j f 2 Z)) Z ?_
 rintro v_q w hQ
 cases aL:bg.1 with
 | none=>
  have h:=fx h aL
  rw [aL]at hQ
  obtain ⟨rfl,G⟩:=eJ hQ
  obtain ⟨bv,bh,hZ,b,f,a⟩:=hZ.m b f a G Q.nil rfl
  refine P 4 Z ?_
  refine aT (aY (cs:=[.pointer none,.pointer none,.pointer none]) eQ Z a) Z ?_
  rintro _ w ⟨bn,rfl,a⟩
  refine P 1 Z ?_
  refine bk (bl (i:=0) (us:=[.pointer none,.pointer none,.pointer none]) Z bL Z Z Z ⟨Z,Z,Z,V⟩ Z a) ?_
  intro w a
  refine P 1 Z ?_
  refine H (O (J (J (af (P 2 Z ?_)))))
  refine H (O ?_)
  refine ax Z (fun aM=>?_) (fun aM=>?_)
  ·have h:=aI h aM
   refine J (af (am (bY (vs:=[]) (cells:=[.slice none 0 0,.slice none 0 0,I false]) Z fo V Z) Z (bk (bl (i:=1) (us:=[.slice none 0 0,.slice none 0 0,I false]) Z ce Z Z Z ⟨Z,Z,Z,V⟩ Z a) ?_)))
   intro w a
   refine P 1 Z ?_
   refine H (O (aw (aE ?_)))
   cases h
   replace a:=hZ.st a
   exact dR Z ⟨_,Z,bJ (us:=[.slice none 0 0,.slice none 0 0,I false]) u33 Z ce (a.q 1 Z Z)⟩ Z ⟨.slice none 0 0,.slice none 0 0,Z,((a.nil U).nil U).e [1,0] Z Z⟩
  have h:=aH h aM
  refine ay (O (J (af (P 1 Z ?_))))
  obtain ⟨bo,a7,h⟩:=aj h
  refine ao Z (ee  a7 ((b.rp 0 Z).d a.fr).rp) Z ?_
  rintro _ w ⟨bp,bq,rfl,G⟩
  have a:=a.f G
  refine P 5 Z ?_
  refine H (O (J (J (af (P 2 Z ?_)))))
  refine H (O ?_)
  refine ax Z (fun aN=>?_) (fun aN=>?_)
  ·have h:=aI h aN
   refine J (af (am (bY (vs:=[]) (cells:=[.slice none 0 0,.slice none 0 0,I false]) Z fo V Z) Z (bk (bl (i:=3) (us:=[.slice none 0 0,.slice none 0 0,I false]) Z ce Z Z Z ⟨Z,Z,Z,V⟩ Z a) ?_)))
   intro w a
   refine P 1 Z ?_
   refine H (O (aw (aE ?_)))
   cases h
   replace a:=hZ.st a
   exact dR Z ⟨_,Z,bJ (us:=[.slice none 0 0,.slice none 0 0,I false]) u33 Z ce (a.q 3 Z Z)⟩ Z ⟨.slice none 0 0,.slice none 0 0,Z,((a.nil U).nil U).e [1,0] Z Z⟩
  have h:=aH h aN
  refine ay (O (J ?_))
  cases h
 | some g=>
  have h:=fv h aL
  rw [aL]at hQ
  obtain ⟨be,aS,ag,aU,ak,aV,al,aW,an,aX,ap,B,aq,C,az,D,aA,rfl,G,a4⟩:=eM hQ
  obtain ⟨br,bi,hZ,b,f,a⟩:=hZ.m b f a G a4 rfl
  refine P 4 Z ?_
  refine aT (aY (cs:=[.pointer none,.pointer none,.pointer none]) eQ Z a) Z ?_
  rintro _ w ⟨aO,rfl,a⟩
  refine P 1 Z ?_
  refine bk (bl (i:=0) (us:=[N B 0,N C 0,N D 0]) Z bL Z Z Z ⟨Z,Z,Z,V⟩ Z a) ?_
  intro w a
  refine P 1 Z ?_
  refine H (O (J (J (af (P 2 Z ?_)))))
  refine H (O ?_)
  refine ax Z (fun aP=>?_) (fun aP=>?_)
  ·have h:=aI h aP
   refine J (af (am (bY (vs:=[]) (cells:=[.slice none 0 0,.slice none 0 0,I false]) Z fo V Z) Z (bk (bl (i:=1) (us:=[.slice none 0 0,.slice none 0 0,I false]) Z ce Z Z Z ⟨Z,Z,Z,V⟩ Z a) ?_)))
   intro w a
   refine P 1 Z ?_
   refine H (O (aw (aE ?_)))
   cases h
   replace a:=hZ.st a
   exact dR Z ⟨_,Z,bJ (us:=[.slice none 0 0,.slice none 0 0,I false]) u33 Z ce (a.q 1 Z Z)⟩ Z ⟨.slice none 0 0,.slice none 0 0,Z,((a.nil U).nil U).e [1,0] Z Z⟩
  have h:=aH h aP
  refine ay (O (J (af (P 1 Z ?_))))
  obtain ⟨L,a8,h⟩:=aj h
  refine ao Z (ee  a8 ((b.rp 0 Z).d a.fr).rp) Z ?_
  rintro _ w ⟨ab,E,rfl,G⟩
  have a:=a.f G
  refine P 5 Z ?_
  refine H (O (J (J (af (P 2 Z ?_)))))
  refine H (O ?_)
  refine ax Z (fun aQ=>?_) (fun aQ=>?_)
  ·have h:=aI h aQ
   refine J (af (am (bY (vs:=[]) (cells:=[.slice none 0 0,.slice none 0 0,I false]) Z fo V Z) Z (bk (bl (i:=3) (us:=[.slice none 0 0,.slice none 0 0,I false]) Z ce Z Z Z ⟨Z,Z,Z,V⟩ Z a) ?_)))
   intro w a
   refine P 1 Z ?_
   refine H (O (aw (aE ?_)))
   cases h
   replace a:=hZ.st a
   exact dR Z ⟨_,Z,bJ (us:=[.slice none 0 0,.slice none 0 0,I false]) u33 Z ce (a.q 3 Z Z)⟩ Z ⟨.slice none 0 0,.slice none 0 0,Z,((a.nil U).nil U).e [1,0] Z Z⟩
  have h:=aH h aQ
  refine ay (O (J ?_))
  obtain ⟨T,a9,h⟩:=aj h
  obtain ⟨n,ba,h⟩:=aj h
  obtain ⟨c,bb,h⟩:=aj h
  refine fw (es:=[X D [I g.2.2.2.2.2.2.2.2.2.2.2.2.2.2.2.1,aA],red U aA g.2.2.2.2.2.2.2.2.2.2.2.2.2.2.2.2,X C [I g.2.2.2.2.2.2.2.2.2.2.2.2.2.1,az],red U az g.2.2.2.2.2.2.2.2.2.2.2.2.2.2.1,X B [I g.2.2.2.2.2.2.2.2.2.2.2.1,aq],red U aq g.2.2.2.2.2.2.2.2.2.2.2.2.1,X be [N aS 0,N aU 0,N aV 0,N aW 0,N aX 0,vI g.2.2.2.2.2.2.2.2.2.2.1,.func (.func 168) #[] #[]],X aX [I g.2.2.2.2.2.2.2.2.1,ap],red U ap g.2.2.2.2.2.2.2.2.2.1,X aW [I g.2.2.2.2.2.2.1,an],red U an g.2.2.2.2.2.2.2.1,X aV [I g.2.2.2.2.1,al],red U al g.2.2.2.2.2.1,X aU [I g.2.2.1,ak],red U ak g.2.2.2.1,X aS [I g.1,ag],red U ag g.2.1,red U p ad,red U o ac,red U aF a1]) (os:=[X aO [N B 0,N C 0,N D 0],X aR [o,p,I A]]) (fun i=>[8,10,11,12].contains i) (fun i=>if i=8 then some 10 else if i=11 then some 12 else none) (fun i=>if i=11 then [10] else []) (fun i=>if i=8 then [X E [I L.1,ab],M U ab L.2.1] else if i=12 then [X aG [.slice none 0 0,.slice none 0 0,I false]] else []) (fun i=>[]) (fun i=>if i=12 then [11] else []) (fun i=>if i=8 then (fun h v x y=>∃z:Value,v=N E 0∧x=[X E [I T.1,z],M U z T.2]∧y=[]) else if i=10 then (fun h v x y=>∃s:Nat,∃t:Nat,∃u:Nat,∃j:Value,∃l:Value,∃m:Value,v=.agg #[N s 0,N t 0,N u 0]∧x=[]∧y=[red U j n.2.1,X s [I n.1,j],red U l n.2.2.2.1,X t [I n.2.2.1,l],red U m n.2.2.2.2.2,X u [I n.2.2.2.2.1,m]]) else if i=11 then (fun h v x y=>∃d:Value,∃e:Value,v=.agg #[d,e,I c.2.2]∧x=[M U d c.1,M U e c.2.1]∧y=[]) else (fun h v x y=>∃d:Value,∃e:Value,h=[(.agg #[d,e,I c.2.2],[M U d c.1,M U e c.2.1],[])]∧v=undef∧x=[M U d c.1,M U e c.2.1,X aG [d,e,I c.2.2]]∧y=[])) (SfT.mk' hZ b f (a.pick (os':=[X E [I L.1,ab],M U ab L.2.1,X aG [.slice none 0 0,.slice none 0 0,I false],X aO [N B 0,N C 0,N D 0],X aR [o,p,I A]]) [0,1,3,2,4] (by decide) rfl)) (fun k hk=>(if_neg (fun q=>by subst q; exact absurd hk (by decide))).trans (if_neg (fun q=>by subst q; exact absurd hk (by decide)))) hTT rfl (fun i=>(dF (by rintro h v x y ⟨_,rfl,rfl,rfl⟩; exact cQ rfl) (dF (by rintro h v x y ⟨_,_,_,_,_,_,rfl,rfl,rfl⟩; exact cQ rfl) (dF (by rintro h v x y ⟨_,_,rfl,rfl,rfl⟩; exact cQ rfl) (by rintro h v x y ⟨_,_,_,rfl,rfl,rfl⟩; exact cQ rfl))))) bS (by kernel_rfl) (by kernel_rfl) ?_
  show fy _ _ _ _ _ _ _ _ _ _ _ _ _ _ _ _ [0,1,2,3,4,5,6,7,8,9,10,11,12,13] _ _
  refine bu Z Z (fun w Sb wb hZ b f hF=>ar Z) Z (bu Z Z (fun w Sb wb hZ b f hF=>ar Z) Z (bu Z Z (fun w Sb wb hZ b f hF=>ar Z) Z (bu Z Z (fun w Sb wb hZ b f hF=>ar Z) Z (bu Z Z (fun w Sb wb hZ b f hF=>ar Z) Z (bu Z Z (fun w Sb wb hZ b f hF=>aK Z) Z (bu Z Z (fun w Sb wb hZ b f hF=>av (k:=2) u76 Z Z cw Z) Z (bu Z Z (fun w Sb wb hZ b f hF=>aC u73 Z Z ((b.rb 13 Z).cell hF.fr 2 Z)) Z ?_)))))))
  refine dC (fun h v x y=>∃z:Value,v=N E 0∧x=[X E [I T.1,z],M U z T.2]∧y=[]) [] [X E [I L.1,ab],M U ab L.2.1] [] _ Z Z (fun h v x y=>Z) Z Z Z Z ⟨_,_,_,undef,Z,Z,Z⟩ (by kernel_rfl) Z (fun w Sl Tl hZ hTT b f a=>?_) Z ?_
  ·have hG:=a.pick (os':=[X E [I L.1,ab],M U ab L.2.1]++[X aO [N B 0,N C 0,N D 0],X aR [o,p,I A]]) [0,1,2,3] (by decide) Z
   refine dh (gy L.1 g.2.2.2.2.1 a9 hG.g ((b.rp 7 Z).g (R Z) hG) ((b.rb 8 Z).g hG)) ?_
   rintro _ w ⟨z,rfl,G⟩
   have a:=hG.h G
   exact ⟨_,_,⟨z,Z,Z,Z⟩,SfT.mk' hZ Q.nil K.nil a⟩
  rintro v_q x_q y_q ⟨z,rfl,rfl,rfl⟩
  refine bu Z Z (fun w Sb wb hZ b f hF=>bI (us:=[N B 0,N C 0,N D 0]) u91 Z bL Z (hF.q 0 Z Z)) Z ?_
  refine dC (fun h v x y=>∃s:Nat,∃t:Nat,∃u:Nat,∃j:Value,∃l:Value,∃m:Value,v=.agg #[N s 0,N t 0,N u 0]∧x=[]∧y=[red U j n.2.1,X s [I n.1,j],red U l n.2.2.2.1,X t [I n.2.2.1,l],red U m n.2.2.2.2.2,X u [I n.2.2.2.2.1,m]]) [] [X E [I T.1,z],M U z T.2] [] _ Z Z (fun h v x y=>Z) Z Z Z Z ⟨_,_,_,0,0,0,undef,undef,undef,Z,Z,Z⟩ (by kernel_rfl) Z (fun w Sl Tl hZ hTT b f a=>?_) Z ?_
  ·replace a:=a.pick (os':=[X E [I T.1,z],M U z T.2]++[X aO [N B 0,N C 0,N D 0],X aR [o,p,I A]]) [0,1,2,3] (by decide) rfl
   obtain ⟨hZ,b,f,a⟩:=hZ.frzK hTT b f a
   refine dh (kS g.1 g.2.2.1 g.2.2.2.2.1 g.2.2.2.2.2.2.1 g.2.2.2.2.2.2.2.2.1 g.2.2.2.2.2.2.2.2.2.2.1 T.1 g.2.2.2.2.2.2.2.2.2.2.2.1 g.2.2.2.2.2.2.2.2.2.2.2.2.2.1 g.2.2.2.2.2.2.2.2.2.2.2.2.2.2.2.1 ba (hZ.okT hTT a) (b.j f 3 Z) (b.k f 4 Z) (b.j f 5 Z) (b.k f 6 Z) (b.j f 7 Z) (b.k f 8 Z) (b.j f 9 Z) (b.k f 10 Z) (b.j f 11 Z) (b.k f 12 Z) (b.k f 13 Z) (b.j f 20 Z) (b.k f 21 Z) (b.j f 14 Z) (b.k f 15 Z) (b.j f 16 Z) (b.k f 17 Z) (b.j f 18 Z) (b.k f 19 Z)) ?_
   rintro _ w ⟨s,j,t,l,u,m,rfl,G,a4⟩
   obtain ⟨bs,bj,hZ,b,f,a⟩:=hZ.m b f a G a4 rfl
   exact ⟨_,_,⟨s,t,u,j,l,m,Z,Z,Z⟩,SfT.mk' hZ (Y (b.b 22 Z) (Y (b.b 23 Z) (Y (b.b 24 Z) (Y (b.b 25 Z) (Y (b.b 26 Z) (Y (b.b 27 Z) Q.nil)))))) (W (f.b 22 Z) (W (f.b 23 Z) (W (f.b 24 Z) (W (f.b 25 Z) (W (f.b 26 Z) (W (f.b 27 Z) K.nil)))))) a⟩
  rintro v_q x_q y_q ⟨s,t,u,j,l,m,rfl,rfl,rfl⟩
  refine dC (fun h v x y=>∃d:Value,∃e:Value,v=.agg #[d,e,I c.2.2]∧x=[M U d c.1,M U e c.2.1]∧y=[]) [] [] [red U j n.2.1,X s [I n.1,j],red U l n.2.2.2.1,X t [I n.2.2.1,l],red U m n.2.2.2.2.2,X u [I n.2.2.2.2.1,m]] _ Z Z (fun h v x y=>Z) Z Z Z Z ⟨_,_,_,undef,undef,Z,Z,Z⟩ (by kernel_rfl) Z (fun w Sl Tl hZ hTT b f a=>?_) Z ?_
  ·refine dh (iA g.1 g.2.2.1 g.2.2.2.2.1 g.2.2.2.2.2.2.1 g.2.2.2.2.2.2.2.2.1 g.2.2.2.2.2.2.2.2.2.2.1 n.1 n.2.2.1 n.2.2.2.2.1 bb ((b.rp 3 Z).d a.fr).rp ((b.rb 4 Z).d a.fr) ((b.rp 5 Z).d a.fr).rp ((b.rb 6 Z).d a.fr) ((b.rp 7 Z).d a.fr).rp ((b.rb 8 Z).d a.fr) ((b.rp 9 Z).d a.fr).rp ((b.rb 10 Z).d a.fr) ((b.rp 11 Z).d a.fr).rp ((b.rb 12 Z).d a.fr) ((b.rb 13 Z).d a.fr) ((b.rp 25 Z).d a.fr).rp ((b.rb 24 Z).d a.fr) ((b.rp 23 Z).d a.fr).rp ((b.rb 22 Z).d a.fr) ((b.rp 21 Z).d a.fr).rp ((b.rb 20 Z).d a.fr)) ?_
   rintro _ w ⟨d,e,rfl,G⟩
   have a:=a.f G
   exact ⟨_,_,⟨d,e,Z,Z,Z⟩,SfT.mk' hZ Q.nil K.nil a⟩
  rintro v_q x_q y_q ⟨d,e,rfl,rfl,rfl⟩
  refine n6 (fun h v x y=>∃d:Value,∃e:Value,h=[(.agg #[d,e,I c.2.2],[M U d c.1,M U e c.2.1],[])]∧v=undef∧x=[M U d c.1,M U e c.2.1,X aG [d,e,I c.2.2]]∧y=[]) [(.agg #[d,e,I c.2.2],[M U d c.1,M U e c.2.1],[])] [M U d c.1,M U e c.2.1,X aG [.slice none 0 0,.slice none 0 0,I false]] [] _ Z Z (fun h v x y=>Z) Z Z Z Z ⟨_,_,_,d,e,Z,Z,Z,Z⟩ (fun w Sl Tl hZ hTT b f a=>?_) ?_
  ·refine mI (bl (i:=2) (us:=[d,e,I c.2.2]) Z ce Z Z Z ⟨(a.ro 0 Z).one,(a.ro 1 Z).one,Z,V⟩ Z a) ?_
   intro w a
   exact ⟨_,_,⟨d,e,Z,Z,Z,Z⟩,SfT.mk' hZ Q.nil K.nil a⟩
  rintro v_q x_q y_q ⟨v_39',v_41',hh,rfl,rfl,rfl⟩
  replace hh:([(.agg #[d,e,I c.2.2],[M U d c.1,M U e c.2.1],[])]:List Th)=[(.agg #[v_39',v_41',I c.2.2],[M U v_39' c.1,M U v_41' c.2.1],[])]:=hh
  cases hh
  refine bu Z Z (fun w Sb wb hZ b f hF=>aB Z) Z (ib fun w hQ=>?_)
  obtain ⟨bt,bm,hZ,b,f,a⟩:=hQ
  refine O (aw ?_)
  cases h
  replace a:=hZ.st a
  exact dR Z ⟨_,Z,bJ (us:=[d,e,I c.2.2]) u33 Z ce (a.q 2 Z Z)⟩ Z ⟨d,e,Z,a.e [0,1] Z Z⟩
end Go.Proofs
