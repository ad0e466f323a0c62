import Derived.Test.YtkickcbphbgldaaGreatDoorTW0
import Derived.Test.YtkickcbphbgldaaGreatDoorGkFman
import Derived.Test.YtkickcbphbgldaaGreatDoorTWbignumc
import Derived.Test.YtkickcbphbgldaaGreatDoorTWcurvec
import Derived.Test.YtkickcbphbgldaaGreatDoorTWnatb
set_option linter.unusedVariables false
set_option linter.unusedSimpArgs false
set_option linter.unusedSectionVars false
set_option maxRecDepth 4000
namespace Go.Proofs
open Go Go.RowKit Go.Gk
open Go.Gk renaming Off → K, Rds → Q, aa → P, ae → O, af → H, ah → J, ai → I, e32 → U, own → N, pB → M
open Nat renaming le_of_ble_eq_true → R
open Go.Gk.OE renaming bx → W
open Go.Gk.Off renaming cons → X
open Go.Gk.Rds renaming cons → Y
theorem kP {f:World} {g:List UInt32} {a1:List UInt8} {c d:Value} {j:Nat} {S:List Nat} (b:Bool) {r:List UInt8}
  (h:F.CE b g a1=some r) (a:St S f f [N e8 d a1]) (l:RP S f U c g) (hBa0:RB S f j [vB b,c]):Calls Tryz.prog 94 #[M j 0,d] f (Ret fun v w=>∃u0:Value,v=u0∧St S f w [N e8 u0 r]):=by
 refine aH 19 Tryz.func94 Z Z Z ?_
 refine au [(0,M j 0),(1,d)] ⟨Z,Z,V⟩ ?_
 unfold F.CE at h
 refine J (H (P 1 Z ?_))
 refine I (O (J (H (P 1 Z ?_))))
 obtain ⟨q,m,h⟩:=aj h
 refine ao Z (gX b m (l.d a.fr).rp (hBa0.d a.fr)) Z ?_
 rintro s w p
 have a:=a.f p
 refine P 1 Z ?_
 refine I (O (J (H (P 1 Z ?_))))
 refine AF (yD (e:=e8) 0 u24 ti5 Z Z Z Z a (i:=1) Z) ?_
 rintro _ w ⟨_,a⟩
 obtain ⟨t,n,h⟩:=aO h
 rw [n]at a
 refine I (O (J (H (P 2 Z ?_))))
 refine am (aN u24 Z (a.ro 1 Z)) Z (P 1 Z ?_)
 refine am (aN u24 Z (a.ro 0 Z)) Z (P 1 Z ?_)
 obtain ⟨u,k,h⟩:=aj h
 refine am (ug u24 ti5 Z Z (a.ro 1 Z) k) Z (P 1 Z ?_)
 refine aV (rU (e:=e8) u24 ti5 Z Z Z a (i:=1) Z (a.ro 0 Z) (fX k).1.2 (Nat.le_refl _)) Z ?_
 rintro v_q w ⟨hv_q,a⟩
 subst v_q
 obtain ⟨x,o,h⟩:=aO h
 rw [o]at a
 refine I (O (J (H (P 2 Z ?_))))
 refine I (O (ax ?_))
 cases h
 exact aG Z Z ⟨d,Z,a.e [1] Z Z⟩
theorem oy {w0:World} {aB aD:List UInt32} {m n:Value} (a0:Int) (ab:Bool) {r:List UInt8×List UInt8×Int}
  (h:F.E4 a0 aB aD ab=some r) (aX:RP [] w0 U m aB) (aY:RP [] w0 U n aD):Calls Tryz.prog 49 #[vI a0,.agg #[m,n,vB ab]] w0 (Ret fun v w=>∃u0 u1:Value,v=.tuple #[u0,u1,vI r.2.2]∧St [] w0 w [N e8 u0 r.1,N e8 u1 r.2.1]):=by
 refine aH 41 Tryz.func49 Z Z Z ?_
 have d:=St.l w0
 have hZ:=Fz.l (S:=[]) (w0:=w0)
 have hTT:TOk [] [] w0:=TOk.nil
 have a:Q [] w0 [red U n aD,red U m aB]:=Y (RP.i (R Z) aY) (Y (RP.i (R Z) aX) (Q.nil))
 have b:K [] [red U n aD,red U m aB]:=K.emp
 refine au [(0,vI a0),(1,.agg #[m,n,vB ab])] ⟨Z,Z,V⟩ ?_
 unfold F.E4 at h
 refine J (H (aV (dv (cs:=[m,n,vB ab]) Z Z d) Z ?_))
 rintro _ w ⟨a7,rfl,d⟩
 refine P 3 Z ?_
 refine I (O (J (H (P 1 Z ?_))))
 refine am (bY (us:=[m,n,vB ab]) u33 Z cI Z (d.q 0 Z Z)) Z ?_
 replace d:=d.pick (os':=[]++[W a7 [m,n,vB ab]]) [0] (by decide) rfl
 obtain ⟨hZ,a,b,d⟩:=hZ.frzK hTT a b d
 obtain ⟨aR,a5,h⟩:=aj h
 refine ao Z (jf a0 ab a5 (hZ.okT hTT d) (a.j b 0 Z) (a.j b 1 Z)) Z ?_
 rintro v_q w hQ
 cases aF:aR.1 with
 | none=>
  have h:=fD h aF
  rw [aF]at hQ
  obtain ⟨rfl,T⟩:=eL hQ
  obtain ⟨bl,bg,hZ,a,b,d⟩:=hZ.m a b d T Q.nil rfl
  refine P 4 Z ?_
  refine aV (ba (cs:=[.pointer none,.pointer none,.pointer none]) fp Z d) Z ?_
  rintro _ w ⟨bh,rfl,d⟩
  refine P 1 Z ?_
  refine bn (br (i:=0) (us:=[.pointer none,.pointer none,.pointer none]) Z bR Z Z Z ⟨Z,Z,Z,V⟩ Z d) ?_
  intro w d
  refine P 1 Z ?_
  refine I (O (J (J (H (P 3 Z ?_)))))
  cases an:(!aR.2)
  case true=>
   have h:=aJ h an
   try simp only [an]
   refine P 5 Z ?_
   refine I (O (dM Z ?_))
   refine J (H (P 3 Z ?_))
   refine I (O (ax (aE ?_)))
   cases h
   replace d:=hZ.st d
   exact dS Z Z Z Z ⟨.slice none 0 0,.slice none 0 0,Z,((d.nil e8).nil e8).e [1,0] Z Z⟩
  case false=>
   have h:=aI h an
   try simp only [an]
   refine bo (t:=19) Z Z (av (k:=2) u91 Z Z cx Z) Z (bo (t:=19) Z Z (aC u73 Z Z (d.r 0 Z 2)) Z ?_)
   cases h
 | some c=>
  have h:=fw h aF
  rw [aF]at hQ
  obtain ⟨aO,ac,q,ad,s,ag,u,ak,z,al,A,f,B,j,C,l,D,rfl,T,a8⟩:=eM hQ
  obtain ⟨bm,bb,hZ,a,b,d⟩:=hZ.m a b d T a8 rfl
  refine P 4 Z ?_
  refine aV (ba (cs:=[.pointer none,.pointer none,.pointer none]) fp Z d) Z ?_
  rintro _ w ⟨aq,rfl,d⟩
  refine P 1 Z ?_
  refine bn (br (i:=0) (us:=[M f 0,M j 0,M l 0]) Z bR Z Z Z ⟨Z,Z,Z,V⟩ Z d) ?_
  intro w d
  refine P 1 Z ?_
  refine I (O (J ?_))
  refine a9 (r:=r) (fun (g:Bool) L w=>L=[(7,M aO 0),(8,M aq 0),(24,vB g)]∧SfT [] [] w0 w [W l [vB c.2.2.2.2.2.2.2.2.2.2.2.2.2.2.2.1,D],red U D c.2.2.2.2.2.2.2.2.2.2.2.2.2.2.2.2,W j [vB c.2.2.2.2.2.2.2.2.2.2.2.2.2.1,C],red U C c.2.2.2.2.2.2.2.2.2.2.2.2.2.2.1,W f [vB c.2.2.2.2.2.2.2.2.2.2.2.1,B],red U B c.2.2.2.2.2.2.2.2.2.2.2.2.1,W aO [M ac 0,M ad 0,M ag 0,M ak 0,M al 0,vI c.2.2.2.2.2.2.2.2.2.2.1,.func (.func 168) #[] #[]],W al [vB c.2.2.2.2.2.2.2.2.1,A],red U A c.2.2.2.2.2.2.2.2.2.1,W ak [vB c.2.2.2.2.2.2.1,z],red U z c.2.2.2.2.2.2.2.1,W ag [vB c.2.2.2.2.1,u],red U u c.2.2.2.2.2.1,W ad [vB c.2.2.1,s],red U s c.2.2.2.1,W ac [vB c.1,q],red U q c.2.1] [W aq [M f 0,M j 0,M l 0]]) (F.CJ c) ?_ ?_
  rotate_left
  ·intro aP
   refine H (P 3 Z ?_)
   cases ap:(!aR.2)
   case true=>
    have h:=aJ h ap
    try simp only [ap]
    refine P 5 Z ?_
    refine I (O ?_)
    exact au _ (by exact ⟨Z,Z,Z,V⟩) (aP true _ _ ⟨Z,(SfT.mk' hZ (Y (a.b 18 Z) (Y (a.b 17 Z) (Y (a.b 16 Z) (Y (a.b 15 Z) (Y (a.b 14 Z) (Y (a.b 13 Z) (Y (a.b 12 Z) (Y (a.b 11 Z) (Y (a.b 10 Z) (Y (a.b 9 Z) (Y (a.b 8 Z) (Y (a.b 7 Z) (Y (a.b 6 Z) (Y (a.b 5 Z) (Y (a.b 4 Z) (Y (a.b 3 Z) (Y (a.b 2 Z) Q.nil))))))))))))))))) (X (b.b 18 Z) (X (b.b 17 Z) (X (b.b 16 Z) (X (b.b 15 Z) (X (b.b 14 Z) (X (b.b 13 Z) (X (b.b 12 Z) (X (b.b 11 Z) (X (b.b 10 Z) (X (b.b 9 Z) (X (b.b 8 Z) (X (b.b 7 Z) (X (b.b 6 Z) (X (b.b 5 Z) (X (b.b 4 Z) (X (b.b 3 Z) (X (b.b 2 Z) K.nil))))))))))))))))) (d.e [0] Z Z))⟩ h)
   case false=>
    have h:=aI h ap
    try simp only [ap]
    refine bo (t:=19) Z Z (av (k:=2) u91 Z Z cx Z) Z (bo (t:=19) Z Z (aC u73 Z Z (d.r 0 Z 2)) Z ?_)
    obtain ⟨a6,aZ,h⟩:=aj h
    refine cr (t:=19) Z Z (by kernel_rfl) Z (cz c.2.2.2.2.2.2.2.2.2.2.2.2.2.2.2.1 aZ ((a.rp 17 Z).d d.fr).rp ((a.rb 18 Z).d d.fr)) Z ?_
    rintro _ w ⟨rfl,T⟩
    have d:=d.f T
    refine P 2 Z ?_
    refine I (O ?_)
    exact au _ (by exact ⟨Z,Z,Z,V⟩) (aP (a6 == 0) _ _ ⟨Z,(SfT.mk' hZ (Y (a.b 18 Z) (Y (a.b 17 Z) (Y (a.b 16 Z) (Y (a.b 15 Z) (Y (a.b 14 Z) (Y (a.b 13 Z) (Y (a.b 12 Z) (Y (a.b 11 Z) (Y (a.b 10 Z) (Y (a.b 9 Z) (Y (a.b 8 Z) (Y (a.b 7 Z) (Y (a.b 6 Z) (Y (a.b 5 Z) (Y (a.b 4 Z) (Y (a.b 3 Z) (Y (a.b 2 Z) Q.nil))))))))))))))))) (X (b.b 18 Z) (X (b.b 17 Z) (X (b.b 16 Z) (X (b.b 15 Z) (X (b.b 14 Z) (X (b.b 13 Z) (X (b.b 12 Z) (X (b.b 11 Z) (X (b.b 10 Z) (X (b.b 9 Z) (X (b.b 8 Z) (X (b.b 7 Z) (X (b.b 6 Z) (X (b.b 5 Z) (X (b.b 4 Z) (X (b.b 3 Z) (X (b.b 2 Z) K.nil))))))))))))))))) (d.e [0] Z Z))⟩ h)
  rintro bi L w hJ h
  try dsimp only at hJ
  obtain ⟨rfl,⟨bj,bc,hZ,a,b,d⟩⟩:=hJ
  unfold F.CJ at h
  refine aw Z (fun aG=>?_) (fun aG=>?_)
  ·have h:=aJ h aG
   refine J (H (P 3 Z ?_))
   refine I (O (ax (aE ?_)))
   cases h
   replace d:=hZ.st d
   exact dS Z Z Z Z ⟨.slice none 0 0,.slice none 0 0,Z,((d.nil e8).nil e8).e [1,0] Z Z⟩
  have h:=aI h aG
  refine az (O (J ?_))
  obtain ⟨aK,a1,h⟩:=aj h
  obtain ⟨aS,a2,h⟩:=aj h
  obtain ⟨aM,a3,h⟩:=aj h
  obtain ⟨aT,a4,h⟩:=aj h
  refine gR (es:=[W l [vB c.2.2.2.2.2.2.2.2.2.2.2.2.2.2.2.1,D],red U D c.2.2.2.2.2.2.2.2.2.2.2.2.2.2.2.2,W j [vB c.2.2.2.2.2.2.2.2.2.2.2.2.2.1,C],red U C c.2.2.2.2.2.2.2.2.2.2.2.2.2.2.1,W f [vB c.2.2.2.2.2.2.2.2.2.2.2.1,B],red U B c.2.2.2.2.2.2.2.2.2.2.2.2.1,W aO [M ac 0,M ad 0,M ag 0,M ak 0,M al 0,vI c.2.2.2.2.2.2.2.2.2.2.1,.func (.func 168) #[] #[]],W al [vB c.2.2.2.2.2.2.2.2.1,A],red U A c.2.2.2.2.2.2.2.2.2.1,W ak [vB c.2.2.2.2.2.2.1,z],red U z c.2.2.2.2.2.2.2.1,W ag [vB c.2.2.2.2.1,u],red U u c.2.2.2.2.2.1,W ad [vB c.2.2.1,s],red U s c.2.2.2.1,W ac [vB c.1,q],red U q c.2.1]) (os:=[W aq [M f 0,M j 0,M l 0]]) (fun i=>[6,7,14,15].contains i) (fun i=>if i=6 then some 7 else if i=14 then some 15 else none) (fun i=>[]) (fun i=>[]) (fun i=>[]) (fun i=>[]) (fun i=>if i=6 then (fun h v x y=>∃o:Value,v=o∧x=[N e8 o aK]∧y=[]) else if i=7 then (fun h v x y=>∃E:Value,v=E∧x=[N e8 E aS]∧y=[]) else if i=14 then (fun h v x y=>∃p:Value,v=p∧x=[N e8 p aM]∧y=[]) else (fun h v x y=>∃G:Value,v=G∧x=[N e8 G aT]∧y=[])) (SfT.mk' hZ a b d) (fun k hk=>rfl) hTT rfl (fun i=>(eY (by rintro h v x y ⟨_,rfl,rfl,rfl⟩; exact dE rfl) (eY (by rintro h v x y ⟨_,rfl,rfl,rfl⟩; exact dE rfl) (eY (by rintro h v x y ⟨_,rfl,rfl,rfl⟩; exact dE rfl) (by rintro h v x y ⟨_,rfl,rfl,rfl⟩; exact dE rfl))))) bQ (by kernel_rfl) (by kernel_rfl) ?_
  show fI _ _ _ _ _ _ _ _ _ _ _ _ _ _ _ _ [0,1,2,3,4,5,6,7,8,9,10,11,12,13,14,15,16,17,18] _ _
  refine bS Z Z (fun w Sb wb hZ a b hF=>av (k:=0) u91 Z Z cx Z) Z (bS Z Z (fun w Sb wb hZ a b hF=>aC u73 Z Z (hF.r 0 Z 0)) Z (bS Z Z (fun w Sb wb hZ a b hF=>ar Z) Z (bS Z Z (fun w Sb wb hZ a b hF=>aL Z) Z (bS Z Z (fun w Sb wb hZ a b hF=>av (k:=5) u76 Z Z nz3 Z) Z (bS Z Z (fun w Sb wb hZ a b hF=>aC Tryz.underlying3 Z Z ((a.rb 10 Z).cell hF.fr 5 Z)) Z ?_)))))
  refine iZ (fun h v x y=>∃o:Value,v=o∧x=[N e8 o aK]∧y=[]) [] [] [] _ Z Z (fun h v x y=>Z) Z Z Z Z ⟨_,_,_,undef,Z,Z,Z⟩ (fun w Sl Tl hZ hTT a b d=>?_) Z ?_
  ·refine l8 (c8 (e:=e8) u24 ti5 Z Z Z d a1) ?_
   rintro o w d
   exact ⟨_,_,⟨o,Z,Z,Z⟩,SfT.mk' hZ Q.nil K.nil d⟩
  rintro o x_q y_q ⟨_,rfl,rfl,rfl⟩
  refine eN (fun h v x y=>∃E:Value,v=E∧x=[N e8 E aS]∧y=[]) [] [N e8 o aK] [] _ Z Z (fun h v x y=>Z) Z Z Z Z ⟨_,_,_,undef,Z,Z,Z⟩ (by kernel_rfl) Z (fun w Sl Tl hZ hTT a b d=>?_) Z ?_
  ·have hG:=d.pick (os':=[N e8 o aK]++[W aq [M f 0,M j 0,M l 0]]) [0,1] (by decide) Z
   refine em (kP c.2.2.2.2.2.2.2.2.2.2.2.1 a2 hG.g ((a.rp 11 Z).g (R Z) hG) ((a.rb 12 Z).g hG)) ?_
   rintro E w ⟨bd,aU,T⟩
   rw [←aU]at T
   have d:=hG.h T
   exact ⟨_,_,⟨E,Z,Z,Z⟩,SfT.mk' hZ Q.nil K.nil d⟩
  rintro E x_q y_q ⟨_,rfl,rfl,rfl⟩
  refine bS Z Z (fun w Sb wb hZ a b hF=>av (k:=1) u91 Z Z cx Z) Z (bS Z Z (fun w Sb wb hZ a b hF=>aC u73 Z Z (hF.r 0 Z 1)) Z (bS Z Z (fun w Sb wb hZ a b hF=>ar Z) Z (bS Z Z (fun w Sb wb hZ a b hF=>aL Z) Z (bS Z Z (fun w Sb wb hZ a b hF=>av (k:=5) u76 Z Z nz3 Z) Z (bS Z Z (fun w Sb wb hZ a b hF=>aC Tryz.underlying3 Z Z ((a.rb 10 Z).cell hF.fr 5 Z)) Z ?_)))))
  refine iZ (fun h v x y=>∃p:Value,v=p∧x=[N e8 p aM]∧y=[]) [] [] [] _ Z Z (fun h v x y=>Z) Z Z Z Z ⟨_,_,_,undef,Z,Z,Z⟩ (fun w Sl Tl hZ hTT a b d=>?_) Z ?_
  ·refine l8 (c8 (e:=e8) u24 ti5 Z Z Z d a3) ?_
   rintro p w d
   exact ⟨_,_,⟨p,Z,Z,Z⟩,SfT.mk' hZ Q.nil K.nil d⟩
  rintro p x_q y_q ⟨_,rfl,rfl,rfl⟩
  refine eN (fun h v x y=>∃G:Value,v=G∧x=[N e8 G aT]∧y=[]) [] [N e8 p aM] [] _ Z Z (fun h v x y=>Z) Z Z Z Z ⟨_,_,_,undef,Z,Z,Z⟩ (by kernel_rfl) Z (fun w Sl Tl hZ hTT a b d=>?_) Z ?_
  ·have hG:=d.pick (os':=[N e8 p aM]++[W aq [M f 0,M j 0,M l 0]]) [0,1] (by decide) Z
   refine em (kP c.2.2.2.2.2.2.2.2.2.2.2.2.2.1 a4 hG.g ((a.rp 13 Z).g (R Z) hG) ((a.rb 14 Z).g hG)) ?_
   rintro G w ⟨be,aW,T⟩
   rw [←aW]at T
   have d:=hG.h T
   exact ⟨_,_,⟨G,Z,Z,Z⟩,SfT.mk' hZ Q.nil K.nil d⟩
  rintro G x_q y_q ⟨_,rfl,rfl,rfl⟩
  refine bS Z Z (fun w Sb wb hZ a b hF=>aA Z) Z (bS Z Z (fun w Sb wb hZ a b hF=>aA Z) Z (bS Z Z (fun w Sb wb hZ a b hF=>aA Z) Z (kk fun w hQ=>?_)))
  obtain ⟨bk,bf,hZ,a,b,d⟩:=hQ
  refine O (ax ?_)
  cases h
  replace d:=hZ.st d
  exact dS Z Z Z Z ⟨E,G,Z,d.e [0,1] Z Z⟩
theorem oq {q:World} {a1 a2:List UInt8} {n o:Value} (a0:Int) {r:List UInt32×List UInt32×Bool×Int}
  (h:F.Fc a0 a1 a2=some r) (aG:RP [] q e8 n a1) (aK:RP [] q e8 o a2):Calls Tryz.prog 34 #[vI a0,n,o] q (Ret fun v w=>∃D E:Value,v=.tuple #[.agg #[D,E,vB r.2.2.1],vI r.2.2.2]∧St [] q w [N U D r.1,N U E r.2.1]):=by
 refine aH 48 Tryz.func34 Z Z Z ?_
 have a:=St.l q
 have hZ:=Fz.l (S:=[]) (w0:=q)
 have hTT:TOk [] [] q:=TOk.nil
 have b:Q [] q [red e8 o a2,red e8 n a1]:=Y (RP.i (R Z) aK) (Y (RP.i (R Z) aG) (Q.nil))
 have d:K [] [red e8 o a2,red e8 n a1]:=K.emp
 refine au [(0,vI a0),(1,n),(2,o)] ⟨Z,Z,Z,V⟩ ?_
 unfold F.Fc at h
 refine J (H (aV (ba (cs:=[.slice none 0 0,.slice none 0 0,vB false]) lj Z a) Z ?_))
 rintro _ w ⟨s,rfl,a⟩
 refine P 1 Z ?_
 refine I (O (J (H (P 1 Z ?_))))
 replace a:=a.pick (os':=[]++[W s [.slice none 0 0,.slice none 0 0,vB false]]) [0] (by decide) rfl
 obtain ⟨hZ,b,d,a⟩:=hZ.frzK hTT b d a
 obtain ⟨aM,an,h⟩:=aj h
 refine ao Z (gr a0 an (hZ.okT hTT a)) Z ?_
 rintro v_q w hQ
 cases u:aM with
 | none=>
  have h:=fD h u
  rw [u]at hQ
  obtain ⟨rfl,c⟩:=eL hQ
  obtain ⟨a7,aY,hZ,b,d,a⟩:=hZ.m b d a c Q.nil rfl
  refine P 1 Z ?_
  refine I (O (J (J (H (P 1 Z ?_)))))
  refine am (aq Z Z (rX u71)) Z (P 29 Z ?_)
  refine I (O (dM Z ?_))
  refine J (H (am (ci (vs:=[]) (cells:=[.slice none 0 0,.slice none 0 0,vB false]) Z gm V Z) Z (bn (br (i:=0) (us:=[.slice none 0 0,.slice none 0 0,vB false]) Z cI Z Z Z ⟨Z,Z,Z,V⟩ Z a) ?_)))
  intro w a
  refine P 1 Z ?_
  refine I (O (ax (aE ?_)))
  cases h
  replace a:=hZ.st a
  exact fj Z ⟨_,Z,bW (us:=[.slice none 0 0,.slice none 0 0,vB false]) u33 Z cI (a.q 0 Z Z)⟩ Z ⟨.slice none 0 0,.slice none 0 0,Z,((a.nil U).nil U).e [1,0] Z Z⟩
 | some j=>
  have h:=fw h u
  rw [u]at hQ
  obtain ⟨ap,aO,ar,aP,ay,aQ,aA,aR,aB,aS,aD,rfl,c,aT⟩:=eM hQ
  obtain ⟨a8,aU,hZ,b,d,a⟩:=hZ.m b d a c aT rfl
  refine P 1 Z ?_
  refine I (O (J ?_))
  refine a9 (r:=r) (fun (g:Bool) L w=>L=[(1,n),(2,o),(6,M s 0),(41,vB g)]∧SfT [] [] q w [red e8 o a2,red e8 n a1] [W s [.slice none 0 0,.slice none 0 0,vB false]]) (F.Dp a1 a2) ?_ ?_
  rotate_left
  ·intro x
   refine H (P 1 Z ?_)
   refine am (aq Z Z (ru u71 ap 0)) Z (P 2 Z ?_)
   refine bo (t:=13) Z Z (aN u24 Z ((b.rp 0 Z).d a.fr)) Z (P 1 Z ?_)
   refine bo (t:=13) Z Z (aL Z) Z (bo (t:=13) Z Z (av (k:=5) u76 Z Z nz3 Z) Z (bo (t:=13) Z Z (aC Tryz.underlying3 Z Z ((b.rb 12 Z).cell a.fr 5 Z)) Z (P 3 Z ?_)))
   cases l:((a1.length:Int) != j.2.2.2.2.2.2.2.2.2.2)
   case true=>
    have h:=aJ h l
    try simp only [l]
    refine P 19 Z ?_
    refine I (O ?_)
    exact au _ (by exact ⟨Z,Z,Z,Z,V⟩) (x true _ _ ⟨Z,(SfT.mk' hZ (Y (b.b 1 Z) (Y (b.b 0 Z) Q.nil)) (X (d.b 1 Z) (X (d.b 0 Z) K.nil)) a)⟩ h)
   case false=>
    have h:=aI h l
    try simp only [l]
    refine P 1 Z ?_
    refine bo (t:=22) Z Z (aN u24 Z ((b.rp 1 Z).d a.fr)) Z (P 1 Z ?_)
    refine bo (t:=22) Z Z (aL Z) Z (bo (t:=22) Z Z (av (k:=5) u76 Z Z nz3 Z) Z (bo (t:=22) Z Z (aC Tryz.underlying3 Z Z ((b.rb 12 Z).cell a.fr 5 Z)) Z (P 3 Z ?_)))
    cases m:((a2.length:Int) != j.2.2.2.2.2.2.2.2.2.2)
    case true=>
     have h:=aJ h m
     try simp only [m]
     refine P 10 Z ?_
     refine I (O ?_)
     exact au _ (by exact ⟨Z,Z,Z,Z,V⟩) (x true _ _ ⟨Z,(SfT.mk' hZ (Y (b.b 1 Z) (Y (b.b 0 Z) Q.nil)) (X (d.b 1 Z) (X (d.b 0 Z) K.nil)) a)⟩ h)
    case false=>
     have h:=aI h m
     try simp only [m]
     refine P 1 Z ?_
     refine nm (t:=31) Z Z (ba (cs:=[vB false,.slice none 0 0]) cT Z a) Z ?_
     rintro _ w ⟨A,rfl,a⟩
     refine P 1 Z ?_
     replace a:=a.nil U
     have B:=a.pick (os':=[W A [vB false,.slice none 0 0],N U (.slice none 0 0) []]++[W s [.slice none 0 0,.slice none 0 0,vB false]]) [1,0,2] (by decide) Z
     obtain ⟨p,ac,h⟩:=aj h
     refine cr (t:=31) Z Z (by kernel_rfl) Z (eF false ac B.g ((b.rp 0 Z).g (R Z) B)) Z ?_
     rintro _ w ⟨y,rfl,c⟩
     have a:=B.h c
     refine nm (t:=31) Z Z (ba (cs:=[vB false,.slice none 0 0]) cT Z a) Z ?_
     rintro _ w ⟨G,rfl,a⟩
     refine P 1 Z ?_
     replace a:=a.nil U
     have B:=a.pick (os':=[W G [vB false,.slice none 0 0],N U (.slice none 0 0) []]++[W A [vB p.1,y],N U y p.2,W s [.slice none 0 0,.slice none 0 0,vB false]]) [1,0,2,3,4] (by decide) Z
     obtain ⟨C,ad,h⟩:=aj h
     refine cr (t:=31) Z Z (by kernel_rfl) Z (eF false ad B.g ((b.rp 1 Z).g (R Z) B)) Z ?_
     rintro _ w ⟨T,rfl,c⟩
     have a:=B.h c
     obtain ⟨aF,ag,h⟩:=aj h
     refine cr (t:=31) Z Z (by kernel_rfl) Z (iV j.1 j.2.2.1 j.2.2.2.2.1 j.2.2.2.2.2.2.1 j.2.2.2.2.2.2.2.2.1 j.2.2.2.2.2.2.2.2.2.2 p.1 C.1 ag ((b.rp 2 Z).d a.fr).rp ((b.rb 3 Z).d a.fr) ((b.rp 4 Z).d a.fr).rp ((b.rb 5 Z).d a.fr) ((b.rp 6 Z).d a.fr).rp ((b.rb 7 Z).d a.fr) ((b.rp 8 Z).d a.fr).rp ((b.rb 9 Z).d a.fr) ((b.rp 10 Z).d a.fr).rp ((b.rb 11 Z).d a.fr) ((b.rb 12 Z).d a.fr) (a.ro 3 Z).rp (a.rb 2 Z) (a.ro 1 Z).rp (a.rb 0 Z)) Z ?_
     rintro _ w ⟨rfl,c⟩
     have a:=a.f c
     refine P 2 Z ?_
     refine I (O ?_)
     replace a:=a.pick (os':=[W G [vB C.1,T],N U T C.2,W A [vB p.1,y],N U y p.2]++[W s [.slice none 0 0,.slice none 0 0,vB false]]) [0,1,2,3,4] (by decide) rfl
     obtain ⟨aZ,aW,hZ,b,d,a⟩:=hZ.frzT hTT b d a
     exact au _ (by exact ⟨Z,Z,Z,Z,V⟩) (x (!aF) _ _ ⟨Z,(SfT.mk' hZ (Y (b.b 1 Z) (Y (b.b 0 Z) Q.nil)) (X (d.b 1 Z) (X (d.b 0 Z) K.nil)) a)⟩ h)
  rintro a3 L w hJ h
  try dsimp only at hJ
  obtain ⟨rfl,⟨a4,aX,hZ,b,d,a⟩⟩:=hJ
  unfold F.Dp at h
  refine aw Z (fun z=>?_) (fun z=>?_)
  ·have h:=aJ h z
   refine J (H (am (ci (vs:=[]) (cells:=[.slice none 0 0,.slice none 0 0,vB false]) Z gm V Z) Z (bn (br (i:=0) (us:=[.slice none 0 0,.slice none 0 0,vB false]) Z cI Z Z Z ⟨Z,Z,Z,V⟩ Z a) ?_)))
   intro w a
   refine P 1 Z ?_
   refine I (O (ax (aE ?_)))
   cases h
   replace a:=hZ.st a
   exact fj Z ⟨_,Z,bW (us:=[.slice none 0 0,.slice none 0 0,vB false]) u33 Z cI (a.q 0 Z Z)⟩ Z ⟨.slice none 0 0,.slice none 0 0,Z,((a.nil U).nil U).e [1,0] Z Z⟩
  have h:=aI h z
  refine az (O (J (H (P 1 Z ?_))))
  obtain ⟨a5,ak,h⟩:=aj h
  refine ao Z (dk  ak ((b.rp 0 Z).d a.fr).rp) Z ?_
  rintro e w c
  have a:=a.f c
  refine P 1 Z ?_
  obtain ⟨a6,al,h⟩:=aj h
  refine ao Z (dk  al ((b.rp 1 Z).d a.fr).rp) Z ?_
  rintro f w c
  have a:=a.f c
  refine am (ci (vs:=[(0,e,[e]),(1,f,[f])]) (cells:=[e,f,vB false]) Z gm ⟨(fo (a.ro 1 Z).one),(fo (a.ro 0 Z).one),V⟩ Z) Z ?_
  refine bn (br (i:=2) (us:=[e,f,vB false]) Z cI Z Z Z ⟨(a.ro 1 Z).one,(a.ro 0 Z).one,Z,V⟩ Z a) ?_
  intro w a
  refine P 1 Z ?_
  refine I (O (ax ?_))
  cases h
  replace a:=hZ.st a
  exact fj Z ⟨_,Z,bW (us:=[e,f,vB false]) u33 Z cI (a.q 2 Z Z)⟩ Z ⟨e,f,Z,a.e [1,0] Z Z⟩
end Go.Proofs
