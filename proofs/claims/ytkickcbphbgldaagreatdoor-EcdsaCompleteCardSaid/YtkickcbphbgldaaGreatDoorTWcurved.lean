import Derived.Test.YtkickcbphbgldaaGreatDoorTW0
import Derived.Test.YtkickcbphbgldaaGreatDoorGkFman
import Derived.Test.YtkickcbphbgldaaGreatDoorTWbignumc
import Derived.Test.YtkickcbphbgldaaGreatDoorTWcurvec
import Derived.Test.YtkickcbphbgldaaGreatDoorTWnatb
set_option linter.unusedVariables false
set_option linter.unusedSimpArgs false
set_option linter.unusedSectionVars false
set_option maxRecDepth 4000
namespace Go.Proofs
open Go Go.RowKit Go.Gk
open Go.Gk renaming Off → K, Rds → Q, aa → P, ae → O, ah → J, ai → H, e32 → U, own → M, pB → N, vB → I
open Nat renaming le_of_ble_eq_true → R
open Go.Gk.OE renaming bx → X
open Go.Gk.Off renaming cons → W
open Go.Gk.Rds renaming cons → Y
theorem lS {f:World} {g:List UInt32} {a1:List UInt8} {c d:Value} {j:Nat} {S:List Nat} (b:Bool) {r:List UInt8}
  (h:F.CE b g a1=some r) (a:St S f f [M e8 d a1]) (l:RP S f U c g) (hBa0:RB S f j [I b,c]):Calls Tryz.prog 94 #[N j 0,d] f (Ret fun v w=>∃u0:Value,v=u0∧St S f w [M e8 u0 r]):=by
 refine aJ 19 Tryz.func94 Z Z Z ?_
 refine au [(0,N j 0),(1,d)] ⟨Z,Z,V⟩ ?_
 unfold F.CE at h
 refine J (af (P 1 Z ?_))
 refine H (O (J (af (P 1 Z ?_))))
 obtain ⟨q,m,h⟩:=aj h
 refine ao Z (iB b m (l.d a.fr).rp (hBa0.d a.fr)) Z ?_
 rintro s w p
 have a:=a.f p
 refine P 1 Z ?_
 refine H (O (J (af (P 1 Z ?_))))
 refine Ae (zh (e:=e8) 0 u24 ti5 Z Z Z Z a (i:=1) Z) ?_
 rintro _ w ⟨_,a⟩
 obtain ⟨t,n,h⟩:=aO h
 rw [n]at a
 refine H (O (J (af (P 2 Z ?_))))
 refine am (aN u24 Z (a.ro 1 Z)) Z (P 1 Z ?_)
 refine am (aN u24 Z (a.ro 0 Z)) Z (P 1 Z ?_)
 obtain ⟨u,k,h⟩:=aj h
 refine am (u9 u24 ti5 Z Z (a.ro 1 Z) k) Z (P 1 Z ?_)
 refine aT (sG (e:=e8) u24 ti5 Z Z Z a (i:=1) Z (a.ro 0 Z) (ge k).1.2 (Nat.le_refl _)) Z ?_
 rintro v_q w ⟨hv_q,a⟩
 subst v_q
 obtain ⟨x,o,h⟩:=aO h
 rw [o]at a
 refine H (O (J (af (P 2 Z ?_))))
 refine H (O (aw ?_))
 cases h
 exact aF Z Z ⟨d,Z,a.e [1] Z Z⟩
theorem pc {w0:World} {aA aD:List UInt32} {m n:Value} (a0:Int) (ab:Bool) {r:List UInt8×List UInt8×Int}
  (h:F.Fy a0 aA aD ab=some r) (aX:RP [] w0 U m aA) (aZ:RP [] w0 U n aD):Calls Tryz.prog 49 #[vI a0,.agg #[m,n,I ab]] w0 (Ret fun v w=>∃u0 u1:Value,v=.tuple #[u0,u1,vI r.2.2]∧St [] w0 w [M e8 u0 r.1,M e8 u1 r.2.1]):=by
 refine aJ 41 Tryz.func49 Z Z Z ?_
 have d:=St.l w0
 have hZ:=Fz.l (S:=[]) (w0:=w0)
 have hTT:TOk [] [] w0:=TOk.nil
 have a:Q [] w0 [red U n aD,red U m aA]:=Y (RP.i (R Z) aZ) (Y (RP.i (R Z) aX) (Q.nil))
 have b:K [] [red U n aD,red U m aA]:=K.emp
 refine au [(0,vI a0),(1,.agg #[m,n,I ab])] ⟨Z,Z,V⟩ ?_
 unfold F.Fy at h
 refine J (af (aT (da (cs:=[m,n,I ab]) Z Z d) Z ?_))
 rintro _ w ⟨a8,rfl,d⟩
 refine P 3 Z ?_
 refine H (O (J (af (P 1 Z ?_))))
 refine am (bI (us:=[m,n,I ab]) u33 Z ce Z (d.q 0 Z Z)) Z ?_
 replace d:=d.pick (os':=[]++[X a8 [m,n,I ab]]) [0] (by decide) rfl
 obtain ⟨hZ,a,b,d⟩:=hZ.frzK hTT a b d
 obtain ⟨aR,a6,h⟩:=aj h
 refine ao Z (gz a0 ab a6 (hZ.okT hTT d) (a.j b 0 Z) (a.j b 1 Z)) Z ?_
 rintro v_q w hQ
 cases aF:aR.1 with
 | none=>
  have h:=fx h aF
  rw [aF]at hQ
  obtain ⟨rfl,T⟩:=eJ hQ
  obtain ⟨bo,bh,hZ,a,b,d⟩:=hZ.m a b d T Q.nil rfl
  refine P 4 Z ?_
  refine aT (aY (cs:=[.pointer none,.pointer none,.pointer none]) eQ Z d) Z ?_
  rintro _ w ⟨bi,rfl,d⟩
  refine P 1 Z ?_
  refine bk (bl (i:=0) (us:=[.pointer none,.pointer none,.pointer none]) Z bL Z Z Z ⟨Z,Z,Z,V⟩ Z d) ?_
  intro w d
  refine P 1 Z ?_
  refine H (O (J (J (af (P 3 Z ?_)))))
  cases an:(!aR.2)
  case true=>
   have h:=aI h an
   try simp only [an]
   refine P 5 Z ?_
   refine H (O (dZ Z ?_))
   refine J (af (P 3 Z ?_))
   refine H (O (aw (aE ?_)))
   cases h
   replace d:=hZ.st d
   exact d9 Z Z Z Z ⟨.slice none 0 0,.slice none 0 0,Z,((d.nil e8).nil e8).e [1,0] Z Z⟩
  case false=>
   have h:=aH h an
   try simp only [an]
   refine ba (t:=19) Z Z (av (k:=2) u91 Z Z cw Z) Z (ba (t:=19) Z Z (aC u73 Z Z (d.r 0 Z 2)) Z ?_)
   cases h
 | some c=>
  have h:=fv h aF
  rw [aF]at hQ
  obtain ⟨aO,ac,q,ad,s,ag,u,ak,z,al,A,f,B,j,C,l,D,rfl,T,bb⟩:=eM hQ
  obtain ⟨bp,bc,hZ,a,b,d⟩:=hZ.m a b d T bb rfl
  refine P 4 Z ?_
  refine aT (aY (cs:=[.pointer none,.pointer none,.pointer none]) eQ Z d) Z ?_
  rintro _ w ⟨aq,rfl,d⟩
  refine P 1 Z ?_
  refine bk (bl (i:=0) (us:=[N f 0,N j 0,N l 0]) Z bL Z Z Z ⟨Z,Z,Z,V⟩ Z d) ?_
  intro w d
  refine P 1 Z ?_
  refine H (O (J ?_))
  refine a9 (r:=r) (fun (g:Bool) L w=>L=[(7,N aO 0),(8,N aq 0),(24,I g)]∧SfT [] [] w0 w [X l [I c.2.2.2.2.2.2.2.2.2.2.2.2.2.2.2.1,D],red U D c.2.2.2.2.2.2.2.2.2.2.2.2.2.2.2.2,X j [I c.2.2.2.2.2.2.2.2.2.2.2.2.2.1,C],red U C c.2.2.2.2.2.2.2.2.2.2.2.2.2.2.1,X f [I c.2.2.2.2.2.2.2.2.2.2.2.1,B],red U B c.2.2.2.2.2.2.2.2.2.2.2.2.1,X aO [N ac 0,N ad 0,N ag 0,N ak 0,N al 0,vI c.2.2.2.2.2.2.2.2.2.2.1,.func (.func 168) #[] #[]],X al [I c.2.2.2.2.2.2.2.2.1,A],red U A c.2.2.2.2.2.2.2.2.2.1,X ak [I c.2.2.2.2.2.2.1,z],red U z c.2.2.2.2.2.2.2.1,X ag [I c.2.2.2.2.1,u],red U u c.2.2.2.2.2.1,X ad [I c.2.2.1,s],red U s c.2.2.2.1,X ac [I c.1,q],red U q c.2.1] [X aq [N f 0,N j 0,N l 0]]) (F.C5 c) ?_ ?_
  rotate_left
  ·intro aP
   refine af (P 3 Z ?_)
   cases ap:(!aR.2)
   case true=>
    have h:=aI h ap
    try simp only [ap]
    refine P 5 Z ?_
    refine H (O ?_)
    exact au _ (by exact ⟨Z,Z,Z,V⟩) (aP true _ _ ⟨Z,(SfT.mk' hZ (Y (a.b 18 Z) (Y (a.b 17 Z) (Y (a.b 16 Z) (Y (a.b 15 Z) (Y (a.b 14 Z) (Y (a.b 13 Z) (Y (a.b 12 Z) (Y (a.b 11 Z) (Y (a.b 10 Z) (Y (a.b 9 Z) (Y (a.b 8 Z) (Y (a.b 7 Z) (Y (a.b 6 Z) (Y (a.b 5 Z) (Y (a.b 4 Z) (Y (a.b 3 Z) (Y (a.b 2 Z) Q.nil))))))))))))))))) (W (b.b 18 Z) (W (b.b 17 Z) (W (b.b 16 Z) (W (b.b 15 Z) (W (b.b 14 Z) (W (b.b 13 Z) (W (b.b 12 Z) (W (b.b 11 Z) (W (b.b 10 Z) (W (b.b 9 Z) (W (b.b 8 Z) (W (b.b 7 Z) (W (b.b 6 Z) (W (b.b 5 Z) (W (b.b 4 Z) (W (b.b 3 Z) (W (b.b 2 Z) K.nil))))))))))))))))) (d.e [0] Z Z))⟩ h)
   case false=>
    have h:=aH h ap
    try simp only [ap]
    refine ba (t:=19) Z Z (av (k:=2) u91 Z Z cw Z) Z (ba (t:=19) Z Z (aC u73 Z Z (d.r 0 Z 2)) Z ?_)
    obtain ⟨a7,a1,h⟩:=aj h
    refine cc (t:=19) Z Z (by kernel_rfl) Z (cD c.2.2.2.2.2.2.2.2.2.2.2.2.2.2.2.1 a1 ((a.rp 17 Z).d d.fr).rp ((a.rb 18 Z).d d.fr)) Z ?_
    rintro _ w ⟨rfl,T⟩
    have d:=d.f T
    refine P 2 Z ?_
    refine H (O ?_)
    exact au _ (by exact ⟨Z,Z,Z,V⟩) (aP (a7 == 0) _ _ ⟨Z,(SfT.mk' hZ (Y (a.b 18 Z) (Y (a.b 17 Z) (Y (a.b 16 Z) (Y (a.b 15 Z) (Y (a.b 14 Z) (Y (a.b 13 Z) (Y (a.b 12 Z) (Y (a.b 11 Z) (Y (a.b 10 Z) (Y (a.b 9 Z) (Y (a.b 8 Z) (Y (a.b 7 Z) (Y (a.b 6 Z) (Y (a.b 5 Z) (Y (a.b 4 Z) (Y (a.b 3 Z) (Y (a.b 2 Z) Q.nil))))))))))))))))) (W (b.b 18 Z) (W (b.b 17 Z) (W (b.b 16 Z) (W (b.b 15 Z) (W (b.b 14 Z) (W (b.b 13 Z) (W (b.b 12 Z) (W (b.b 11 Z) (W (b.b 10 Z) (W (b.b 9 Z) (W (b.b 8 Z) (W (b.b 7 Z) (W (b.b 6 Z) (W (b.b 5 Z) (W (b.b 4 Z) (W (b.b 3 Z) (W (b.b 2 Z) K.nil))))))))))))))))) (d.e [0] Z Z))⟩ h)
  rintro bj L w hJ h
  try dsimp only at hJ
  obtain ⟨rfl,⟨bm,bd,hZ,a,b,d⟩⟩:=hJ
  unfold F.C5 at h
  refine ax Z (fun aG=>?_) (fun aG=>?_)
  ·have h:=aI h aG
   refine J (af (P 3 Z ?_))
   refine H (O (aw (aE ?_)))
   cases h
   replace d:=hZ.st d
   exact d9 Z Z Z Z ⟨.slice none 0 0,.slice none 0 0,Z,((d.nil e8).nil e8).e [1,0] Z Z⟩
  have h:=aH h aG
  refine ay (O (J ?_))
  obtain ⟨aL,a2,h⟩:=aj h
  obtain ⟨aS,a3,h⟩:=aj h
  obtain ⟨aM,a4,h⟩:=aj h
  obtain ⟨aU,a5,h⟩:=aj h
  refine fw (es:=[X l [I c.2.2.2.2.2.2.2.2.2.2.2.2.2.2.2.1,D],red U D c.2.2.2.2.2.2.2.2.2.2.2.2.2.2.2.2,X j [I c.2.2.2.2.2.2.2.2.2.2.2.2.2.1,C],red U C c.2.2.2.2.2.2.2.2.2.2.2.2.2.2.1,X f [I c.2.2.2.2.2.2.2.2.2.2.2.1,B],red U B c.2.2.2.2.2.2.2.2.2.2.2.2.1,X aO [N ac 0,N ad 0,N ag 0,N ak 0,N al 0,vI c.2.2.2.2.2.2.2.2.2.2.1,.func (.func 168) #[] #[]],X al [I c.2.2.2.2.2.2.2.2.1,A],red U A c.2.2.2.2.2.2.2.2.2.1,X ak [I c.2.2.2.2.2.2.1,z],red U z c.2.2.2.2.2.2.2.1,X ag [I c.2.2.2.2.1,u],red U u c.2.2.2.2.2.1,X ad [I c.2.2.1,s],red U s c.2.2.2.1,X ac [I c.1,q],red U q c.2.1]) (os:=[X aq [N f 0,N j 0,N l 0]]) (fun i=>[6,7,14,15].contains i) (fun i=>if i=6 then some 7 else if i=14 then some 15 else none) (fun i=>[]) (fun i=>[]) (fun i=>[]) (fun i=>[]) (fun i=>if i=6 then (fun h v x y=>∃o:Value,v=o∧x=[M e8 o aL]∧y=[]) else if i=7 then (fun h v x y=>∃E:Value,v=E∧x=[M e8 E aS]∧y=[]) else if i=14 then (fun h v x y=>∃p:Value,v=p∧x=[M e8 p aM]∧y=[]) else (fun h v x y=>∃G:Value,v=G∧x=[M e8 G aU]∧y=[])) (SfT.mk' hZ a b d) (fun k hk=>rfl) hTT rfl (fun i=>(dF (by rintro h v x y ⟨_,rfl,rfl,rfl⟩; exact cQ rfl) (dF (by rintro h v x y ⟨_,rfl,rfl,rfl⟩; exact cQ rfl) (dF (by rintro h v x y ⟨_,rfl,rfl,rfl⟩; exact cQ rfl) (by rintro h v x y ⟨_,rfl,rfl,rfl⟩; exact cQ rfl))))) bS (by kernel_rfl) (by kernel_rfl) ?_
  show fy _ _ _ _ _ _ _ _ _ _ _ _ _ _ _ _ [0,1,2,3,4,5,6,7,8,9,10,11,12,13,14,15,16,17,18] _ _
  refine bu Z Z (fun w Sb wb hZ a b hF=>av (k:=0) u91 Z Z cw Z) Z (bu Z Z (fun w Sb wb hZ a b hF=>aC u73 Z Z (hF.r 0 Z 0)) Z (bu Z Z (fun w Sb wb hZ a b hF=>ar Z) Z (bu Z Z (fun w Sb wb hZ a b hF=>aK Z) Z (bu Z Z (fun w Sb wb hZ a b hF=>av (k:=5) u76 Z Z nz3 Z) Z (bu Z Z (fun w Sb wb hZ a b hF=>aC Tryz.underlying3 Z Z ((a.rb 10 Z).cell hF.fr 5 Z)) Z ?_)))))
  refine g9 (fun h v x y=>∃o:Value,v=o∧x=[M e8 o aL]∧y=[]) [] [] [] _ Z Z (fun h v x y=>Z) Z Z Z Z ⟨_,_,_,undef,Z,Z,Z⟩ (fun w Sl Tl hZ hTT a b d=>?_) Z ?_
  ·refine mH (de (e:=e8) u24 ti5 Z Z Z d a2) ?_
   rintro o w d
   exact ⟨_,_,⟨o,Z,Z,Z⟩,SfT.mk' hZ Q.nil K.nil d⟩
  rintro o x_q y_q ⟨_,rfl,rfl,rfl⟩
  refine dC (fun h v x y=>∃E:Value,v=E∧x=[M e8 E aS]∧y=[]) [] [M e8 o aL] [] _ Z Z (fun h v x y=>Z) Z Z Z Z ⟨_,_,_,undef,Z,Z,Z⟩ (by kernel_rfl) Z (fun w Sl Tl hZ hTT a b d=>?_) Z ?_
  ·have hG:=d.pick (os':=[M e8 o aL]++[X aq [N f 0,N j 0,N l 0]]) [0,1] (by decide) Z
   refine dh (lS c.2.2.2.2.2.2.2.2.2.2.2.1 a3 hG.g ((a.rp 11 Z).g (R Z) hG) ((a.rb 12 Z).g hG)) ?_
   rintro E w ⟨be,aV,T⟩
   rw [←aV]at T
   have d:=hG.h T
   exact ⟨_,_,⟨E,Z,Z,Z⟩,SfT.mk' hZ Q.nil K.nil d⟩
  rintro E x_q y_q ⟨_,rfl,rfl,rfl⟩
  refine bu Z Z (fun w Sb wb hZ a b hF=>av (k:=1) u91 Z Z cw Z) Z (bu Z Z (fun w Sb wb hZ a b hF=>aC u73 Z Z (hF.r 0 Z 1)) Z (bu Z Z (fun w Sb wb hZ a b hF=>ar Z) Z (bu Z Z (fun w Sb wb hZ a b hF=>aK Z) Z (bu Z Z (fun w Sb wb hZ a b hF=>av (k:=5) u76 Z Z nz3 Z) Z (bu Z Z (fun w Sb wb hZ a b hF=>aC Tryz.underlying3 Z Z ((a.rb 10 Z).cell hF.fr 5 Z)) Z ?_)))))
  refine g9 (fun h v x y=>∃p:Value,v=p∧x=[M e8 p aM]∧y=[]) [] [] [] _ Z Z (fun h v x y=>Z) Z Z Z Z ⟨_,_,_,undef,Z,Z,Z⟩ (fun w Sl Tl hZ hTT a b d=>?_) Z ?_
  ·refine mH (de (e:=e8) u24 ti5 Z Z Z d a4) ?_
   rintro p w d
   exact ⟨_,_,⟨p,Z,Z,Z⟩,SfT.mk' hZ Q.nil K.nil d⟩
  rintro p x_q y_q ⟨_,rfl,rfl,rfl⟩
  refine dC (fun h v x y=>∃G:Value,v=G∧x=[M e8 G aU]∧y=[]) [] [M e8 p aM] [] _ Z Z (fun h v x y=>Z) Z Z Z Z ⟨_,_,_,undef,Z,Z,Z⟩ (by kernel_rfl) Z (fun w Sl Tl hZ hTT a b d=>?_) Z ?_
  ·have hG:=d.pick (os':=[M e8 p aM]++[X aq [N f 0,N j 0,N l 0]]) [0,1] (by decide) Z
   refine dh (lS c.2.2.2.2.2.2.2.2.2.2.2.2.2.1 a5 hG.g ((a.rp 13 Z).g (R Z) hG) ((a.rb 14 Z).g hG)) ?_
   rintro G w ⟨bf,aW,T⟩
   rw [←aW]at T
   have d:=hG.h T
   exact ⟨_,_,⟨G,Z,Z,Z⟩,SfT.mk' hZ Q.nil K.nil d⟩
  rintro G x_q y_q ⟨_,rfl,rfl,rfl⟩
  refine bu Z Z (fun w Sb wb hZ a b hF=>aB Z) Z (bu Z Z (fun w Sb wb hZ a b hF=>aB Z) Z (bu Z Z (fun w Sb wb hZ a b hF=>aB Z) Z (ib fun w hQ=>?_)))
  obtain ⟨bn,bg,hZ,a,b,d⟩:=hQ
  refine O (aw ?_)
  cases h
  replace d:=hZ.st d
  exact d9 Z Z Z Z ⟨E,G,Z,d.e [0,1] Z Z⟩
theorem pm {q:World} {a1 a2:List UInt8} {n o:Value} (a0:Int) {r:List UInt32×List UInt32×Bool×Int}
  (h:F.Fi a0 a1 a2=some r) (aG:RP [] q e8 n a1) (aL:RP [] q e8 o a2):Calls Tryz.prog 34 #[vI a0,n,o] q (Ret fun v w=>∃D E:Value,v=.tuple #[.agg #[D,E,I r.2.2.1],vI r.2.2.2]∧St [] q w [M U D r.1,M U E r.2.1]):=by
 refine aJ 48 Tryz.func34 Z Z Z ?_
 have a:=St.l q
 have hZ:=Fz.l (S:=[]) (w0:=q)
 have hTT:TOk [] [] q:=TOk.nil
 have b:Q [] q [red e8 o a2,red e8 n a1]:=Y (RP.i (R Z) aL) (Y (RP.i (R Z) aG) (Q.nil))
 have d:K [] [red e8 o a2,red e8 n a1]:=K.emp
 refine au [(0,vI a0),(1,n),(2,o)] ⟨Z,Z,Z,V⟩ ?_
 unfold F.Fi at h
 refine J (af (aT (aY (cs:=[.slice none 0 0,.slice none 0 0,I false]) jc Z a) Z ?_))
 rintro _ w ⟨s,rfl,a⟩
 refine P 1 Z ?_
 refine H (O (J (af (P 1 Z ?_))))
 replace a:=a.pick (os':=[]++[X s [.slice none 0 0,.slice none 0 0,I false]]) [0] (by decide) rfl
 obtain ⟨hZ,b,d,a⟩:=hZ.frzK hTT b d a
 obtain ⟨aM,an,h⟩:=aj h
 refine ao Z (gD a0 an (hZ.okT hTT a)) Z ?_
 rintro v_q w hQ
 cases u:aM with
 | none=>
  have h:=fx h u
  rw [u]at hQ
  obtain ⟨rfl,c⟩:=eJ hQ
  obtain ⟨a8,aZ,hZ,b,d,a⟩:=hZ.m b d a c Q.nil rfl
  refine P 1 Z ?_
  refine H (O (J (J (af (P 1 Z ?_)))))
  refine am (aq Z Z (sQ u71)) Z (P 29 Z ?_)
  refine H (O (dZ Z ?_))
  refine J (af (am (bY (vs:=[]) (cells:=[.slice none 0 0,.slice none 0 0,I false]) Z fo V Z) Z (bk (bl (i:=0) (us:=[.slice none 0 0,.slice none 0 0,I false]) Z ce Z Z Z ⟨Z,Z,Z,V⟩ Z a) ?_)))
  intro w a
  refine P 1 Z ?_
  refine H (O (aw (aE ?_)))
  cases h
  replace a:=hZ.st a
  exact dR Z ⟨_,Z,bJ (us:=[.slice none 0 0,.slice none 0 0,I false]) u33 Z ce (a.q 0 Z Z)⟩ Z ⟨.slice none 0 0,.slice none 0 0,Z,((a.nil U).nil U).e [1,0] Z Z⟩
 | some j=>
  have h:=fv h u
  rw [u]at hQ
  obtain ⟨ap,aO,ar,aP,az,aQ,aA,aR,aB,aS,aD,rfl,c,aU⟩:=eM hQ
  obtain ⟨bb,aV,hZ,b,d,a⟩:=hZ.m b d a c aU rfl
  refine P 1 Z ?_
  refine H (O (J ?_))
  refine a9 (r:=r) (fun (g:Bool) L w=>L=[(1,n),(2,o),(6,N s 0),(41,I g)]∧SfT [] [] q w [red e8 o a2,red e8 n a1] [X s [.slice none 0 0,.slice none 0 0,I false]]) (F.CW a1 a2) ?_ ?_
  rotate_left
  ·intro x
   refine af (P 1 Z ?_)
   refine am (aq Z Z (sM u71 ap 0)) Z (P 2 Z ?_)
   refine ba (t:=13) Z Z (aN u24 Z ((b.rp 0 Z).d a.fr)) Z (P 1 Z ?_)
   refine ba (t:=13) Z Z (aK Z) Z (ba (t:=13) Z Z (av (k:=5) u76 Z Z nz3 Z) Z (ba (t:=13) Z Z (aC Tryz.underlying3 Z Z ((b.rb 12 Z).cell a.fr 5 Z)) Z (P 3 Z ?_)))
   cases l:((a1.length:Int) != j.2.2.2.2.2.2.2.2.2.2)
   case true=>
    have h:=aI h l
    try simp only [l]
    refine P 19 Z ?_
    refine H (O ?_)
    exact au _ (by exact ⟨Z,Z,Z,Z,V⟩) (x true _ _ ⟨Z,(SfT.mk' hZ (Y (b.b 1 Z) (Y (b.b 0 Z) Q.nil)) (W (d.b 1 Z) (W (d.b 0 Z) K.nil)) a)⟩ h)
   case false=>
    have h:=aH h l
    try simp only [l]
    refine P 1 Z ?_
    refine ba (t:=22) Z Z (aN u24 Z ((b.rp 1 Z).d a.fr)) Z (P 1 Z ?_)
    refine ba (t:=22) Z Z (aK Z) Z (ba (t:=22) Z Z (av (k:=5) u76 Z Z nz3 Z) Z (ba (t:=22) Z Z (aC Tryz.underlying3 Z Z ((b.rb 12 Z).cell a.fr 5 Z)) Z (P 3 Z ?_)))
    cases m:((a2.length:Int) != j.2.2.2.2.2.2.2.2.2.2)
    case true=>
     have h:=aI h m
     try simp only [m]
     refine P 10 Z ?_
     refine H (O ?_)
     exact au _ (by exact ⟨Z,Z,Z,Z,V⟩) (x true _ _ ⟨Z,(SfT.mk' hZ (Y (b.b 1 Z) (Y (b.b 0 Z) Q.nil)) (W (d.b 1 Z) (W (d.b 0 Z) K.nil)) a)⟩ h)
    case false=>
     have h:=aH h m
     try simp only [m]
     refine P 1 Z ?_
     refine oI (t:=31) Z Z (aY (cs:=[I false,.slice none 0 0]) c6 Z a) Z ?_
     rintro _ w ⟨A,rfl,a⟩
     refine P 1 Z ?_
     replace a:=a.nil U
     have B:=a.pick (os':=[X A [I false,.slice none 0 0],M U (.slice none 0 0) []]++[X s [.slice none 0 0,.slice none 0 0,I false]]) [1,0,2] (by decide) Z
     obtain ⟨p,ac,h⟩:=aj h
     refine cc (t:=31) Z Z (by kernel_rfl) Z (eY false ac B.g ((b.rp 0 Z).g (R Z) B)) Z ?_
     rintro _ w ⟨y,rfl,c⟩
     have a:=B.h c
     refine oI (t:=31) Z Z (aY (cs:=[I false,.slice none 0 0]) c6 Z a) Z ?_
     rintro _ w ⟨G,rfl,a⟩
     refine P 1 Z ?_
     replace a:=a.nil U
     have B:=a.pick (os':=[X G [I false,.slice none 0 0],M U (.slice none 0 0) []]++[X A [I p.1,y],M U y p.2,X s [.slice none 0 0,.slice none 0 0,I false]]) [1,0,2,3,4] (by decide) Z
     obtain ⟨C,ad,h⟩:=aj h
     refine cc (t:=31) Z Z (by kernel_rfl) Z (eY false ad B.g ((b.rp 1 Z).g (R Z) B)) Z ?_
     rintro _ w ⟨T,rfl,c⟩
     have a:=B.h c
     obtain ⟨aF,ag,h⟩:=aj h
     refine cc (t:=31) Z Z (by kernel_rfl) Z (jb j.1 j.2.2.1 j.2.2.2.2.1 j.2.2.2.2.2.2.1 j.2.2.2.2.2.2.2.2.1 j.2.2.2.2.2.2.2.2.2.2 p.1 C.1 ag ((b.rp 2 Z).d a.fr).rp ((b.rb 3 Z).d a.fr) ((b.rp 4 Z).d a.fr).rp ((b.rb 5 Z).d a.fr) ((b.rp 6 Z).d a.fr).rp ((b.rb 7 Z).d a.fr) ((b.rp 8 Z).d a.fr).rp ((b.rb 9 Z).d a.fr) ((b.rp 10 Z).d a.fr).rp ((b.rb 11 Z).d a.fr) ((b.rb 12 Z).d a.fr) (a.ro 3 Z).rp (a.rb 2 Z) (a.ro 1 Z).rp (a.rb 0 Z)) Z ?_
     rintro _ w ⟨rfl,c⟩
     have a:=a.f c
     refine P 2 Z ?_
     refine H (O ?_)
     replace a:=a.pick (os':=[X G [I C.1,T],M U T C.2,X A [I p.1,y],M U y p.2]++[X s [.slice none 0 0,.slice none 0 0,I false]]) [0,1,2,3,4] (by decide) rfl
     obtain ⟨a3,aW,hZ,b,d,a⟩:=hZ.frzT hTT b d a
     exact au _ (by exact ⟨Z,Z,Z,Z,V⟩) (x (!aF) _ _ ⟨Z,(SfT.mk' hZ (Y (b.b 1 Z) (Y (b.b 0 Z) Q.nil)) (W (d.b 1 Z) (W (d.b 0 Z) K.nil)) a)⟩ h)
  rintro a4 L w hJ h
  try dsimp only at hJ
  obtain ⟨rfl,⟨a5,aX,hZ,b,d,a⟩⟩:=hJ
  unfold F.CW at h
  refine ax Z (fun z=>?_) (fun z=>?_)
  ·have h:=aI h z
   refine J (af (am (bY (vs:=[]) (cells:=[.slice none 0 0,.slice none 0 0,I false]) Z fo V Z) Z (bk (bl (i:=0) (us:=[.slice none 0 0,.slice none 0 0,I false]) Z ce Z Z Z ⟨Z,Z,Z,V⟩ Z a) ?_)))
   intro w a
   refine P 1 Z ?_
   refine H (O (aw (aE ?_)))
   cases h
   replace a:=hZ.st a
   exact dR Z ⟨_,Z,bJ (us:=[.slice none 0 0,.slice none 0 0,I false]) u33 Z ce (a.q 0 Z Z)⟩ Z ⟨.slice none 0 0,.slice none 0 0,Z,((a.nil U).nil U).e [1,0] Z Z⟩
  have h:=aH h z
  refine ay (O (J (af (P 1 Z ?_))))
  obtain ⟨a6,ak,h⟩:=aj h
  refine ao Z (dq  ak ((b.rp 0 Z).d a.fr).rp) Z ?_
  rintro e w c
  have a:=a.f c
  refine P 1 Z ?_
  obtain ⟨a7,al,h⟩:=aj h
  refine ao Z (dq  al ((b.rp 1 Z).d a.fr).rp) Z ?_
  rintro f w c
  have a:=a.f c
  refine am (bY (vs:=[(0,e,[e]),(1,f,[f])]) (cells:=[e,f,I false]) Z fo ⟨(fK (a.ro 1 Z).one),(fK (a.ro 0 Z).one),V⟩ Z) Z ?_
  refine bk (bl (i:=2) (us:=[e,f,I false]) Z ce Z Z Z ⟨(a.ro 1 Z).one,(a.ro 0 Z).one,Z,V⟩ Z a) ?_
  intro w a
  refine P 1 Z ?_
  refine H (O (aw ?_))
  cases h
  replace a:=hZ.st a
  exact dR Z ⟨_,Z,bJ (us:=[e,f,I false]) u33 Z ce (a.q 2 Z Z)⟩ Z ⟨e,f,Z,a.e [1,0] Z Z⟩
theorem kS {w0:World} {aQ aS aU aV aX a5 aZ a0 a1:List UInt32} {A B C D E aE G ab ac:Value} {ba aF aL aM aN aO bb n o p:Nat} {T:List Nat} (ag ak al an ap:Bool) (a4:Int) (a3 az aA aB:Bool) {r:Bool×List UInt32×Bool×List UInt32×Bool×List UInt32}
  (h:F.Eb ag aQ ak aS al aU an aV ap aX a4 a3 a5 az aZ aA a0 aB a1=some r) (hTT:TOk [] T w0) (bv:RP T w0 U A aQ) (bH:RB T w0 aF [I ag,A]) (bw:RP T w0 U B aS) (bK:RB T w0 aL [I ak,B]) (bB:RP T w0 U C aU) (bM:RB T w0 aM [I al,C]) (bC:RP T w0 U D aV) (bN:RB T w0 aN [I an,D]) (bD:RP T w0 U E aX) (bO:RB T w0 aO [I ap,E]) (hBa0:RB T w0 ba [N aF 0,N aL 0,N aM 0,N aN 0,N aO 0,vI a4,.func (.func 168) #[] #[]]) (b3:RP T w0 U aE a5) (hBa1:RB T w0 bb [I a3,aE]) (bE:RP T w0 U G aZ) (bP:RB T w0 n [I az,G]) (bF:RP T w0 U ab a0) (bQ:RB T w0 o [I aA,ab]) (bG:RP T w0 U ac a1) (bR:RB T w0 p [I aB,ac]):Calls Tryz.prog 74 #[N ba 0,N bb 0,.agg #[N n 0,N o 0,N p 0]] w0 (Ret fun v w=>∃bT:Nat,∃bp:Value,∃bU:Nat,∃bq:Value,∃bV:Nat,∃br:Value,v=.agg #[N bT 0,N bU 0,N bV 0]∧St [] w0 w []∧Q T w [X bV [I r.2.2.2.2.1,br],red U br r.2.2.2.2.2,X bU [I r.2.2.1,bq],red U bq r.2.2.2.1,X bT [I r.1,bp],red U bp r.2.1]):=by
 refine aJ 30 Tryz.func74 Z Z Z ?_
 have m:=St.l w0
 have hZ:=Fz.l (S:=[]) (w0:=w0)
 have hA0:Q T w0 [X p [I aB,ac],red U ac a1,X o [I aA,ab],red U ab a0,X n [I az,G],red U G aZ,X bb [I a3,aE],red U aE a5,X ba [N aF 0,N aL 0,N aM 0,N aN 0,N aO 0,vI a4,.func (.func 168) #[] #[]],X aO [I ap,E],red U E aX,X aN [I an,D],red U D aV,X aM [I al,C],red U C aU,X aL [I ak,B],red U B aS,X aF [I ag,A],red U A aQ]:=Y bR.i (Y (RP.i (R Z) bG) (Y bQ.i (Y (RP.i (R Z) bF) (Y bP.i (Y (RP.i (R Z) bE) (Y hBa1.i (Y (RP.i (R Z) b3) (Y hBa0.i (Y bO.i (Y (RP.i (R Z) bD) (Y bN.i (Y (RP.i (R Z) bC) (Y bM.i (Y (RP.i (R Z) bB) (Y bK.i (Y (RP.i (R Z) bw) (Y bH.i (Y (RP.i (R Z) bv) (Q.nil)))))))))))))))))))
 have e:=hA0.all
 have f:=hA0.off Z
 refine au [(0,N ba 0),(1,N bb 0),(2,.agg #[N n 0,N o 0,N p 0])] ⟨Z,Z,Z,V⟩ ?_
 unfold F.Eb at h
 refine J (af (aT (da (cs:=[N n 0,N o 0,N p 0]) Z Z m) Z ?_))
 rintro _ w ⟨bc,rfl,m⟩
 refine aT (aY (cs:=[.pointer none,.pointer none,.pointer none]) eQ Z m) Z ?_
 rintro _ w ⟨be,rfl,m⟩
 refine H (O (J (af ?_)))
 obtain ⟨a2,b8,h⟩:=aj h
 refine ao Z (eo  b8 ) Z ?_
 rintro _ w ⟨bW,bX,bs,bh,bi,bm,rfl,bg⟩
 have m:=m.f bg
 refine aT (aY (cs:=[.pointer none,.pointer none,.pointer none]) eQ Z m) Z ?_
 rintro _ w ⟨aP,rfl,m⟩
 refine bk (bl (i:=0) (us:=[N bh 0,N bi 0,N bm 0]) Z bL Z Z Z ⟨Z,Z,Z,V⟩ Z m) ?_
 intro w m
 refine H (O (J (J (af (P 1 Z ?_)))))
 obtain ⟨bY,b4,h⟩:=aj h
 refine ao Z (fC a3 b4 ((e.rp 11 Z).d m.fr).rp ((e.rb 12 Z).d m.fr)) Z ?_
 rintro _ w ⟨rfl,bg⟩
 have m:=m.f bg
 refine P 2 Z ?_
 refine H (O (aD ?_))
 replace m:=m.pick (os':=[X bh [I a2.1,bW],M U bW a2.2.1,X bi [I a2.2.2.1,bX],M U bX a2.2.2.2.1,X bm [I a2.2.2.2.2.1,bs],M U bs a2.2.2.2.2.2]++[X aP [N bh 0,N bi 0,N bm 0],X be [.pointer none,.pointer none,.pointer none],X bc [N n 0,N o 0,N p 0]]) [1,2,3,4,5,6,0,7,8] (by decide) rfl
 obtain ⟨ch,cd,hZ,e,f,m⟩:=hZ.frzT hTT e f m
 refine au [(0,N ba 0),(1,N bb 0),(5,N bc 0),(6,N be 0),(7,N aP 0),(8,vI (wI (bY - 1)))] ⟨Z,Z,Z,Z,Z,Z,V⟩ ?_
 refine bj (F.C4 ag aQ ak aS al aU an aV ap aX a4 a3 a5 az aZ aA a0 aB a1) (fun (s:Int×Bool×List UInt32×Bool×List UInt32×Bool×List UInt32) L w=>∃(t:Nat) (a6:Value) (u:Nat) (a7:Value) (z:Nat) (a9:Value),L=[(0,N ba 0),(1,N bb 0),(5,N bc 0),(6,N be 0),(7,N aP 0),(8,vI s.1)]∧SfT [] T w0 w [X z [I s.2.2.2.2.2.1,a9],red U a9 s.2.2.2.2.2.2,X u [I s.2.2.2.1,a7],red U a7 s.2.2.2.2.1,X t [I s.2.1,a6],red U a6 s.2.2.1,X p [I aB,ac],red U ac a1,X o [I aA,ab],red U ab a0,X n [I az,G],red U G aZ,X bb [I a3,aE],red U aE a5,X ba [N aF 0,N aL 0,N aM 0,N aN 0,N aO 0,vI a4,.func (.func 168) #[] #[]],X aO [I ap,E],red U E aX,X aN [I an,D],red U D aV,X aM [I al,C],red U C aU,X aL [I ak,B],red U B aS,X aF [I ag,A],red U A aQ] [X bc [N n 0,N o 0,N p 0],X be [.pointer none,.pointer none,.pointer none],X aP [N t 0,N u 0,N z 0]]) ?_ (wI (bY - 1),a2.1,a2.2.1,a2.2.2.1,a2.2.2.2.1,a2.2.2.2.2.1,a2.2.2.2.2.2) ⟨bh,bW,bi,bX,bm,bs,Z,(SfT.mk' hZ (Y (e.b 20 Z) (Y (e.b 19 Z) (Y (e.b 22 Z) (Y (e.b 21 Z) (Y (e.b 24 Z) (Y (e.b 23 Z) (Y (e.b 18 Z) (Y (e.b 17 Z) (Y (e.b 16 Z) (Y (e.b 15 Z) (Y (e.b 14 Z) (Y (e.b 13 Z) (Y (e.b 12 Z) (Y (e.b 11 Z) (Y (e.b 10 Z) (Y (e.b 9 Z) (Y (e.b 8 Z) (Y (e.b 7 Z) (Y (e.b 6 Z) (Y (e.b 5 Z) (Y (e.b 4 Z) (Y (e.b 3 Z) (Y (e.b 2 Z) (Y (e.b 1 Z) (Y (e.b 0 Z) Q.nil))))))))))))))))))))))))) (W (f.b 20 Z) (W (f.b 19 Z) (W (f.b 22 Z) (W (f.b 21 Z) (W (f.b 24 Z) (W (f.b 23 Z) (W (f.b 18 Z) (W (f.b 17 Z) (W (f.b 16 Z) (W (f.b 15 Z) (W (f.b 14 Z) (W (f.b 13 Z) (W (f.b 12 Z) (W (f.b 11 Z) (W (f.b 10 Z) (W (f.b 9 Z) (W (f.b 8 Z) (W (f.b 7 Z) (W (f.b 6 Z) (W (f.b 5 Z) (W (f.b 4 Z) (W (f.b 3 Z) (W (f.b 2 Z) (W (f.b 1 Z) (W (f.b 0 Z) K.nil))))))))))))))))))))))))) (m.e [2,1,0] Z Z))⟩ h
 rintro ci ⟨bZ,b0,b9,b1,ca,b2,cb⟩ L w cj hI b5 h bt
 try dsimp only at hI
 obtain ⟨t,a6,u,a7,z,a9,rfl,⟨ck,ce,hZ,e,f,m⟩⟩:=hI
 unfold F.C4 at h
 refine J (J (af (P 2 Z ?_)))
 refine H (O ?_)
 refine ax Z (fun bn=>?_) (fun bn=>?_)
 ·have h:=aI h bn
  refine ay (O (J (aD ?_)))
  obtain ⟨bo,b6,h⟩:=aj h
  obtain ⟨a,b7,h⟩:=aj h
  refine fw (es:=[X z [I b2,a9],red U a9 cb,X u [I b1,a7],red U a7 ca,X t [I b0,a6],red U a6 b9,X p [I aB,ac],red U ac a1,X o [I aA,ab],red U ab a0,X n [I az,G],red U G aZ,X bb [I a3,aE],red U aE a5,X ba [N aF 0,N aL 0,N aM 0,N aN 0,N aO 0,vI a4,.func (.func 168) #[] #[]],X aO [I ap,E],red U E aX,X aN [I an,D],red U D aV,X aM [I al,C],red U C aU,X aL [I ak,B],red U B aS,X aF [I ag,A],red U A aQ]) (os:=[X bc [N n 0,N o 0,N p 0],X be [.pointer none,.pointer none,.pointer none]]) (fun i=>[5,8,11,12].contains i) (fun i=>none) (fun i=>if i=12 then [11] else []) (fun i=>if i=12 then [X aP [N t 0,N u 0,N z 0]] else []) (fun i=>if i=5 then [12] else []) (fun i=>if i=12 then [11] else []) (fun i=>if i=5 then (fun h v x y=>v=.agg #[N t 0,N u 0,N z 0]∧x=[]∧y=[]) else if i=8 then (fun h v x y=>v=v64 bo∧x=[]∧y=[]) else if i=11 then (fun h v x y=>∃g:Nat,∃j:Nat,∃l:Nat,∃b:Value,∃c:Value,∃d:Value,v=.agg #[N g 0,N j 0,N l 0]∧x=[]∧y=[red U b a.2.1,X g [I a.1,b],red U c a.2.2.2.1,X j [I a.2.2.1,c],red U d a.2.2.2.2.2,X l [I a.2.2.2.2.1,d]]) else (fun h v x y=>∃g:Nat,∃j:Nat,∃l:Nat,∃b:Value,∃c:Value,∃d:Value,h=[(.agg #[N g 0,N j 0,N l 0],[],[red U b a.2.1,X g [I a.1,b],red U c a.2.2.2.1,X j [I a.2.2.1,c],red U d a.2.2.2.2.2,X l [I a.2.2.2.2.1,d]])]∧v=undef∧x=[X aP [N g 0,N j 0,N l 0]]∧y=[red U b a.2.1,X g [I a.1,b],red U c a.2.2.2.1,X j [I a.2.2.1,c],red U d a.2.2.2.2.2,X l [I a.2.2.2.2.1,d]])) (SfT.mk' hZ e f (m.pick (os':=[X aP [N t 0,N u 0,N z 0],X bc [N n 0,N o 0,N p 0],X be [.pointer none,.pointer none,.pointer none]]) [2,0,1] (by decide) rfl)) (fun k hk=>(if_neg (fun q=>by subst q; exact absurd hk (by decide)))) hTT rfl (fun i=>(dF (by rintro h v x y ⟨rfl,rfl,rfl⟩; exact cQ rfl) (dF (by rintro h v x y ⟨rfl,rfl,rfl⟩; exact cQ rfl) (dF (by rintro h v x y ⟨_,_,_,_,_,_,rfl,rfl,rfl⟩; exact cQ rfl) (by rintro h v x y ⟨_,_,_,_,_,_,_,rfl,rfl,rfl⟩; exact cQ rfl))))) bS (by kernel_rfl) (by kernel_rfl) ?_
  show fy _ _ _ _ _ _ _ _ _ _ _ _ _ _ _ _ [0,1,2,3,4,5,6,7,8,9,10,11,12] _ _
  refine bu Z Z (fun w Sb wb hZ e f hF=>ar Z) Z (bu Z Z (fun w Sb wb hZ e f hF=>aK Z) Z (bu Z Z (fun w Sb wb hZ e f hF=>av (k:=6) u76 Z Z Ab Z) Z (bu Z Z (fun w Sb wb hZ e f hF=>aC Tryz.underlying74 Z Z ((e.rb 10 Z).cell hF.fr 6 Z)) Z (bu Z Z (fun w Sb wb hZ e f hF=>ar Z) Z ?_))))
  refine g9 (fun h v x y=>v=.agg #[N t 0,N u 0,N z 0]∧x=[]∧y=[]) [] [] [] [X aP [N t 0,N u 0,N z 0],X bc [N n 0,N o 0,N p 0],X be [.pointer none,.pointer none,.pointer none]] Z Z (fun h v x y=>Z) Z Z Z Z ⟨_,_,_,Z,Z,Z⟩ (fun w Sl Tl hZ hTT e f m=>?_) Z ?_
  ·exact yK (bI (us:=[N t 0,N u 0,N z 0]) u91 Z bL Z (m.q 0 Z Z)) ⟨_,_,⟨Z,Z,Z⟩,SfT.mk' hZ Q.nil K.nil m⟩
  rintro v_q x_q y_q ⟨rfl,rfl,rfl⟩
  refine bu Z Z (fun w Sb wb hZ e f hF=>ar Z) Z (bu Z Z (fun w Sb wb hZ e f hF=>ar Z) Z ?_)
  refine dC (fun h v x y=>v=v64 bo∧x=[]∧y=[]) [] [] [] _ Z Z (fun h v x y=>Z) Z Z Z Z ⟨_,_,_,Z,Z,Z⟩ (by kernel_rfl) Z (fun w Sl Tl hZ hTT e f m=>?_) Z ?_
  ·refine dh (gf a3 bZ b6 ((e.rp 11 Z).d m.fr).rp ((e.rb 12 Z).d m.fr)) ?_
   rintro _ w ⟨rfl,bg⟩
   have m:=m.f bg
   exact ⟨_,_,⟨Z,Z,Z⟩,SfT.mk' hZ Q.nil K.nil m⟩
  rintro v_q x_q y_q ⟨rfl,rfl,rfl⟩
  refine bu Z Z (fun w Sb wb hZ e f hF=>aq Z Z (pa _ bo 1)) Z (bu Z Z (fun w Sb wb hZ e f hF=>bI (us:=[N n 0,N o 0,N p 0]) u91 Z bL Z (hF.q 0 Z Z)) Z ?_)
  refine oF (fun h v x y=>∃g:Nat,∃j:Nat,∃l:Nat,∃b:Value,∃c:Value,∃d:Value,v=.agg #[N g 0,N j 0,N l 0]∧x=[]∧y=[red U b a.2.1,X g [I a.1,b],red U c a.2.2.2.1,X j [I a.2.2.1,c],red U d a.2.2.2.2.2,X l [I a.2.2.2.2.1,d]]) [] [] [] _ Z Z (fun h v x y=>Z) Z Z Z Z ⟨_,_,_,0,0,0,undef,undef,undef,Z,Z,Z⟩ Z (by kernel_rfl) Z (fun w Sl Tl hZ hTT e f m=>?_) Z ?_
  ·replace m:=m.pick (os':=[]++[X bc [N n 0,N o 0,N p 0],X be [.pointer none,.pointer none,.pointer none]]) [0,1] (by decide) rfl
   obtain ⟨hZ,e,f,m⟩:=hZ.frzK hTT e f m
   refine dh (lV ag ak al an ap a4 b0 b1 b2 (bo == 1) az aA aB b7 (hZ.okT hTT m) (e.j f 0 Z) (e.k f 1 Z) (e.j f 2 Z) (e.k f 3 Z) (e.j f 4 Z) (e.k f 5 Z) (e.j f 6 Z) (e.k f 7 Z) (e.j f 8 Z) (e.k f 9 Z) (e.k f 10 Z) (e.j f 19 Z) (e.k f 20 Z) (e.j f 21 Z) (e.k f 22 Z) (e.j f 23 Z) (e.k f 24 Z) (e.j f 13 Z) (e.k f 14 Z) (e.j f 15 Z) (e.k f 16 Z) (e.j f 17 Z) (e.k f 18 Z)) ?_
   rintro _ w ⟨g,b,j,c,l,d,rfl,bg,cc⟩
   obtain ⟨cl,cf,hZ,e,f,m⟩:=hZ.m e f m bg cc rfl
   exact ⟨_,_,⟨g,j,l,b,c,d,Z,Z,Z⟩,SfT.mk' hZ (Y (e.b 25 Z) (Y (e.b 26 Z) (Y (e.b 27 Z) (Y (e.b 28 Z) (Y (e.b 29 Z) (Y (e.b 30 Z) Q.nil)))))) (W (f.b 25 Z) (W (f.b 26 Z) (W (f.b 27 Z) (W (f.b 28 Z) (W (f.b 29 Z) (W (f.b 30 Z) K.nil)))))) m⟩
  rintro v_q x_q y_q ⟨g,j,l,b,c,d,rfl,rfl,rfl⟩
  refine n6 (fun h v x y=>∃g:Nat,∃j:Nat,∃l:Nat,∃b:Value,∃c:Value,∃d:Value,h=[(.agg #[N g 0,N j 0,N l 0],[],[red U b a.2.1,X g [I a.1,b],red U c a.2.2.2.1,X j [I a.2.2.1,c],red U d a.2.2.2.2.2,X l [I a.2.2.2.2.1,d]])]∧v=undef∧x=[X aP [N g 0,N j 0,N l 0]]∧y=[red U b a.2.1,X g [I a.1,b],red U c a.2.2.2.1,X j [I a.2.2.1,c],red U d a.2.2.2.2.2,X l [I a.2.2.2.2.1,d]]) [(.agg #[N g 0,N j 0,N l 0],[],[red U b a.2.1,X g [I a.1,b],red U c a.2.2.2.1,X j [I a.2.2.1,c],red U d a.2.2.2.2.2,X l [I a.2.2.2.2.1,d]])] [X aP [N t 0,N u 0,N z 0]] [red U b a.2.1,X g [I a.1,b],red U c a.2.2.2.1,X j [I a.2.2.1,c],red U d a.2.2.2.2.2,X l [I a.2.2.2.2.1,d]] _ Z Z (fun h v x y=>Z) Z Z Z Z ⟨_,_,_,g,j,l,b,c,d,Z,Z,Z,Z⟩ (fun w Sl Tl hZ hTT e f m=>?_) ?_
  ·refine mI (bl (i:=0) (us:=[N g 0,N j 0,N l 0]) Z bL Z Z Z ⟨Z,Z,Z,V⟩ Z m) ?_
   intro w m
   exact ⟨_,_,⟨g,j,l,b,c,d,Z,Z,Z,Z⟩,SfT.mk' hZ (Y (e.b 30 Z) (Y (e.b 29 Z) (Y (e.b 28 Z) (Y (e.b 27 Z) (Y (e.b 26 Z) (Y (e.b 25 Z) Q.nil)))))) (W (f.b 30 Z) (W (f.b 29 Z) (W (f.b 28 Z) (W (f.b 27 Z) (W (f.b 26 Z) (W (f.b 25 Z) K.nil)))))) m⟩
  rintro v_q x_q y_q ⟨b0_43_0',b0_43_1',b0_43_2',u0_43_0_1',u0_43_1_1',u0_43_2_1',hh,rfl,rfl,rfl⟩
  replace hh:([(.agg #[N g 0,N j 0,N l 0],[],[red U b a.2.1,X g [I a.1,b],red U c a.2.2.2.1,X j [I a.2.2.1,c],red U d a.2.2.2.2.2,X l [I a.2.2.2.2.1,d]])]:List Th)=[(.agg #[N b0_43_0' 0,N b0_43_1' 0,N b0_43_2' 0],[],[red U u0_43_0_1' a.2.1,X b0_43_0' [I a.1,u0_43_0_1'],red U u0_43_1_1' a.2.2.2.1,X b0_43_1' [I a.2.2.1,u0_43_1_1'],red U u0_43_2_1' a.2.2.2.2.2,X b0_43_2' [I a.2.2.2.2.1,u0_43_2_1']])]:=hh
  cases hh
  refine ib fun w hQ=>?_
  obtain ⟨cn,cg,hZ,e,f,m⟩:=hQ
  refine aR ?_
  refine O (af (P 3 Z ?_))
  refine H ?_
  exact bA (bz _ (by exact ⟨Z,Z,Z,Z,Z,Z,V⟩) (b5 (wI (bZ - 1),a.1,a.2.1,a.2.2.1,a.2.2.2.1,a.2.2.2.2.1,a.2.2.2.2.2) _ _ ⟨g,b,j,c,l,d,Z,(SfT.mk' hZ (Y (e.b 25 Z) (Y (e.b 26 Z) (Y (e.b 27 Z) (Y (e.b 28 Z) (Y (e.b 29 Z) (Y (e.b 30 Z) (Y (e.b 18 Z) (Y (e.b 17 Z) (Y (e.b 16 Z) (Y (e.b 15 Z) (Y (e.b 14 Z) (Y (e.b 13 Z) (Y (e.b 12 Z) (Y (e.b 11 Z) (Y (e.b 10 Z) (Y (e.b 9 Z) (Y (e.b 8 Z) (Y (e.b 7 Z) (Y (e.b 6 Z) (Y (e.b 5 Z) (Y (e.b 4 Z) (Y (e.b 3 Z) (Y (e.b 2 Z) (Y (e.b 1 Z) (Y (e.b 0 Z) Q.nil))))))))))))))))))))))))) (W (f.b 25 Z) (W (f.b 26 Z) (W (f.b 27 Z) (W (f.b 28 Z) (W (f.b 29 Z) (W (f.b 30 Z) (W (f.b 18 Z) (W (f.b 17 Z) (W (f.b 16 Z) (W (f.b 15 Z) (W (f.b 14 Z) (W (f.b 13 Z) (W (f.b 12 Z) (W (f.b 11 Z) (W (f.b 10 Z) (W (f.b 9 Z) (W (f.b 8 Z) (W (f.b 7 Z) (W (f.b 6 Z) (W (f.b 5 Z) (W (f.b 4 Z) (W (f.b 3 Z) (W (f.b 2 Z) (W (f.b 1 Z) (W (f.b 0 Z) K.nil))))))))))))))))))))))))) (m.e [1,2,0] Z Z))⟩ (a8 h bt)))
 have h:=aH h bn
 refine bd ?_
 refine aG (aG ?_)
 have h:=aW h bt
 refine bf ?_
 refine O (J (af (am (bI (us:=[N t 0,N u 0,N z 0]) u91 Z bL Z (m.q 2 Z Z)) Z (bk (bl (i:=1) (us:=[N t 0,N u 0,N z 0]) Z bL Z Z Z ⟨Z,Z,Z,V⟩ Z m) ?_))))
 intro w m
 refine H (O (aw ?_))
 cases h
 obtain ⟨hS0,hR⟩:=hZ.outT hTT e f m
 exact eN Z ⟨_,Z,bJ (us:=[N t 0,N u 0,N z 0]) u91 Z bL (m.q 1 Z Z)⟩ ⟨t,a6,u,a7,z,a9,Z,hS0,(Y (hR.b 24 Z) (Y (hR.b 23 Z) (Y (hR.b 22 Z) (Y (hR.b 21 Z) (Y (hR.b 20 Z) (Y (hR.b 19 Z) Q.nil))))))⟩
end Go.Proofs
