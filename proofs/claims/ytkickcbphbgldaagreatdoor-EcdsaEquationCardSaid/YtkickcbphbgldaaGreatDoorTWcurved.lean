import Derived.Test.YtkickcbphbgldaaGreatDoorTW0
import Derived.Test.YtkickcbphbgldaaGreatDoorGkFman
import Derived.Test.YtkickcbphbgldaaGreatDoorTWbignumc
import Derived.Test.YtkickcbphbgldaaGreatDoorTWcurvec
import Derived.Test.YtkickcbphbgldaaGreatDoorTWnatb
set_option linter.unusedVariables false
set_option linter.unusedSimpArgs false
set_option linter.unusedSectionVars false
set_option maxRecDepth 4000
namespace Go.Proofs
open Go Go.RowKit Go.Gk
open Go.Gk renaming Off → O, Rds → Q, aa → P, ae → M, ah → I, ai → H, e32 → U, own → K, pB → N, vB → J
open Nat renaming le_of_ble_eq_true → R
open Go.Gk.OE renaming bx → W
open Go.Gk.Off renaming cons → X
open Go.Gk.Rds renaming cons → Y
theorem l8 {f:World} {g:List UInt32} {a1:List UInt8} {c d:Value} {j:Nat} {S:List Nat} (b:Bool) {r:List UInt8}
  (h:F.CV b g a1=some r) (a:St S f f [K e8 d a1]) (l:RP S f U c g) (hBa0:RB S f j [J b,c]):Calls Tryz.prog 94 #[N j 0,d] f (Ret fun v w=>∃u0:Value,v=u0∧St S f w [K e8 u0 r]):=by
 refine aJ 19 Tryz.func94 Z Z Z ?_
 refine au [(0,N j 0),(1,d)] ⟨Z,Z,V⟩ ?_
 unfold F.CV at h
 refine I (af (P 1 Z ?_))
 refine H (M (I (af (P 1 Z ?_))))
 obtain ⟨q,m,h⟩:=aj h
 refine ao Z (io b m (l.d a.fr).rp (hBa0.d a.fr)) Z ?_
 rintro s w p
 have a:=a.f p
 refine P 1 Z ?_
 refine H (M (I (af (P 1 Z ?_))))
 refine Ab (zr (e:=e8) 0 u24 ti5 Z Z Z Z a (i:=1) Z) ?_
 rintro _ w ⟨_,a⟩
 obtain ⟨t,n,h⟩:=aO h
 rw [n]at a
 refine H (M (I (af (P 2 Z ?_))))
 refine am (aN u24 Z (a.ro 1 Z)) Z (P 1 Z ?_)
 refine am (aN u24 Z (a.ro 0 Z)) Z (P 1 Z ?_)
 obtain ⟨u,k,h⟩:=aj h
 refine am (qk u24 ti5 Z Z (a.ro 1 Z) k) Z (P 1 Z ?_)
 refine aP (rv (e:=e8) u24 ti5 Z Z Z a (i:=1) Z (a.ro 0 Z) (gc k).1.2 (Nat.le_refl _)) Z ?_
 rintro v_q w ⟨hv_q,a⟩
 subst v_q
 obtain ⟨x,o,h⟩:=aO h
 rw [o]at a
 refine H (M (I (af (P 2 Z ?_))))
 refine H (M (aw ?_))
 cases h
 exact aF Z Z ⟨d,Z,a.e [1] Z Z⟩
theorem oP {w0:World} {aA aE:List UInt32} {m n:Value} (a0:Int) (ab:Bool) {r:List UInt8×List UInt8×Int}
  (h:F.FC a0 aA aE ab=some r) (aY:RP [] w0 U m aA) (aZ:RP [] w0 U n aE):Calls Tryz.prog 49 #[vI a0,.agg #[m,n,J ab]] w0 (Ret fun v w=>∃u0 u1:Value,v=.tuple #[u0,u1,vI r.2.2]∧St [] w0 w [K e8 u0 r.1,K e8 u1 r.2.1]):=by
 refine aJ 41 Tryz.func49 Z Z Z ?_
 have d:=St.l w0
 have hZ:=Fz.l (S:=[]) (w0:=w0)
 have hTT:TOk [] [] w0:=TOk.nil
 have a:Q [] w0 [red U n aE,red U m aA]:=Y (RP.i (R Z) aZ) (Y (RP.i (R Z) aY) (Q.nil))
 have b:O [] [red U n aE,red U m aA]:=O.emp
 refine au [(0,vI a0),(1,.agg #[m,n,J ab])] ⟨Z,Z,V⟩ ?_
 unfold F.FC at h
 refine I (af (aP (cZ (cs:=[m,n,J ab]) Z Z d) Z ?_))
 rintro _ w ⟨ba,rfl,d⟩
 refine P 3 Z ?_
 refine H (M (I (af (P 1 Z ?_))))
 refine am (bo (us:=[m,n,J ab]) u33 Z bI Z (d.q 0 Z Z)) Z ?_
 replace d:=d.pick (os':=[]++[W ba [m,n,J ab]]) [0] (by decide) rfl
 obtain ⟨hZ,a,b,d⟩:=hZ.frzK hTT a b d
 obtain ⟨aS,a6,h⟩:=aj h
 refine ao Z (en a0 ab a6 (hZ.okT hTT d) (a.j b 0 Z) (a.j b 1 Z)) Z ?_
 rintro v_q w hQ
 cases aF:aS.1 with
 | none=>
  have h:=ea h aF
  rw [aF]at hQ
  obtain ⟨rfl,T⟩:=dD hQ
  obtain ⟨bp,bj,hZ,a,b,d⟩:=hZ.m a b d T Q.nil rfl
  refine P 4 Z ?_
  refine aP (aT (cs:=[.pointer none,.pointer none,.pointer none]) dK Z d) Z ?_
  rintro _ w ⟨bk,rfl,d⟩
  refine P 1 Z ?_
  refine bb (a7 (i:=0) (us:=[.pointer none,.pointer none,.pointer none]) Z bB Z Z Z ⟨Z,Z,Z,V⟩ Z d) ?_
  intro w d
  refine P 1 Z ?_
  refine H (M (I (I (af (P 3 Z ?_)))))
  cases an:(!aS.2)
  case true=>
   have h:=aG h an
   try simp only [an]
   refine P 5 Z ?_
   refine H (M (d7 Z ?_))
   refine I (af (P 3 Z ?_))
   refine H (M (aw (aD ?_)))
   cases h
   replace d:=hZ.st d
   exact ef Z Z Z Z ⟨.slice none 0 0,.slice none 0 0,Z,((d.nil e8).nil e8).e [1,0] Z Z⟩
  case false=>
   have h:=aH h an
   try simp only [an]
   refine bf (t:=19) Z Z (av (k:=2) u91 Z Z cx Z) Z (bf (t:=19) Z Z (aC u73 Z Z (d.r 0 Z 2)) Z ?_)
   cases h
 | some c=>
  have h:=d9 h aF
  rw [aF]at hQ
  obtain ⟨aO,ac,q,ad,s,ag,u,ak,z,al,A,f,B,j,C,l,D,rfl,T,bc⟩:=dC hQ
  obtain ⟨bq,bd,hZ,a,b,d⟩:=hZ.m a b d T bc rfl
  refine P 4 Z ?_
  refine aP (aT (cs:=[.pointer none,.pointer none,.pointer none]) dK Z d) Z ?_
  rintro _ w ⟨aq,rfl,d⟩
  refine P 1 Z ?_
  refine bb (a7 (i:=0) (us:=[N f 0,N j 0,N l 0]) Z bB Z Z Z ⟨Z,Z,Z,V⟩ Z d) ?_
  intro w d
  refine P 1 Z ?_
  refine H (M (I ?_))
  refine a9 (r:=r) (fun (g:Bool) L w=>L=[(7,N aO 0),(8,N aq 0),(24,J g)]∧SfT [] [] w0 w [W l [J c.2.2.2.2.2.2.2.2.2.2.2.2.2.2.2.1,D],red U D c.2.2.2.2.2.2.2.2.2.2.2.2.2.2.2.2,W j [J c.2.2.2.2.2.2.2.2.2.2.2.2.2.1,C],red U C c.2.2.2.2.2.2.2.2.2.2.2.2.2.2.1,W f [J c.2.2.2.2.2.2.2.2.2.2.2.1,B],red U B c.2.2.2.2.2.2.2.2.2.2.2.2.1,W aO [N ac 0,N ad 0,N ag 0,N ak 0,N al 0,vI c.2.2.2.2.2.2.2.2.2.2.1,.func (.func 168) #[] #[]],W al [J c.2.2.2.2.2.2.2.2.1,A],red U A c.2.2.2.2.2.2.2.2.2.1,W ak [J c.2.2.2.2.2.2.1,z],red U z c.2.2.2.2.2.2.2.1,W ag [J c.2.2.2.2.1,u],red U u c.2.2.2.2.2.1,W ad [J c.2.2.1,s],red U s c.2.2.2.1,W ac [J c.1,q],red U q c.2.1] [W aq [N f 0,N j 0,N l 0]]) (F.DP c) ?_ ?_
  rotate_left
  ·intro aQ
   refine af (P 3 Z ?_)
   cases ap:(!aS.2)
   case true=>
    have h:=aG h ap
    try simp only [ap]
    refine P 5 Z ?_
    refine H (M ?_)
    exact au _ (by exact ⟨Z,Z,Z,V⟩) (aQ true _ _ ⟨Z,(SfT.mk' hZ (Y (a.b 18 Z) (Y (a.b 17 Z) (Y (a.b 16 Z) (Y (a.b 15 Z) (Y (a.b 14 Z) (Y (a.b 13 Z) (Y (a.b 12 Z) (Y (a.b 11 Z) (Y (a.b 10 Z) (Y (a.b 9 Z) (Y (a.b 8 Z) (Y (a.b 7 Z) (Y (a.b 6 Z) (Y (a.b 5 Z) (Y (a.b 4 Z) (Y (a.b 3 Z) (Y (a.b 2 Z) Q.nil))))))))))))))))) (X (b.b 18 Z) (X (b.b 17 Z) (X (b.b 16 Z) (X (b.b 15 Z) (X (b.b 14 Z) (X (b.b 13 Z) (X (b.b 12 Z) (X (b.b 11 Z) (X (b.b 10 Z) (X (b.b 9 Z) (X (b.b 8 Z) (X (b.b 7 Z) (X (b.b 6 Z) (X (b.b 5 Z) (X (b.b 4 Z) (X (b.b 3 Z) (X (b.b 2 Z) O.nil))))))))))))))))) (d.e [0] Z Z))⟩ h)
   case false=>
    have h:=aH h ap
    try simp only [ap]
    refine bf (t:=19) Z Z (av (k:=2) u91 Z Z cx Z) Z (bf (t:=19) Z Z (aC u73 Z Z (d.r 0 Z 2)) Z ?_)
    obtain ⟨a8,a1,h⟩:=aj h
    refine cn (t:=19) Z Z (by kernel_rfl) Z (cC c.2.2.2.2.2.2.2.2.2.2.2.2.2.2.2.1 a1 ((a.rp 17 Z).d d.fr).rp ((a.rb 18 Z).d d.fr)) Z ?_
    rintro _ w ⟨rfl,T⟩
    have d:=d.f T
    refine P 2 Z ?_
    refine H (M ?_)
    exact au _ (by exact ⟨Z,Z,Z,V⟩) (aQ (a8 == 0) _ _ ⟨Z,(SfT.mk' hZ (Y (a.b 18 Z) (Y (a.b 17 Z) (Y (a.b 16 Z) (Y (a.b 15 Z) (Y (a.b 14 Z) (Y (a.b 13 Z) (Y (a.b 12 Z) (Y (a.b 11 Z) (Y (a.b 10 Z) (Y (a.b 9 Z) (Y (a.b 8 Z) (Y (a.b 7 Z) (Y (a.b 6 Z) (Y (a.b 5 Z) (Y (a.b 4 Z) (Y (a.b 3 Z) (Y (a.b 2 Z) Q.nil))))))))))))))))) (X (b.b 18 Z) (X (b.b 17 Z) (X (b.b 16 Z) (X (b.b 15 Z) (X (b.b 14 Z) (X (b.b 13 Z) (X (b.b 12 Z) (X (b.b 11 Z) (X (b.b 10 Z) (X (b.b 9 Z) (X (b.b 8 Z) (X (b.b 7 Z) (X (b.b 6 Z) (X (b.b 5 Z) (X (b.b 4 Z) (X (b.b 3 Z) (X (b.b 2 Z) O.nil))))))))))))))))) (d.e [0] Z Z))⟩ h)
  rintro bl L w hJ h
  try dsimp only at hJ
  obtain ⟨rfl,⟨bm,be,hZ,a,b,d⟩⟩:=hJ
  unfold F.DP at h
  refine ax Z (fun aI=>?_) (fun aI=>?_)
  ·have h:=aG h aI
   refine I (af (P 3 Z ?_))
   refine H (M (aw (aD ?_)))
   cases h
   replace d:=hZ.st d
   exact ef Z Z Z Z ⟨.slice none 0 0,.slice none 0 0,Z,((d.nil e8).nil e8).e [1,0] Z Z⟩
  have h:=aH h aI
  refine az (M (I ?_))
  obtain ⟨aL,a2,h⟩:=aj h
  obtain ⟨aU,a3,h⟩:=aj h
  obtain ⟨aM,a4,h⟩:=aj h
  obtain ⟨aV,a5,h⟩:=aj h
  refine fq (es:=[W l [J c.2.2.2.2.2.2.2.2.2.2.2.2.2.2.2.1,D],red U D c.2.2.2.2.2.2.2.2.2.2.2.2.2.2.2.2,W j [J c.2.2.2.2.2.2.2.2.2.2.2.2.2.1,C],red U C c.2.2.2.2.2.2.2.2.2.2.2.2.2.2.1,W f [J c.2.2.2.2.2.2.2.2.2.2.2.1,B],red U B c.2.2.2.2.2.2.2.2.2.2.2.2.1,W aO [N ac 0,N ad 0,N ag 0,N ak 0,N al 0,vI c.2.2.2.2.2.2.2.2.2.2.1,.func (.func 168) #[] #[]],W al [J c.2.2.2.2.2.2.2.2.1,A],red U A c.2.2.2.2.2.2.2.2.2.1,W ak [J c.2.2.2.2.2.2.1,z],red U z c.2.2.2.2.2.2.2.1,W ag [J c.2.2.2.2.1,u],red U u c.2.2.2.2.2.1,W ad [J c.2.2.1,s],red U s c.2.2.2.1,W ac [J c.1,q],red U q c.2.1]) (os:=[W aq [N f 0,N j 0,N l 0]]) (fun i=>[6,7,14,15].contains i) (fun i=>if i=6 then some 7 else if i=14 then some 15 else none) (fun i=>[]) (fun i=>[]) (fun i=>[]) (fun i=>[]) (fun i=>if i=6 then (fun h v x y=>∃o:Value,v=o∧x=[K e8 o aL]∧y=[]) else if i=7 then (fun h v x y=>∃E:Value,v=E∧x=[K e8 E aU]∧y=[]) else if i=14 then (fun h v x y=>∃p:Value,v=p∧x=[K e8 p aM]∧y=[]) else (fun h v x y=>∃G:Value,v=G∧x=[K e8 G aV]∧y=[])) (SfT.mk' hZ a b d) (fun k hk=>rfl) hTT rfl (fun i=>(dH (by rintro h v x y ⟨_,rfl,rfl,rfl⟩; exact cM rfl) (dH (by rintro h v x y ⟨_,rfl,rfl,rfl⟩; exact cM rfl) (dH (by rintro h v x y ⟨_,rfl,rfl,rfl⟩; exact cM rfl) (by rintro h v x y ⟨_,rfl,rfl,rfl⟩; exact cM rfl))))) bS (by kernel_rfl) (by kernel_rfl) ?_
  show fv _ _ _ _ _ _ _ _ _ _ _ _ _ _ _ _ [0,1,2,3,4,5,6,7,8,9,10,11,12,13,14,15,16,17,18] _ _
  refine bu Z Z (fun w Sb wb hZ a b hF=>av (k:=0) u91 Z Z cx Z) Z (bu Z Z (fun w Sb wb hZ a b hF=>aC u73 Z Z (hF.r 0 Z 0)) Z (bu Z Z (fun w Sb wb hZ a b hF=>ar Z) Z (bu Z Z (fun w Sb wb hZ a b hF=>aK Z) Z (bu Z Z (fun w Sb wb hZ a b hF=>av (k:=5) u76 Z Z nz3 Z) Z (bu Z Z (fun w Sb wb hZ a b hF=>aC Tryz.underlying3 Z Z ((a.rb 10 Z).cell hF.fr 5 Z)) Z ?_)))))
  refine gO (fun h v x y=>∃o:Value,v=o∧x=[K e8 o aL]∧y=[]) [] [] [] _ Z Z (fun h v x y=>Z) Z Z Z Z ⟨_,_,_,undef,Z,Z,Z⟩ (fun w Sl Tl hZ hTT a b d=>?_) Z ?_
  ·refine ms (de (e:=e8) u24 ti5 Z Z Z d a2) ?_
   rintro o w d
   exact ⟨_,_,⟨o,Z,Z,Z⟩,SfT.mk' hZ Q.nil O.nil d⟩
  rintro o x_q y_q ⟨_,rfl,rfl,rfl⟩
  refine dE (fun h v x y=>∃E:Value,v=E∧x=[K e8 E aU]∧y=[]) [] [K e8 o aL] [] _ Z Z (fun h v x y=>Z) Z Z Z Z ⟨_,_,_,undef,Z,Z,Z⟩ (by kernel_rfl) Z (fun w Sl Tl hZ hTT a b d=>?_) Z ?_
  ·have hG:=d.pick (os':=[K e8 o aL]++[W aq [N f 0,N j 0,N l 0]]) [0,1] (by decide) Z
   refine dh (l8 c.2.2.2.2.2.2.2.2.2.2.2.1 a3 hG.g ((a.rp 11 Z).g (R Z) hG) ((a.rb 12 Z).g hG)) ?_
   rintro E w ⟨bg,aW,T⟩
   rw [←aW]at T
   have d:=hG.h T
   exact ⟨_,_,⟨E,Z,Z,Z⟩,SfT.mk' hZ Q.nil O.nil d⟩
  rintro E x_q y_q ⟨_,rfl,rfl,rfl⟩
  refine bu Z Z (fun w Sb wb hZ a b hF=>av (k:=1) u91 Z Z cx Z) Z (bu Z Z (fun w Sb wb hZ a b hF=>aC u73 Z Z (hF.r 0 Z 1)) Z (bu Z Z (fun w Sb wb hZ a b hF=>ar Z) Z (bu Z Z (fun w Sb wb hZ a b hF=>aK Z) Z (bu Z Z (fun w Sb wb hZ a b hF=>av (k:=5) u76 Z Z nz3 Z) Z (bu Z Z (fun w Sb wb hZ a b hF=>aC Tryz.underlying3 Z Z ((a.rb 10 Z).cell hF.fr 5 Z)) Z ?_)))))
  refine gO (fun h v x y=>∃p:Value,v=p∧x=[K e8 p aM]∧y=[]) [] [] [] _ Z Z (fun h v x y=>Z) Z Z Z Z ⟨_,_,_,undef,Z,Z,Z⟩ (fun w Sl Tl hZ hTT a b d=>?_) Z ?_
  ·refine ms (de (e:=e8) u24 ti5 Z Z Z d a4) ?_
   rintro p w d
   exact ⟨_,_,⟨p,Z,Z,Z⟩,SfT.mk' hZ Q.nil O.nil d⟩
  rintro p x_q y_q ⟨_,rfl,rfl,rfl⟩
  refine dE (fun h v x y=>∃G:Value,v=G∧x=[K e8 G aV]∧y=[]) [] [K e8 p aM] [] _ Z Z (fun h v x y=>Z) Z Z Z Z ⟨_,_,_,undef,Z,Z,Z⟩ (by kernel_rfl) Z (fun w Sl Tl hZ hTT a b d=>?_) Z ?_
  ·have hG:=d.pick (os':=[K e8 p aM]++[W aq [N f 0,N j 0,N l 0]]) [0,1] (by decide) Z
   refine dh (l8 c.2.2.2.2.2.2.2.2.2.2.2.2.2.1 a5 hG.g ((a.rp 13 Z).g (R Z) hG) ((a.rb 14 Z).g hG)) ?_
   rintro G w ⟨bh,aX,T⟩
   rw [←aX]at T
   have d:=hG.h T
   exact ⟨_,_,⟨G,Z,Z,Z⟩,SfT.mk' hZ Q.nil O.nil d⟩
  rintro G x_q y_q ⟨_,rfl,rfl,rfl⟩
  refine bu Z Z (fun w Sb wb hZ a b hF=>aB Z) Z (bu Z Z (fun w Sb wb hZ a b hF=>aB Z) Z (bu Z Z (fun w Sb wb hZ a b hF=>aB Z) Z (gN fun w hQ=>?_)))
  obtain ⟨bn,bi,hZ,a,b,d⟩:=hQ
  refine M (aw ?_)
  cases h
  replace d:=hZ.st d
  exact ef Z Z Z Z ⟨E,G,Z,d.e [0,1] Z Z⟩
theorem ke {q:World} {a1 a2:List UInt8} {n o:Value} (a0:Int) {r:List UInt32×List UInt32×Bool×Int}
  (h:F.DW a0 a1 a2=some r) (aI:RP [] q e8 n a1) (aL:RP [] q e8 o a2):Calls Tryz.prog 34 #[vI a0,n,o] q (Ret fun v w=>∃D E:Value,v=.tuple #[.agg #[D,E,J r.2.2.1],vI r.2.2.2]∧St [] q w [K U D r.1,K U E r.2.1]):=by
 refine aJ 48 Tryz.func34 Z Z Z ?_
 have a:=St.l q
 have hZ:=Fz.l (S:=[]) (w0:=q)
 have hTT:TOk [] [] q:=TOk.nil
 have b:Q [] q [red e8 o a2,red e8 n a1]:=Y (RP.i (R Z) aL) (Y (RP.i (R Z) aI) (Q.nil))
 have d:O [] [red e8 o a2,red e8 n a1]:=O.emp
 refine au [(0,vI a0),(1,n),(2,o)] ⟨Z,Z,Z,V⟩ ?_
 unfold F.DW at h
 refine I (af (aP (aT (cs:=[.slice none 0 0,.slice none 0 0,J false]) fu Z a) Z ?_))
 rintro _ w ⟨s,rfl,a⟩
 refine P 1 Z ?_
 refine H (M (I (af (P 1 Z ?_))))
 replace a:=a.pick (os':=[]++[W s [.slice none 0 0,.slice none 0 0,J false]]) [0] (by decide) rfl
 obtain ⟨hZ,b,d,a⟩:=hZ.frzK hTT b d a
 obtain ⟨aM,an,h⟩:=aj h
 refine ao Z (gF a0 an (hZ.okT hTT a)) Z ?_
 rintro v_q w hQ
 cases u:aM with
 | none=>
  have h:=ea h u
  rw [u]at hQ
  obtain ⟨rfl,c⟩:=dD hQ
  obtain ⟨ba,aZ,hZ,b,d,a⟩:=hZ.m b d a c Q.nil rfl
  refine P 1 Z ?_
  refine H (M (I (I (af (P 1 Z ?_)))))
  refine am (aq Z Z (qA u71)) Z (P 29 Z ?_)
  refine H (M (d7 Z ?_))
  refine I (af (am (bN (vs:=[]) (cells:=[.slice none 0 0,.slice none 0 0,J false]) Z dU V Z) Z (bb (a7 (i:=0) (us:=[.slice none 0 0,.slice none 0 0,J false]) Z bI Z Z Z ⟨Z,Z,Z,V⟩ Z a) ?_)))
  intro w a
  refine P 1 Z ?_
  refine H (M (aw (aD ?_)))
  cases h
  replace a:=hZ.st a
  exact dk Z ⟨_,Z,bC (us:=[.slice none 0 0,.slice none 0 0,J false]) u33 Z bI (a.q 0 Z Z)⟩ Z ⟨.slice none 0 0,.slice none 0 0,Z,((a.nil U).nil U).e [1,0] Z Z⟩
 | some j=>
  have h:=d9 h u
  rw [u]at hQ
  obtain ⟨ap,aO,ar,aQ,ay,aR,aA,aS,aB,aU,aE,rfl,c,aV⟩:=dC hQ
  obtain ⟨bc,aW,hZ,b,d,a⟩:=hZ.m b d a c aV rfl
  refine P 1 Z ?_
  refine H (M (I ?_))
  refine a9 (r:=r) (fun (g:Bool) L w=>L=[(1,n),(2,o),(6,N s 0),(41,J g)]∧SfT [] [] q w [red e8 o a2,red e8 n a1] [W s [.slice none 0 0,.slice none 0 0,J false]]) (F.Dj a1 a2) ?_ ?_
  rotate_left
  ·intro x
   refine af (P 1 Z ?_)
   refine am (aq Z Z (rx u71 ap 0)) Z (P 2 Z ?_)
   refine bf (t:=13) Z Z (aN u24 Z ((b.rp 0 Z).d a.fr)) Z (P 1 Z ?_)
   refine bf (t:=13) Z Z (aK Z) Z (bf (t:=13) Z Z (av (k:=5) u76 Z Z nz3 Z) Z (bf (t:=13) Z Z (aC Tryz.underlying3 Z Z ((b.rb 12 Z).cell a.fr 5 Z)) Z (P 3 Z ?_)))
   cases l:((a1.length:Int) != j.2.2.2.2.2.2.2.2.2.2)
   case true=>
    have h:=aG h l
    try simp only [l]
    refine P 19 Z ?_
    refine H (M ?_)
    exact au _ (by exact ⟨Z,Z,Z,Z,V⟩) (x true _ _ ⟨Z,(SfT.mk' hZ (Y (b.b 1 Z) (Y (b.b 0 Z) Q.nil)) (X (d.b 1 Z) (X (d.b 0 Z) O.nil)) a)⟩ h)
   case false=>
    have h:=aH h l
    try simp only [l]
    refine P 1 Z ?_
    refine bf (t:=22) Z Z (aN u24 Z ((b.rp 1 Z).d a.fr)) Z (P 1 Z ?_)
    refine bf (t:=22) Z Z (aK Z) Z (bf (t:=22) Z Z (av (k:=5) u76 Z Z nz3 Z) Z (bf (t:=22) Z Z (aC Tryz.underlying3 Z Z ((b.rb 12 Z).cell a.fr 5 Z)) Z (P 3 Z ?_)))
    cases m:((a2.length:Int) != j.2.2.2.2.2.2.2.2.2.2)
    case true=>
     have h:=aG h m
     try simp only [m]
     refine P 10 Z ?_
     refine H (M ?_)
     exact au _ (by exact ⟨Z,Z,Z,Z,V⟩) (x true _ _ ⟨Z,(SfT.mk' hZ (Y (b.b 1 Z) (Y (b.b 0 Z) Q.nil)) (X (d.b 1 Z) (X (d.b 0 Z) O.nil)) a)⟩ h)
    case false=>
     have h:=aH h m
     try simp only [m]
     refine P 1 Z ?_
     refine n9 (t:=31) Z Z (aT (cs:=[J false,.slice none 0 0]) c6 Z a) Z ?_
     rintro _ w ⟨A,rfl,a⟩
     refine P 1 Z ?_
     replace a:=a.nil U
     have B:=a.pick (os':=[W A [J false,.slice none 0 0],K U (.slice none 0 0) []]++[W s [.slice none 0 0,.slice none 0 0,J false]]) [1,0,2] (by decide) Z
     obtain ⟨p,ac,h⟩:=aj h
     refine cn (t:=31) Z Z (by kernel_rfl) Z (eO false ac B.g ((b.rp 0 Z).g (R Z) B)) Z ?_
     rintro _ w ⟨y,rfl,c⟩
     have a:=B.h c
     refine n9 (t:=31) Z Z (aT (cs:=[J false,.slice none 0 0]) c6 Z a) Z ?_
     rintro _ w ⟨G,rfl,a⟩
     refine P 1 Z ?_
     replace a:=a.nil U
     have B:=a.pick (os':=[W G [J false,.slice none 0 0],K U (.slice none 0 0) []]++[W A [J p.1,y],K U y p.2,W s [.slice none 0 0,.slice none 0 0,J false]]) [1,0,2,3,4] (by decide) Z
     obtain ⟨C,ad,h⟩:=aj h
     refine cn (t:=31) Z Z (by kernel_rfl) Z (eO false ad B.g ((b.rp 1 Z).g (R Z) B)) Z ?_
     rintro _ w ⟨T,rfl,c⟩
     have a:=B.h c
     obtain ⟨aF,ag,h⟩:=aj h
     refine cn (t:=31) Z Z (by kernel_rfl) Z (jc j.1 j.2.2.1 j.2.2.2.2.1 j.2.2.2.2.2.2.1 j.2.2.2.2.2.2.2.2.1 j.2.2.2.2.2.2.2.2.2.2 p.1 C.1 ag ((b.rp 2 Z).d a.fr).rp ((b.rb 3 Z).d a.fr) ((b.rp 4 Z).d a.fr).rp ((b.rb 5 Z).d a.fr) ((b.rp 6 Z).d a.fr).rp ((b.rb 7 Z).d a.fr) ((b.rp 8 Z).d a.fr).rp ((b.rb 9 Z).d a.fr) ((b.rp 10 Z).d a.fr).rp ((b.rb 11 Z).d a.fr) ((b.rb 12 Z).d a.fr) (a.ro 3 Z).rp (a.rb 2 Z) (a.ro 1 Z).rp (a.rb 0 Z)) Z ?_
     rintro _ w ⟨rfl,c⟩
     have a:=a.f c
     refine P 2 Z ?_
     refine H (M ?_)
     replace a:=a.pick (os':=[W G [J C.1,T],K U T C.2,W A [J p.1,y],K U y p.2]++[W s [.slice none 0 0,.slice none 0 0,J false]]) [0,1,2,3,4] (by decide) rfl
     obtain ⟨a3,aX,hZ,b,d,a⟩:=hZ.frzT hTT b d a
     exact au _ (by exact ⟨Z,Z,Z,Z,V⟩) (x (!aF) _ _ ⟨Z,(SfT.mk' hZ (Y (b.b 1 Z) (Y (b.b 0 Z) Q.nil)) (X (d.b 1 Z) (X (d.b 0 Z) O.nil)) a)⟩ h)
  rintro a4 L w hJ h
  try dsimp only at hJ
  obtain ⟨rfl,⟨a5,aY,hZ,b,d,a⟩⟩:=hJ
  unfold F.Dj at h
  refine ax Z (fun z=>?_) (fun z=>?_)
  ·have h:=aG h z
   refine I (af (am (bN (vs:=[]) (cells:=[.slice none 0 0,.slice none 0 0,J false]) Z dU V Z) Z (bb (a7 (i:=0) (us:=[.slice none 0 0,.slice none 0 0,J false]) Z bI Z Z Z ⟨Z,Z,Z,V⟩ Z a) ?_)))
   intro w a
   refine P 1 Z ?_
   refine H (M (aw (aD ?_)))
   cases h
   replace a:=hZ.st a
   exact dk Z ⟨_,Z,bC (us:=[.slice none 0 0,.slice none 0 0,J false]) u33 Z bI (a.q 0 Z Z)⟩ Z ⟨.slice none 0 0,.slice none 0 0,Z,((a.nil U).nil U).e [1,0] Z Z⟩
  have h:=aH h z
  refine az (M (I (af (P 1 Z ?_))))
  obtain ⟨a6,ak,h⟩:=aj h
  refine ao Z (cV  ak ((b.rp 0 Z).d a.fr).rp) Z ?_
  rintro e w c
  have a:=a.f c
  refine P 1 Z ?_
  obtain ⟨a8,al,h⟩:=aj h
  refine ao Z (cV  al ((b.rp 1 Z).d a.fr).rp) Z ?_
  rintro f w c
  have a:=a.f c
  refine am (bN (vs:=[(0,e,[e]),(1,f,[f])]) (cells:=[e,f,J false]) Z dU ⟨(fC (a.ro 1 Z).one),(fC (a.ro 0 Z).one),V⟩ Z) Z ?_
  refine bb (a7 (i:=2) (us:=[e,f,J false]) Z bI Z Z Z ⟨(a.ro 1 Z).one,(a.ro 0 Z).one,Z,V⟩ Z a) ?_
  intro w a
  refine P 1 Z ?_
  refine H (M (aw ?_))
  cases h
  replace a:=hZ.st a
  exact dk Z ⟨_,Z,bC (us:=[e,f,J false]) u33 Z bI (a.q 2 Z Z)⟩ Z ⟨e,f,Z,a.e [1,0] Z Z⟩
theorem kN {w0:World} {aR aS aV aW aY a5 aZ a0 a1:List UInt32} {A B C D E aD G ab ac:Value} {bc aF aL aM aN aO bd n o p:Nat} {T:List Nat} (ag ak al an ap:Bool) (a4:Int) (a3 ay aA aB:Bool) {r:Bool×List UInt32×Bool×List UInt32×Bool×List UInt32}
  (h:F.DZ ag aR ak aS al aV an aW ap aY a4 a3 a5 ay aZ aA a0 aB a1=some r) (hTT:TOk [] T w0) (bA:RP T w0 U A aR) (bK:RB T w0 aF [J ag,A]) (bD:RP T w0 U B aS) (bL:RB T w0 aL [J ak,B]) (bE:RP T w0 U C aV) (bM:RB T w0 aM [J al,C]) (bF:RP T w0 U D aW) (bN:RB T w0 aN [J an,D]) (bG:RP T w0 U E aY) (bO:RB T w0 aO [J ap,E]) (hBa0:RB T w0 bc [N aF 0,N aL 0,N aM 0,N aN 0,N aO 0,vI a4,.func (.func 168) #[] #[]]) (b3:RP T w0 U aD a5) (hBa1:RB T w0 bd [J a3,aD]) (bH:RP T w0 U G aZ) (bP:RB T w0 n [J ay,G]) (bI:RP T w0 U ab a0) (bQ:RB T w0 o [J aA,ab]) (bJ:RP T w0 U ac a1) (bR:RB T w0 p [J aB,ac]):Calls Tryz.prog 74 #[N bc 0,N bd 0,.agg #[N n 0,N o 0,N p 0]] w0 (Ret fun v w=>∃bT:Nat,∃bq:Value,∃bU:Nat,∃br:Value,∃bV:Nat,∃bs:Value,v=.agg #[N bT 0,N bU 0,N bV 0]∧St [] w0 w []∧Q T w [W bV [J r.2.2.2.2.1,bs],red U bs r.2.2.2.2.2,W bU [J r.2.2.1,br],red U br r.2.2.2.1,W bT [J r.1,bq],red U bq r.2.1]):=by
 refine aJ 30 Tryz.func74 Z Z Z ?_
 have m:=St.l w0
 have hZ:=Fz.l (S:=[]) (w0:=w0)
 have hA0:Q T w0 [W p [J aB,ac],red U ac a1,W o [J aA,ab],red U ab a0,W n [J ay,G],red U G aZ,W bd [J a3,aD],red U aD a5,W bc [N aF 0,N aL 0,N aM 0,N aN 0,N aO 0,vI a4,.func (.func 168) #[] #[]],W aO [J ap,E],red U E aY,W aN [J an,D],red U D aW,W aM [J al,C],red U C aV,W aL [J ak,B],red U B aS,W aF [J ag,A],red U A aR]:=Y bR.i (Y (RP.i (R Z) bJ) (Y bQ.i (Y (RP.i (R Z) bI) (Y bP.i (Y (RP.i (R Z) bH) (Y hBa1.i (Y (RP.i (R Z) b3) (Y hBa0.i (Y bO.i (Y (RP.i (R Z) bG) (Y bN.i (Y (RP.i (R Z) bF) (Y bM.i (Y (RP.i (R Z) bE) (Y bL.i (Y (RP.i (R Z) bD) (Y bK.i (Y (RP.i (R Z) bA) (Q.nil)))))))))))))))))))
 have e:=hA0.all
 have f:=hA0.off Z
 refine au [(0,N bc 0),(1,N bd 0),(2,.agg #[N n 0,N o 0,N p 0])] ⟨Z,Z,Z,V⟩ ?_
 unfold F.DZ at h
 refine I (af (aP (cZ (cs:=[N n 0,N o 0,N p 0]) Z Z m) Z ?_))
 rintro _ w ⟨be,rfl,m⟩
 refine aP (aT (cs:=[.pointer none,.pointer none,.pointer none]) dK Z m) Z ?_
 rintro _ w ⟨bf,rfl,m⟩
 refine H (M (I (af ?_)))
 obtain ⟨a2,b8,h⟩:=aj h
 refine ao Z (ek  b8 ) Z ?_
 rintro _ w ⟨bW,bX,bt,bj,bl,bm,rfl,bi⟩
 have m:=m.f bi
 refine aP (aT (cs:=[.pointer none,.pointer none,.pointer none]) dK Z m) Z ?_
 rintro _ w ⟨aQ,rfl,m⟩
 refine bb (a7 (i:=0) (us:=[N bj 0,N bl 0,N bm 0]) Z bB Z Z Z ⟨Z,Z,Z,V⟩ Z m) ?_
 intro w m
 refine H (M (I (I (af (P 1 Z ?_)))))
 obtain ⟨bY,b4,h⟩:=aj h
 refine ao Z (ft a3 b4 ((e.rp 11 Z).d m.fr).rp ((e.rb 12 Z).d m.fr)) Z ?_
 rintro _ w ⟨rfl,bi⟩
 have m:=m.f bi
 refine P 2 Z ?_
 refine H (M (aE ?_))
 replace m:=m.pick (os':=[W bj [J a2.1,bW],K U bW a2.2.1,W bl [J a2.2.2.1,bX],K U bX a2.2.2.2.1,W bm [J a2.2.2.2.2.1,bt],K U bt a2.2.2.2.2.2]++[W aQ [N bj 0,N bl 0,N bm 0],W bf [.pointer none,.pointer none,.pointer none],W be [N n 0,N o 0,N p 0]]) [1,2,3,4,5,6,0,7,8] (by decide) rfl
 obtain ⟨ch,cd,hZ,e,f,m⟩:=hZ.frzT hTT e f m
 refine au [(0,N bc 0),(1,N bd 0),(5,N be 0),(6,N bf 0),(7,N aQ 0),(8,vI (wI (bY - 1)))] ⟨Z,Z,Z,Z,Z,Z,V⟩ ?_
 refine bk (F.Dy ag aR ak aS al aV an aW ap aY a4 a3 a5 ay aZ aA a0 aB a1) (fun (s:Int×Bool×List UInt32×Bool×List UInt32×Bool×List UInt32) L w=>∃(t:Nat) (a6:Value) (u:Nat) (a8:Value) (z:Nat) (a9:Value),L=[(0,N bc 0),(1,N bd 0),(5,N be 0),(6,N bf 0),(7,N aQ 0),(8,vI s.1)]∧SfT [] T w0 w [W z [J s.2.2.2.2.2.1,a9],red U a9 s.2.2.2.2.2.2,W u [J s.2.2.2.1,a8],red U a8 s.2.2.2.2.1,W t [J s.2.1,a6],red U a6 s.2.2.1,W p [J aB,ac],red U ac a1,W o [J aA,ab],red U ab a0,W n [J ay,G],red U G aZ,W bd [J a3,aD],red U aD a5,W bc [N aF 0,N aL 0,N aM 0,N aN 0,N aO 0,vI a4,.func (.func 168) #[] #[]],W aO [J ap,E],red U E aY,W aN [J an,D],red U D aW,W aM [J al,C],red U C aV,W aL [J ak,B],red U B aS,W aF [J ag,A],red U A aR] [W be [N n 0,N o 0,N p 0],W bf [.pointer none,.pointer none,.pointer none],W aQ [N t 0,N u 0,N z 0]]) ?_ (wI (bY - 1),a2.1,a2.2.1,a2.2.2.1,a2.2.2.2.1,a2.2.2.2.2.1,a2.2.2.2.2.2) ⟨bj,bW,bl,bX,bm,bt,Z,(SfT.mk' hZ (Y (e.b 20 Z) (Y (e.b 19 Z) (Y (e.b 22 Z) (Y (e.b 21 Z) (Y (e.b 24 Z) (Y (e.b 23 Z) (Y (e.b 18 Z) (Y (e.b 17 Z) (Y (e.b 16 Z) (Y (e.b 15 Z) (Y (e.b 14 Z) (Y (e.b 13 Z) (Y (e.b 12 Z) (Y (e.b 11 Z) (Y (e.b 10 Z) (Y (e.b 9 Z) (Y (e.b 8 Z) (Y (e.b 7 Z) (Y (e.b 6 Z) (Y (e.b 5 Z) (Y (e.b 4 Z) (Y (e.b 3 Z) (Y (e.b 2 Z) (Y (e.b 1 Z) (Y (e.b 0 Z) Q.nil))))))))))))))))))))))))) (X (f.b 20 Z) (X (f.b 19 Z) (X (f.b 22 Z) (X (f.b 21 Z) (X (f.b 24 Z) (X (f.b 23 Z) (X (f.b 18 Z) (X (f.b 17 Z) (X (f.b 16 Z) (X (f.b 15 Z) (X (f.b 14 Z) (X (f.b 13 Z) (X (f.b 12 Z) (X (f.b 11 Z) (X (f.b 10 Z) (X (f.b 9 Z) (X (f.b 8 Z) (X (f.b 7 Z) (X (f.b 6 Z) (X (f.b 5 Z) (X (f.b 4 Z) (X (f.b 3 Z) (X (f.b 2 Z) (X (f.b 1 Z) (X (f.b 0 Z) O.nil))))))))))))))))))))))))) (m.e [2,1,0] Z Z))⟩ h
 rintro ci ⟨bZ,b0,b9,b1,ca,b2,cb⟩ L w cj hI b5 h bw
 try dsimp only at hI
 obtain ⟨t,a6,u,a8,z,a9,rfl,⟨ck,ce,hZ,e,f,m⟩⟩:=hI
 unfold F.Dy at h
 refine I (I (af (P 2 Z ?_)))
 refine H (M ?_)
 refine ax Z (fun bn=>?_) (fun bn=>?_)
 ·have h:=aG h bn
  refine az (M (I (aE ?_)))
  obtain ⟨bp,b6,h⟩:=aj h
  obtain ⟨a,b7,h⟩:=aj h
  refine fq (es:=[W z [J b2,a9],red U a9 cb,W u [J b1,a8],red U a8 ca,W t [J b0,a6],red U a6 b9,W p [J aB,ac],red U ac a1,W o [J aA,ab],red U ab a0,W n [J ay,G],red U G aZ,W bd [J a3,aD],red U aD a5,W bc [N aF 0,N aL 0,N aM 0,N aN 0,N aO 0,vI a4,.func (.func 168) #[] #[]],W aO [J ap,E],red U E aY,W aN [J an,D],red U D aW,W aM [J al,C],red U C aV,W aL [J ak,B],red U B aS,W aF [J ag,A],red U A aR]) (os:=[W be [N n 0,N o 0,N p 0],W bf [.pointer none,.pointer none,.pointer none]]) (fun i=>[5,8,11,12].contains i) (fun i=>none) (fun i=>if i=12 then [11] else []) (fun i=>if i=12 then [W aQ [N t 0,N u 0,N z 0]] else []) (fun i=>if i=5 then [12] else []) (fun i=>if i=12 then [11] else []) (fun i=>if i=5 then (fun h v x y=>v=.agg #[N t 0,N u 0,N z 0]∧x=[]∧y=[]) else if i=8 then (fun h v x y=>v=v64 bp∧x=[]∧y=[]) else if i=11 then (fun h v x y=>∃g:Nat,∃j:Nat,∃l:Nat,∃b:Value,∃c:Value,∃d:Value,v=.agg #[N g 0,N j 0,N l 0]∧x=[]∧y=[red U b a.2.1,W g [J a.1,b],red U c a.2.2.2.1,W j [J a.2.2.1,c],red U d a.2.2.2.2.2,W l [J a.2.2.2.2.1,d]]) else (fun h v x y=>∃g:Nat,∃j:Nat,∃l:Nat,∃b:Value,∃c:Value,∃d:Value,h=[(.agg #[N g 0,N j 0,N l 0],[],[red U b a.2.1,W g [J a.1,b],red U c a.2.2.2.1,W j [J a.2.2.1,c],red U d a.2.2.2.2.2,W l [J a.2.2.2.2.1,d]])]∧v=undef∧x=[W aQ [N g 0,N j 0,N l 0]]∧y=[red U b a.2.1,W g [J a.1,b],red U c a.2.2.2.1,W j [J a.2.2.1,c],red U d a.2.2.2.2.2,W l [J a.2.2.2.2.1,d]])) (SfT.mk' hZ e f (m.pick (os':=[W aQ [N t 0,N u 0,N z 0],W be [N n 0,N o 0,N p 0],W bf [.pointer none,.pointer none,.pointer none]]) [2,0,1] (by decide) rfl)) (fun k hk=>(if_neg (fun q=>by subst q; exact absurd hk (by decide)))) hTT rfl (fun i=>(dH (by rintro h v x y ⟨rfl,rfl,rfl⟩; exact cM rfl) (dH (by rintro h v x y ⟨rfl,rfl,rfl⟩; exact cM rfl) (dH (by rintro h v x y ⟨_,_,_,_,_,_,rfl,rfl,rfl⟩; exact cM rfl) (by rintro h v x y ⟨_,_,_,_,_,_,_,rfl,rfl,rfl⟩; exact cM rfl))))) bS (by kernel_rfl) (by kernel_rfl) ?_
  show fv _ _ _ _ _ _ _ _ _ _ _ _ _ _ _ _ [0,1,2,3,4,5,6,7,8,9,10,11,12] _ _
  refine bu Z Z (fun w Sb wb hZ e f hF=>ar Z) Z (bu Z Z (fun w Sb wb hZ e f hF=>aK Z) Z (bu Z Z (fun w Sb wb hZ e f hF=>av (k:=6) u76 Z Z Am Z) Z (bu Z Z (fun w Sb wb hZ e f hF=>aC Tryz.underlying74 Z Z ((e.rb 10 Z).cell hF.fr 6 Z)) Z (bu Z Z (fun w Sb wb hZ e f hF=>ar Z) Z ?_))))
  refine gO (fun h v x y=>v=.agg #[N t 0,N u 0,N z 0]∧x=[]∧y=[]) [] [] [] [W aQ [N t 0,N u 0,N z 0],W be [N n 0,N o 0,N p 0],W bf [.pointer none,.pointer none,.pointer none]] Z Z (fun h v x y=>Z) Z Z Z Z ⟨_,_,_,Z,Z,Z⟩ (fun w Sl Tl hZ hTT e f m=>?_) Z ?_
  ·exact yL (bo (us:=[N t 0,N u 0,N z 0]) u91 Z bB Z (m.q 0 Z Z)) ⟨_,_,⟨Z,Z,Z⟩,SfT.mk' hZ Q.nil O.nil m⟩
  rintro v_q x_q y_q ⟨rfl,rfl,rfl⟩
  refine bu Z Z (fun w Sb wb hZ e f hF=>ar Z) Z (bu Z Z (fun w Sb wb hZ e f hF=>ar Z) Z ?_)
  refine dE (fun h v x y=>v=v64 bp∧x=[]∧y=[]) [] [] [] _ Z Z (fun h v x y=>Z) Z Z Z Z ⟨_,_,_,Z,Z,Z⟩ (by kernel_rfl) Z (fun w Sl Tl hZ hTT e f m=>?_) Z ?_
  ·refine dh (ge a3 bZ b6 ((e.rp 11 Z).d m.fr).rp ((e.rb 12 Z).d m.fr)) ?_
   rintro _ w ⟨rfl,bi⟩
   have m:=m.f bi
   exact ⟨_,_,⟨Z,Z,Z⟩,SfT.mk' hZ Q.nil O.nil m⟩
  rintro v_q x_q y_q ⟨rfl,rfl,rfl⟩
  refine bu Z Z (fun w Sb wb hZ e f hF=>aq Z Z (oN _ bp 1)) Z (bu Z Z (fun w Sb wb hZ e f hF=>bo (us:=[N n 0,N o 0,N p 0]) u91 Z bB Z (hF.q 0 Z Z)) Z ?_)
  refine oJ (fun h v x y=>∃g:Nat,∃j:Nat,∃l:Nat,∃b:Value,∃c:Value,∃d:Value,v=.agg #[N g 0,N j 0,N l 0]∧x=[]∧y=[red U b a.2.1,W g [J a.1,b],red U c a.2.2.2.1,W j [J a.2.2.1,c],red U d a.2.2.2.2.2,W l [J a.2.2.2.2.1,d]]) [] [] [] _ Z Z (fun h v x y=>Z) Z Z Z Z ⟨_,_,_,0,0,0,undef,undef,undef,Z,Z,Z⟩ Z (by kernel_rfl) Z (fun w Sl Tl hZ hTT e f m=>?_) Z ?_
  ·replace m:=m.pick (os':=[]++[W be [N n 0,N o 0,N p 0],W bf [.pointer none,.pointer none,.pointer none]]) [0,1] (by decide) rfl
   obtain ⟨hZ,e,f,m⟩:=hZ.frzK hTT e f m
   refine dh (l9 ag ak al an ap a4 b0 b1 b2 (bp == 1) ay aA aB b7 (hZ.okT hTT m) (e.j f 0 Z) (e.k f 1 Z) (e.j f 2 Z) (e.k f 3 Z) (e.j f 4 Z) (e.k f 5 Z) (e.j f 6 Z) (e.k f 7 Z) (e.j f 8 Z) (e.k f 9 Z) (e.k f 10 Z) (e.j f 19 Z) (e.k f 20 Z) (e.j f 21 Z) (e.k f 22 Z) (e.j f 23 Z) (e.k f 24 Z) (e.j f 13 Z) (e.k f 14 Z) (e.j f 15 Z) (e.k f 16 Z) (e.j f 17 Z) (e.k f 18 Z)) ?_
   rintro _ w ⟨g,b,j,c,l,d,rfl,bi,cc⟩
   obtain ⟨cl,cf,hZ,e,f,m⟩:=hZ.m e f m bi cc rfl
   exact ⟨_,_,⟨g,j,l,b,c,d,Z,Z,Z⟩,SfT.mk' hZ (Y (e.b 25 Z) (Y (e.b 26 Z) (Y (e.b 27 Z) (Y (e.b 28 Z) (Y (e.b 29 Z) (Y (e.b 30 Z) Q.nil)))))) (X (f.b 25 Z) (X (f.b 26 Z) (X (f.b 27 Z) (X (f.b 28 Z) (X (f.b 29 Z) (X (f.b 30 Z) O.nil)))))) m⟩
  rintro v_q x_q y_q ⟨g,j,l,b,c,d,rfl,rfl,rfl⟩
  refine ow (fun h v x y=>∃g:Nat,∃j:Nat,∃l:Nat,∃b:Value,∃c:Value,∃d:Value,h=[(.agg #[N g 0,N j 0,N l 0],[],[red U b a.2.1,W g [J a.1,b],red U c a.2.2.2.1,W j [J a.2.2.1,c],red U d a.2.2.2.2.2,W l [J a.2.2.2.2.1,d]])]∧v=undef∧x=[W aQ [N g 0,N j 0,N l 0]]∧y=[red U b a.2.1,W g [J a.1,b],red U c a.2.2.2.1,W j [J a.2.2.1,c],red U d a.2.2.2.2.2,W l [J a.2.2.2.2.1,d]]) [(.agg #[N g 0,N j 0,N l 0],[],[red U b a.2.1,W g [J a.1,b],red U c a.2.2.2.1,W j [J a.2.2.1,c],red U d a.2.2.2.2.2,W l [J a.2.2.2.2.1,d]])] [W aQ [N t 0,N u 0,N z 0]] [red U b a.2.1,W g [J a.1,b],red U c a.2.2.2.1,W j [J a.2.2.1,c],red U d a.2.2.2.2.2,W l [J a.2.2.2.2.1,d]] _ Z Z (fun h v x y=>Z) Z Z Z Z ⟨_,_,_,g,j,l,b,c,d,Z,Z,Z,Z⟩ (fun w Sl Tl hZ hTT e f m=>?_) ?_
  ·refine mq (a7 (i:=0) (us:=[N g 0,N j 0,N l 0]) Z bB Z Z Z ⟨Z,Z,Z,V⟩ Z m) ?_
   intro w m
   exact ⟨_,_,⟨g,j,l,b,c,d,Z,Z,Z,Z⟩,SfT.mk' hZ (Y (e.b 30 Z) (Y (e.b 29 Z) (Y (e.b 28 Z) (Y (e.b 27 Z) (Y (e.b 26 Z) (Y (e.b 25 Z) Q.nil)))))) (X (f.b 30 Z) (X (f.b 29 Z) (X (f.b 28 Z) (X (f.b 27 Z) (X (f.b 26 Z) (X (f.b 25 Z) O.nil)))))) m⟩
  rintro v_q x_q y_q ⟨b0_43_0',b0_43_1',b0_43_2',u0_43_0_1',u0_43_1_1',u0_43_2_1',hh,rfl,rfl,rfl⟩
  replace hh:([(.agg #[N g 0,N j 0,N l 0],[],[red U b a.2.1,W g [J a.1,b],red U c a.2.2.2.1,W j [J a.2.2.1,c],red U d a.2.2.2.2.2,W l [J a.2.2.2.2.1,d]])]:List Th)=[(.agg #[N b0_43_0' 0,N b0_43_1' 0,N b0_43_2' 0],[],[red U u0_43_0_1' a.2.1,W b0_43_0' [J a.1,u0_43_0_1'],red U u0_43_1_1' a.2.2.2.1,W b0_43_1' [J a.2.2.1,u0_43_1_1'],red U u0_43_2_1' a.2.2.2.2.2,W b0_43_2' [J a.2.2.2.2.1,u0_43_2_1']])]:=hh
  cases hh
  refine gN fun w hQ=>?_
  obtain ⟨cn,cg,hZ,e,f,m⟩:=hQ
  refine aU ?_
  refine M (af (P 3 Z ?_))
  refine H ?_
  exact bv (bz _ (by exact ⟨Z,Z,Z,Z,Z,Z,V⟩) (b5 (wI (bZ - 1),a.1,a.2.1,a.2.2.1,a.2.2.2.1,a.2.2.2.2.1,a.2.2.2.2.2) _ _ ⟨g,b,j,c,l,d,Z,(SfT.mk' hZ (Y (e.b 25 Z) (Y (e.b 26 Z) (Y (e.b 27 Z) (Y (e.b 28 Z) (Y (e.b 29 Z) (Y (e.b 30 Z) (Y (e.b 18 Z) (Y (e.b 17 Z) (Y (e.b 16 Z) (Y (e.b 15 Z) (Y (e.b 14 Z) (Y (e.b 13 Z) (Y (e.b 12 Z) (Y (e.b 11 Z) (Y (e.b 10 Z) (Y (e.b 9 Z) (Y (e.b 8 Z) (Y (e.b 7 Z) (Y (e.b 6 Z) (Y (e.b 5 Z) (Y (e.b 4 Z) (Y (e.b 3 Z) (Y (e.b 2 Z) (Y (e.b 1 Z) (Y (e.b 0 Z) Q.nil))))))))))))))))))))))))) (X (f.b 25 Z) (X (f.b 26 Z) (X (f.b 27 Z) (X (f.b 28 Z) (X (f.b 29 Z) (X (f.b 30 Z) (X (f.b 18 Z) (X (f.b 17 Z) (X (f.b 16 Z) (X (f.b 15 Z) (X (f.b 14 Z) (X (f.b 13 Z) (X (f.b 12 Z) (X (f.b 11 Z) (X (f.b 10 Z) (X (f.b 9 Z) (X (f.b 8 Z) (X (f.b 7 Z) (X (f.b 6 Z) (X (f.b 5 Z) (X (f.b 4 Z) (X (f.b 3 Z) (X (f.b 2 Z) (X (f.b 1 Z) (X (f.b 0 Z) O.nil))))))))))))))))))))))))) (m.e [1,2,0] Z Z))⟩ (ba h bw)))
 have h:=aH h bn
 refine bh ?_
 refine aI (aI ?_)
 have h:=aX h bw
 refine bg ?_
 refine M (I (af (am (bo (us:=[N t 0,N u 0,N z 0]) u91 Z bB Z (m.q 2 Z Z)) Z (bb (a7 (i:=1) (us:=[N t 0,N u 0,N z 0]) Z bB Z Z Z ⟨Z,Z,Z,V⟩ Z m) ?_))))
 intro w m
 refine H (M (aw ?_))
 cases h
 obtain ⟨hS0,hR⟩:=hZ.outT hTT e f m
 exact eJ Z ⟨_,Z,bC (us:=[N t 0,N u 0,N z 0]) u91 Z bB (m.q 1 Z Z)⟩ ⟨t,a6,u,a8,z,a9,Z,hS0,(Y (hR.b 24 Z) (Y (hR.b 23 Z) (Y (hR.b 22 Z) (Y (hR.b 21 Z) (Y (hR.b 20 Z) (Y (hR.b 19 Z) Q.nil))))))⟩
end Go.Proofs
