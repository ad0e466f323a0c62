import Derived.Test.YtkickcbphbgldaaGreatDoorTW0
import Derived.Test.YtkickcbphbgldaaGreatDoorGkFman
import Derived.Test.YtkickcbphbgldaaGreatDoorTWbignumc
import Derived.Test.YtkickcbphbgldaaGreatDoorTWcurvec
import Derived.Test.YtkickcbphbgldaaGreatDoorTWnatb
set_option linter.unusedVariables false
set_option linter.unusedSimpArgs false
set_option linter.unusedSectionVars false
set_option maxRecDepth 4000
namespace Go.Proofs
open Go Go.RowKit Go.Gk
open Go.Gk renaming Off → I, Rds → P, aa → Q, ae → N, af → H, ah → M, ai → J, e32 → U, own → O, pB → K
open Nat renaming le_of_ble_eq_true → R
open Go.Gk.OE renaming bx → X
open Go.Gk.Off renaming cons → W
open Go.Gk.Rds renaming cons → Y
theorem ld {f:World} {g:List UInt32} {a1:List UInt8} {c d:Value} {j:Nat} {S:List Nat} (b:Bool) {r:List UInt8}
  (h:F.CK b g a1=some r) (a:St S f f [O e8 d a1]) (l:RP S f U c g) (hBa0:RB S f j [vB b,c]):Calls Tryz.prog 94 #[K j 0,d] f (Ret fun v w=>∃u0:Value,v=u0∧St S f w [O e8 u0 r]):=by
 refine aN 19 Tryz.func94 Z Z Z ?_
 refine ar [(0,K j 0),(1,d)] ⟨Z,Z,V⟩ ?_
 unfold F.CK at h
 refine M (H (Q 1 Z ?_))
 refine J (N (M (H (Q 1 Z ?_))))
 obtain ⟨q,m,h⟩:=aj h
 refine ao Z (im b m (l.d a.fr).rp (hBa0.d a.fr)) Z ?_
 rintro s w p
 have a:=a.f p
 refine Q 1 Z ?_
 refine J (N (M (H (Q 1 Z ?_))))
 refine zZ (zP (e:=e8) 0 u24 ti5 Z Z Z Z a (i:=1) Z) ?_
 rintro _ w ⟨_,a⟩
 obtain ⟨t,n,h⟩:=aQ h
 rw [n]at a
 refine J (N (M (H (Q 2 Z ?_))))
 refine al (aL u24 Z (a.ro 1 Z)) Z (Q 1 Z ?_)
 refine al (aL u24 Z (a.ro 0 Z)) Z (Q 1 Z ?_)
 obtain ⟨u,k,h⟩:=aj h
 refine al (uT u24 ti5 Z Z (a.ro 1 Z) k) Z (Q 1 Z ?_)
 refine aU (ra (e:=e8) u24 ti5 Z Z Z a (i:=1) Z (a.ro 0 Z) (f0 k).1.2 (Nat.le_refl _)) Z ?_
 rintro v_q w ⟨hv_q,a⟩
 subst v_q
 obtain ⟨x,o,h⟩:=aQ h
 rw [o]at a
 refine J (N (M (H (Q 2 Z ?_))))
 refine J (N (ay ?_))
 cases h
 exact aM Z Z ⟨d,Z,a.e [1] Z Z⟩
theorem ox {w0:World} {aA aB:List UInt32} {m n:Value} (a0:Int) (ab:Bool) {r:List UInt8×List UInt8×Int}
  (h:F.FD a0 aA aB ab=some r) (aY:RP [] w0 U m aA) (aZ:RP [] w0 U n aB):Calls Tryz.prog 49 #[vI a0,.agg #[m,n,vB ab]] w0 (Ret fun v w=>∃u0 u1:Value,v=.tuple #[u0,u1,vI r.2.2]∧St [] w0 w [O e8 u0 r.1,O e8 u1 r.2.1]):=by
 refine aN 41 Tryz.func49 Z Z Z ?_
 have d:=St.l w0
 have hZ:=Fz.l (S:=[]) (w0:=w0)
 have hTT:TOk [] [] w0:=TOk.nil
 have a:P [] w0 [red U n aB,red U m aA]:=Y (RP.i (R Z) aZ) (Y (RP.i (R Z) aY) (P.nil))
 have b:I [] [red U n aB,red U m aA]:=I.emp
 refine ar [(0,vI a0),(1,.agg #[m,n,vB ab])] ⟨Z,Z,V⟩ ?_
 unfold F.FD at h
 refine M (H (aU (dy (cs:=[m,n,vB ab]) Z Z d) Z ?_))
 rintro _ w ⟨a8,rfl,d⟩
 refine Q 3 Z ?_
 refine J (N (M (H (Q 1 Z ?_))))
 refine al (bO (us:=[m,n,vB ab]) u33 Z cx Z (d.q 0 Z Z)) Z ?_
 replace d:=d.pick (os':=[]++[X a8 [m,n,vB ab]]) [0] (by decide) rfl
 obtain ⟨hZ,a,b,d⟩:=hZ.frzK hTT a b d
 obtain ⟨aS,a6,h⟩:=aj h
 refine ao Z (jj a0 ab a6 (hZ.okT hTT d) (a.j b 0 Z) (a.j b 1 Z)) Z ?_
 rintro v_q w hQ
 cases aC:aS.1 with
 | none=>
  have h:=fG h aC
  rw [aC]at hQ
  obtain ⟨rfl,T⟩:=eN hQ
  obtain ⟨bm,bh,hZ,a,b,d⟩:=hZ.m a b d T P.nil rfl
  refine Q 4 Z ?_
  refine aU (bg (cs:=[.pointer none,.pointer none,.pointer none]) ft Z d) Z ?_
  rintro _ w ⟨bi,rfl,d⟩
  refine Q 1 Z ?_
  refine bn (bA (i:=0) (us:=[.pointer none,.pointer none,.pointer none]) Z bV Z Z Z ⟨Z,Z,Z,V⟩ Z d) ?_
  intro w d
  refine Q 1 Z ?_
  refine J (N (M (M (H (Q 3 Z ?_)))))
  cases an:(!aS.2)
  case true=>
   have h:=aJ h an
   try simp only [an]
   refine Q 5 Z ?_
   refine J (N (cn Z ?_))
   refine M (H (Q 3 Z ?_))
   refine J (N (ay (aG ?_)))
   cases h
   replace d:=hZ.st d
   exact dZ Z Z Z Z ⟨.slice none 0 0,.slice none 0 0,Z,((d.nil e8).nil e8).e [1,0] Z Z⟩
  case false=>
   have h:=aI h an
   try simp only [an]
   refine aF (t:=19) Z Z (ax (k:=2) u91 Z Z cC Z) Z (aF (t:=19) Z Z (aH u73 Z Z (d.r 0 Z 2)) Z ?_)
   cases h
 | some c=>
  have h:=fv h aC
  rw [aC]at hQ
  obtain ⟨aP,ac,q,ad,s,ag,u,ak,z,am,A,f,B,j,C,l,D,rfl,T,a9⟩:=eO hQ
  obtain ⟨bo,ba,hZ,a,b,d⟩:=hZ.m a b d T a9 rfl
  refine Q 4 Z ?_
  refine aU (bg (cs:=[.pointer none,.pointer none,.pointer none]) ft Z d) Z ?_
  rintro _ w ⟨aq,rfl,d⟩
  refine Q 1 Z ?_
  refine bn (bA (i:=0) (us:=[K f 0,K j 0,K l 0]) Z bV Z Z Z ⟨Z,Z,Z,V⟩ Z d) ?_
  intro w d
  refine Q 1 Z ?_
  refine J (N (M ?_))
  refine bf (r:=r) (fun (g:Bool) L w=>L=[(7,K aP 0),(8,K aq 0),(24,vB g)]∧SfT [] [] w0 w [X l [vB c.2.2.2.2.2.2.2.2.2.2.2.2.2.2.2.1,D],red U D c.2.2.2.2.2.2.2.2.2.2.2.2.2.2.2.2,X j [vB c.2.2.2.2.2.2.2.2.2.2.2.2.2.1,C],red U C c.2.2.2.2.2.2.2.2.2.2.2.2.2.2.1,X f [vB c.2.2.2.2.2.2.2.2.2.2.2.1,B],red U B c.2.2.2.2.2.2.2.2.2.2.2.2.1,X aP [K ac 0,K ad 0,K ag 0,K ak 0,K am 0,vI c.2.2.2.2.2.2.2.2.2.2.1,.func (.func 168) #[] #[]],X am [vB c.2.2.2.2.2.2.2.2.1,A],red U A c.2.2.2.2.2.2.2.2.2.1,X ak [vB c.2.2.2.2.2.2.1,z],red U z c.2.2.2.2.2.2.2.1,X ag [vB c.2.2.2.2.1,u],red U u c.2.2.2.2.2.1,X ad [vB c.2.2.1,s],red U s c.2.2.2.1,X ac [vB c.1,q],red U q c.2.1] [X aq [K f 0,K j 0,K l 0]]) (F.DL c) ?_ ?_
  rotate_left
  ·intro aQ
   refine H (Q 3 Z ?_)
   cases ap:(!aS.2)
   case true=>
    have h:=aJ h ap
    try simp only [ap]
    refine Q 5 Z ?_
    refine J (N ?_)
    exact ar _ (by exact ⟨Z,Z,Z,V⟩) (aQ true _ _ ⟨Z,(SfT.mk' hZ (Y (a.b 18 Z) (Y (a.b 17 Z) (Y (a.b 16 Z) (Y (a.b 15 Z) (Y (a.b 14 Z) (Y (a.b 13 Z) (Y (a.b 12 Z) (Y (a.b 11 Z) (Y (a.b 10 Z) (Y (a.b 9 Z) (Y (a.b 8 Z) (Y (a.b 7 Z) (Y (a.b 6 Z) (Y (a.b 5 Z) (Y (a.b 4 Z) (Y (a.b 3 Z) (Y (a.b 2 Z) P.nil))))))))))))))))) (W (b.b 18 Z) (W (b.b 17 Z) (W (b.b 16 Z) (W (b.b 15 Z) (W (b.b 14 Z) (W (b.b 13 Z) (W (b.b 12 Z) (W (b.b 11 Z) (W (b.b 10 Z) (W (b.b 9 Z) (W (b.b 8 Z) (W (b.b 7 Z) (W (b.b 6 Z) (W (b.b 5 Z) (W (b.b 4 Z) (W (b.b 3 Z) (W (b.b 2 Z) I.nil))))))))))))))))) (d.e [0] Z Z))⟩ h)
   case false=>
    have h:=aI h ap
    try simp only [ap]
    refine aF (t:=19) Z Z (ax (k:=2) u91 Z Z cC Z) Z (aF (t:=19) Z Z (aH u73 Z Z (d.r 0 Z 2)) Z ?_)
    obtain ⟨a7,a1,h⟩:=aj h
    refine cr (t:=19) Z Z (by kernel_rfl) Z (cE c.2.2.2.2.2.2.2.2.2.2.2.2.2.2.2.1 a1 ((a.rp 17 Z).d d.fr).rp ((a.rb 18 Z).d d.fr)) Z ?_
    rintro _ w ⟨rfl,T⟩
    have d:=d.f T
    refine Q 2 Z ?_
    refine J (N ?_)
    exact ar _ (by exact ⟨Z,Z,Z,V⟩) (aQ (a7 == 0) _ _ ⟨Z,(SfT.mk' hZ (Y (a.b 18 Z) (Y (a.b 17 Z) (Y (a.b 16 Z) (Y (a.b 15 Z) (Y (a.b 14 Z) (Y (a.b 13 Z) (Y (a.b 12 Z) (Y (a.b 11 Z) (Y (a.b 10 Z) (Y (a.b 9 Z) (Y (a.b 8 Z) (Y (a.b 7 Z) (Y (a.b 6 Z) (Y (a.b 5 Z) (Y (a.b 4 Z) (Y (a.b 3 Z) (Y (a.b 2 Z) P.nil))))))))))))))))) (W (b.b 18 Z) (W (b.b 17 Z) (W (b.b 16 Z) (W (b.b 15 Z) (W (b.b 14 Z) (W (b.b 13 Z) (W (b.b 12 Z) (W (b.b 11 Z) (W (b.b 10 Z) (W (b.b 9 Z) (W (b.b 8 Z) (W (b.b 7 Z) (W (b.b 6 Z) (W (b.b 5 Z) (W (b.b 4 Z) (W (b.b 3 Z) (W (b.b 2 Z) I.nil))))))))))))))))) (d.e [0] Z Z))⟩ h)
  rintro bj L w hJ h
  try dsimp only at hJ
  obtain ⟨rfl,⟨bk,bb,hZ,a,b,d⟩⟩:=hJ
  unfold F.DL at h
  refine av Z (fun aE=>?_) (fun aE=>?_)
  ·have h:=aJ h aE
   refine M (H (Q 3 Z ?_))
   refine J (N (ay (aG ?_)))
   cases h
   replace d:=hZ.st d
   exact dZ Z Z Z Z ⟨.slice none 0 0,.slice none 0 0,Z,((d.nil e8).nil e8).e [1,0] Z Z⟩
  have h:=aI h aE
  refine aw (N (M ?_))
  obtain ⟨aK,a2,h⟩:=aj h
  obtain ⟨aT,a3,h⟩:=aj h
  obtain ⟨aL,a4,h⟩:=aj h
  obtain ⟨aV,a5,h⟩:=aj h
  refine ia (es:=[X l [vB c.2.2.2.2.2.2.2.2.2.2.2.2.2.2.2.1,D],red U D c.2.2.2.2.2.2.2.2.2.2.2.2.2.2.2.2,X j [vB c.2.2.2.2.2.2.2.2.2.2.2.2.2.1,C],red U C c.2.2.2.2.2.2.2.2.2.2.2.2.2.2.1,X f [vB c.2.2.2.2.2.2.2.2.2.2.2.1,B],red U B c.2.2.2.2.2.2.2.2.2.2.2.2.1,X aP [K ac 0,K ad 0,K ag 0,K ak 0,K am 0,vI c.2.2.2.2.2.2.2.2.2.2.1,.func (.func 168) #[] #[]],X am [vB c.2.2.2.2.2.2.2.2.1,A],red U A c.2.2.2.2.2.2.2.2.2.1,X ak [vB c.2.2.2.2.2.2.1,z],red U z c.2.2.2.2.2.2.2.1,X ag [vB c.2.2.2.2.1,u],red U u c.2.2.2.2.2.1,X ad [vB c.2.2.1,s],red U s c.2.2.2.1,X ac [vB c.1,q],red U q c.2.1]) (os:=[X aq [K f 0,K j 0,K l 0]]) (fun i=>[6,7,14,15].contains i) (fun i=>if i=6 then some 7 else if i=14 then some 15 else none) (fun i=>[]) (fun i=>[]) (fun i=>[]) (fun i=>[]) (fun i=>if i=6 then (fun h v x y=>∃o:Value,v=o∧x=[O e8 o aK]∧y=[]) else if i=7 then (fun h v x y=>∃E:Value,v=E∧x=[O e8 E aT]∧y=[]) else if i=14 then (fun h v x y=>∃p:Value,v=p∧x=[O e8 p aL]∧y=[]) else (fun h v x y=>∃G:Value,v=G∧x=[O e8 G aV]∧y=[])) (SfT.mk' hZ a b d) (fun k hk=>rfl) hTT rfl (fun i=>(eZ (by rintro h v x y ⟨_,rfl,rfl,rfl⟩; exact dF rfl) (eZ (by rintro h v x y ⟨_,rfl,rfl,rfl⟩; exact dF rfl) (eZ (by rintro h v x y ⟨_,rfl,rfl,rfl⟩; exact dF rfl) (by rintro h v x y ⟨_,rfl,rfl,rfl⟩; exact dF rfl))))) bR (by kernel_rfl) (by kernel_rfl) ?_
  show fL _ _ _ _ _ _ _ _ _ _ _ _ _ _ _ _ [0,1,2,3,4,5,6,7,8,9,10,11,12,13,14,15,16,17,18] _ _
  refine bU Z Z (fun w Sb wb hZ a b hF=>ax (k:=0) u91 Z Z cC Z) Z (bU Z Z (fun w Sb wb hZ a b hF=>aH u73 Z Z (hF.r 0 Z 0)) Z (bU Z Z (fun w Sb wb hZ a b hF=>au Z) Z (bU Z Z (fun w Sb wb hZ a b hF=>aO Z) Z (bU Z Z (fun w Sb wb hZ a b hF=>ax (k:=5) u76 Z Z nz3 Z) Z (bU Z Z (fun w Sb wb hZ a b hF=>aH Tryz.underlying3 Z Z ((a.rb 10 Z).cell hF.fr 5 Z)) Z ?_)))))
  refine jb (fun h v x y=>∃o:Value,v=o∧x=[O e8 o aK]∧y=[]) [] [] [] _ Z Z (fun h v x y=>Z) Z Z Z Z ⟨_,_,_,undef,Z,Z,Z⟩ (fun w Sl Tl hZ hTT a b d=>?_) Z ?_
  ·refine mq (cZ (e:=e8) u24 ti5 Z Z Z d a2) ?_
   rintro o w d
   exact ⟨_,_,⟨o,Z,Z,Z⟩,SfT.mk' hZ P.nil I.nil d⟩
  rintro o x_q y_q ⟨_,rfl,rfl,rfl⟩
  refine eP (fun h v x y=>∃E:Value,v=E∧x=[O e8 E aT]∧y=[]) [] [O e8 o aK] [] _ Z Z (fun h v x y=>Z) Z Z Z Z ⟨_,_,_,undef,Z,Z,Z⟩ (by kernel_rfl) Z (fun w Sl Tl hZ hTT a b d=>?_) Z ?_
  ·have hG:=d.pick (os':=[O e8 o aK]++[X aq [K f 0,K j 0,K l 0]]) [0,1] (by decide) Z
   refine ep (ld c.2.2.2.2.2.2.2.2.2.2.2.1 a3 hG.g ((a.rp 11 Z).g (R Z) hG) ((a.rb 12 Z).g hG)) ?_
   rintro E w ⟨bc,aW,T⟩
   rw [←aW]at T
   have d:=hG.h T
   exact ⟨_,_,⟨E,Z,Z,Z⟩,SfT.mk' hZ P.nil I.nil d⟩
  rintro E x_q y_q ⟨_,rfl,rfl,rfl⟩
  refine bU Z Z (fun w Sb wb hZ a b hF=>ax (k:=1) u91 Z Z cC Z) Z (bU Z Z (fun w Sb wb hZ a b hF=>aH u73 Z Z (hF.r 0 Z 1)) Z (bU Z Z (fun w Sb wb hZ a b hF=>au Z) Z (bU Z Z (fun w Sb wb hZ a b hF=>aO Z) Z (bU Z Z (fun w Sb wb hZ a b hF=>ax (k:=5) u76 Z Z nz3 Z) Z (bU Z Z (fun w Sb wb hZ a b hF=>aH Tryz.underlying3 Z Z ((a.rb 10 Z).cell hF.fr 5 Z)) Z ?_)))))
  refine jb (fun h v x y=>∃p:Value,v=p∧x=[O e8 p aL]∧y=[]) [] [] [] _ Z Z (fun h v x y=>Z) Z Z Z Z ⟨_,_,_,undef,Z,Z,Z⟩ (fun w Sl Tl hZ hTT a b d=>?_) Z ?_
  ·refine mq (cZ (e:=e8) u24 ti5 Z Z Z d a4) ?_
   rintro p w d
   exact ⟨_,_,⟨p,Z,Z,Z⟩,SfT.mk' hZ P.nil I.nil d⟩
  rintro p x_q y_q ⟨_,rfl,rfl,rfl⟩
  refine eP (fun h v x y=>∃G:Value,v=G∧x=[O e8 G aV]∧y=[]) [] [O e8 p aL] [] _ Z Z (fun h v x y=>Z) Z Z Z Z ⟨_,_,_,undef,Z,Z,Z⟩ (by kernel_rfl) Z (fun w Sl Tl hZ hTT a b d=>?_) Z ?_
  ·have hG:=d.pick (os':=[O e8 p aL]++[X aq [K f 0,K j 0,K l 0]]) [0,1] (by decide) Z
   refine ep (ld c.2.2.2.2.2.2.2.2.2.2.2.2.2.1 a5 hG.g ((a.rp 13 Z).g (R Z) hG) ((a.rb 14 Z).g hG)) ?_
   rintro G w ⟨bd,aX,T⟩
   rw [←aX]at T
   have d:=hG.h T
   exact ⟨_,_,⟨G,Z,Z,Z⟩,SfT.mk' hZ P.nil I.nil d⟩
  rintro G x_q y_q ⟨_,rfl,rfl,rfl⟩
  refine bU Z Z (fun w Sb wb hZ a b hF=>aD Z) Z (bU Z Z (fun w Sb wb hZ a b hF=>aD Z) Z (bU Z Z (fun w Sb wb hZ a b hF=>aD Z) Z (kv fun w hQ=>?_)))
  obtain ⟨bl,be,hZ,a,b,d⟩:=hQ
  refine N (ay ?_)
  cases h
  replace d:=hZ.st d
  exact dZ Z Z Z Z ⟨E,G,Z,d.e [0,1] Z Z⟩
theorem oN {q:World} {a1 a2:List UInt8} {n o:Value} (a0:Int) {r:List UInt32×List UInt32×Bool×Int}
  (h:F.Fn a0 a1 a2=some r) (aE:RP [] q e8 n a1) (aK:RP [] q e8 o a2):Calls Tryz.prog 34 #[vI a0,n,o] q (Ret fun v w=>∃D E:Value,v=.tuple #[.agg #[D,E,vB r.2.2.1],vI r.2.2.2]∧St [] q w [O U D r.1,O U E r.2.1]):=by
 refine aN 48 Tryz.func34 Z Z Z ?_
 have a:=St.l q
 have hZ:=Fz.l (S:=[]) (w0:=q)
 have hTT:TOk [] [] q:=TOk.nil
 have b:P [] q [red e8 o a2,red e8 n a1]:=Y (RP.i (R Z) aK) (Y (RP.i (R Z) aE) (P.nil))
 have d:I [] [red e8 o a2,red e8 n a1]:=I.emp
 refine ar [(0,vI a0),(1,n),(2,o)] ⟨Z,Z,Z,V⟩ ?_
 unfold F.Fn at h
 refine M (H (aU (bg (cs:=[.slice none 0 0,.slice none 0 0,vB false]) kE Z a) Z ?_))
 rintro _ w ⟨s,rfl,a⟩
 refine Q 1 Z ?_
 refine J (N (M (H (Q 1 Z ?_))))
 replace a:=a.pick (os':=[]++[X s [.slice none 0 0,.slice none 0 0,vB false]]) [0] (by decide) rfl
 obtain ⟨hZ,b,d,a⟩:=hZ.frzK hTT b d a
 obtain ⟨aM,an,h⟩:=aj h
 refine ao Z (gy a0 an (hZ.okT hTT a)) Z ?_
 rintro v_q w hQ
 cases u:aM with
 | none=>
  have h:=fG h u
  rw [u]at hQ
  obtain ⟨rfl,c⟩:=eN hQ
  obtain ⟨a8,aZ,hZ,b,d,a⟩:=hZ.m b d a c P.nil rfl
  refine Q 1 Z ?_
  refine J (N (M (M (H (Q 1 Z ?_)))))
  refine al (aq Z Z (qs u71)) Z (Q 29 Z ?_)
  refine J (N (cn Z ?_))
  refine M (H (al (cl (vs:=[]) (cells:=[.slice none 0 0,.slice none 0 0,vB false]) Z gr V Z) Z (bn (bA (i:=0) (us:=[.slice none 0 0,.slice none 0 0,vB false]) Z cx Z Z Z ⟨Z,Z,Z,V⟩ Z a) ?_)))
  intro w a
  refine Q 1 Z ?_
  refine J (N (ay (aG ?_)))
  cases h
  replace a:=hZ.st a
  exact fk Z ⟨_,Z,bY (us:=[.slice none 0 0,.slice none 0 0,vB false]) u33 Z cx (a.q 0 Z Z)⟩ Z ⟨.slice none 0 0,.slice none 0 0,Z,((a.nil U).nil U).e [1,0] Z Z⟩
 | some j=>
  have h:=fv h u
  rw [u]at hQ
  obtain ⟨ap,aP,au,aQ,az,aR,aA,aS,aB,aT,aC,rfl,c,aV⟩:=eO hQ
  obtain ⟨a9,aW,hZ,b,d,a⟩:=hZ.m b d a c aV rfl
  refine Q 1 Z ?_
  refine J (N (M ?_))
  refine bf (r:=r) (fun (g:Bool) L w=>L=[(1,n),(2,o),(6,K s 0),(41,vB g)]∧SfT [] [] q w [red e8 o a2,red e8 n a1] [X s [.slice none 0 0,.slice none 0 0,vB false]]) (F.C3 a1 a2) ?_ ?_
  rotate_left
  ·intro x
   refine H (Q 1 Z ?_)
   refine al (aq Z Z (qw u71 ap 0)) Z (Q 2 Z ?_)
   refine aF (t:=13) Z Z (aL u24 Z ((b.rp 0 Z).d a.fr)) Z (Q 1 Z ?_)
   refine aF (t:=13) Z Z (aO Z) Z (aF (t:=13) Z Z (ax (k:=5) u76 Z Z nz3 Z) Z (aF (t:=13) Z Z (aH Tryz.underlying3 Z Z ((b.rb 12 Z).cell a.fr 5 Z)) Z (Q 3 Z ?_)))
   cases l:((a1.length:Int) != j.2.2.2.2.2.2.2.2.2.2)
   case true=>
    have h:=aJ h l
    try simp only [l]
    refine Q 19 Z ?_
    refine J (N ?_)
    exact ar _ (by exact ⟨Z,Z,Z,Z,V⟩) (x true _ _ ⟨Z,(SfT.mk' hZ (Y (b.b 1 Z) (Y (b.b 0 Z) P.nil)) (W (d.b 1 Z) (W (d.b 0 Z) I.nil)) a)⟩ h)
   case false=>
    have h:=aI h l
    try simp only [l]
    refine Q 1 Z ?_
    refine aF (t:=22) Z Z (aL u24 Z ((b.rp 1 Z).d a.fr)) Z (Q 1 Z ?_)
    refine aF (t:=22) Z Z (aO Z) Z (aF (t:=22) Z Z (ax (k:=5) u76 Z Z nz3 Z) Z (aF (t:=22) Z Z (aH Tryz.underlying3 Z Z ((b.rb 12 Z).cell a.fr 5 Z)) Z (Q 3 Z ?_)))
    cases m:((a2.length:Int) != j.2.2.2.2.2.2.2.2.2.2)
    case true=>
     have h:=aJ h m
     try simp only [m]
     refine Q 10 Z ?_
     refine J (N ?_)
     exact ar _ (by exact ⟨Z,Z,Z,Z,V⟩) (x true _ _ ⟨Z,(SfT.mk' hZ (Y (b.b 1 Z) (Y (b.b 0 Z) P.nil)) (W (d.b 1 Z) (W (d.b 0 Z) I.nil)) a)⟩ h)
    case false=>
     have h:=aI h m
     try simp only [m]
     refine Q 1 Z ?_
     refine nY (t:=31) Z Z (bg (cs:=[vB false,.slice none 0 0]) cW Z a) Z ?_
     rintro _ w ⟨A,rfl,a⟩
     refine Q 1 Z ?_
     replace a:=a.nil U
     have B:=a.pick (os':=[X A [vB false,.slice none 0 0],O U (.slice none 0 0) []]++[X s [.slice none 0 0,.slice none 0 0,vB false]]) [1,0,2] (by decide) Z
     obtain ⟨p,ac,h⟩:=aj h
     refine cr (t:=31) Z Z (by kernel_rfl) Z (eI false ac B.g ((b.rp 0 Z).g (R Z) B)) Z ?_
     rintro _ w ⟨y,rfl,c⟩
     have a:=B.h c
     refine nY (t:=31) Z Z (bg (cs:=[vB false,.slice none 0 0]) cW Z a) Z ?_
     rintro _ w ⟨G,rfl,a⟩
     refine Q 1 Z ?_
     replace a:=a.nil U
     have B:=a.pick (os':=[X G [vB false,.slice none 0 0],O U (.slice none 0 0) []]++[X A [vB p.1,y],O U y p.2,X s [.slice none 0 0,.slice none 0 0,vB false]]) [1,0,2,3,4] (by decide) Z
     obtain ⟨C,ad,h⟩:=aj h
     refine cr (t:=31) Z Z (by kernel_rfl) Z (eI false ad B.g ((b.rp 1 Z).g (R Z) B)) Z ?_
     rintro _ w ⟨T,rfl,c⟩
     have a:=B.h c
     obtain ⟨aD,ag,h⟩:=aj h
     refine cr (t:=31) Z Z (by kernel_rfl) Z (ja j.1 j.2.2.1 j.2.2.2.2.1 j.2.2.2.2.2.2.1 j.2.2.2.2.2.2.2.2.1 j.2.2.2.2.2.2.2.2.2.2 p.1 C.1 ag ((b.rp 2 Z).d a.fr).rp ((b.rb 3 Z).d a.fr) ((b.rp 4 Z).d a.fr).rp ((b.rb 5 Z).d a.fr) ((b.rp 6 Z).d a.fr).rp ((b.rb 7 Z).d a.fr) ((b.rp 8 Z).d a.fr).rp ((b.rb 9 Z).d a.fr) ((b.rp 10 Z).d a.fr).rp ((b.rb 11 Z).d a.fr) ((b.rb 12 Z).d a.fr) (a.ro 3 Z).rp (a.rb 2 Z) (a.ro 1 Z).rp (a.rb 0 Z)) Z ?_
     rintro _ w ⟨rfl,c⟩
     have a:=a.f c
     refine Q 2 Z ?_
     refine J (N ?_)
     replace a:=a.pick (os':=[X G [vB C.1,T],O U T C.2,X A [vB p.1,y],O U y p.2]++[X s [.slice none 0 0,.slice none 0 0,vB false]]) [0,1,2,3,4] (by decide) rfl
     obtain ⟨a3,aX,hZ,b,d,a⟩:=hZ.frzT hTT b d a
     exact ar _ (by exact ⟨Z,Z,Z,Z,V⟩) (x (!aD) _ _ ⟨Z,(SfT.mk' hZ (Y (b.b 1 Z) (Y (b.b 0 Z) P.nil)) (W (d.b 1 Z) (W (d.b 0 Z) I.nil)) a)⟩ h)
  rintro a4 L w hJ h
  try dsimp only at hJ
  obtain ⟨rfl,⟨a5,aY,hZ,b,d,a⟩⟩:=hJ
  unfold F.C3 at h
  refine av Z (fun z=>?_) (fun z=>?_)
  ·have h:=aJ h z
   refine M (H (al (cl (vs:=[]) (cells:=[.slice none 0 0,.slice none 0 0,vB false]) Z gr V Z) Z (bn (bA (i:=0) (us:=[.slice none 0 0,.slice none 0 0,vB false]) Z cx Z Z Z ⟨Z,Z,Z,V⟩ Z a) ?_)))
   intro w a
   refine Q 1 Z ?_
   refine J (N (ay (aG ?_)))
   cases h
   replace a:=hZ.st a
   exact fk Z ⟨_,Z,bY (us:=[.slice none 0 0,.slice none 0 0,vB false]) u33 Z cx (a.q 0 Z Z)⟩ Z ⟨.slice none 0 0,.slice none 0 0,Z,((a.nil U).nil U).e [1,0] Z Z⟩
  have h:=aI h z
  refine aw (N (M (H (Q 1 Z ?_))))
  obtain ⟨a6,ak,h⟩:=aj h
  refine ao Z (dL  ak ((b.rp 0 Z).d a.fr).rp) Z ?_
  rintro e w c
  have a:=a.f c
  refine Q 1 Z ?_
  obtain ⟨a7,am,h⟩:=aj h
  refine ao Z (dL  am ((b.rp 1 Z).d a.fr).rp) Z ?_
  rintro f w c
  have a:=a.f c
  refine al (cl (vs:=[(0,e,[e]),(1,f,[f])]) (cells:=[e,f,vB false]) Z gr ⟨(fo (a.ro 1 Z).one),(fo (a.ro 0 Z).one),V⟩ Z) Z ?_
  refine bn (bA (i:=2) (us:=[e,f,vB false]) Z cx Z Z Z ⟨(a.ro 1 Z).one,(a.ro 0 Z).one,Z,V⟩ Z a) ?_
  intro w a
  refine Q 1 Z ?_
  refine J (N (ay ?_))
  cases h
  replace a:=hZ.st a
  exact fk Z ⟨_,Z,bY (us:=[e,f,vB false]) u33 Z cx (a.q 2 Z Z)⟩ Z ⟨e,f,Z,a.e [1,0] Z Z⟩
end Go.Proofs
