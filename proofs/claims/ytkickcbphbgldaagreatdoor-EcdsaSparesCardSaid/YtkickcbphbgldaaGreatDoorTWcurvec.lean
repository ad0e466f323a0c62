import Derived.Test.YtkickcbphbgldaaGreatDoorTW0
import Derived.Test.YtkickcbphbgldaaGreatDoorGkFman
import Derived.Test.YtkickcbphbgldaaGreatDoorTWbignumc
import Derived.Test.YtkickcbphbgldaaGreatDoorTWcurveb
set_option linter.unusedVariables false
set_option linter.unusedSimpArgs false
set_option linter.unusedSectionVars false
set_option maxRecDepth 4000
namespace Go.Proofs
open Go Go.RowKit Go.Gk
open Go.Gk renaming Off → I, Rds → P, aa → Q, ae → N, af → H, ah → M, ai → J, e32 → U, own → O, pB → K
open Nat renaming le_of_ble_eq_true → R
open Go.Gk.OE renaming bx → X
open Go.Gk.Off renaming cons → W
open Go.Gk.Rds renaming cons → Y
set_option maxHeartbeats 8000000 in
theorem kQ {w0:World} {a1 a2 b6 b7:List UInt32} {cn co a6 a7:Value} (a0:Int) (bs:Bool) {r:List UInt32×List UInt32×Bool×Int}
  (h:F.C6 a0 a1 a2 b6 b7 bs=some r) (c8:RP [] w0 U cn a1) (c9:RP [] w0 U co a2) (cT:RP [] w0 U a6 b6) (cU:RP [] w0 U a7 b7):Calls Tryz.prog 40 #[vI a0,cn,co,.agg #[a6,a7,vB bs]] w0 (Ret fun v w=>∃cJ cK:Value,v=.tuple #[.agg #[cJ,cK,vB r.2.2.1],vI r.2.2.2]∧St [] w0 w [O U cJ r.1,O U cK r.2.1]):=by
 refine aN 109 Tryz.func40 Z Z Z ?_
 have c:=St.l w0
 have hZ:=Fz.l (S:=[]) (w0:=w0)
 have hTT:TOk [] [] w0:=TOk.nil
 have a:P [] w0 [red U a7 b7,red U a6 b6,red U co a2,red U cn a1]:=Y (RP.i (R Z) cU) (Y (RP.i (R Z) cT) (Y (RP.i (R Z) c9) (Y (RP.i (R Z) c8) (P.nil))))
 have b:I [] [red U a7 b7,red U a6 b6,red U co a2,red U cn a1]:=I.emp
 refine ar [(0,vI a0),(1,cn),(2,co),(3,.agg #[a6,a7,vB bs])] ⟨Z,Z,Z,Z,V⟩ ?_
 unfold F.C6 at h
 refine M (H (aU (dy (cs:=[a6,a7,vB bs]) Z Z c) Z ?_))
 rintro _ w ⟨cp,rfl,c⟩
 refine aU (bg (cs:=[.slice none 0 0,.slice none 0 0,vB false]) kE Z c) Z ?_
 rintro _ w ⟨aZ,rfl,c⟩
 refine Q 1 Z ?_
 refine J (N (M (H (Q 1 Z ?_))))
 refine al (bO (us:=[a6,a7,vB bs]) u33 Z cx Z (c.q 1 Z Z)) Z ?_
 replace c:=c.pick (os':=[]++[X aZ [.slice none 0 0,.slice none 0 0,vB false],X cp [a6,a7,vB bs]]) [0,1] (by decide) rfl
 obtain ⟨hZ,a,b,c⟩:=hZ.frzK hTT a b c
 obtain ⟨da,c7,h⟩:=aj h
 refine ao Z (jj a0 bs c7 (hZ.okT hTT c) (a.j b 2 Z) (a.j b 3 Z)) Z ?_
 rintro v_q w hQ
 cases b8:da.1 with
 | none=>
  have h:=fG h b8
  rw [b8]at hQ
  obtain ⟨rfl,aD⟩:=eN hQ
  obtain ⟨dQ,dg,hZ,a,b,c⟩:=hZ.m a b c aD P.nil rfl
  refine Q 4 Z ?_
  refine aU (bg (cs:=[.pointer none,.pointer none,.pointer none]) ft Z c) Z ?_
  rintro _ w ⟨b9,rfl,c⟩
  refine Q 1 Z ?_
  refine bn (bA (i:=0) (us:=[.pointer none,.pointer none,.pointer none]) Z bV Z Z Z ⟨Z,Z,Z,V⟩ Z c) ?_
  intro w c
  refine Q 1 Z ?_
  refine J (N (M (M (H (Q 2 Z ?_)))))
  refine J (N ?_)
  refine av Z (fun ca=>?_) (fun ca=>?_)
  ·have h:=aJ h ca
   refine M (H (al (cl (vs:=[]) (cells:=[.slice none 0 0,.slice none 0 0,vB false]) Z gr V Z) Z (bn (bA (i:=1) (us:=[.slice none 0 0,.slice none 0 0,vB false]) Z cx Z Z Z ⟨Z,Z,Z,V⟩ Z c) ?_)))
   intro w c
   refine Q 1 Z ?_
   refine J (N (ay (aG ?_)))
   cases h
   replace c:=hZ.st c
   exact fk Z ⟨_,Z,bY (us:=[.slice none 0 0,.slice none 0 0,vB false]) u33 Z cx (c.q 1 Z Z)⟩ Z ⟨.slice none 0 0,.slice none 0 0,Z,((c.nil U).nil U).e [1,0] Z Z⟩
  have h:=aI h ca
  refine aw (N (M (H (Q 1 Z ?_))))
  obtain ⟨bB,cV,h⟩:=aj h
  refine ao Z (fw  cV ((a.rp 0 Z).d c.fr).rp) Z ?_
  rintro _ w ⟨bM,cb,rfl,aD⟩
  have c:=c.f aD
  refine Q 5 Z ?_
  refine J (N (M (H (Q 1 Z ?_))))
  obtain ⟨bC,cW,h⟩:=aj h
  refine ao Z (fw  cW ((a.rp 1 Z).d c.fr).rp) Z ?_
  rintro _ w ⟨bN,cc,rfl,aD⟩
  have c:=c.f aD
  refine Q 5 Z ?_
  refine J (N (M ?_))
  refine bf (r:=r) (fun (g:Bool) L w=>L=[(8,K aZ 0),(10,.pointer none),(11,K b9 0),(13,K cb 0),(15,K cc 0),(49,vB g)]∧SfT [] [] w0 w [X cc [vB bC.1,bN],red U bN bC.2.1,X cb [vB bB.1,bM],red U bM bB.2.1] [X aZ [.slice none 0 0,.slice none 0 0,vB false],X b9 [.pointer none,.pointer none,.pointer none]]) (F.FW) ?_ ?_
  rotate_left
  ·intro cz
   refine H (Q 3 Z ?_)
   cases bP:(!bB.2.2)
   case true=>
    have h:=aJ h bP
    try simp only [bP]
    refine Q 3 Z ?_
    refine J (N ?_)
    replace c:=c.pick (os':=[X cc [vB bC.1,bN],O U bN bC.2.1,X cb [vB bB.1,bM],O U bM bB.2.1]++[X b9 [.pointer none,.pointer none,.pointer none],X aZ [.slice none 0 0,.slice none 0 0,vB false],X cp [a6,a7,vB bs]]) [0,1,2,3,4,5,6] (by decide) rfl
    obtain ⟨dC,dh,hZ,a,b,c⟩:=hZ.frzT hTT a b c
    exact ar _ (by exact ⟨Z,Z,Z,Z,Z,Z,V⟩) (cz true _ _ ⟨Z,(SfT.mk' hZ (Y (a.b 7 Z) (Y (a.b 6 Z) (Y (a.b 5 Z) (Y (a.b 4 Z) P.nil)))) (W (b.b 7 Z) (W (b.b 6 Z) (W (b.b 5 Z) (W (b.b 4 Z) I.nil)))) (c.e [1,0] Z Z))⟩ h)
   case false=>
    have h:=aI h bP
    try simp only [bP]
    refine Q 3 Z ?_
    refine J (N ?_)
    replace c:=c.pick (os':=[X cc [vB bC.1,bN],O U bN bC.2.1,X cb [vB bB.1,bM],O U bM bB.2.1]++[X b9 [.pointer none,.pointer none,.pointer none],X aZ [.slice none 0 0,.slice none 0 0,vB false],X cp [a6,a7,vB bs]]) [0,1,2,3,4,5,6] (by decide) rfl
    obtain ⟨dD,di,hZ,a,b,c⟩:=hZ.frzT hTT a b c
    exact ar _ (by exact ⟨Z,Z,Z,Z,Z,Z,V⟩) (cz (!bC.2.2) _ _ ⟨Z,(SfT.mk' hZ (Y (a.b 7 Z) (Y (a.b 6 Z) (Y (a.b 5 Z) (Y (a.b 4 Z) P.nil)))) (W (b.b 7 Z) (W (b.b 6 Z) (W (b.b 5 Z) (W (b.b 4 Z) I.nil)))) (c.e [1,0] Z Z))⟩ h)
  rintro dE L w hJ h
  try dsimp only at hJ
  obtain ⟨rfl,⟨dG,dj,hZ,a,b,c⟩⟩:=hJ
  unfold F.FW at h
  refine av Z (fun cd=>?_) (fun cd=>?_)
  ·have h:=aJ h cd
   refine M (H (al (cl (vs:=[]) (cells:=[.slice none 0 0,.slice none 0 0,vB false]) Z gr V Z) Z (bn (bA (i:=0) (us:=[.slice none 0 0,.slice none 0 0,vB false]) Z cx Z Z Z ⟨Z,Z,Z,V⟩ Z c) ?_)))
   intro w c
   refine Q 1 Z ?_
   refine J (N (ay (aG ?_)))
   cases h
   replace c:=hZ.st c
   exact fk Z ⟨_,Z,bY (us:=[.slice none 0 0,.slice none 0 0,vB false]) u33 Z cx (c.q 0 Z Z)⟩ Z ⟨.slice none 0 0,.slice none 0 0,Z,((c.nil U).nil U).e [1,0] Z Z⟩
  have h:=aI h cd
  refine aw (N (M ?_))
  cases h
 | some d=>
  have h:=fv h b8
  rw [b8]at hQ
  obtain ⟨bt,aV,ap,aW,aA,aX,aB,p,ad,t,ag,z,ak,A,am,B,an,rfl,aD,cr⟩:=eO hQ
  obtain ⟨dH,dk,hZ,a,b,c⟩:=hZ.m a b c aD cr rfl
  refine Q 4 Z ?_
  refine aU (bg (cs:=[.pointer none,.pointer none,.pointer none]) ft Z c) Z ?_
  rintro _ w ⟨aS,rfl,c⟩
  refine Q 1 Z ?_
  refine bn (bA (i:=0) (us:=[K z 0,K A 0,K B 0]) Z bV Z Z Z ⟨Z,Z,Z,V⟩ Z c) ?_
  intro w c
  refine Q 1 Z ?_
  refine J (N (M (M (H (Q 2 Z ?_)))))
  refine J (N ?_)
  refine av Z (fun bZ=>?_) (fun bZ=>?_)
  ·have h:=aJ h bZ
   refine M (H (al (cl (vs:=[]) (cells:=[.slice none 0 0,.slice none 0 0,vB false]) Z gr V Z) Z (bn (bA (i:=1) (us:=[.slice none 0 0,.slice none 0 0,vB false]) Z cx Z Z Z ⟨Z,Z,Z,V⟩ Z c) ?_)))
   intro w c
   refine Q 1 Z ?_
   refine J (N (ay (aG ?_)))
   cases h
   replace c:=hZ.st c
   exact fk Z ⟨_,Z,bY (us:=[.slice none 0 0,.slice none 0 0,vB false]) u33 Z cx (c.q 1 Z Z)⟩ Z ⟨.slice none 0 0,.slice none 0 0,Z,((c.nil U).nil U).e [1,0] Z Z⟩
  have h:=aI h bZ
  refine aw (N (M (H (Q 1 Z ?_))))
  obtain ⟨aQ,cX,h⟩:=aj h
  refine ao Z (fw  cX ((a.rp 0 Z).d c.fr).rp) Z ?_
  rintro _ w ⟨a4,bc,rfl,aD⟩
  have c:=c.f aD
  refine Q 5 Z ?_
  refine J (N (M (H (Q 1 Z ?_))))
  obtain ⟨aR,cY,h⟩:=aj h
  refine ao Z (fw  cY ((a.rp 1 Z).d c.fr).rp) Z ?_
  rintro _ w ⟨a5,be,rfl,aD⟩
  have c:=c.f aD
  refine Q 5 Z ?_
  refine J (N (M ?_))
  refine bf (r:=r) (fun (g:Bool) L w=>L=[(8,K aZ 0),(10,K bt 0),(11,K aS 0),(13,K bc 0),(15,K be 0),(49,vB g)]∧SfT [] [] w0 w [X B [vB d.2.2.2.2.2.2.2.2.2.2.2.2.2.2.2.1,an],red U an d.2.2.2.2.2.2.2.2.2.2.2.2.2.2.2.2,X A [vB d.2.2.2.2.2.2.2.2.2.2.2.2.2.1,am],red U am d.2.2.2.2.2.2.2.2.2.2.2.2.2.2.1,X z [vB d.2.2.2.2.2.2.2.2.2.2.2.1,ak],red U ak d.2.2.2.2.2.2.2.2.2.2.2.2.1,X be [vB aR.1,a5],red U a5 aR.2.1,X bc [vB aQ.1,a4],red U a4 aQ.2.1,X bt [K aV 0,K aW 0,K aX 0,K p 0,K t 0,vI d.2.2.2.2.2.2.2.2.2.2.1,.func (.func 168) #[] #[]],X t [vB d.2.2.2.2.2.2.2.2.1,ag],red U ag d.2.2.2.2.2.2.2.2.2.1,X p [vB d.2.2.2.2.2.2.1,ad],red U ad d.2.2.2.2.2.2.2.1,X aX [vB d.2.2.2.2.1,aB],red U aB d.2.2.2.2.2.1,X aW [vB d.2.2.1,aA],red U aA d.2.2.2.1,X aV [vB d.1,ap],red U ap d.2.1] [X aZ [.slice none 0 0,.slice none 0 0,vB false],X aS [K z 0,K A 0,K B 0]]) (F.EC d aQ aR) ?_ ?_
  rotate_left
  ·intro cA
   refine H (Q 3 Z ?_)
   cases bQ:(!aQ.2.2)
   case true=>
    have h:=aJ h bQ
    try simp only [bQ]
    refine Q 3 Z ?_
    refine J (N ?_)
    replace c:=c.pick (os':=[X be [vB aR.1,a5],O U a5 aR.2.1,X bc [vB aQ.1,a4],O U a4 aQ.2.1]++[X aS [K z 0,K A 0,K B 0],X aZ [.slice none 0 0,.slice none 0 0,vB false],X cp [a6,a7,vB bs]]) [0,1,2,3,4,5,6] (by decide) rfl
    obtain ⟨dI,dl,hZ,a,b,c⟩:=hZ.frzT hTT a b c
    exact ar _ (by exact ⟨Z,Z,Z,Z,Z,Z,V⟩) (cA true _ _ ⟨Z,(SfT.mk' hZ (Y (a.b 20 Z) (Y (a.b 19 Z) (Y (a.b 18 Z) (Y (a.b 17 Z) (Y (a.b 16 Z) (Y (a.b 15 Z) (Y (a.b 24 Z) (Y (a.b 23 Z) (Y (a.b 22 Z) (Y (a.b 21 Z) (Y (a.b 14 Z) (Y (a.b 13 Z) (Y (a.b 12 Z) (Y (a.b 11 Z) (Y (a.b 10 Z) (Y (a.b 9 Z) (Y (a.b 8 Z) (Y (a.b 7 Z) (Y (a.b 6 Z) (Y (a.b 5 Z) (Y (a.b 4 Z) P.nil))))))))))))))))))))) (W (b.b 20 Z) (W (b.b 19 Z) (W (b.b 18 Z) (W (b.b 17 Z) (W (b.b 16 Z) (W (b.b 15 Z) (W (b.b 24 Z) (W (b.b 23 Z) (W (b.b 22 Z) (W (b.b 21 Z) (W (b.b 14 Z) (W (b.b 13 Z) (W (b.b 12 Z) (W (b.b 11 Z) (W (b.b 10 Z) (W (b.b 9 Z) (W (b.b 8 Z) (W (b.b 7 Z) (W (b.b 6 Z) (W (b.b 5 Z) (W (b.b 4 Z) I.nil))))))))))))))))))))) (c.e [1,0] Z Z))⟩ h)
   case false=>
    have h:=aI h bQ
    try simp only [bQ]
    refine Q 3 Z ?_
    refine J (N ?_)
    replace c:=c.pick (os':=[X be [vB aR.1,a5],O U a5 aR.2.1,X bc [vB aQ.1,a4],O U a4 aQ.2.1]++[X aS [K z 0,K A 0,K B 0],X aZ [.slice none 0 0,.slice none 0 0,vB false],X cp [a6,a7,vB bs]]) [0,1,2,3,4,5,6] (by decide) rfl
    obtain ⟨dJ,dm,hZ,a,b,c⟩:=hZ.frzT hTT a b c
    exact ar _ (by exact ⟨Z,Z,Z,Z,Z,Z,V⟩) (cA (!aR.2.2) _ _ ⟨Z,(SfT.mk' hZ (Y (a.b 20 Z) (Y (a.b 19 Z) (Y (a.b 18 Z) (Y (a.b 17 Z) (Y (a.b 16 Z) (Y (a.b 15 Z) (Y (a.b 24 Z) (Y (a.b 23 Z) (Y (a.b 22 Z) (Y (a.b 21 Z) (Y (a.b 14 Z) (Y (a.b 13 Z) (Y (a.b 12 Z) (Y (a.b 11 Z) (Y (a.b 10 Z) (Y (a.b 9 Z) (Y (a.b 8 Z) (Y (a.b 7 Z) (Y (a.b 6 Z) (Y (a.b 5 Z) (Y (a.b 4 Z) P.nil))))))))))))))))))))) (W (b.b 20 Z) (W (b.b 19 Z) (W (b.b 18 Z) (W (b.b 17 Z) (W (b.b 16 Z) (W (b.b 15 Z) (W (b.b 24 Z) (W (b.b 23 Z) (W (b.b 22 Z) (W (b.b 21 Z) (W (b.b 14 Z) (W (b.b 13 Z) (W (b.b 12 Z) (W (b.b 11 Z) (W (b.b 10 Z) (W (b.b 9 Z) (W (b.b 8 Z) (W (b.b 7 Z) (W (b.b 6 Z) (W (b.b 5 Z) (W (b.b 4 Z) I.nil))))))))))))))))))))) (c.e [1,0] Z Z))⟩ h)
  rintro dK L w hJ h
  try dsimp only at hJ
  obtain ⟨rfl,⟨dL,dn,hZ,a,b,c⟩⟩:=hJ
  unfold F.EC at h
  refine av Z (fun b0=>?_) (fun b0=>?_)
  ·have h:=aJ h b0
   refine M (H (al (cl (vs:=[]) (cells:=[.slice none 0 0,.slice none 0 0,vB false]) Z gr V Z) Z (bn (bA (i:=0) (us:=[.slice none 0 0,.slice none 0 0,vB false]) Z cx Z Z Z ⟨Z,Z,Z,V⟩ Z c) ?_)))
   intro w c
   refine Q 1 Z ?_
   refine J (N (ay (aG ?_)))
   cases h
   replace c:=hZ.st c
   exact fk Z ⟨_,Z,bY (us:=[.slice none 0 0,.slice none 0 0,vB false]) u33 Z cx (c.q 0 Z Z)⟩ Z ⟨.slice none 0 0,.slice none 0 0,Z,((c.nil U).nil U).e [1,0] Z Z⟩
  have h:=aI h b0
  refine aw (N (M ?_))
  obtain ⟨E,cZ,h⟩:=aj h
  refine ia (es:=[X B [vB d.2.2.2.2.2.2.2.2.2.2.2.2.2.2.2.1,an],red U an d.2.2.2.2.2.2.2.2.2.2.2.2.2.2.2.2,X A [vB d.2.2.2.2.2.2.2.2.2.2.2.2.2.1,am],red U am d.2.2.2.2.2.2.2.2.2.2.2.2.2.2.1,X z [vB d.2.2.2.2.2.2.2.2.2.2.2.1,ak],red U ak d.2.2.2.2.2.2.2.2.2.2.2.2.1,X be [vB aR.1,a5],red U a5 aR.2.1,X bc [vB aQ.1,a4],red U a4 aQ.2.1,X bt [K aV 0,K aW 0,K aX 0,K p 0,K t 0,vI d.2.2.2.2.2.2.2.2.2.2.1,.func (.func 168) #[] #[]],X t [vB d.2.2.2.2.2.2.2.2.1,ag],red U ag d.2.2.2.2.2.2.2.2.2.1,X p [vB d.2.2.2.2.2.2.1,ad],red U ad d.2.2.2.2.2.2.2.1,X aX [vB d.2.2.2.2.1,aB],red U aB d.2.2.2.2.2.1,X aW [vB d.2.2.1,aA],red U aA d.2.2.2.1,X aV [vB d.1,ap],red U ap d.2.1]) (os:=[X aZ [.slice none 0 0,.slice none 0 0,vB false],X aS [K z 0,K A 0,K B 0]]) (fun i=>[8,10,11].contains i) (fun i=>if i=8 then some 11 else if i=10 then some 11 else none) (fun i=>[]) (fun i=>[]) (fun i=>[]) (fun i=>if i=11 then [8,10] else []) (fun i=>if i=8 then (fun h v x y=>∃u:Nat,∃C:Value,v=K u 0∧x=[X u [vB E.1,C],O U C E.2]∧y=[]) else if i=10 then (fun h v x y=>∃D:Nat,v=K D 0∧x=[X D [.pointer none,.pointer none,.pointer none]]∧y=[]) else (fun h v x y=>∃u:Nat,∃C:Value,∃D:Nat,h=[(K u 0,[X u [vB E.1,C],O U C E.2],[]),(K D 0,[X D [.pointer none,.pointer none,.pointer none]],[])]∧v=undef∧x=[X u [vB E.1,C],O U C E.2,X D [K p 0,K t 0,K u 0]]∧y=[])) (SfT.mk' hZ a b c) (fun k hk=>rfl) hTT rfl (fun i=>(eZ (by rintro h v x y ⟨_,_,rfl,rfl,rfl⟩; exact dF rfl) (eZ (by rintro h v x y ⟨_,rfl,rfl,rfl⟩; exact dF rfl) (by rintro h v x y ⟨_,_,_,_,rfl,rfl,rfl⟩; exact dF rfl)))) bR (by kernel_rfl) (by kernel_rfl) ?_
  show fL _ _ _ _ _ _ _ _ _ _ _ _ _ _ _ _ [0,1,2,3,4,5,6,7,8,9,10,11] _ _
  refine bU Z Z (fun w Sb wb hZ a b hF=>au Z) Z (bU Z Z (fun w Sb wb hZ a b hF=>aO Z) Z (bU Z Z (fun w Sb wb hZ a b hF=>ax (k:=3) u76 Z Z cC Z) Z (bU Z Z (fun w Sb wb hZ a b hF=>aH u73 Z Z ((a.rb 10 Z).cell hF.fr 3 Z)) Z (bU Z Z (fun w Sb wb hZ a b hF=>au Z) Z (bU Z Z (fun w Sb wb hZ a b hF=>aO Z) Z (bU Z Z (fun w Sb wb hZ a b hF=>ax (k:=4) u76 Z Z cC Z) Z (bU Z Z (fun w Sb wb hZ a b hF=>aH u73 Z Z ((a.rb 10 Z).cell hF.fr 4 Z)) Z ?_)))))))
  refine eP (fun h v x y=>∃u:Nat,∃C:Value,v=K u 0∧x=[X u [vB E.1,C],O U C E.2]∧y=[]) [] [] [] _ Z Z (fun h v x y=>Z) Z Z Z Z ⟨_,_,_,0,undef,Z,Z,Z⟩ (by kernel_rfl) Z (fun w Sl Tl hZ hTT a b c=>?_) Z ?_
  ·refine ep (cG 1 cZ ) ?_
   rintro _ w ⟨C,u,rfl,aD⟩
   have c:=c.f aD
   exact ⟨_,_,⟨u,C,Z,Z,Z⟩,SfT.mk' hZ P.nil I.nil c⟩
  rintro v_q x_q y_q ⟨u,C,rfl,rfl,rfl⟩
  refine bU Z Z (fun w Sb wb hZ a b hF=>cl (vs:=[(0,K p 0,[K p 0]),(1,K t 0,[K t 0]),(2,K u 0,[K u 0])]) (cells:=[K p 0,K t 0,K u 0]) Z mp ⟨Z,Z,Z,V⟩ Z) Z ?_
  refine jb (fun h v x y=>∃D:Nat,v=K D 0∧x=[X D [.pointer none,.pointer none,.pointer none]]∧y=[]) [] [] [] _ Z Z (fun h v x y=>Z) Z Z Z Z ⟨_,_,_,0,Z,Z,Z⟩ (fun w Sl Tl hZ hTT a b c=>?_) Z ?_
  ·refine mq (bg (cs:=[.pointer none,.pointer none,.pointer none]) ft Z c) ?_
   rintro _ w ⟨D,rfl,c⟩
   exact ⟨_,_,⟨D,Z,Z,Z⟩,SfT.mk' hZ P.nil I.nil c⟩
  rintro v_q x_q y_q ⟨D,rfl,rfl,rfl⟩
  refine u9 (fun h v x y=>∃u:Nat,∃C:Value,∃D:Nat,h=[(K u 0,[X u [vB E.1,C],O U C E.2],[]),(K D 0,[X D [.pointer none,.pointer none,.pointer none]],[])]∧v=undef∧x=[X u [vB E.1,C],O U C E.2,X D [K p 0,K t 0,K u 0]]∧y=[]) [(K u 0,[X u [vB E.1,C],O U C E.2],[]),(K D 0,[X D [.pointer none,.pointer none,.pointer none]],[])] [X u [vB E.1,C],O U C E.2,X D [.pointer none,.pointer none,.pointer none]] [] _ Z Z (fun h v x y=>Z) Z Z Z Z ⟨_,_,_,u,C,D,Z,Z,Z,Z⟩ (fun w Sl Tl hZ hTT a b c=>?_) ?_
  ·refine tO (bA (i:=2) (us:=[K p 0,K t 0,K u 0]) Z bV Z Z Z ⟨Z,Z,Z,V⟩ Z c) ?_
   intro w c
   exact ⟨_,_,⟨u,C,D,Z,Z,Z,Z⟩,SfT.mk' hZ P.nil I.nil c⟩
  rintro v_q x_q y_q ⟨b_60',v_58',b_62',hh,rfl,rfl,rfl⟩
  replace hh:([(K u 0,[X u [vB E.1,C],O U C E.2],[]),(K D 0,[X D [.pointer none,.pointer none,.pointer none]],[])]:List Th)=[(K b_60' 0,[X b_60' [vB E.1,v_58'],O U v_58' E.2],[]),(K b_62' 0,[X b_62' [.pointer none,.pointer none,.pointer none]],[])]:=hh
  cases hh
  refine kv fun w hQ=>?_
  obtain ⟨dM,dp,hZ,a,b,c⟩:=hQ
  refine N (M (H (Q 1 Z ?_)))
  refine al (bO (us:=[K p 0,K t 0,K u 0]) u91 Z bV Z (c.q 2 Z Z)) Z (al (bO (us:=[K z 0,K A 0,K B 0]) u91 Z bV Z (c.q 4 Z Z)) Z ?_)
  replace c:=c.pick (os':=[X u [vB E.1,C],O U C E.2]++[X D [K p 0,K t 0,K u 0],X aZ [.slice none 0 0,.slice none 0 0,vB false],X aS [K z 0,K A 0,K B 0]]) [0,1,2,3,4] (by decide) rfl
  obtain ⟨hZ,a,b,c⟩:=hZ.frzK hTT a b c
  obtain ⟨G,c0,h⟩:=aj h
  refine ao Z (iG d.1 d.2.2.1 d.2.2.2.2.1 d.2.2.2.2.2.2.1 d.2.2.2.2.2.2.2.2.1 d.2.2.2.2.2.2.2.2.2.2.1 d.2.2.2.2.2.2.1 d.2.2.2.2.2.2.2.2.1 E.1 d.2.2.2.2.2.2.2.2.2.2.2.1 d.2.2.2.2.2.2.2.2.2.2.2.2.2.1 d.2.2.2.2.2.2.2.2.2.2.2.2.2.2.2.1 c0 (hZ.okT hTT c) (a.j b 0 Z) (a.k b 1 Z) (a.j b 2 Z) (a.k b 3 Z) (a.j b 4 Z) (a.k b 5 Z) (a.j b 6 Z) (a.k b 7 Z) (a.j b 8 Z) (a.k b 9 Z) (a.k b 10 Z) (a.j b 6 Z) (a.k b 7 Z) (a.j b 8 Z) (a.k b 9 Z) (a.j b 21 Z) (a.k b 22 Z) (a.j b 15 Z) (a.k b 16 Z) (a.j b 17 Z) (a.k b 18 Z) (a.j b 19 Z) (a.k b 20 Z)) Z ?_
  rintro _ w ⟨T,aE,ab,aF,ac,aK,rfl,aD,cr⟩
  obtain ⟨dN,dq,hZ,a,b,c⟩:=hZ.m a b c aD cr rfl
  refine aU (bg (cs:=[.pointer none,.pointer none,.pointer none]) ft Z c) Z ?_
  rintro _ w ⟨bi,rfl,c⟩
  refine bn (bA (i:=0) (us:=[K T 0,K ab 0,K ac 0]) Z bV Z Z Z ⟨Z,Z,Z,V⟩ Z c) ?_
  intro w c
  refine J (N (M (H ?_)))
  obtain ⟨bj,c1,h⟩:=aj h
  refine ao Z (eR  c1 ) Z ?_
  rintro _ w ⟨cv,cw,cy,ce,cf,cg,rfl,aD⟩
  have c:=c.f aD
  refine aU (bg (cs:=[.pointer none,.pointer none,.pointer none]) ft Z c) Z ?_
  rintro _ w ⟨bb,rfl,c⟩
  refine bn (bA (i:=0) (us:=[K ce 0,K cf 0,K cg 0]) Z bV Z Z Z ⟨Z,Z,Z,V⟩ Z c) ?_
  intro w c
  refine J (N (M (M (H (Q 1 Z ?_)))))
  obtain ⟨cL,c2,h⟩:=aj h
  refine ao Z (gE aQ.1 c2 ((a.rp 11 Z).d c.fr).rp ((a.rb 12 Z).d c.fr)) Z ?_
  rintro _ w ⟨rfl,aD⟩
  have c:=c.f aD
  refine Q 1 Z ?_
  obtain ⟨cM,c3,h⟩:=aj h
  refine ao Z (gE aR.1 c3 ((a.rp 13 Z).d c.fr).rp ((a.rb 14 Z).d c.fr)) Z ?_
  rintro _ w ⟨rfl,aD⟩
  have c:=c.f aD
  refine al (sX Z Z) Z (Q 2 Z ?_)
  refine J (N (az ?_))
  replace c:=c.pick (os':=[X ce [vB bj.1,cv],O U cv bj.2.1,X cf [vB bj.2.2.1,cw],O U cw bj.2.2.2.1,X cg [vB bj.2.2.2.2.1,cy],O U cy bj.2.2.2.2.2]++[X bb [K ce 0,K cf 0,K cg 0],X bi [K T 0,K ab 0,K ac 0],X D [K p 0,K t 0,K u 0],X aZ [.slice none 0 0,.slice none 0 0,vB false],X aS [K z 0,K A 0,K B 0]]) [1,2,3,4,5,6,0,7,8,9,10] (by decide) rfl
  obtain ⟨dO,dr,hZ,a,b,c⟩:=hZ.frzT hTT a b c
  refine ar [(8,K aZ 0),(10,K bt 0),(11,K aS 0),(13,K bc 0),(15,K be 0),(17,K D 0),(18,K bi 0),(19,K bb 0),(20,vI (wI ((max cL cM) - 1)))] ⟨Z,Z,Z,Z,Z,Z,Z,Z,Z,V⟩ ?_
  refine bd (F.DG d aQ aR E G) (fun (s:Int×Bool×List UInt32×Bool×List UInt32×Bool×List UInt32) L w=>∃(a3:Nat) (bu:Value) (aL:Nat) (bk:Value) (aM:Nat) (bl:Value),L=[(8,K aZ 0),(10,K bt 0),(11,K aS 0),(13,K bc 0),(15,K be 0),(17,K D 0),(18,K bi 0),(19,K bb 0),(20,vI s.1)]∧SfT [] [] w0 w [X aM [vB s.2.2.2.2.2.1,bl],red U bl s.2.2.2.2.2.2,X aL [vB s.2.2.2.1,bk],red U bk s.2.2.2.2.1,X a3 [vB s.2.1,bu],red U bu s.2.2.1,X ac [vB G.2.2.2.2.1,aK],red U aK G.2.2.2.2.2,X ab [vB G.2.2.1,aF],red U aF G.2.2.2.1,X T [vB G.1,aE],red U aE G.2.1,X u [vB E.1,C],red U C E.2,X B [vB d.2.2.2.2.2.2.2.2.2.2.2.2.2.2.2.1,an],red U an d.2.2.2.2.2.2.2.2.2.2.2.2.2.2.2.2,X A [vB d.2.2.2.2.2.2.2.2.2.2.2.2.2.1,am],red U am d.2.2.2.2.2.2.2.2.2.2.2.2.2.2.1,X z [vB d.2.2.2.2.2.2.2.2.2.2.2.1,ak],red U ak d.2.2.2.2.2.2.2.2.2.2.2.2.1,X be [vB aR.1,a5],red U a5 aR.2.1,X bc [vB aQ.1,a4],red U a4 aQ.2.1,X bt [K aV 0,K aW 0,K aX 0,K p 0,K t 0,vI d.2.2.2.2.2.2.2.2.2.2.1,.func (.func 168) #[] #[]],X t [vB d.2.2.2.2.2.2.2.2.1,ag],red U ag d.2.2.2.2.2.2.2.2.2.1,X p [vB d.2.2.2.2.2.2.1,ad],red U ad d.2.2.2.2.2.2.2.1,X aX [vB d.2.2.2.2.1,aB],red U aB d.2.2.2.2.2.1,X aW [vB d.2.2.1,aA],red U aA d.2.2.2.1,X aV [vB d.1,ap],red U ap d.2.1] [X aZ [.slice none 0 0,.slice none 0 0,vB false],X aS [K z 0,K A 0,K B 0],X D [K p 0,K t 0,K u 0],X bi [K T 0,K ab 0,K ac 0],X bb [K a3 0,K aL 0,K aM 0]]) ?_ (wI ((max cL cM) - 1),bj.1,bj.2.1,bj.2.2.1,bj.2.2.2.1,bj.2.2.2.2.1,bj.2.2.2.2.2) ⟨ce,cv,cf,cw,cg,cy,Z,(SfT.mk' hZ (Y (a.b 30 Z) (Y (a.b 29 Z) (Y (a.b 32 Z) (Y (a.b 31 Z) (Y (a.b 34 Z) (Y (a.b 33 Z) (Y (a.b 28 Z) (Y (a.b 27 Z) (Y (a.b 26 Z) (Y (a.b 25 Z) (Y (a.b 24 Z) (Y (a.b 23 Z) (Y (a.b 22 Z) (Y (a.b 21 Z) (Y (a.b 20 Z) (Y (a.b 19 Z) (Y (a.b 18 Z) (Y (a.b 17 Z) (Y (a.b 16 Z) (Y (a.b 15 Z) (Y (a.b 14 Z) (Y (a.b 13 Z) (Y (a.b 12 Z) (Y (a.b 11 Z) (Y (a.b 10 Z) (Y (a.b 9 Z) (Y (a.b 8 Z) (Y (a.b 7 Z) (Y (a.b 6 Z) (Y (a.b 5 Z) (Y (a.b 4 Z) (Y (a.b 3 Z) (Y (a.b 2 Z) (Y (a.b 1 Z) (Y (a.b 0 Z) P.nil))))))))))))))))))))))))))))))))))) (W (b.b 30 Z) (W (b.b 29 Z) (W (b.b 32 Z) (W (b.b 31 Z) (W (b.b 34 Z) (W (b.b 33 Z) (W (b.b 28 Z) (W (b.b 27 Z) (W (b.b 26 Z) (W (b.b 25 Z) (W (b.b 24 Z) (W (b.b 23 Z) (W (b.b 22 Z) (W (b.b 21 Z) (W (b.b 20 Z) (W (b.b 19 Z) (W (b.b 18 Z) (W (b.b 17 Z) (W (b.b 16 Z) (W (b.b 15 Z) (W (b.b 14 Z) (W (b.b 13 Z) (W (b.b 12 Z) (W (b.b 11 Z) (W (b.b 10 Z) (W (b.b 9 Z) (W (b.b 8 Z) (W (b.b 7 Z) (W (b.b 6 Z) (W (b.b 5 Z) (W (b.b 4 Z) (W (b.b 3 Z) (W (b.b 2 Z) (W (b.b 1 Z) (W (b.b 0 Z) I.nil))))))))))))))))))))))))))))))))))) (c.e [3,4,2,1,0] Z Z))⟩ h
  rintro ds ⟨bD,bE,b1,bv,bF,bw,bG⟩ L w cB hI cN h ct
  try dsimp only at hI
  obtain ⟨a3,bu,aL,bk,aM,bl,rfl,⟨dP,dt,hZ,a,b,c⟩⟩:=hI
  unfold F.DG at h
  refine M (M (H (Q 2 Z ?_)))
  refine J (N ?_)
  refine av Z (fun b2=>?_) (fun b2=>?_)
  ·have h:=aJ h b2
   refine aw (N (M (az ?_)))
   refine M (H (al (bO (us:=[K p 0,K t 0,K u 0]) u91 Z bV Z (c.q 2 Z Z)) Z (aU (bg (cs:=[.pointer none,.pointer none,.pointer none]) ft Z c) Z ?_)))
   rintro _ w ⟨bm,rfl,c⟩
   refine bn (bA (i:=0) (us:=[K p 0,K t 0,K u 0]) Z bV Z Z Z ⟨Z,Z,Z,V⟩ Z c) ?_
   intro w c
   refine J (N ?_)
   refine bf (r:=cB) (fun (g:Bool×List UInt32×Bool×List UInt32×Bool×List UInt32) L w=>∃(bp:Nat) (bH:Value) (bq:Nat) (bI:Value) (br:Nat) (bJ:Value),L=[(8,K aZ 0),(10,K bt 0),(11,K aS 0),(13,K bc 0),(15,K be 0),(17,K D 0),(18,K bi 0),(19,K bb 0),(20,vI bD),(21,K bm 0)]∧SfT [] [] w0 w [X br [vB g.2.2.2.2.1,bJ],red U bJ g.2.2.2.2.2,X bq [vB g.2.2.1,bI],red U bI g.2.2.2.1,X bp [vB g.1,bH],red U bH g.2.1,X aM [vB bw,bl],red U bl bG,X aL [vB bv,bk],red U bk bF,X a3 [vB bE,bu],red U bu b1,X ac [vB G.2.2.2.2.1,aK],red U aK G.2.2.2.2.2,X ab [vB G.2.2.1,aF],red U aF G.2.2.2.1,X T [vB G.1,aE],red U aE G.2.1,X u [vB E.1,C],red U C E.2,X B [vB d.2.2.2.2.2.2.2.2.2.2.2.2.2.2.2.1,an],red U an d.2.2.2.2.2.2.2.2.2.2.2.2.2.2.2.2,X A [vB d.2.2.2.2.2.2.2.2.2.2.2.2.2.1,am],red U am d.2.2.2.2.2.2.2.2.2.2.2.2.2.2.1,X z [vB d.2.2.2.2.2.2.2.2.2.2.2.1,ak],red U ak d.2.2.2.2.2.2.2.2.2.2.2.2.1,X be [vB aR.1,a5],red U a5 aR.2.1,X bc [vB aQ.1,a4],red U a4 aQ.2.1,X bt [K aV 0,K aW 0,K aX 0,K p 0,K t 0,vI d.2.2.2.2.2.2.2.2.2.2.1,.func (.func 168) #[] #[]],X t [vB d.2.2.2.2.2.2.2.2.1,ag],red U ag d.2.2.2.2.2.2.2.2.2.1,X p [vB d.2.2.2.2.2.2.1,ad],red U ad d.2.2.2.2.2.2.2.1,X aX [vB d.2.2.2.2.1,aB],red U aB d.2.2.2.2.2.1,X aW [vB d.2.2.1,aA],red U aA d.2.2.2.1,X aV [vB d.1,ap],red U ap d.2.1] [X aZ [.slice none 0 0,.slice none 0 0,vB false],X aS [K z 0,K A 0,K B 0],X D [K p 0,K t 0,K u 0],X bi [K T 0,K ab 0,K ac 0],X bb [K a3 0,K aL 0,K aM 0],X bm [K bp 0,K bq 0,K br 0]]) (F.B2 d bD bE b1 bv bF bw bG) ?_ ?_
   rotate_left
   ·intro bK
    refine M (H (Q 2 Z ?_))
    obtain ⟨cD,cO,h⟩:=aj h
    refine ao Z (i8 aQ.1 bD cO ((a.rp 11 Z).d c.fr).rp ((a.rb 12 Z).d c.fr)) Z ?_
    rintro _ w ⟨rfl,aD⟩
    have c:=c.f aD
    refine al (aq Z Z (ti _ cD 1)) Z (Q 2 Z ?_)
    obtain ⟨bS,cP,h⟩:=aj h
    refine ao Z (i8 aR.1 bD cP ((a.rp 13 Z).d c.fr).rp ((a.rb 14 Z).d c.fr)) Z ?_
    rintro _ w ⟨rfl,aD⟩
    have c:=c.f aD
    refine al (aq Z Z (ti _ bS 1)) Z (Q 2 Z ?_)
    refine J (N (az ?_))
    refine bf (r:=cB) (fun (g:Bool×Bool) L w=>L=[(8,K aZ 0),(10,K bt 0),(11,K aS 0),(13,K bc 0),(15,K be 0),(17,K D 0),(18,K bi 0),(19,K bb 0),(20,vI bD),(21,K bm 0),(22,vB g.1),(23,vB (bS == 1)),(85,vB g.2)]∧SfT [] [] w0 w [X aM [vB bw,bl],red U bl bG,X aL [vB bv,bk],red U bk bF,X a3 [vB bE,bu],red U bu b1,X ac [vB G.2.2.2.2.1,aK],red U aK G.2.2.2.2.2,X ab [vB G.2.2.1,aF],red U aF G.2.2.2.1,X T [vB G.1,aE],red U aE G.2.1,X u [vB E.1,C],red U C E.2,X B [vB d.2.2.2.2.2.2.2.2.2.2.2.2.2.2.2.1,an],red U an d.2.2.2.2.2.2.2.2.2.2.2.2.2.2.2.2,X A [vB d.2.2.2.2.2.2.2.2.2.2.2.2.2.1,am],red U am d.2.2.2.2.2.2.2.2.2.2.2.2.2.2.1,X z [vB d.2.2.2.2.2.2.2.2.2.2.2.1,ak],red U ak d.2.2.2.2.2.2.2.2.2.2.2.2.1,X be [vB aR.1,a5],red U a5 aR.2.1,X bc [vB aQ.1,a4],red U a4 aQ.2.1,X bt [K aV 0,K aW 0,K aX 0,K p 0,K t 0,vI d.2.2.2.2.2.2.2.2.2.2.1,.func (.func 168) #[] #[]],X t [vB d.2.2.2.2.2.2.2.2.1,ag],red U ag d.2.2.2.2.2.2.2.2.2.1,X p [vB d.2.2.2.2.2.2.1,ad],red U ad d.2.2.2.2.2.2.2.1,X aX [vB d.2.2.2.2.1,aB],red U aB d.2.2.2.2.2.1,X aW [vB d.2.2.1,aA],red U aA d.2.2.2.1,X aV [vB d.1,ap],red U ap d.2.1] [X aZ [.slice none 0 0,.slice none 0 0,vB false],X aS [K z 0,K A 0,K B 0],X D [K p 0,K t 0,K u 0],X bi [K T 0,K ab 0,K ac 0],X bb [K a3 0,K aL 0,K aM 0],X bm [K p 0,K t 0,K u 0]]) (F.Fb d E G bS bD bE b1 bv bF bw bG) ?_ ?_
    rotate_left
    ·intro cu
     refine H (Q 2 Z ?_)
     cases bL:(cD == 1)
     case true=>
      have h:=aJ h bL
      try simp only [bL]
      refine Q 3 Z ?_
      refine J (N ?_)
      exact ar _ (by exact ⟨Z,Z,Z,Z,Z,Z,Z,Z,Z,Z,Z,Z,Z,V⟩) (cu (true,bS == 1) _ _ ⟨Z,(SfT.mk' hZ (Y (a.b 34 Z) (Y (a.b 33 Z) (Y (a.b 32 Z) (Y (a.b 31 Z) (Y (a.b 30 Z) (Y (a.b 29 Z) (Y (a.b 28 Z) (Y (a.b 27 Z) (Y (a.b 26 Z) (Y (a.b 25 Z) (Y (a.b 24 Z) (Y (a.b 23 Z) (Y (a.b 22 Z) (Y (a.b 21 Z) (Y (a.b 20 Z) (Y (a.b 19 Z) (Y (a.b 18 Z) (Y (a.b 17 Z) (Y (a.b 16 Z) (Y (a.b 15 Z) (Y (a.b 14 Z) (Y (a.b 13 Z) (Y (a.b 12 Z) (Y (a.b 11 Z) (Y (a.b 10 Z) (Y (a.b 9 Z) (Y (a.b 8 Z) (Y (a.b 7 Z) (Y (a.b 6 Z) (Y (a.b 5 Z) (Y (a.b 4 Z) (Y (a.b 3 Z) (Y (a.b 2 Z) (Y (a.b 1 Z) (Y (a.b 0 Z) P.nil))))))))))))))))))))))))))))))))))) (W (b.b 34 Z) (W (b.b 33 Z) (W (b.b 32 Z) (W (b.b 31 Z) (W (b.b 30 Z) (W (b.b 29 Z) (W (b.b 28 Z) (W (b.b 27 Z) (W (b.b 26 Z) (W (b.b 25 Z) (W (b.b 24 Z) (W (b.b 23 Z) (W (b.b 22 Z) (W (b.b 21 Z) (W (b.b 20 Z) (W (b.b 19 Z) (W (b.b 18 Z) (W (b.b 17 Z) (W (b.b 16 Z) (W (b.b 15 Z) (W (b.b 14 Z) (W (b.b 13 Z) (W (b.b 12 Z) (W (b.b 11 Z) (W (b.b 10 Z) (W (b.b 9 Z) (W (b.b 8 Z) (W (b.b 7 Z) (W (b.b 6 Z) (W (b.b 5 Z) (W (b.b 4 Z) (W (b.b 3 Z) (W (b.b 2 Z) (W (b.b 1 Z) (W (b.b 0 Z) I.nil))))))))))))))))))))))))))))))))))) (c.e [1,2,3,4,5,0] Z Z))⟩ h)
     case false=>
      have h:=aI h bL
      try simp only [bL]
      refine Q 3 Z ?_
      refine J (N ?_)
      exact ar _ (by exact ⟨Z,Z,Z,Z,Z,Z,Z,Z,Z,Z,Z,Z,Z,V⟩) (cu (false,false) _ _ ⟨Z,(SfT.mk' hZ (Y (a.b 34 Z) (Y (a.b 33 Z) (Y (a.b 32 Z) (Y (a.b 31 Z) (Y (a.b 30 Z) (Y (a.b 29 Z) (Y (a.b 28 Z) (Y (a.b 27 Z) (Y (a.b 26 Z) (Y (a.b 25 Z) (Y (a.b 24 Z) (Y (a.b 23 Z) (Y (a.b 22 Z) (Y (a.b 21 Z) (Y (a.b 20 Z) (Y (a.b 19 Z) (Y (a.b 18 Z) (Y (a.b 17 Z) (Y (a.b 16 Z) (Y (a.b 15 Z) (Y (a.b 14 Z) (Y (a.b 13 Z) (Y (a.b 12 Z) (Y (a.b 11 Z) (Y (a.b 10 Z) (Y (a.b 9 Z) (Y (a.b 8 Z) (Y (a.b 7 Z) (Y (a.b 6 Z) (Y (a.b 5 Z) (Y (a.b 4 Z) (Y (a.b 3 Z) (Y (a.b 2 Z) (Y (a.b 1 Z) (Y (a.b 0 Z) P.nil))))))))))))))))))))))))))))))))))) (W (b.b 34 Z) (W (b.b 33 Z) (W (b.b 32 Z) (W (b.b 31 Z) (W (b.b 30 Z) (W (b.b 29 Z) (W (b.b 28 Z) (W (b.b 27 Z) (W (b.b 26 Z) (W (b.b 25 Z) (W (b.b 24 Z) (W (b.b 23 Z) (W (b.b 22 Z) (W (b.b 21 Z) (W (b.b 20 Z) (W (b.b 19 Z) (W (b.b 18 Z) (W (b.b 17 Z) (W (b.b 16 Z) (W (b.b 15 Z) (W (b.b 14 Z) (W (b.b 13 Z) (W (b.b 12 Z) (W (b.b 11 Z) (W (b.b 10 Z) (W (b.b 9 Z) (W (b.b 8 Z) (W (b.b 7 Z) (W (b.b 6 Z) (W (b.b 5 Z) (W (b.b 4 Z) (W (b.b 3 Z) (W (b.b 2 Z) (W (b.b 1 Z) (W (b.b 0 Z) I.nil))))))))))))))))))))))))))))))))))) (c.e [1,2,3,4,5,0] Z Z))⟩ h)
    rintro ⟨du,dv⟩ L w hJ h
    try dsimp only at hJ
    obtain ⟨rfl,⟨dw,db,hZ,a,b,c⟩⟩:=hJ
    unfold F.Fb at h
    refine av Z (fun b3=>?_) (fun b3=>?_)
    ·have h:=aJ h b3
     refine H (al (bO (us:=[K T 0,K ab 0,K ac 0]) u91 Z bV Z (c.q 3 Z Z)) Z (bn (bA (i:=5) (us:=[K T 0,K ab 0,K ac 0]) Z bV Z Z Z ⟨Z,Z,Z,V⟩ Z c) ?_))
     intro w c
     refine J (aP ?_)
     refine N ?_
     exact ar _ (by exact ⟨Z,Z,Z,Z,Z,Z,Z,Z,Z,Z,V⟩) (bK (G.1,G.2.1,G.2.2.1,G.2.2.2.1,G.2.2.2.2.1,G.2.2.2.2.2) _ _ ⟨T,aE,ab,aF,ac,aK,Z,(SfT.mk' hZ (Y (a.b 28 Z) (Y (a.b 27 Z) (Y (a.b 26 Z) (Y (a.b 25 Z) (Y (a.b 24 Z) (Y (a.b 23 Z) (Y (a.b 34 Z) (Y (a.b 33 Z) (Y (a.b 32 Z) (Y (a.b 31 Z) (Y (a.b 30 Z) (Y (a.b 29 Z) (Y (a.b 28 Z) (Y (a.b 27 Z) (Y (a.b 26 Z) (Y (a.b 25 Z) (Y (a.b 24 Z) (Y (a.b 23 Z) (Y (a.b 22 Z) (Y (a.b 21 Z) (Y (a.b 20 Z) (Y (a.b 19 Z) (Y (a.b 18 Z) (Y (a.b 17 Z) (Y (a.b 16 Z) (Y (a.b 15 Z) (Y (a.b 14 Z) (Y (a.b 13 Z) (Y (a.b 12 Z) (Y (a.b 11 Z) (Y (a.b 10 Z) (Y (a.b 9 Z) (Y (a.b 8 Z) (Y (a.b 7 Z) (Y (a.b 6 Z) (Y (a.b 5 Z) (Y (a.b 4 Z) (Y (a.b 3 Z) (Y (a.b 2 Z) (Y (a.b 1 Z) (Y (a.b 0 Z) P.nil))))))))))))))))))))))))))))))))))))))))) (W (b.b 28 Z) (W (b.b 27 Z) (W (b.b 26 Z) (W (b.b 25 Z) (W (b.b 24 Z) (W (b.b 23 Z) (W (b.b 34 Z) (W (b.b 33 Z) (W (b.b 32 Z) (W (b.b 31 Z) (W (b.b 30 Z) (W (b.b 29 Z) (W (b.b 28 Z) (W (b.b 27 Z) (W (b.b 26 Z) (W (b.b 25 Z) (W (b.b 24 Z) (W (b.b 23 Z) (W (b.b 22 Z) (W (b.b 21 Z) (W (b.b 20 Z) (W (b.b 19 Z) (W (b.b 18 Z) (W (b.b 17 Z) (W (b.b 16 Z) (W (b.b 15 Z) (W (b.b 14 Z) (W (b.b 13 Z) (W (b.b 12 Z) (W (b.b 11 Z) (W (b.b 10 Z) (W (b.b 9 Z) (W (b.b 8 Z) (W (b.b 7 Z) (W (b.b 6 Z) (W (b.b 5 Z) (W (b.b 4 Z) (W (b.b 3 Z) (W (b.b 2 Z) (W (b.b 1 Z) (W (b.b 0 Z) I.nil))))))))))))))))))))))))))))))))))))))))) c)⟩ h)
    have h:=aI h b3
    refine M (H (Q 2 Z ?_))
    refine J (N ?_)
    refine av Z (fun b4=>?_) (fun b4=>?_)
    ·have h:=aJ h b4
     refine H (al (bO (us:=[K z 0,K A 0,K B 0]) u91 Z bV Z (c.q 1 Z Z)) Z (bn (bA (i:=5) (us:=[K z 0,K A 0,K B 0]) Z bV Z Z Z ⟨Z,Z,Z,V⟩ Z c) ?_))
     intro w c
     refine J (aP ?_)
     refine N ?_
     exact ar _ (by exact ⟨Z,Z,Z,Z,Z,Z,Z,Z,Z,Z,V⟩) (bK (d.2.2.2.2.2.2.2.2.2.2.2.1,d.2.2.2.2.2.2.2.2.2.2.2.2.1,d.2.2.2.2.2.2.2.2.2.2.2.2.2.1,d.2.2.2.2.2.2.2.2.2.2.2.2.2.2.1,d.2.2.2.2.2.2.2.2.2.2.2.2.2.2.2.1,d.2.2.2.2.2.2.2.2.2.2.2.2.2.2.2.2) _ _ ⟨z,ak,A,am,B,an,Z,(SfT.mk' hZ (Y (a.b 20 Z) (Y (a.b 19 Z) (Y (a.b 18 Z) (Y (a.b 17 Z) (Y (a.b 16 Z) (Y (a.b 15 Z) (Y (a.b 34 Z) (Y (a.b 33 Z) (Y (a.b 32 Z) (Y (a.b 31 Z) (Y (a.b 30 Z) (Y (a.b 29 Z) (Y (a.b 28 Z) (Y (a.b 27 Z) (Y (a.b 26 Z) (Y (a.b 25 Z) (Y (a.b 24 Z) (Y (a.b 23 Z) (Y (a.b 22 Z) (Y (a.b 21 Z) (Y (a.b 20 Z) (Y (a.b 19 Z) (Y (a.b 18 Z) (Y (a.b 17 Z) (Y (a.b 16 Z) (Y (a.b 15 Z) (Y (a.b 14 Z) (Y (a.b 13 Z) (Y (a.b 12 Z) (Y (a.b 11 Z) (Y (a.b 10 Z) (Y (a.b 9 Z) (Y (a.b 8 Z) (Y (a.b 7 Z) (Y (a.b 6 Z) (Y (a.b 5 Z) (Y (a.b 4 Z) (Y (a.b 3 Z) (Y (a.b 2 Z) (Y (a.b 1 Z) (Y (a.b 0 Z) P.nil))))))))))))))))))))))))))))))))))))))))) (W (b.b 20 Z) (W (b.b 19 Z) (W (b.b 18 Z) (W (b.b 17 Z) (W (b.b 16 Z) (W (b.b 15 Z) (W (b.b 34 Z) (W (b.b 33 Z) (W (b.b 32 Z) (W (b.b 31 Z) (W (b.b 30 Z) (W (b.b 29 Z) (W (b.b 28 Z) (W (b.b 27 Z) (W (b.b 26 Z) (W (b.b 25 Z) (W (b.b 24 Z) (W (b.b 23 Z) (W (b.b 22 Z) (W (b.b 21 Z) (W (b.b 20 Z) (W (b.b 19 Z) (W (b.b 18 Z) (W (b.b 17 Z) (W (b.b 16 Z) (W (b.b 15 Z) (W (b.b 14 Z) (W (b.b 13 Z) (W (b.b 12 Z) (W (b.b 11 Z) (W (b.b 10 Z) (W (b.b 9 Z) (W (b.b 8 Z) (W (b.b 7 Z) (W (b.b 6 Z) (W (b.b 5 Z) (W (b.b 4 Z) (W (b.b 3 Z) (W (b.b 2 Z) (W (b.b 1 Z) (W (b.b 0 Z) I.nil))))))))))))))))))))))))))))))))))))))))) c)⟩ h)
    have h:=aI h b4
    refine M (H (Q 3 Z ?_))
    refine J (N ?_)
    refine av Z (fun b5=>?_) (fun b5=>?_)
    ·have h:=aJ h b5
     refine H ?_
     obtain ⟨a8,cQ,h⟩:=aj h
     refine ao Z (eR  cQ ) Z ?_
     rintro _ w ⟨ch,ci,cj,bT,bW,bX,rfl,aD⟩
     have c:=c.f aD
     refine bn (bA (i:=11) (us:=[K bT 0,K bW 0,K bX 0]) Z bV Z Z Z ⟨Z,Z,Z,V⟩ Z c) ?_
     intro w c
     refine J (aP ?_)
     refine N ?_
     replace c:=c.pick (os':=[X bT [vB a8.1,ch],O U ch a8.2.1,X bW [vB a8.2.2.1,ci],O U ci a8.2.2.2.1,X bX [vB a8.2.2.2.2.1,cj],O U cj a8.2.2.2.2.2]++[X aZ [.slice none 0 0,.slice none 0 0,vB false],X aS [K z 0,K A 0,K B 0],X D [K p 0,K t 0,K u 0],X bi [K T 0,K ab 0,K ac 0],X bb [K a3 0,K aL 0,K aM 0],X bm [K bT 0,K bW 0,K bX 0]]) [0,1,2,3,4,5,6,7,8,9,10,11] (by decide) rfl
     obtain ⟨dx,dc,hZ,a,b,c⟩:=hZ.frzT hTT a b c
     exact ar _ (by exact ⟨Z,Z,Z,Z,Z,Z,Z,Z,Z,Z,V⟩) (bK (a8.1,a8.2.1,a8.2.2.1,a8.2.2.2.1,a8.2.2.2.2.1,a8.2.2.2.2.2) _ _ ⟨bT,ch,bW,ci,bX,cj,Z,(SfT.mk' hZ (Y (a.b 36 Z) (Y (a.b 35 Z) (Y (a.b 38 Z) (Y (a.b 37 Z) (Y (a.b 40 Z) (Y (a.b 39 Z) (Y (a.b 34 Z) (Y (a.b 33 Z) (Y (a.b 32 Z) (Y (a.b 31 Z) (Y (a.b 30 Z) (Y (a.b 29 Z) (Y (a.b 28 Z) (Y (a.b 27 Z) (Y (a.b 26 Z) (Y (a.b 25 Z) (Y (a.b 24 Z) (Y (a.b 23 Z) (Y (a.b 22 Z) (Y (a.b 21 Z) (Y (a.b 20 Z) (Y (a.b 19 Z) (Y (a.b 18 Z) (Y (a.b 17 Z) (Y (a.b 16 Z) (Y (a.b 15 Z) (Y (a.b 14 Z) (Y (a.b 13 Z) (Y (a.b 12 Z) (Y (a.b 11 Z) (Y (a.b 10 Z) (Y (a.b 9 Z) (Y (a.b 8 Z) (Y (a.b 7 Z) (Y (a.b 6 Z) (Y (a.b 5 Z) (Y (a.b 4 Z) (Y (a.b 3 Z) (Y (a.b 2 Z) (Y (a.b 1 Z) (Y (a.b 0 Z) P.nil))))))))))))))))))))))))))))))))))))))))) (W (b.b 36 Z) (W (b.b 35 Z) (W (b.b 38 Z) (W (b.b 37 Z) (W (b.b 40 Z) (W (b.b 39 Z) (W (b.b 34 Z) (W (b.b 33 Z) (W (b.b 32 Z) (W (b.b 31 Z) (W (b.b 30 Z) (W (b.b 29 Z) (W (b.b 28 Z) (W (b.b 27 Z) (W (b.b 26 Z) (W (b.b 25 Z) (W (b.b 24 Z) (W (b.b 23 Z) (W (b.b 22 Z) (W (b.b 21 Z) (W (b.b 20 Z) (W (b.b 19 Z) (W (b.b 18 Z) (W (b.b 17 Z) (W (b.b 16 Z) (W (b.b 15 Z) (W (b.b 14 Z) (W (b.b 13 Z) (W (b.b 12 Z) (W (b.b 11 Z) (W (b.b 10 Z) (W (b.b 9 Z) (W (b.b 8 Z) (W (b.b 7 Z) (W (b.b 6 Z) (W (b.b 5 Z) (W (b.b 4 Z) (W (b.b 3 Z) (W (b.b 2 Z) (W (b.b 1 Z) (W (b.b 0 Z) I.nil))))))))))))))))))))))))))))))))))))))))) c)⟩ h)
    have h:=aI h b5
    refine aw (aP ?_)
    refine N ?_
    exact ar _ (by exact ⟨Z,Z,Z,Z,Z,Z,Z,Z,Z,Z,V⟩) (bK (d.2.2.2.2.2.2.1,d.2.2.2.2.2.2.2.1,d.2.2.2.2.2.2.2.2.1,d.2.2.2.2.2.2.2.2.2.1,E.1,E.2) _ _ ⟨p,ad,t,ag,u,C,Z,(SfT.mk' hZ (Y (a.b 22 Z) (Y (a.b 21 Z) (Y (a.b 9 Z) (Y (a.b 8 Z) (Y (a.b 7 Z) (Y (a.b 6 Z) (Y (a.b 34 Z) (Y (a.b 33 Z) (Y (a.b 32 Z) (Y (a.b 31 Z) (Y (a.b 30 Z) (Y (a.b 29 Z) (Y (a.b 28 Z) (Y (a.b 27 Z) (Y (a.b 26 Z) (Y (a.b 25 Z) (Y (a.b 24 Z) (Y (a.b 23 Z) (Y (a.b 22 Z) (Y (a.b 21 Z) (Y (a.b 20 Z) (Y (a.b 19 Z) (Y (a.b 18 Z) (Y (a.b 17 Z) (Y (a.b 16 Z) (Y (a.b 15 Z) (Y (a.b 14 Z) (Y (a.b 13 Z) (Y (a.b 12 Z) (Y (a.b 11 Z) (Y (a.b 10 Z) (Y (a.b 9 Z) (Y (a.b 8 Z) (Y (a.b 7 Z) (Y (a.b 6 Z) (Y (a.b 5 Z) (Y (a.b 4 Z) (Y (a.b 3 Z) (Y (a.b 2 Z) (Y (a.b 1 Z) (Y (a.b 0 Z) P.nil))))))))))))))))))))))))))))))))))))))))) (W (b.b 22 Z) (W (b.b 21 Z) (W (b.b 9 Z) (W (b.b 8 Z) (W (b.b 7 Z) (W (b.b 6 Z) (W (b.b 34 Z) (W (b.b 33 Z) (W (b.b 32 Z) (W (b.b 31 Z) (W (b.b 30 Z) (W (b.b 29 Z) (W (b.b 28 Z) (W (b.b 27 Z) (W (b.b 26 Z) (W (b.b 25 Z) (W (b.b 24 Z) (W (b.b 23 Z) (W (b.b 22 Z) (W (b.b 21 Z) (W (b.b 20 Z) (W (b.b 19 Z) (W (b.b 18 Z) (W (b.b 17 Z) (W (b.b 16 Z) (W (b.b 15 Z) (W (b.b 14 Z) (W (b.b 13 Z) (W (b.b 12 Z) (W (b.b 11 Z) (W (b.b 10 Z) (W (b.b 9 Z) (W (b.b 8 Z) (W (b.b 7 Z) (W (b.b 6 Z) (W (b.b 5 Z) (W (b.b 4 Z) (W (b.b 3 Z) (W (b.b 2 Z) (W (b.b 1 Z) (W (b.b 0 Z) I.nil))))))))))))))))))))))))))))))))))))))))) c)⟩ h)
   rintro ⟨cE,c4,cF,c5,cH,c6⟩ L w hJ h
   try dsimp only at hJ
   obtain ⟨bp,bH,bq,bI,br,bJ,rfl,⟨dz,dd,hZ,a,b,c⟩⟩:=hJ
   unfold F.B2 at h
   obtain ⟨e,cR,h⟩:=aj h
   refine ia (es:=[X br [vB cH,bJ],red U bJ c6,X bq [vB cF,bI],red U bI c5,X bp [vB cE,bH],red U bH c4,X aM [vB bw,bl],red U bl bG,X aL [vB bv,bk],red U bk bF,X a3 [vB bE,bu],red U bu b1,X ac [vB G.2.2.2.2.1,aK],red U aK G.2.2.2.2.2,X ab [vB G.2.2.1,aF],red U aF G.2.2.2.1,X T [vB G.1,aE],red U aE G.2.1,X u [vB E.1,C],red U C E.2,X B [vB d.2.2.2.2.2.2.2.2.2.2.2.2.2.2.2.1,an],red U an d.2.2.2.2.2.2.2.2.2.2.2.2.2.2.2.2,X A [vB d.2.2.2.2.2.2.2.2.2.2.2.2.2.1,am],red U am d.2.2.2.2.2.2.2.2.2.2.2.2.2.2.1,X z [vB d.2.2.2.2.2.2.2.2.2.2.2.1,ak],red U ak d.2.2.2.2.2.2.2.2.2.2.2.2.1,X be [vB aR.1,a5],red U a5 aR.2.1,X bc [vB aQ.1,a4],red U a4 aQ.2.1,X bt [K aV 0,K aW 0,K aX 0,K p 0,K t 0,vI d.2.2.2.2.2.2.2.2.2.2.1,.func (.func 168) #[] #[]],X t [vB d.2.2.2.2.2.2.2.2.1,ag],red U ag d.2.2.2.2.2.2.2.2.2.1,X p [vB d.2.2.2.2.2.2.1,ad],red U ad d.2.2.2.2.2.2.2.1,X aX [vB d.2.2.2.2.1,aB],red U aB d.2.2.2.2.2.1,X aW [vB d.2.2.1,aA],red U aA d.2.2.2.1,X aV [vB d.1,ap],red U ap d.2.1]) (os:=[X aZ [.slice none 0 0,.slice none 0 0,vB false],X aS [K z 0,K A 0,K B 0],X D [K p 0,K t 0,K u 0],X bi [K T 0,K ab 0,K ac 0],X bm [K bp 0,K bq 0,K br 0]]) (fun i=>[5,7,8].contains i) (fun i=>none) (fun i=>if i=8 then [7] else []) (fun i=>if i=8 then [X bb [K a3 0,K aL 0,K aM 0]] else []) (fun i=>if i=5 then [8] else []) (fun i=>if i=8 then [7] else []) (fun i=>if i=5 then (fun h v x y=>v=.agg #[K a3 0,K aL 0,K aM 0]∧x=[]∧y=[]) else if i=7 then (fun h v x y=>∃m:Nat,∃n:Nat,∃o:Nat,∃f:Value,∃j:Value,∃l:Value,v=.agg #[K m 0,K n 0,K o 0]∧x=[]∧y=[red U f e.2.1,X m [vB e.1,f],red U j e.2.2.2.1,X n [vB e.2.2.1,j],red U l e.2.2.2.2.2,X o [vB e.2.2.2.2.1,l]]) else (fun h v x y=>∃m:Nat,∃n:Nat,∃o:Nat,∃f:Value,∃j:Value,∃l:Value,h=[(.agg #[K m 0,K n 0,K o 0],[],[red U f e.2.1,X m [vB e.1,f],red U j e.2.2.2.1,X n [vB e.2.2.1,j],red U l e.2.2.2.2.2,X o [vB e.2.2.2.2.1,l]])]∧v=undef∧x=[X bb [K m 0,K n 0,K o 0]]∧y=[red U f e.2.1,X m [vB e.1,f],red U j e.2.2.2.1,X n [vB e.2.2.1,j],red U l e.2.2.2.2.2,X o [vB e.2.2.2.2.1,l]])) (SfT.mk' hZ a b (c.pick (os':=[X bb [K a3 0,K aL 0,K aM 0],X aZ [.slice none 0 0,.slice none 0 0,vB false],X aS [K z 0,K A 0,K B 0],X D [K p 0,K t 0,K u 0],X bi [K T 0,K ab 0,K ac 0],X bm [K bp 0,K bq 0,K br 0]]) [4,0,1,2,3,5] (by decide) rfl)) (fun k hk=>(if_neg (fun q=>by subst q; exact absurd hk (by decide)))) hTT rfl (fun i=>(eZ (by rintro h v x y ⟨rfl,rfl,rfl⟩; exact dF rfl) (eZ (by rintro h v x y ⟨_,_,_,_,_,_,rfl,rfl,rfl⟩; exact dF rfl) (by rintro h v x y ⟨_,_,_,_,_,_,_,rfl,rfl,rfl⟩; exact dF rfl)))) bR (by kernel_rfl) (by kernel_rfl) ?_
   show fL _ _ _ _ _ _ _ _ _ _ _ _ _ _ _ _ [0,1,2,3,4,5,6,7,8] _ _
   refine bU Z Z (fun w Sb wb hZ a b hF=>au Z) Z (bU Z Z (fun w Sb wb hZ a b hF=>aO Z) Z (bU Z Z (fun w Sb wb hZ a b hF=>ax (k:=6) u76 Z Z Bu Z) Z (bU Z Z (fun w Sb wb hZ a b hF=>aH Tryz.underlying74 Z Z ((a.rb 10 Z).cell hF.fr 6 Z)) Z (bU Z Z (fun w Sb wb hZ a b hF=>au Z) Z ?_))))
   refine jb (fun h v x y=>v=.agg #[K a3 0,K aL 0,K aM 0]∧x=[]∧y=[]) [] [] [] [X bb [K a3 0,K aL 0,K aM 0],X aZ [.slice none 0 0,.slice none 0 0,vB false],X aS [K z 0,K A 0,K B 0],X D [K p 0,K t 0,K u 0],X bi [K T 0,K ab 0,K ac 0],X bm [K bp 0,K bq 0,K br 0]] Z Z (fun h v x y=>Z) Z Z Z Z ⟨_,_,_,Z,Z,Z⟩ (fun w Sl Tl hZ hTT a b c=>?_) Z ?_
   ·exact Bd (bO (us:=[K a3 0,K aL 0,K aM 0]) u91 Z bV Z (c.q 0 Z Z)) ⟨_,_,⟨Z,Z,Z⟩,SfT.mk' hZ P.nil I.nil c⟩
   rintro v_q x_q y_q ⟨rfl,rfl,rfl⟩
   refine bU Z Z (fun w Sb wb hZ a b hF=>bO (us:=[K bp 0,K bq 0,K br 0]) u91 Z bV Z (hF.q 4 Z Z)) Z ?_
   refine uS (fun h v x y=>∃m:Nat,∃n:Nat,∃o:Nat,∃f:Value,∃j:Value,∃l:Value,v=.agg #[K m 0,K n 0,K o 0]∧x=[]∧y=[red U f e.2.1,X m [vB e.1,f],red U j e.2.2.2.1,X n [vB e.2.2.1,j],red U l e.2.2.2.2.2,X o [vB e.2.2.2.2.1,l]]) [] [] [] _ Z Z (fun h v x y=>Z) Z Z Z Z ⟨_,_,_,0,0,0,undef,undef,undef,Z,Z,Z⟩ Z (by kernel_rfl) Z (fun w Sl Tl hZ hTT a b c=>?_) Z ?_
   ·replace c:=c.pick (os':=[]++[X aZ [.slice none 0 0,.slice none 0 0,vB false],X aS [K z 0,K A 0,K B 0],X D [K p 0,K t 0,K u 0],X bi [K T 0,K ab 0,K ac 0],X bm [K bp 0,K bq 0,K br 0]]) [0,1,2,3,4] (by decide) rfl
    obtain ⟨hZ,a,b,c⟩:=hZ.frzK hTT a b c
    refine ep (qV d.1 d.2.2.1 d.2.2.2.2.1 d.2.2.2.2.2.2.1 d.2.2.2.2.2.2.2.2.1 d.2.2.2.2.2.2.2.2.2.2.1 bE bv bw true cE cF cH cR (hZ.okT hTT c) (a.j b 0 Z) (a.k b 1 Z) (a.j b 2 Z) (a.k b 3 Z) (a.j b 4 Z) (a.k b 5 Z) (a.j b 6 Z) (a.k b 7 Z) (a.j b 8 Z) (a.k b 9 Z) (a.k b 10 Z) (a.j b 29 Z) (a.k b 30 Z) (a.j b 31 Z) (a.k b 32 Z) (a.j b 33 Z) (a.k b 34 Z) (a.j b 35 Z) (a.k b 36 Z) (a.j b 37 Z) (a.k b 38 Z) (a.j b 39 Z) (a.k b 40 Z)) ?_
    rintro _ w ⟨m,f,n,j,o,l,rfl,aD,cr⟩
    obtain ⟨dA,de,hZ,a,b,c⟩:=hZ.m a b c aD cr rfl
    exact ⟨_,_,⟨m,n,o,f,j,l,Z,Z,Z⟩,SfT.mk' hZ (Y (a.b 41 Z) (Y (a.b 42 Z) (Y (a.b 43 Z) (Y (a.b 44 Z) (Y (a.b 45 Z) (Y (a.b 46 Z) P.nil)))))) (W (b.b 41 Z) (W (b.b 42 Z) (W (b.b 43 Z) (W (b.b 44 Z) (W (b.b 45 Z) (W (b.b 46 Z) I.nil)))))) c⟩
   rintro v_q x_q y_q ⟨m,n,o,f,j,l,rfl,rfl,rfl⟩
   refine u9 (fun h v x y=>∃m:Nat,∃n:Nat,∃o:Nat,∃f:Value,∃j:Value,∃l:Value,h=[(.agg #[K m 0,K n 0,K o 0],[],[red U f e.2.1,X m [vB e.1,f],red U j e.2.2.2.1,X n [vB e.2.2.1,j],red U l e.2.2.2.2.2,X o [vB e.2.2.2.2.1,l]])]∧v=undef∧x=[X bb [K m 0,K n 0,K o 0]]∧y=[red U f e.2.1,X m [vB e.1,f],red U j e.2.2.2.1,X n [vB e.2.2.1,j],red U l e.2.2.2.2.2,X o [vB e.2.2.2.2.1,l]]) [(.agg #[K m 0,K n 0,K o 0],[],[red U f e.2.1,X m [vB e.1,f],red U j e.2.2.2.1,X n [vB e.2.2.1,j],red U l e.2.2.2.2.2,X o [vB e.2.2.2.2.1,l]])] [X bb [K a3 0,K aL 0,K aM 0]] [red U f e.2.1,X m [vB e.1,f],red U j e.2.2.2.1,X n [vB e.2.2.1,j],red U l e.2.2.2.2.2,X o [vB e.2.2.2.2.1,l]] _ Z Z (fun h v x y=>Z) Z Z Z Z ⟨_,_,_,m,n,o,f,j,l,Z,Z,Z,Z⟩ (fun w Sl Tl hZ hTT a b c=>?_) ?_
   ·refine tO (bA (i:=0) (us:=[K m 0,K n 0,K o 0]) Z bV Z Z Z ⟨Z,Z,Z,V⟩ Z c) ?_
    intro w c
    exact ⟨_,_,⟨m,n,o,f,j,l,Z,Z,Z,Z⟩,SfT.mk' hZ (Y (a.b 46 Z) (Y (a.b 45 Z) (Y (a.b 44 Z) (Y (a.b 43 Z) (Y (a.b 42 Z) (Y (a.b 41 Z) P.nil)))))) (W (b.b 46 Z) (W (b.b 45 Z) (W (b.b 44 Z) (W (b.b 43 Z) (W (b.b 42 Z) (W (b.b 41 Z) I.nil)))))) c⟩
   rintro v_q x_q y_q ⟨b0_155_0',b0_155_1',b0_155_2',u0_155_0_1',u0_155_1_1',u0_155_2_1',hh,rfl,rfl,rfl⟩
   replace hh:([(.agg #[K m 0,K n 0,K o 0],[],[red U f e.2.1,X m [vB e.1,f],red U j e.2.2.2.1,X n [vB e.2.2.1,j],red U l e.2.2.2.2.2,X o [vB e.2.2.2.2.1,l]])]:List Th)=[(.agg #[K b0_155_0' 0,K b0_155_1' 0,K b0_155_2' 0],[],[red U u0_155_0_1' e.2.1,X b0_155_0' [vB e.1,u0_155_0_1'],red U u0_155_1_1' e.2.2.2.1,X b0_155_1' [vB e.2.2.1,u0_155_1_1'],red U u0_155_2_1' e.2.2.2.2.2,X b0_155_2' [vB e.2.2.2.2.1,u0_155_2_1']])]:=hh
   cases hh
   refine kv fun w hQ=>?_
   obtain ⟨dB,df,hZ,a,b,c⟩:=hQ
   refine aP ?_
   refine N (H (Q 3 Z ?_))
   refine J ?_
   exact bh (bo _ (by exact ⟨Z,Z,Z,Z,Z,Z,Z,Z,Z,V⟩) (cN (wI (bD - 1),e.1,e.2.1,e.2.2.1,e.2.2.2.1,e.2.2.2.2.1,e.2.2.2.2.2) _ _ ⟨m,f,n,j,o,l,Z,(SfT.mk' hZ (Y (a.b 41 Z) (Y (a.b 42 Z) (Y (a.b 43 Z) (Y (a.b 44 Z) (Y (a.b 45 Z) (Y (a.b 46 Z) (Y (a.b 28 Z) (Y (a.b 27 Z) (Y (a.b 26 Z) (Y (a.b 25 Z) (Y (a.b 24 Z) (Y (a.b 23 Z) (Y (a.b 22 Z) (Y (a.b 21 Z) (Y (a.b 20 Z) (Y (a.b 19 Z) (Y (a.b 18 Z) (Y (a.b 17 Z) (Y (a.b 16 Z) (Y (a.b 15 Z) (Y (a.b 14 Z) (Y (a.b 13 Z) (Y (a.b 12 Z) (Y (a.b 11 Z) (Y (a.b 10 Z) (Y (a.b 9 Z) (Y (a.b 8 Z) (Y (a.b 7 Z) (Y (a.b 6 Z) (Y (a.b 5 Z) (Y (a.b 4 Z) (Y (a.b 3 Z) (Y (a.b 2 Z) (Y (a.b 1 Z) (Y (a.b 0 Z) P.nil))))))))))))))))))))))))))))))))))) (W (b.b 41 Z) (W (b.b 42 Z) (W (b.b 43 Z) (W (b.b 44 Z) (W (b.b 45 Z) (W (b.b 46 Z) (W (b.b 28 Z) (W (b.b 27 Z) (W (b.b 26 Z) (W (b.b 25 Z) (W (b.b 24 Z) (W (b.b 23 Z) (W (b.b 22 Z) (W (b.b 21 Z) (W (b.b 20 Z) (W (b.b 19 Z) (W (b.b 18 Z) (W (b.b 17 Z) (W (b.b 16 Z) (W (b.b 15 Z) (W (b.b 14 Z) (W (b.b 13 Z) (W (b.b 12 Z) (W (b.b 11 Z) (W (b.b 10 Z) (W (b.b 9 Z) (W (b.b 8 Z) (W (b.b 7 Z) (W (b.b 6 Z) (W (b.b 5 Z) (W (b.b 4 Z) (W (b.b 3 Z) (W (b.b 2 Z) (W (b.b 1 Z) (W (b.b 0 Z) I.nil))))))))))))))))))))))))))))))))))) (c.e [1,2,3,4,0] Z Z))⟩ (aY h ct)))
  have h:=aI h b2
  refine ba ?_
  refine aC (aC ?_)
  have h:=aT h ct
  refine a9 ?_
  refine N (M (H (Q 1 Z ?_)))
  refine al (bO (us:=[K a3 0,K aL 0,K aM 0]) u91 Z bV Z (c.q 4 Z Z)) Z ?_
  obtain ⟨cI,cS,h⟩:=aj h
  refine ao Z (lV d.1 d.2.2.1 d.2.2.2.2.1 d.2.2.2.2.2.2.1 d.2.2.2.2.2.2.2.2.1 d.2.2.2.2.2.2.2.2.2.2.1 bE bv bw cS ((a.rp 0 Z).d c.fr).rp ((a.rb 1 Z).d c.fr) ((a.rp 2 Z).d c.fr).rp ((a.rb 3 Z).d c.fr) ((a.rp 4 Z).d c.fr).rp ((a.rb 5 Z).d c.fr) ((a.rp 6 Z).d c.fr).rp ((a.rb 7 Z).d c.fr) ((a.rp 8 Z).d c.fr).rp ((a.rb 9 Z).d c.fr) ((a.rb 10 Z).d c.fr) ((a.rp 29 Z).d c.fr).rp ((a.rb 30 Z).d c.fr) ((a.rp 31 Z).d c.fr).rp ((a.rb 32 Z).d c.fr) ((a.rp 33 Z).d c.fr).rp ((a.rb 34 Z).d c.fr)) Z ?_
  rintro _ w ⟨ck,cm,rfl,aD⟩
  have c:=c.f aD
  refine bn (bA (i:=2) (us:=[ck,cm,vB cI.2.2]) Z cx Z Z Z ⟨(c.ro 0 Z).one,(c.ro 1 Z).one,Z,V⟩ Z c) ?_
  intro w c
  refine Q 1 Z ?_
  refine J (N (ay ?_))
  cases h
  replace c:=hZ.st c
  exact fk Z ⟨_,Z,bY (us:=[ck,cm,vB cI.2.2]) u33 Z cx (c.q 2 Z Z)⟩ Z ⟨ck,cm,Z,c.e [0,1] Z Z⟩
end Go.Proofs
