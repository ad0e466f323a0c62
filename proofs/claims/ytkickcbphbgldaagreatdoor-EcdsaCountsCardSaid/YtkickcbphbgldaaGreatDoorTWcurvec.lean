import Derived.Test.YtkickcbphbgldaaGreatDoorTW0
import Derived.Test.YtkickcbphbgldaaGreatDoorGkFman
import Derived.Test.YtkickcbphbgldaaGreatDoorTWbignumc
import Derived.Test.YtkickcbphbgldaaGreatDoorTWcurveb
set_option linter.unusedVariables false
set_option linter.unusedSimpArgs false
set_option linter.unusedSectionVars false
set_option maxRecDepth 4000
namespace Go.Proofs
open Go Go.RowKit Go.Gk
open Go.Gk renaming Off → K, Rds → Q, aa → P, ae → O, af → H, ah → J, ai → I, e32 → U, own → N, pB → M
open Nat renaming le_of_ble_eq_true → R
open Go.Gk.OE renaming bx → W
open Go.Gk.Off renaming cons → X
open Go.Gk.Rds renaming cons → Y
set_option maxHeartbeats 8000000 in
theorem kI {w0:World} {a1 a2 b6 b7:List UInt32} {cn co a5 a6:Value} (a0:Int) (bq:Bool) {r:List UInt32×List UInt32×Bool×Int}
  (h:F.Dx a0 a1 a2 b6 b7 bq=some r) (c8:RP [] w0 U cn a1) (c9:RP [] w0 U co a2) (cT:RP [] w0 U a5 b6) (cU:RP [] w0 U a6 b7):Calls Tryz.prog 40 #[vI a0,cn,co,.agg #[a5,a6,vB bq]] w0 (Ret fun v w=>∃cJ cK:Value,v=.tuple #[.agg #[cJ,cK,vB r.2.2.1],vI r.2.2.2]∧St [] w0 w [N U cJ r.1,N U cK r.2.1]):=by
 refine aH 109 Tryz.func40 Z Z Z ?_
 have c:=St.l w0
 have hZ:=Fz.l (S:=[]) (w0:=w0)
 have hTT:TOk [] [] w0:=TOk.nil
 have a:Q [] w0 [red U a6 b7,red U a5 b6,red U co a2,red U cn a1]:=Y (RP.i (R Z) cU) (Y (RP.i (R Z) cT) (Y (RP.i (R Z) c9) (Y (RP.i (R Z) c8) (Q.nil))))
 have b:K [] [red U a6 b7,red U a5 b6,red U co a2,red U cn a1]:=K.emp
 refine au [(0,vI a0),(1,cn),(2,co),(3,.agg #[a5,a6,vB bq])] ⟨Z,Z,Z,Z,V⟩ ?_
 unfold F.Dx at h
 refine J (H (aV (dv (cs:=[a5,a6,vB bq]) Z Z c) Z ?_))
 rintro _ w ⟨cp,rfl,c⟩
 refine aV (ba (cs:=[.slice none 0 0,.slice none 0 0,vB false]) lj Z c) Z ?_
 rintro _ w ⟨aY,rfl,c⟩
 refine P 1 Z ?_
 refine I (O (J (H (P 1 Z ?_))))
 refine am (bY (us:=[a5,a6,vB bq]) u33 Z cI Z (c.q 1 Z Z)) Z ?_
 replace c:=c.pick (os':=[]++[W aY [.slice none 0 0,.slice none 0 0,vB false],W cp [a5,a6,vB bq]]) [0,1] (by decide) rfl
 obtain ⟨hZ,a,b,c⟩:=hZ.frzK hTT a b c
 obtain ⟨da,c7,h⟩:=aj h
 refine ao Z (jf a0 bq c7 (hZ.okT hTT c) (a.j b 2 Z) (a.j b 3 Z)) Z ?_
 rintro v_q w hQ
 cases b8:da.1 with
 | none=>
  have h:=fD h b8
  rw [b8]at hQ
  obtain ⟨rfl,aB⟩:=eL hQ
  obtain ⟨dQ,dg,hZ,a,b,c⟩:=hZ.m a b c aB Q.nil rfl
  refine P 4 Z ?_
  refine aV (ba (cs:=[.pointer none,.pointer none,.pointer none]) fp Z c) Z ?_
  rintro _ w ⟨b9,rfl,c⟩
  refine P 1 Z ?_
  refine bn (br (i:=0) (us:=[.pointer none,.pointer none,.pointer none]) Z bR Z Z Z ⟨Z,Z,Z,V⟩ Z c) ?_
  intro w c
  refine P 1 Z ?_
  refine I (O (J (J (H (P 2 Z ?_)))))
  refine I (O ?_)
  refine aw Z (fun ca=>?_) (fun ca=>?_)
  ·have h:=aJ h ca
   refine J (H (am (ci (vs:=[]) (cells:=[.slice none 0 0,.slice none 0 0,vB false]) Z gm V Z) Z (bn (br (i:=1) (us:=[.slice none 0 0,.slice none 0 0,vB false]) Z cI Z Z Z ⟨Z,Z,Z,V⟩ Z c) ?_)))
   intro w c
   refine P 1 Z ?_
   refine I (O (ax (aE ?_)))
   cases h
   replace c:=hZ.st c
   exact fj Z ⟨_,Z,bW (us:=[.slice none 0 0,.slice none 0 0,vB false]) u33 Z cI (c.q 1 Z Z)⟩ Z ⟨.slice none 0 0,.slice none 0 0,Z,((c.nil U).nil U).e [1,0] Z Z⟩
  have h:=aI h ca
  refine az (O (J (H (P 1 Z ?_))))
  obtain ⟨bB,cV,h⟩:=aj h
  refine ao Z (fy  cV ((a.rp 0 Z).d c.fr).rp) Z ?_
  rintro _ w ⟨bM,cb,rfl,aB⟩
  have c:=c.f aB
  refine P 5 Z ?_
  refine I (O (J (H (P 1 Z ?_))))
  obtain ⟨bC,cW,h⟩:=aj h
  refine ao Z (fy  cW ((a.rp 1 Z).d c.fr).rp) Z ?_
  rintro _ w ⟨bN,cc,rfl,aB⟩
  have c:=c.f aB
  refine P 5 Z ?_
  refine I (O (J ?_))
  refine a9 (r:=r) (fun (g:Bool) L w=>L=[(8,M aY 0),(10,.pointer none),(11,M b9 0),(13,M cb 0),(15,M cc 0),(49,vB g)]∧SfT [] [] w0 w [W cc [vB bC.1,bN],red U bN bC.2.1,W cb [vB bB.1,bM],red U bM bB.2.1] [W aY [.slice none 0 0,.slice none 0 0,vB false],W b9 [.pointer none,.pointer none,.pointer none]]) (F.Fy) ?_ ?_
  rotate_left
  ·intro cz
   refine H (P 3 Z ?_)
   cases bO:(!bB.2.2)
   case true=>
    have h:=aJ h bO
    try simp only [bO]
    refine P 3 Z ?_
    refine I (O ?_)
    replace c:=c.pick (os':=[W cc [vB bC.1,bN],N U bN bC.2.1,W cb [vB bB.1,bM],N U bM bB.2.1]++[W b9 [.pointer none,.pointer none,.pointer none],W aY [.slice none 0 0,.slice none 0 0,vB false],W cp [a5,a6,vB bq]]) [0,1,2,3,4,5,6] (by decide) rfl
    obtain ⟨dC,dh,hZ,a,b,c⟩:=hZ.frzT hTT a b c
    exact au _ (by exact ⟨Z,Z,Z,Z,Z,Z,V⟩) (cz true _ _ ⟨Z,(SfT.mk' hZ (Y (a.b 7 Z) (Y (a.b 6 Z) (Y (a.b 5 Z) (Y (a.b 4 Z) Q.nil)))) (X (b.b 7 Z) (X (b.b 6 Z) (X (b.b 5 Z) (X (b.b 4 Z) K.nil)))) (c.e [1,0] Z Z))⟩ h)
   case false=>
    have h:=aI h bO
    try simp only [bO]
    refine P 3 Z ?_
    refine I (O ?_)
    replace c:=c.pick (os':=[W cc [vB bC.1,bN],N U bN bC.2.1,W cb [vB bB.1,bM],N U bM bB.2.1]++[W b9 [.pointer none,.pointer none,.pointer none],W aY [.slice none 0 0,.slice none 0 0,vB false],W cp [a5,a6,vB bq]]) [0,1,2,3,4,5,6] (by decide) rfl
    obtain ⟨dD,di,hZ,a,b,c⟩:=hZ.frzT hTT a b c
    exact au _ (by exact ⟨Z,Z,Z,Z,Z,Z,V⟩) (cz (!bC.2.2) _ _ ⟨Z,(SfT.mk' hZ (Y (a.b 7 Z) (Y (a.b 6 Z) (Y (a.b 5 Z) (Y (a.b 4 Z) Q.nil)))) (X (b.b 7 Z) (X (b.b 6 Z) (X (b.b 5 Z) (X (b.b 4 Z) K.nil)))) (c.e [1,0] Z Z))⟩ h)
  rintro dF L w hJ h
  try dsimp only at hJ
  obtain ⟨rfl,⟨dG,dj,hZ,a,b,c⟩⟩:=hJ
  unfold F.Fy at h
  refine aw Z (fun cd=>?_) (fun cd=>?_)
  ·have h:=aJ h cd
   refine J (H (am (ci (vs:=[]) (cells:=[.slice none 0 0,.slice none 0 0,vB false]) Z gm V Z) Z (bn (br (i:=0) (us:=[.slice none 0 0,.slice none 0 0,vB false]) Z cI Z Z Z ⟨Z,Z,Z,V⟩ Z c) ?_)))
   intro w c
   refine P 1 Z ?_
   refine I (O (ax (aE ?_)))
   cases h
   replace c:=hZ.st c
   exact fj Z ⟨_,Z,bW (us:=[.slice none 0 0,.slice none 0 0,vB false]) u33 Z cI (c.q 0 Z Z)⟩ Z ⟨.slice none 0 0,.slice none 0 0,Z,((c.nil U).nil U).e [1,0] Z Z⟩
  have h:=aI h cd
  refine az (O (J ?_))
  cases h
 | some d=>
  have h:=fw h b8
  rw [b8]at hQ
  obtain ⟨bs,aT,ap,aU,ay,aX,aA,p,ad,t,ag,z,ak,A,al,B,an,rfl,aB,cr⟩:=eM hQ
  obtain ⟨dH,dk,hZ,a,b,c⟩:=hZ.m a b c aB cr rfl
  refine P 4 Z ?_
  refine aV (ba (cs:=[.pointer none,.pointer none,.pointer none]) fp Z c) Z ?_
  rintro _ w ⟨aS,rfl,c⟩
  refine P 1 Z ?_
  refine bn (br (i:=0) (us:=[M z 0,M A 0,M B 0]) Z bR Z Z Z ⟨Z,Z,Z,V⟩ Z c) ?_
  intro w c
  refine P 1 Z ?_
  refine I (O (J (J (H (P 2 Z ?_)))))
  refine I (O ?_)
  refine aw Z (fun bZ=>?_) (fun bZ=>?_)
  ·have h:=aJ h bZ
   refine J (H (am (ci (vs:=[]) (cells:=[.slice none 0 0,.slice none 0 0,vB false]) Z gm V Z) Z (bn (br (i:=1) (us:=[.slice none 0 0,.slice none 0 0,vB false]) Z cI Z Z Z ⟨Z,Z,Z,V⟩ Z c) ?_)))
   intro w c
   refine P 1 Z ?_
   refine I (O (ax (aE ?_)))
   cases h
   replace c:=hZ.st c
   exact fj Z ⟨_,Z,bW (us:=[.slice none 0 0,.slice none 0 0,vB false]) u33 Z cI (c.q 1 Z Z)⟩ Z ⟨.slice none 0 0,.slice none 0 0,Z,((c.nil U).nil U).e [1,0] Z Z⟩
  have h:=aI h bZ
  refine az (O (J (H (P 1 Z ?_))))
  obtain ⟨aP,cX,h⟩:=aj h
  refine ao Z (fy  cX ((a.rp 0 Z).d c.fr).rp) Z ?_
  rintro _ w ⟨a3,bc,rfl,aB⟩
  have c:=c.f aB
  refine P 5 Z ?_
  refine I (O (J (H (P 1 Z ?_))))
  obtain ⟨aQ,cY,h⟩:=aj h
  refine ao Z (fy  cY ((a.rp 1 Z).d c.fr).rp) Z ?_
  rintro _ w ⟨a4,be,rfl,aB⟩
  have c:=c.f aB
  refine P 5 Z ?_
  refine I (O (J ?_))
  refine a9 (r:=r) (fun (g:Bool) L w=>L=[(8,M aY 0),(10,M bs 0),(11,M aS 0),(13,M bc 0),(15,M be 0),(49,vB g)]∧SfT [] [] w0 w [W B [vB d.2.2.2.2.2.2.2.2.2.2.2.2.2.2.2.1,an],red U an d.2.2.2.2.2.2.2.2.2.2.2.2.2.2.2.2,W A [vB d.2.2.2.2.2.2.2.2.2.2.2.2.2.1,al],red U al d.2.2.2.2.2.2.2.2.2.2.2.2.2.2.1,W z [vB d.2.2.2.2.2.2.2.2.2.2.2.1,ak],red U ak d.2.2.2.2.2.2.2.2.2.2.2.2.1,W be [vB aQ.1,a4],red U a4 aQ.2.1,W bc [vB aP.1,a3],red U a3 aP.2.1,W bs [M aT 0,M aU 0,M aX 0,M p 0,M t 0,vI d.2.2.2.2.2.2.2.2.2.2.1,.func (.func 168) #[] #[]],W t [vB d.2.2.2.2.2.2.2.2.1,ag],red U ag d.2.2.2.2.2.2.2.2.2.1,W p [vB d.2.2.2.2.2.2.1,ad],red U ad d.2.2.2.2.2.2.2.1,W aX [vB d.2.2.2.2.1,aA],red U aA d.2.2.2.2.2.1,W aU [vB d.2.2.1,ay],red U ay d.2.2.2.1,W aT [vB d.1,ap],red U ap d.2.1] [W aY [.slice none 0 0,.slice none 0 0,vB false],W aS [M z 0,M A 0,M B 0]]) (F.Ej d aP aQ) ?_ ?_
  rotate_left
  ·intro cA
   refine H (P 3 Z ?_)
   cases bP:(!aP.2.2)
   case true=>
    have h:=aJ h bP
    try simp only [bP]
    refine P 3 Z ?_
    refine I (O ?_)
    replace c:=c.pick (os':=[W be [vB aQ.1,a4],N U a4 aQ.2.1,W bc [vB aP.1,a3],N U a3 aP.2.1]++[W aS [M z 0,M A 0,M B 0],W aY [.slice none 0 0,.slice none 0 0,vB false],W cp [a5,a6,vB bq]]) [0,1,2,3,4,5,6] (by decide) rfl
    obtain ⟨dI,dl,hZ,a,b,c⟩:=hZ.frzT hTT a b c
    exact au _ (by exact ⟨Z,Z,Z,Z,Z,Z,V⟩) (cA true _ _ ⟨Z,(SfT.mk' hZ (Y (a.b 20 Z) (Y (a.b 19 Z) (Y (a.b 18 Z) (Y (a.b 17 Z) (Y (a.b 16 Z) (Y (a.b 15 Z) (Y (a.b 24 Z) (Y (a.b 23 Z) (Y (a.b 22 Z) (Y (a.b 21 Z) (Y (a.b 14 Z) (Y (a.b 13 Z) (Y (a.b 12 Z) (Y (a.b 11 Z) (Y (a.b 10 Z) (Y (a.b 9 Z) (Y (a.b 8 Z) (Y (a.b 7 Z) (Y (a.b 6 Z) (Y (a.b 5 Z) (Y (a.b 4 Z) Q.nil))))))))))))))))))))) (X (b.b 20 Z) (X (b.b 19 Z) (X (b.b 18 Z) (X (b.b 17 Z) (X (b.b 16 Z) (X (b.b 15 Z) (X (b.b 24 Z) (X (b.b 23 Z) (X (b.b 22 Z) (X (b.b 21 Z) (X (b.b 14 Z) (X (b.b 13 Z) (X (b.b 12 Z) (X (b.b 11 Z) (X (b.b 10 Z) (X (b.b 9 Z) (X (b.b 8 Z) (X (b.b 7 Z) (X (b.b 6 Z) (X (b.b 5 Z) (X (b.b 4 Z) K.nil))))))))))))))))))))) (c.e [1,0] Z Z))⟩ h)
   case false=>
    have h:=aI h bP
    try simp only [bP]
    refine P 3 Z ?_
    refine I (O ?_)
    replace c:=c.pick (os':=[W be [vB aQ.1,a4],N U a4 aQ.2.1,W bc [vB aP.1,a3],N U a3 aP.2.1]++[W aS [M z 0,M A 0,M B 0],W aY [.slice none 0 0,.slice none 0 0,vB false],W cp [a5,a6,vB bq]]) [0,1,2,3,4,5,6] (by decide) rfl
    obtain ⟨dJ,dm,hZ,a,b,c⟩:=hZ.frzT hTT a b c
    exact au _ (by exact ⟨Z,Z,Z,Z,Z,Z,V⟩) (cA (!aQ.2.2) _ _ ⟨Z,(SfT.mk' hZ (Y (a.b 20 Z) (Y (a.b 19 Z) (Y (a.b 18 Z) (Y (a.b 17 Z) (Y (a.b 16 Z) (Y (a.b 15 Z) (Y (a.b 24 Z) (Y (a.b 23 Z) (Y (a.b 22 Z) (Y (a.b 21 Z) (Y (a.b 14 Z) (Y (a.b 13 Z) (Y (a.b 12 Z) (Y (a.b 11 Z) (Y (a.b 10 Z) (Y (a.b 9 Z) (Y (a.b 8 Z) (Y (a.b 7 Z) (Y (a.b 6 Z) (Y (a.b 5 Z) (Y (a.b 4 Z) Q.nil))))))))))))))))))))) (X (b.b 20 Z) (X (b.b 19 Z) (X (b.b 18 Z) (X (b.b 17 Z) (X (b.b 16 Z) (X (b.b 15 Z) (X (b.b 24 Z) (X (b.b 23 Z) (X (b.b 22 Z) (X (b.b 21 Z) (X (b.b 14 Z) (X (b.b 13 Z) (X (b.b 12 Z) (X (b.b 11 Z) (X (b.b 10 Z) (X (b.b 9 Z) (X (b.b 8 Z) (X (b.b 7 Z) (X (b.b 6 Z) (X (b.b 5 Z) (X (b.b 4 Z) K.nil))))))))))))))))))))) (c.e [1,0] Z Z))⟩ h)
  rintro dK L w hJ h
  try dsimp only at hJ
  obtain ⟨rfl,⟨dL,dn,hZ,a,b,c⟩⟩:=hJ
  unfold F.Ej at h
  refine aw Z (fun b0=>?_) (fun b0=>?_)
  ·have h:=aJ h b0
   refine J (H (am (ci (vs:=[]) (cells:=[.slice none 0 0,.slice none 0 0,vB false]) Z gm V Z) Z (bn (br (i:=0) (us:=[.slice none 0 0,.slice none 0 0,vB false]) Z cI Z Z Z ⟨Z,Z,Z,V⟩ Z c) ?_)))
   intro w c
   refine P 1 Z ?_
   refine I (O (ax (aE ?_)))
   cases h
   replace c:=hZ.st c
   exact fj Z ⟨_,Z,bW (us:=[.slice none 0 0,.slice none 0 0,vB false]) u33 Z cI (c.q 0 Z Z)⟩ Z ⟨.slice none 0 0,.slice none 0 0,Z,((c.nil U).nil U).e [1,0] Z Z⟩
  have h:=aI h b0
  refine az (O (J ?_))
  obtain ⟨E,cZ,h⟩:=aj h
  refine gR (es:=[W B [vB d.2.2.2.2.2.2.2.2.2.2.2.2.2.2.2.1,an],red U an d.2.2.2.2.2.2.2.2.2.2.2.2.2.2.2.2,W A [vB d.2.2.2.2.2.2.2.2.2.2.2.2.2.1,al],red U al d.2.2.2.2.2.2.2.2.2.2.2.2.2.2.1,W z [vB d.2.2.2.2.2.2.2.2.2.2.2.1,ak],red U ak d.2.2.2.2.2.2.2.2.2.2.2.2.1,W be [vB aQ.1,a4],red U a4 aQ.2.1,W bc [vB aP.1,a3],red U a3 aP.2.1,W bs [M aT 0,M aU 0,M aX 0,M p 0,M t 0,vI d.2.2.2.2.2.2.2.2.2.2.1,.func (.func 168) #[] #[]],W t [vB d.2.2.2.2.2.2.2.2.1,ag],red U ag d.2.2.2.2.2.2.2.2.2.1,W p [vB d.2.2.2.2.2.2.1,ad],red U ad d.2.2.2.2.2.2.2.1,W aX [vB d.2.2.2.2.1,aA],red U aA d.2.2.2.2.2.1,W aU [vB d.2.2.1,ay],red U ay d.2.2.2.1,W aT [vB d.1,ap],red U ap d.2.1]) (os:=[W aY [.slice none 0 0,.slice none 0 0,vB false],W aS [M z 0,M A 0,M B 0]]) (fun i=>[8,10,11].contains i) (fun i=>if i=8 then some 11 else if i=10 then some 11 else none) (fun i=>[]) (fun i=>[]) (fun i=>[]) (fun i=>if i=11 then [8,10] else []) (fun i=>if i=8 then (fun h v x y=>∃u:Nat,∃C:Value,v=M u 0∧x=[W u [vB E.1,C],N U C E.2]∧y=[]) else if i=10 then (fun h v x y=>∃D:Nat,v=M D 0∧x=[W D [.pointer none,.pointer none,.pointer none]]∧y=[]) else (fun h v x y=>∃u:Nat,∃C:Value,∃D:Nat,h=[(M u 0,[W u [vB E.1,C],N U C E.2],[]),(M D 0,[W D [.pointer none,.pointer none,.pointer none]],[])]∧v=undef∧x=[W u [vB E.1,C],N U C E.2,W D [M p 0,M t 0,M u 0]]∧y=[])) (SfT.mk' hZ a b c) (fun k hk=>rfl) hTT rfl (fun i=>(eY (by rintro h v x y ⟨_,_,rfl,rfl,rfl⟩; exact dE rfl) (eY (by rintro h v x y ⟨_,rfl,rfl,rfl⟩; exact dE rfl) (by rintro h v x y ⟨_,_,_,_,rfl,rfl,rfl⟩; exact dE rfl)))) bQ (by kernel_rfl) (by kernel_rfl) ?_
  show fI _ _ _ _ _ _ _ _ _ _ _ _ _ _ _ _ [0,1,2,3,4,5,6,7,8,9,10,11] _ _
  refine bS Z Z (fun w Sb wb hZ a b hF=>ar Z) Z (bS Z Z (fun w Sb wb hZ a b hF=>aL Z) Z (bS Z Z (fun w Sb wb hZ a b hF=>av (k:=3) u76 Z Z cx Z) Z (bS Z Z (fun w Sb wb hZ a b hF=>aC u73 Z Z ((a.rb 10 Z).cell hF.fr 3 Z)) Z (bS Z Z (fun w Sb wb hZ a b hF=>ar Z) Z (bS Z Z (fun w Sb wb hZ a b hF=>aL Z) Z (bS Z Z (fun w Sb wb hZ a b hF=>av (k:=4) u76 Z Z cx Z) Z (bS Z Z (fun w Sb wb hZ a b hF=>aC u73 Z Z ((a.rb 10 Z).cell hF.fr 4 Z)) Z ?_)))))))
  refine eN (fun h v x y=>∃u:Nat,∃C:Value,v=M u 0∧x=[W u [vB E.1,C],N U C E.2]∧y=[]) [] [] [] _ Z Z (fun h v x y=>Z) Z Z Z Z ⟨_,_,_,0,undef,Z,Z,Z⟩ (by kernel_rfl) Z (fun w Sl Tl hZ hTT a b c=>?_) Z ?_
  ·refine em (cC 1 cZ ) ?_
   rintro _ w ⟨C,u,rfl,aB⟩
   have c:=c.f aB
   exact ⟨_,_,⟨u,C,Z,Z,Z⟩,SfT.mk' hZ Q.nil K.nil c⟩
  rintro v_q x_q y_q ⟨u,C,rfl,rfl,rfl⟩
  refine bS Z Z (fun w Sb wb hZ a b hF=>ci (vs:=[(0,M p 0,[M p 0]),(1,M t 0,[M t 0]),(2,M u 0,[M u 0])]) (cells:=[M p 0,M t 0,M u 0]) Z ma ⟨Z,Z,Z,V⟩ Z) Z ?_
  refine iZ (fun h v x y=>∃D:Nat,v=M D 0∧x=[W D [.pointer none,.pointer none,.pointer none]]∧y=[]) [] [] [] _ Z Z (fun h v x y=>Z) Z Z Z Z ⟨_,_,_,0,Z,Z,Z⟩ (fun w Sl Tl hZ hTT a b c=>?_) Z ?_
  ·refine l8 (ba (cs:=[.pointer none,.pointer none,.pointer none]) fp Z c) ?_
   rintro _ w ⟨D,rfl,c⟩
   exact ⟨_,_,⟨D,Z,Z,Z⟩,SfT.mk' hZ Q.nil K.nil c⟩
  rintro v_q x_q y_q ⟨D,rfl,rfl,rfl⟩
  refine we (fun h v x y=>∃u:Nat,∃C:Value,∃D:Nat,h=[(M u 0,[W u [vB E.1,C],N U C E.2],[]),(M D 0,[W D [.pointer none,.pointer none,.pointer none]],[])]∧v=undef∧x=[W u [vB E.1,C],N U C E.2,W D [M p 0,M t 0,M u 0]]∧y=[]) [(M u 0,[W u [vB E.1,C],N U C E.2],[]),(M D 0,[W D [.pointer none,.pointer none,.pointer none]],[])] [W u [vB E.1,C],N U C E.2,W D [.pointer none,.pointer none,.pointer none]] [] _ Z Z (fun h v x y=>Z) Z Z Z Z ⟨_,_,_,u,C,D,Z,Z,Z,Z⟩ (fun w Sl Tl hZ hTT a b c=>?_) ?_
  ·refine tj (br (i:=2) (us:=[M p 0,M t 0,M u 0]) Z bR Z Z Z ⟨Z,Z,Z,V⟩ Z c) ?_
   intro w c
   exact ⟨_,_,⟨u,C,D,Z,Z,Z,Z⟩,SfT.mk' hZ Q.nil K.nil c⟩
  rintro v_q x_q y_q ⟨b_60',v_58',b_62',hh,rfl,rfl,rfl⟩
  replace hh:([(M u 0,[W u [vB E.1,C],N U C E.2],[]),(M D 0,[W D [.pointer none,.pointer none,.pointer none]],[])]:List Th)=[(M b_60' 0,[W b_60' [vB E.1,v_58'],N U v_58' E.2],[]),(M b_62' 0,[W b_62' [.pointer none,.pointer none,.pointer none]],[])]:=hh
  cases hh
  refine kk fun w hQ=>?_
  obtain ⟨dM,dp,hZ,a,b,c⟩:=hQ
  refine O (J (H (P 1 Z ?_)))
  refine am (bY (us:=[M p 0,M t 0,M u 0]) u91 Z bR Z (c.q 2 Z Z)) Z (am (bY (us:=[M z 0,M A 0,M B 0]) u91 Z bR Z (c.q 4 Z Z)) Z ?_)
  replace c:=c.pick (os':=[W u [vB E.1,C],N U C E.2]++[W D [M p 0,M t 0,M u 0],W aY [.slice none 0 0,.slice none 0 0,vB false],W aS [M z 0,M A 0,M B 0]]) [0,1,2,3,4] (by decide) rfl
  obtain ⟨hZ,a,b,c⟩:=hZ.frzK hTT a b c
  obtain ⟨G,c0,h⟩:=aj h
  refine ao Z (iz d.1 d.2.2.1 d.2.2.2.2.1 d.2.2.2.2.2.2.1 d.2.2.2.2.2.2.2.2.1 d.2.2.2.2.2.2.2.2.2.2.1 d.2.2.2.2.2.2.1 d.2.2.2.2.2.2.2.2.1 E.1 d.2.2.2.2.2.2.2.2.2.2.2.1 d.2.2.2.2.2.2.2.2.2.2.2.2.2.1 d.2.2.2.2.2.2.2.2.2.2.2.2.2.2.2.1 c0 (hZ.okT hTT c) (a.j b 0 Z) (a.k b 1 Z) (a.j b 2 Z) (a.k b 3 Z) (a.j b 4 Z) (a.k b 5 Z) (a.j b 6 Z) (a.k b 7 Z) (a.j b 8 Z) (a.k b 9 Z) (a.k b 10 Z) (a.j b 6 Z) (a.k b 7 Z) (a.j b 8 Z) (a.k b 9 Z) (a.j b 21 Z) (a.k b 22 Z) (a.j b 15 Z) (a.k b 16 Z) (a.j b 17 Z) (a.k b 18 Z) (a.j b 19 Z) (a.k b 20 Z)) Z ?_
  rintro _ w ⟨T,aG,ab,aK,ac,aM,rfl,aB,cr⟩
  obtain ⟨dN,dq,hZ,a,b,c⟩:=hZ.m a b c aB cr rfl
  refine aV (ba (cs:=[.pointer none,.pointer none,.pointer none]) fp Z c) Z ?_
  rintro _ w ⟨bf,rfl,c⟩
  refine bn (br (i:=0) (us:=[M T 0,M ab 0,M ac 0]) Z bR Z Z Z ⟨Z,Z,Z,V⟩ Z c) ?_
  intro w c
  refine I (O (J (H ?_)))
  obtain ⟨bh,c1,h⟩:=aj h
  refine ao Z (eO  c1 ) Z ?_
  rintro _ w ⟨cv,cw,cy,ce,cf,cg,rfl,aB⟩
  have c:=c.f aB
  refine aV (ba (cs:=[.pointer none,.pointer none,.pointer none]) fp Z c) Z ?_
  rintro _ w ⟨bb,rfl,c⟩
  refine bn (br (i:=0) (us:=[M ce 0,M cf 0,M cg 0]) Z bR Z Z Z ⟨Z,Z,Z,V⟩ Z c) ?_
  intro w c
  refine I (O (J (J (H (P 1 Z ?_)))))
  obtain ⟨cL,c2,h⟩:=aj h
  refine ao Z (gu aP.1 c2 ((a.rp 11 Z).d c.fr).rp ((a.rb 12 Z).d c.fr)) Z ?_
  rintro _ w ⟨rfl,aB⟩
  have c:=c.f aB
  refine P 1 Z ?_
  obtain ⟨cM,c3,h⟩:=aj h
  refine ao Z (gu aQ.1 c3 ((a.rp 13 Z).d c.fr).rp ((a.rb 14 Z).d c.fr)) Z ?_
  rintro _ w ⟨rfl,aB⟩
  have c:=c.f aB
  refine am (tu Z Z) Z (P 2 Z ?_)
  refine I (O (aD ?_))
  replace c:=c.pick (os':=[W ce [vB bh.1,cv],N U cv bh.2.1,W cf [vB bh.2.2.1,cw],N U cw bh.2.2.2.1,W cg [vB bh.2.2.2.2.1,cy],N U cy bh.2.2.2.2.2]++[W bb [M ce 0,M cf 0,M cg 0],W bf [M T 0,M ab 0,M ac 0],W D [M p 0,M t 0,M u 0],W aY [.slice none 0 0,.slice none 0 0,vB false],W aS [M z 0,M A 0,M B 0]]) [1,2,3,4,5,6,0,7,8,9,10] (by decide) rfl
  obtain ⟨dO,dr,hZ,a,b,c⟩:=hZ.frzT hTT a b c
  refine au [(8,M aY 0),(10,M bs 0),(11,M aS 0),(13,M bc 0),(15,M be 0),(17,M D 0),(18,M bf 0),(19,M bb 0),(20,vI (wI ((max cL cM) - 1)))] ⟨Z,Z,Z,Z,Z,Z,Z,Z,Z,V⟩ ?_
  refine bj (F.CL d aP aQ E G) (fun (s:Int×Bool×List UInt32×Bool×List UInt32×Bool×List UInt32) L w=>∃(aZ:Nat) (bt:Value) (aN:Nat) (bi:Value) (aO:Nat) (bk:Value),L=[(8,M aY 0),(10,M bs 0),(11,M aS 0),(13,M bc 0),(15,M be 0),(17,M D 0),(18,M bf 0),(19,M bb 0),(20,vI s.1)]∧SfT [] [] w0 w [W aO [vB s.2.2.2.2.2.1,bk],red U bk s.2.2.2.2.2.2,W aN [vB s.2.2.2.1,bi],red U bi s.2.2.2.2.1,W aZ [vB s.2.1,bt],red U bt s.2.2.1,W ac [vB G.2.2.2.2.1,aM],red U aM G.2.2.2.2.2,W ab [vB G.2.2.1,aK],red U aK G.2.2.2.1,W T [vB G.1,aG],red U aG G.2.1,W u [vB E.1,C],red U C E.2,W B [vB d.2.2.2.2.2.2.2.2.2.2.2.2.2.2.2.1,an],red U an d.2.2.2.2.2.2.2.2.2.2.2.2.2.2.2.2,W A [vB d.2.2.2.2.2.2.2.2.2.2.2.2.2.1,al],red U al d.2.2.2.2.2.2.2.2.2.2.2.2.2.2.1,W z [vB d.2.2.2.2.2.2.2.2.2.2.2.1,ak],red U ak d.2.2.2.2.2.2.2.2.2.2.2.2.1,W be [vB aQ.1,a4],red U a4 aQ.2.1,W bc [vB aP.1,a3],red U a3 aP.2.1,W bs [M aT 0,M aU 0,M aX 0,M p 0,M t 0,vI d.2.2.2.2.2.2.2.2.2.2.1,.func (.func 168) #[] #[]],W t [vB d.2.2.2.2.2.2.2.2.1,ag],red U ag d.2.2.2.2.2.2.2.2.2.1,W p [vB d.2.2.2.2.2.2.1,ad],red U ad d.2.2.2.2.2.2.2.1,W aX [vB d.2.2.2.2.1,aA],red U aA d.2.2.2.2.2.1,W aU [vB d.2.2.1,ay],red U ay d.2.2.2.1,W aT [vB d.1,ap],red U ap d.2.1] [W aY [.slice none 0 0,.slice none 0 0,vB false],W aS [M z 0,M A 0,M B 0],W D [M p 0,M t 0,M u 0],W bf [M T 0,M ab 0,M ac 0],W bb [M aZ 0,M aN 0,M aO 0]]) ?_ (wI ((max cL cM) - 1),bh.1,bh.2.1,bh.2.2.1,bh.2.2.2.1,bh.2.2.2.2.1,bh.2.2.2.2.2) ⟨ce,cv,cf,cw,cg,cy,Z,(SfT.mk' hZ (Y (a.b 30 Z) (Y (a.b 29 Z) (Y (a.b 32 Z) (Y (a.b 31 Z) (Y (a.b 34 Z) (Y (a.b 33 Z) (Y (a.b 28 Z) (Y (a.b 27 Z) (Y (a.b 26 Z) (Y (a.b 25 Z) (Y (a.b 24 Z) (Y (a.b 23 Z) (Y (a.b 22 Z) (Y (a.b 21 Z) (Y (a.b 20 Z) (Y (a.b 19 Z) (Y (a.b 18 Z) (Y (a.b 17 Z) (Y (a.b 16 Z) (Y (a.b 15 Z) (Y (a.b 14 Z) (Y (a.b 13 Z) (Y (a.b 12 Z) (Y (a.b 11 Z) (Y (a.b 10 Z) (Y (a.b 9 Z) (Y (a.b 8 Z) (Y (a.b 7 Z) (Y (a.b 6 Z) (Y (a.b 5 Z) (Y (a.b 4 Z) (Y (a.b 3 Z) (Y (a.b 2 Z) (Y (a.b 1 Z) (Y (a.b 0 Z) Q.nil))))))))))))))))))))))))))))))))))) (X (b.b 30 Z) (X (b.b 29 Z) (X (b.b 32 Z) (X (b.b 31 Z) (X (b.b 34 Z) (X (b.b 33 Z) (X (b.b 28 Z) (X (b.b 27 Z) (X (b.b 26 Z) (X (b.b 25 Z) (X (b.b 24 Z) (X (b.b 23 Z) (X (b.b 22 Z) (X (b.b 21 Z) (X (b.b 20 Z) (X (b.b 19 Z) (X (b.b 18 Z) (X (b.b 17 Z) (X (b.b 16 Z) (X (b.b 15 Z) (X (b.b 14 Z) (X (b.b 13 Z) (X (b.b 12 Z) (X (b.b 11 Z) (X (b.b 10 Z) (X (b.b 9 Z) (X (b.b 8 Z) (X (b.b 7 Z) (X (b.b 6 Z) (X (b.b 5 Z) (X (b.b 4 Z) (X (b.b 3 Z) (X (b.b 2 Z) (X (b.b 1 Z) (X (b.b 0 Z) K.nil))))))))))))))))))))))))))))))))))) (c.e [3,4,2,1,0] Z Z))⟩ h
  rintro ds ⟨bD,bE,b1,bu,bF,bw,bG⟩ L w cB hI cN h ct
  try dsimp only at hI
  obtain ⟨aZ,bt,aN,bi,aO,bk,rfl,⟨dP,dt,hZ,a,b,c⟩⟩:=hI
  unfold F.CL at h
  refine J (J (H (P 2 Z ?_)))
  refine I (O ?_)
  refine aw Z (fun b2=>?_) (fun b2=>?_)
  ·have h:=aJ h b2
   refine az (O (J (aD ?_)))
   refine J (H (am (bY (us:=[M p 0,M t 0,M u 0]) u91 Z bR Z (c.q 2 Z Z)) Z (aV (ba (cs:=[.pointer none,.pointer none,.pointer none]) fp Z c) Z ?_)))
   rintro _ w ⟨bl,rfl,c⟩
   refine bn (br (i:=0) (us:=[M p 0,M t 0,M u 0]) Z bR Z Z Z ⟨Z,Z,Z,V⟩ Z c) ?_
   intro w c
   refine I (O ?_)
   refine a9 (r:=cB) (fun (g:Bool×List UInt32×Bool×List UInt32×Bool×List UInt32) L w=>∃(bm:Nat) (bH:Value) (bo:Nat) (bI:Value) (bp:Nat) (bJ:Value),L=[(8,M aY 0),(10,M bs 0),(11,M aS 0),(13,M bc 0),(15,M be 0),(17,M D 0),(18,M bf 0),(19,M bb 0),(20,vI bD),(21,M bl 0)]∧SfT [] [] w0 w [W bp [vB g.2.2.2.2.1,bJ],red U bJ g.2.2.2.2.2,W bo [vB g.2.2.1,bI],red U bI g.2.2.2.1,W bm [vB g.1,bH],red U bH g.2.1,W aO [vB bw,bk],red U bk bG,W aN [vB bu,bi],red U bi bF,W aZ [vB bE,bt],red U bt b1,W ac [vB G.2.2.2.2.1,aM],red U aM G.2.2.2.2.2,W ab [vB G.2.2.1,aK],red U aK G.2.2.2.1,W T [vB G.1,aG],red U aG G.2.1,W u [vB E.1,C],red U C E.2,W B [vB d.2.2.2.2.2.2.2.2.2.2.2.2.2.2.2.1,an],red U an d.2.2.2.2.2.2.2.2.2.2.2.2.2.2.2.2,W A [vB d.2.2.2.2.2.2.2.2.2.2.2.2.2.1,al],red U al d.2.2.2.2.2.2.2.2.2.2.2.2.2.2.1,W z [vB d.2.2.2.2.2.2.2.2.2.2.2.1,ak],red U ak d.2.2.2.2.2.2.2.2.2.2.2.2.1,W be [vB aQ.1,a4],red U a4 aQ.2.1,W bc [vB aP.1,a3],red U a3 aP.2.1,W bs [M aT 0,M aU 0,M aX 0,M p 0,M t 0,vI d.2.2.2.2.2.2.2.2.2.2.1,.func (.func 168) #[] #[]],W t [vB d.2.2.2.2.2.2.2.2.1,ag],red U ag d.2.2.2.2.2.2.2.2.2.1,W p [vB d.2.2.2.2.2.2.1,ad],red U ad d.2.2.2.2.2.2.2.1,W aX [vB d.2.2.2.2.1,aA],red U aA d.2.2.2.2.2.1,W aU [vB d.2.2.1,ay],red U ay d.2.2.2.1,W aT [vB d.1,ap],red U ap d.2.1] [W aY [.slice none 0 0,.slice none 0 0,vB false],W aS [M z 0,M A 0,M B 0],W D [M p 0,M t 0,M u 0],W bf [M T 0,M ab 0,M ac 0],W bb [M aZ 0,M aN 0,M aO 0],W bl [M bm 0,M bo 0,M bp 0]]) (F.BX d bD bE b1 bu bF bw bG) ?_ ?_
   rotate_left
   ·intro bK
    refine J (H (P 2 Z ?_))
    obtain ⟨cD,cO,h⟩:=aj h
    refine ao Z (jg aP.1 bD cO ((a.rp 11 Z).d c.fr).rp ((a.rb 12 Z).d c.fr)) Z ?_
    rintro _ w ⟨rfl,aB⟩
    have c:=c.f aB
    refine am (aq Z Z (sW _ cD 1)) Z (P 2 Z ?_)
    obtain ⟨bT,cP,h⟩:=aj h
    refine ao Z (jg aQ.1 bD cP ((a.rp 13 Z).d c.fr).rp ((a.rb 14 Z).d c.fr)) Z ?_
    rintro _ w ⟨rfl,aB⟩
    have c:=c.f aB
    refine am (aq Z Z (sW _ bT 1)) Z (P 2 Z ?_)
    refine I (O (aD ?_))
    refine a9 (r:=cB) (fun (g:Bool×Bool) L w=>L=[(8,M aY 0),(10,M bs 0),(11,M aS 0),(13,M bc 0),(15,M be 0),(17,M D 0),(18,M bf 0),(19,M bb 0),(20,vI bD),(21,M bl 0),(22,vB g.1),(23,vB (bT == 1)),(85,vB g.2)]∧SfT [] [] w0 w [W aO [vB bw,bk],red U bk bG,W aN [vB bu,bi],red U bi bF,W aZ [vB bE,bt],red U bt b1,W ac [vB G.2.2.2.2.1,aM],red U aM G.2.2.2.2.2,W ab [vB G.2.2.1,aK],red U aK G.2.2.2.1,W T [vB G.1,aG],red U aG G.2.1,W u [vB E.1,C],red U C E.2,W B [vB d.2.2.2.2.2.2.2.2.2.2.2.2.2.2.2.1,an],red U an d.2.2.2.2.2.2.2.2.2.2.2.2.2.2.2.2,W A [vB d.2.2.2.2.2.2.2.2.2.2.2.2.2.1,al],red U al d.2.2.2.2.2.2.2.2.2.2.2.2.2.2.1,W z [vB d.2.2.2.2.2.2.2.2.2.2.2.1,ak],red U ak d.2.2.2.2.2.2.2.2.2.2.2.2.1,W be [vB aQ.1,a4],red U a4 aQ.2.1,W bc [vB aP.1,a3],red U a3 aP.2.1,W bs [M aT 0,M aU 0,M aX 0,M p 0,M t 0,vI d.2.2.2.2.2.2.2.2.2.2.1,.func (.func 168) #[] #[]],W t [vB d.2.2.2.2.2.2.2.2.1,ag],red U ag d.2.2.2.2.2.2.2.2.2.1,W p [vB d.2.2.2.2.2.2.1,ad],red U ad d.2.2.2.2.2.2.2.1,W aX [vB d.2.2.2.2.1,aA],red U aA d.2.2.2.2.2.1,W aU [vB d.2.2.1,ay],red U ay d.2.2.2.1,W aT [vB d.1,ap],red U ap d.2.1] [W aY [.slice none 0 0,.slice none 0 0,vB false],W aS [M z 0,M A 0,M B 0],W D [M p 0,M t 0,M u 0],W bf [M T 0,M ab 0,M ac 0],W bb [M aZ 0,M aN 0,M aO 0],W bl [M p 0,M t 0,M u 0]]) (F.Fh d E G bT bD bE b1 bu bF bw bG) ?_ ?_
    rotate_left
    ·intro cu
     refine H (P 2 Z ?_)
     cases bL:(cD == 1)
     case true=>
      have h:=aJ h bL
      try simp only [bL]
      refine P 3 Z ?_
      refine I (O ?_)
      exact au _ (by exact ⟨Z,Z,Z,Z,Z,Z,Z,Z,Z,Z,Z,Z,Z,V⟩) (cu (true,bT == 1) _ _ ⟨Z,(SfT.mk' hZ (Y (a.b 34 Z) (Y (a.b 33 Z) (Y (a.b 32 Z) (Y (a.b 31 Z) (Y (a.b 30 Z) (Y (a.b 29 Z) (Y (a.b 28 Z) (Y (a.b 27 Z) (Y (a.b 26 Z) (Y (a.b 25 Z) (Y (a.b 24 Z) (Y (a.b 23 Z) (Y (a.b 22 Z) (Y (a.b 21 Z) (Y (a.b 20 Z) (Y (a.b 19 Z) (Y (a.b 18 Z) (Y (a.b 17 Z) (Y (a.b 16 Z) (Y (a.b 15 Z) (Y (a.b 14 Z) (Y (a.b 13 Z) (Y (a.b 12 Z) (Y (a.b 11 Z) (Y (a.b 10 Z) (Y (a.b 9 Z) (Y (a.b 8 Z) (Y (a.b 7 Z) (Y (a.b 6 Z) (Y (a.b 5 Z) (Y (a.b 4 Z) (Y (a.b 3 Z) (Y (a.b 2 Z) (Y (a.b 1 Z) (Y (a.b 0 Z) Q.nil))))))))))))))))))))))))))))))))))) (X (b.b 34 Z) (X (b.b 33 Z) (X (b.b 32 Z) (X (b.b 31 Z) (X (b.b 30 Z) (X (b.b 29 Z) (X (b.b 28 Z) (X (b.b 27 Z) (X (b.b 26 Z) (X (b.b 25 Z) (X (b.b 24 Z) (X (b.b 23 Z) (X (b.b 22 Z) (X (b.b 21 Z) (X (b.b 20 Z) (X (b.b 19 Z) (X (b.b 18 Z) (X (b.b 17 Z) (X (b.b 16 Z) (X (b.b 15 Z) (X (b.b 14 Z) (X (b.b 13 Z) (X (b.b 12 Z) (X (b.b 11 Z) (X (b.b 10 Z) (X (b.b 9 Z) (X (b.b 8 Z) (X (b.b 7 Z) (X (b.b 6 Z) (X (b.b 5 Z) (X (b.b 4 Z) (X (b.b 3 Z) (X (b.b 2 Z) (X (b.b 1 Z) (X (b.b 0 Z) K.nil))))))))))))))))))))))))))))))))))) (c.e [1,2,3,4,5,0] Z Z))⟩ h)
     case false=>
      have h:=aI h bL
      try simp only [bL]
      refine P 3 Z ?_
      refine I (O ?_)
      exact au _ (by exact ⟨Z,Z,Z,Z,Z,Z,Z,Z,Z,Z,Z,Z,Z,V⟩) (cu (false,false) _ _ ⟨Z,(SfT.mk' hZ (Y (a.b 34 Z) (Y (a.b 33 Z) (Y (a.b 32 Z) (Y (a.b 31 Z) (Y (a.b 30 Z) (Y (a.b 29 Z) (Y (a.b 28 Z) (Y (a.b 27 Z) (Y (a.b 26 Z) (Y (a.b 25 Z) (Y (a.b 24 Z) (Y (a.b 23 Z) (Y (a.b 22 Z) (Y (a.b 21 Z) (Y (a.b 20 Z) (Y (a.b 19 Z) (Y (a.b 18 Z) (Y (a.b 17 Z) (Y (a.b 16 Z) (Y (a.b 15 Z) (Y (a.b 14 Z) (Y (a.b 13 Z) (Y (a.b 12 Z) (Y (a.b 11 Z) (Y (a.b 10 Z) (Y (a.b 9 Z) (Y (a.b 8 Z) (Y (a.b 7 Z) (Y (a.b 6 Z) (Y (a.b 5 Z) (Y (a.b 4 Z) (Y (a.b 3 Z) (Y (a.b 2 Z) (Y (a.b 1 Z) (Y (a.b 0 Z) Q.nil))))))))))))))))))))))))))))))))))) (X (b.b 34 Z) (X (b.b 33 Z) (X (b.b 32 Z) (X (b.b 31 Z) (X (b.b 30 Z) (X (b.b 29 Z) (X (b.b 28 Z) (X (b.b 27 Z) (X (b.b 26 Z) (X (b.b 25 Z) (X (b.b 24 Z) (X (b.b 23 Z) (X (b.b 22 Z) (X (b.b 21 Z) (X (b.b 20 Z) (X (b.b 19 Z) (X (b.b 18 Z) (X (b.b 17 Z) (X (b.b 16 Z) (X (b.b 15 Z) (X (b.b 14 Z) (X (b.b 13 Z) (X (b.b 12 Z) (X (b.b 11 Z) (X (b.b 10 Z) (X (b.b 9 Z) (X (b.b 8 Z) (X (b.b 7 Z) (X (b.b 6 Z) (X (b.b 5 Z) (X (b.b 4 Z) (X (b.b 3 Z) (X (b.b 2 Z) (X (b.b 1 Z) (X (b.b 0 Z) K.nil))))))))))))))))))))))))))))))))))) (c.e [1,2,3,4,5,0] Z Z))⟩ h)
    rintro ⟨du,dw⟩ L w hJ h
    try dsimp only at hJ
    obtain ⟨rfl,⟨dx,db,hZ,a,b,c⟩⟩:=hJ
    unfold F.Fh at h
    refine aw Z (fun b3=>?_) (fun b3=>?_)
    ·have h:=aJ h b3
     refine H (am (bY (us:=[M T 0,M ab 0,M ac 0]) u91 Z bR Z (c.q 3 Z Z)) Z (bn (br (i:=5) (us:=[M T 0,M ab 0,M ac 0]) Z bR Z Z Z ⟨Z,Z,Z,V⟩ Z c) ?_))
     intro w c
     refine I (aR ?_)
     refine O ?_
     exact au _ (by exact ⟨Z,Z,Z,Z,Z,Z,Z,Z,Z,Z,V⟩) (bK (G.1,G.2.1,G.2.2.1,G.2.2.2.1,G.2.2.2.2.1,G.2.2.2.2.2) _ _ ⟨T,aG,ab,aK,ac,aM,Z,(SfT.mk' hZ (Y (a.b 28 Z) (Y (a.b 27 Z) (Y (a.b 26 Z) (Y (a.b 25 Z) (Y (a.b 24 Z) (Y (a.b 23 Z) (Y (a.b 34 Z) (Y (a.b 33 Z) (Y (a.b 32 Z) (Y (a.b 31 Z) (Y (a.b 30 Z) (Y (a.b 29 Z) (Y (a.b 28 Z) (Y (a.b 27 Z) (Y (a.b 26 Z) (Y (a.b 25 Z) (Y (a.b 24 Z) (Y (a.b 23 Z) (Y (a.b 22 Z) (Y (a.b 21 Z) (Y (a.b 20 Z) (Y (a.b 19 Z) (Y (a.b 18 Z) (Y (a.b 17 Z) (Y (a.b 16 Z) (Y (a.b 15 Z) (Y (a.b 14 Z) (Y (a.b 13 Z) (Y (a.b 12 Z) (Y (a.b 11 Z) (Y (a.b 10 Z) (Y (a.b 9 Z) (Y (a.b 8 Z) (Y (a.b 7 Z) (Y (a.b 6 Z) (Y (a.b 5 Z) (Y (a.b 4 Z) (Y (a.b 3 Z) (Y (a.b 2 Z) (Y (a.b 1 Z) (Y (a.b 0 Z) Q.nil))))))))))))))))))))))))))))))))))))))))) (X (b.b 28 Z) (X (b.b 27 Z) (X (b.b 26 Z) (X (b.b 25 Z) (X (b.b 24 Z) (X (b.b 23 Z) (X (b.b 34 Z) (X (b.b 33 Z) (X (b.b 32 Z) (X (b.b 31 Z) (X (b.b 30 Z) (X (b.b 29 Z) (X (b.b 28 Z) (X (b.b 27 Z) (X (b.b 26 Z) (X (b.b 25 Z) (X (b.b 24 Z) (X (b.b 23 Z) (X (b.b 22 Z) (X (b.b 21 Z) (X (b.b 20 Z) (X (b.b 19 Z) (X (b.b 18 Z) (X (b.b 17 Z) (X (b.b 16 Z) (X (b.b 15 Z) (X (b.b 14 Z) (X (b.b 13 Z) (X (b.b 12 Z) (X (b.b 11 Z) (X (b.b 10 Z) (X (b.b 9 Z) (X (b.b 8 Z) (X (b.b 7 Z) (X (b.b 6 Z) (X (b.b 5 Z) (X (b.b 4 Z) (X (b.b 3 Z) (X (b.b 2 Z) (X (b.b 1 Z) (X (b.b 0 Z) K.nil))))))))))))))))))))))))))))))))))))))))) c)⟩ h)
    have h:=aI h b3
    refine J (H (P 2 Z ?_))
    refine I (O ?_)
    refine aw Z (fun b4=>?_) (fun b4=>?_)
    ·have h:=aJ h b4
     refine H (am (bY (us:=[M z 0,M A 0,M B 0]) u91 Z bR Z (c.q 1 Z Z)) Z (bn (br (i:=5) (us:=[M z 0,M A 0,M B 0]) Z bR Z Z Z ⟨Z,Z,Z,V⟩ Z c) ?_))
     intro w c
     refine I (aR ?_)
     refine O ?_
     exact au _ (by exact ⟨Z,Z,Z,Z,Z,Z,Z,Z,Z,Z,V⟩) (bK (d.2.2.2.2.2.2.2.2.2.2.2.1,d.2.2.2.2.2.2.2.2.2.2.2.2.1,d.2.2.2.2.2.2.2.2.2.2.2.2.2.1,d.2.2.2.2.2.2.2.2.2.2.2.2.2.2.1,d.2.2.2.2.2.2.2.2.2.2.2.2.2.2.2.1,d.2.2.2.2.2.2.2.2.2.2.2.2.2.2.2.2) _ _ ⟨z,ak,A,al,B,an,Z,(SfT.mk' hZ (Y (a.b 20 Z) (Y (a.b 19 Z) (Y (a.b 18 Z) (Y (a.b 17 Z) (Y (a.b 16 Z) (Y (a.b 15 Z) (Y (a.b 34 Z) (Y (a.b 33 Z) (Y (a.b 32 Z) (Y (a.b 31 Z) (Y (a.b 30 Z) (Y (a.b 29 Z) (Y (a.b 28 Z) (Y (a.b 27 Z) (Y (a.b 26 Z) (Y (a.b 25 Z) (Y (a.b 24 Z) (Y (a.b 23 Z) (Y (a.b 22 Z) (Y (a.b 21 Z) (Y (a.b 20 Z) (Y (a.b 19 Z) (Y (a.b 18 Z) (Y (a.b 17 Z) (Y (a.b 16 Z) (Y (a.b 15 Z) (Y (a.b 14 Z) (Y (a.b 13 Z) (Y (a.b 12 Z) (Y (a.b 11 Z) (Y (a.b 10 Z) (Y (a.b 9 Z) (Y (a.b 8 Z) (Y (a.b 7 Z) (Y (a.b 6 Z) (Y (a.b 5 Z) (Y (a.b 4 Z) (Y (a.b 3 Z) (Y (a.b 2 Z) (Y (a.b 1 Z) (Y (a.b 0 Z) Q.nil))))))))))))))))))))))))))))))))))))))))) (X (b.b 20 Z) (X (b.b 19 Z) (X (b.b 18 Z) (X (b.b 17 Z) (X (b.b 16 Z) (X (b.b 15 Z) (X (b.b 34 Z) (X (b.b 33 Z) (X (b.b 32 Z) (X (b.b 31 Z) (X (b.b 30 Z) (X (b.b 29 Z) (X (b.b 28 Z) (X (b.b 27 Z) (X (b.b 26 Z) (X (b.b 25 Z) (X (b.b 24 Z) (X (b.b 23 Z) (X (b.b 22 Z) (X (b.b 21 Z) (X (b.b 20 Z) (X (b.b 19 Z) (X (b.b 18 Z) (X (b.b 17 Z) (X (b.b 16 Z) (X (b.b 15 Z) (X (b.b 14 Z) (X (b.b 13 Z) (X (b.b 12 Z) (X (b.b 11 Z) (X (b.b 10 Z) (X (b.b 9 Z) (X (b.b 8 Z) (X (b.b 7 Z) (X (b.b 6 Z) (X (b.b 5 Z) (X (b.b 4 Z) (X (b.b 3 Z) (X (b.b 2 Z) (X (b.b 1 Z) (X (b.b 0 Z) K.nil))))))))))))))))))))))))))))))))))))))))) c)⟩ h)
    have h:=aI h b4
    refine J (H (P 3 Z ?_))
    refine I (O ?_)
    refine aw Z (fun b5=>?_) (fun b5=>?_)
    ·have h:=aJ h b5
     refine H ?_
     obtain ⟨a7,cQ,h⟩:=aj h
     refine ao Z (eO  cQ ) Z ?_
     rintro _ w ⟨ch,cj,ck,bU,bV,bX,rfl,aB⟩
     have c:=c.f aB
     refine bn (br (i:=11) (us:=[M bU 0,M bV 0,M bX 0]) Z bR Z Z Z ⟨Z,Z,Z,V⟩ Z c) ?_
     intro w c
     refine I (aR ?_)
     refine O ?_
     replace c:=c.pick (os':=[W bU [vB a7.1,ch],N U ch a7.2.1,W bV [vB a7.2.2.1,cj],N U cj a7.2.2.2.1,W bX [vB a7.2.2.2.2.1,ck],N U ck a7.2.2.2.2.2]++[W aY [.slice none 0 0,.slice none 0 0,vB false],W aS [M z 0,M A 0,M B 0],W D [M p 0,M t 0,M u 0],W bf [M T 0,M ab 0,M ac 0],W bb [M aZ 0,M aN 0,M aO 0],W bl [M bU 0,M bV 0,M bX 0]]) [0,1,2,3,4,5,6,7,8,9,10,11] (by decide) rfl
     obtain ⟨dy,dc,hZ,a,b,c⟩:=hZ.frzT hTT a b c
     exact au _ (by exact ⟨Z,Z,Z,Z,Z,Z,Z,Z,Z,Z,V⟩) (bK (a7.1,a7.2.1,a7.2.2.1,a7.2.2.2.1,a7.2.2.2.2.1,a7.2.2.2.2.2) _ _ ⟨bU,ch,bV,cj,bX,ck,Z,(SfT.mk' hZ (Y (a.b 36 Z) (Y (a.b 35 Z) (Y (a.b 38 Z) (Y (a.b 37 Z) (Y (a.b 40 Z) (Y (a.b 39 Z) (Y (a.b 34 Z) (Y (a.b 33 Z) (Y (a.b 32 Z) (Y (a.b 31 Z) (Y (a.b 30 Z) (Y (a.b 29 Z) (Y (a.b 28 Z) (Y (a.b 27 Z) (Y (a.b 26 Z) (Y (a.b 25 Z) (Y (a.b 24 Z) (Y (a.b 23 Z) (Y (a.b 22 Z) (Y (a.b 21 Z) (Y (a.b 20 Z) (Y (a.b 19 Z) (Y (a.b 18 Z) (Y (a.b 17 Z) (Y (a.b 16 Z) (Y (a.b 15 Z) (Y (a.b 14 Z) (Y (a.b 13 Z) (Y (a.b 12 Z) (Y (a.b 11 Z) (Y (a.b 10 Z) (Y (a.b 9 Z) (Y (a.b 8 Z) (Y (a.b 7 Z) (Y (a.b 6 Z) (Y (a.b 5 Z) (Y (a.b 4 Z) (Y (a.b 3 Z) (Y (a.b 2 Z) (Y (a.b 1 Z) (Y (a.b 0 Z) Q.nil))))))))))))))))))))))))))))))))))))))))) (X (b.b 36 Z) (X (b.b 35 Z) (X (b.b 38 Z) (X (b.b 37 Z) (X (b.b 40 Z) (X (b.b 39 Z) (X (b.b 34 Z) (X (b.b 33 Z) (X (b.b 32 Z) (X (b.b 31 Z) (X (b.b 30 Z) (X (b.b 29 Z) (X (b.b 28 Z) (X (b.b 27 Z) (X (b.b 26 Z) (X (b.b 25 Z) (X (b.b 24 Z) (X (b.b 23 Z) (X (b.b 22 Z) (X (b.b 21 Z) (X (b.b 20 Z) (X (b.b 19 Z) (X (b.b 18 Z) (X (b.b 17 Z) (X (b.b 16 Z) (X (b.b 15 Z) (X (b.b 14 Z) (X (b.b 13 Z) (X (b.b 12 Z) (X (b.b 11 Z) (X (b.b 10 Z) (X (b.b 9 Z) (X (b.b 8 Z) (X (b.b 7 Z) (X (b.b 6 Z) (X (b.b 5 Z) (X (b.b 4 Z) (X (b.b 3 Z) (X (b.b 2 Z) (X (b.b 1 Z) (X (b.b 0 Z) K.nil))))))))))))))))))))))))))))))))))))))))) c)⟩ h)
    have h:=aI h b5
    refine az (aR ?_)
    refine O ?_
    exact au _ (by exact ⟨Z,Z,Z,Z,Z,Z,Z,Z,Z,Z,V⟩) (bK (d.2.2.2.2.2.2.1,d.2.2.2.2.2.2.2.1,d.2.2.2.2.2.2.2.2.1,d.2.2.2.2.2.2.2.2.2.1,E.1,E.2) _ _ ⟨p,ad,t,ag,u,C,Z,(SfT.mk' hZ (Y (a.b 22 Z) (Y (a.b 21 Z) (Y (a.b 9 Z) (Y (a.b 8 Z) (Y (a.b 7 Z) (Y (a.b 6 Z) (Y (a.b 34 Z) (Y (a.b 33 Z) (Y (a.b 32 Z) (Y (a.b 31 Z) (Y (a.b 30 Z) (Y (a.b 29 Z) (Y (a.b 28 Z) (Y (a.b 27 Z) (Y (a.b 26 Z) (Y (a.b 25 Z) (Y (a.b 24 Z) (Y (a.b 23 Z) (Y (a.b 22 Z) (Y (a.b 21 Z) (Y (a.b 20 Z) (Y (a.b 19 Z) (Y (a.b 18 Z) (Y (a.b 17 Z) (Y (a.b 16 Z) (Y (a.b 15 Z) (Y (a.b 14 Z) (Y (a.b 13 Z) (Y (a.b 12 Z) (Y (a.b 11 Z) (Y (a.b 10 Z) (Y (a.b 9 Z) (Y (a.b 8 Z) (Y (a.b 7 Z) (Y (a.b 6 Z) (Y (a.b 5 Z) (Y (a.b 4 Z) (Y (a.b 3 Z) (Y (a.b 2 Z) (Y (a.b 1 Z) (Y (a.b 0 Z) Q.nil))))))))))))))))))))))))))))))))))))))))) (X (b.b 22 Z) (X (b.b 21 Z) (X (b.b 9 Z) (X (b.b 8 Z) (X (b.b 7 Z) (X (b.b 6 Z) (X (b.b 34 Z) (X (b.b 33 Z) (X (b.b 32 Z) (X (b.b 31 Z) (X (b.b 30 Z) (X (b.b 29 Z) (X (b.b 28 Z) (X (b.b 27 Z) (X (b.b 26 Z) (X (b.b 25 Z) (X (b.b 24 Z) (X (b.b 23 Z) (X (b.b 22 Z) (X (b.b 21 Z) (X (b.b 20 Z) (X (b.b 19 Z) (X (b.b 18 Z) (X (b.b 17 Z) (X (b.b 16 Z) (X (b.b 15 Z) (X (b.b 14 Z) (X (b.b 13 Z) (X (b.b 12 Z) (X (b.b 11 Z) (X (b.b 10 Z) (X (b.b 9 Z) (X (b.b 8 Z) (X (b.b 7 Z) (X (b.b 6 Z) (X (b.b 5 Z) (X (b.b 4 Z) (X (b.b 3 Z) (X (b.b 2 Z) (X (b.b 1 Z) (X (b.b 0 Z) K.nil))))))))))))))))))))))))))))))))))))))))) c)⟩ h)
   rintro ⟨cE,c4,cF,c5,cG,c6⟩ L w hJ h
   try dsimp only at hJ
   obtain ⟨bm,bH,bo,bI,bp,bJ,rfl,⟨dz,dd,hZ,a,b,c⟩⟩:=hJ
   unfold F.BX at h
   obtain ⟨e,cR,h⟩:=aj h
   refine gR (es:=[W bp [vB cG,bJ],red U bJ c6,W bo [vB cF,bI],red U bI c5,W bm [vB cE,bH],red U bH c4,W aO [vB bw,bk],red U bk bG,W aN [vB bu,bi],red U bi bF,W aZ [vB bE,bt],red U bt b1,W ac [vB G.2.2.2.2.1,aM],red U aM G.2.2.2.2.2,W ab [vB G.2.2.1,aK],red U aK G.2.2.2.1,W T [vB G.1,aG],red U aG G.2.1,W u [vB E.1,C],red U C E.2,W B [vB d.2.2.2.2.2.2.2.2.2.2.2.2.2.2.2.1,an],red U an d.2.2.2.2.2.2.2.2.2.2.2.2.2.2.2.2,W A [vB d.2.2.2.2.2.2.2.2.2.2.2.2.2.1,al],red U al d.2.2.2.2.2.2.2.2.2.2.2.2.2.2.1,W z [vB d.2.2.2.2.2.2.2.2.2.2.2.1,ak],red U ak d.2.2.2.2.2.2.2.2.2.2.2.2.1,W be [vB aQ.1,a4],red U a4 aQ.2.1,W bc [vB aP.1,a3],red U a3 aP.2.1,W bs [M aT 0,M aU 0,M aX 0,M p 0,M t 0,vI d.2.2.2.2.2.2.2.2.2.2.1,.func (.func 168) #[] #[]],W t [vB d.2.2.2.2.2.2.2.2.1,ag],red U ag d.2.2.2.2.2.2.2.2.2.1,W p [vB d.2.2.2.2.2.2.1,ad],red U ad d.2.2.2.2.2.2.2.1,W aX [vB d.2.2.2.2.1,aA],red U aA d.2.2.2.2.2.1,W aU [vB d.2.2.1,ay],red U ay d.2.2.2.1,W aT [vB d.1,ap],red U ap d.2.1]) (os:=[W aY [.slice none 0 0,.slice none 0 0,vB false],W aS [M z 0,M A 0,M B 0],W D [M p 0,M t 0,M u 0],W bf [M T 0,M ab 0,M ac 0],W bl [M bm 0,M bo 0,M bp 0]]) (fun i=>[5,7,8].contains i) (fun i=>none) (fun i=>if i=8 then [7] else []) (fun i=>if i=8 then [W bb [M aZ 0,M aN 0,M aO 0]] else []) (fun i=>if i=5 then [8] else []) (fun i=>if i=8 then [7] else []) (fun i=>if i=5 then (fun h v x y=>v=.agg #[M aZ 0,M aN 0,M aO 0]∧x=[]∧y=[]) else if i=7 then (fun h v x y=>∃m:Nat,∃n:Nat,∃o:Nat,∃f:Value,∃j:Value,∃l:Value,v=.agg #[M m 0,M n 0,M o 0]∧x=[]∧y=[red U f e.2.1,W m [vB e.1,f],red U j e.2.2.2.1,W n [vB e.2.2.1,j],red U l e.2.2.2.2.2,W o [vB e.2.2.2.2.1,l]]) else (fun h v x y=>∃m:Nat,∃n:Nat,∃o:Nat,∃f:Value,∃j:Value,∃l:Value,h=[(.agg #[M m 0,M n 0,M o 0],[],[red U f e.2.1,W m [vB e.1,f],red U j e.2.2.2.1,W n [vB e.2.2.1,j],red U l e.2.2.2.2.2,W o [vB e.2.2.2.2.1,l]])]∧v=undef∧x=[W bb [M m 0,M n 0,M o 0]]∧y=[red U f e.2.1,W m [vB e.1,f],red U j e.2.2.2.1,W n [vB e.2.2.1,j],red U l e.2.2.2.2.2,W o [vB e.2.2.2.2.1,l]])) (SfT.mk' hZ a b (c.pick (os':=[W bb [M aZ 0,M aN 0,M aO 0],W aY [.slice none 0 0,.slice none 0 0,vB false],W aS [M z 0,M A 0,M B 0],W D [M p 0,M t 0,M u 0],W bf [M T 0,M ab 0,M ac 0],W bl [M bm 0,M bo 0,M bp 0]]) [4,0,1,2,3,5] (by decide) rfl)) (fun k hk=>(if_neg (fun q=>by subst q; exact absurd hk (by decide)))) hTT rfl (fun i=>(eY (by rintro h v x y ⟨rfl,rfl,rfl⟩; exact dE rfl) (eY (by rintro h v x y ⟨_,_,_,_,_,_,rfl,rfl,rfl⟩; exact dE rfl) (by rintro h v x y ⟨_,_,_,_,_,_,_,rfl,rfl,rfl⟩; exact dE rfl)))) bQ (by kernel_rfl) (by kernel_rfl) ?_
   show fI _ _ _ _ _ _ _ _ _ _ _ _ _ _ _ _ [0,1,2,3,4,5,6,7,8] _ _
   refine bS Z Z (fun w Sb wb hZ a b hF=>ar Z) Z (bS Z Z (fun w Sb wb hZ a b hF=>aL Z) Z (bS Z Z (fun w Sb wb hZ a b hF=>av (k:=6) u76 Z Z BA Z) Z (bS Z Z (fun w Sb wb hZ a b hF=>aC Tryz.underlying74 Z Z ((a.rb 10 Z).cell hF.fr 6 Z)) Z (bS Z Z (fun w Sb wb hZ a b hF=>ar Z) Z ?_))))
   refine iZ (fun h v x y=>v=.agg #[M aZ 0,M aN 0,M aO 0]∧x=[]∧y=[]) [] [] [] [W bb [M aZ 0,M aN 0,M aO 0],W aY [.slice none 0 0,.slice none 0 0,vB false],W aS [M z 0,M A 0,M B 0],W D [M p 0,M t 0,M u 0],W bf [M T 0,M ab 0,M ac 0],W bl [M bm 0,M bo 0,M bp 0]] Z Z (fun h v x y=>Z) Z Z Z Z ⟨_,_,_,Z,Z,Z⟩ (fun w Sl Tl hZ hTT a b c=>?_) Z ?_
   ·exact A7 (bY (us:=[M aZ 0,M aN 0,M aO 0]) u91 Z bR Z (c.q 0 Z Z)) ⟨_,_,⟨Z,Z,Z⟩,SfT.mk' hZ Q.nil K.nil c⟩
   rintro v_q x_q y_q ⟨rfl,rfl,rfl⟩
   refine bS Z Z (fun w Sb wb hZ a b hF=>bY (us:=[M bm 0,M bo 0,M bp 0]) u91 Z bR Z (hF.q 4 Z Z)) Z ?_
   refine tS (fun h v x y=>∃m:Nat,∃n:Nat,∃o:Nat,∃f:Value,∃j:Value,∃l:Value,v=.agg #[M m 0,M n 0,M o 0]∧x=[]∧y=[red U f e.2.1,W m [vB e.1,f],red U j e.2.2.2.1,W n [vB e.2.2.1,j],red U l e.2.2.2.2.2,W o [vB e.2.2.2.2.1,l]]) [] [] [] _ Z Z (fun h v x y=>Z) Z Z Z Z ⟨_,_,_,0,0,0,undef,undef,undef,Z,Z,Z⟩ Z (by kernel_rfl) Z (fun w Sl Tl hZ hTT a b c=>?_) Z ?_
   ·replace c:=c.pick (os':=[]++[W aY [.slice none 0 0,.slice none 0 0,vB false],W aS [M z 0,M A 0,M B 0],W D [M p 0,M t 0,M u 0],W bf [M T 0,M ab 0,M ac 0],W bl [M bm 0,M bo 0,M bp 0]]) [0,1,2,3,4] (by decide) rfl
    obtain ⟨hZ,a,b,c⟩:=hZ.frzK hTT a b c
    refine em (rc d.1 d.2.2.1 d.2.2.2.2.1 d.2.2.2.2.2.2.1 d.2.2.2.2.2.2.2.2.1 d.2.2.2.2.2.2.2.2.2.2.1 bE bu bw true cE cF cG cR (hZ.okT hTT c) (a.j b 0 Z) (a.k b 1 Z) (a.j b 2 Z) (a.k b 3 Z) (a.j b 4 Z) (a.k b 5 Z) (a.j b 6 Z) (a.k b 7 Z) (a.j b 8 Z) (a.k b 9 Z) (a.k b 10 Z) (a.j b 29 Z) (a.k b 30 Z) (a.j b 31 Z) (a.k b 32 Z) (a.j b 33 Z) (a.k b 34 Z) (a.j b 35 Z) (a.k b 36 Z) (a.j b 37 Z) (a.k b 38 Z) (a.j b 39 Z) (a.k b 40 Z)) ?_
    rintro _ w ⟨m,f,n,j,o,l,rfl,aB,cr⟩
    obtain ⟨dA,de,hZ,a,b,c⟩:=hZ.m a b c aB cr rfl
    exact ⟨_,_,⟨m,n,o,f,j,l,Z,Z,Z⟩,SfT.mk' hZ (Y (a.b 41 Z) (Y (a.b 42 Z) (Y (a.b 43 Z) (Y (a.b 44 Z) (Y (a.b 45 Z) (Y (a.b 46 Z) Q.nil)))))) (X (b.b 41 Z) (X (b.b 42 Z) (X (b.b 43 Z) (X (b.b 44 Z) (X (b.b 45 Z) (X (b.b 46 Z) K.nil)))))) c⟩
   rintro v_q x_q y_q ⟨m,n,o,f,j,l,rfl,rfl,rfl⟩
   refine we (fun h v x y=>∃m:Nat,∃n:Nat,∃o:Nat,∃f:Value,∃j:Value,∃l:Value,h=[(.agg #[M m 0,M n 0,M o 0],[],[red U f e.2.1,W m [vB e.1,f],red U j e.2.2.2.1,W n [vB e.2.2.1,j],red U l e.2.2.2.2.2,W o [vB e.2.2.2.2.1,l]])]∧v=undef∧x=[W bb [M m 0,M n 0,M o 0]]∧y=[red U f e.2.1,W m [vB e.1,f],red U j e.2.2.2.1,W n [vB e.2.2.1,j],red U l e.2.2.2.2.2,W o [vB e.2.2.2.2.1,l]]) [(.agg #[M m 0,M n 0,M o 0],[],[red U f e.2.1,W m [vB e.1,f],red U j e.2.2.2.1,W n [vB e.2.2.1,j],red U l e.2.2.2.2.2,W o [vB e.2.2.2.2.1,l]])] [W bb [M aZ 0,M aN 0,M aO 0]] [red U f e.2.1,W m [vB e.1,f],red U j e.2.2.2.1,W n [vB e.2.2.1,j],red U l e.2.2.2.2.2,W o [vB e.2.2.2.2.1,l]] _ Z Z (fun h v x y=>Z) Z Z Z Z ⟨_,_,_,m,n,o,f,j,l,Z,Z,Z,Z⟩ (fun w Sl Tl hZ hTT a b c=>?_) ?_
   ·refine tj (br (i:=0) (us:=[M m 0,M n 0,M o 0]) Z bR Z Z Z ⟨Z,Z,Z,V⟩ Z c) ?_
    intro w c
    exact ⟨_,_,⟨m,n,o,f,j,l,Z,Z,Z,Z⟩,SfT.mk' hZ (Y (a.b 46 Z) (Y (a.b 45 Z) (Y (a.b 44 Z) (Y (a.b 43 Z) (Y (a.b 42 Z) (Y (a.b 41 Z) Q.nil)))))) (X (b.b 46 Z) (X (b.b 45 Z) (X (b.b 44 Z) (X (b.b 43 Z) (X (b.b 42 Z) (X (b.b 41 Z) K.nil)))))) c⟩
   rintro v_q x_q y_q ⟨b0_155_0',b0_155_1',b0_155_2',u0_155_0_1',u0_155_1_1',u0_155_2_1',hh,rfl,rfl,rfl⟩
   replace hh:([(.agg #[M m 0,M n 0,M o 0],[],[red U f e.2.1,W m [vB e.1,f],red U j e.2.2.2.1,W n [vB e.2.2.1,j],red U l e.2.2.2.2.2,W o [vB e.2.2.2.2.1,l]])]:List Th)=[(.agg #[M b0_155_0' 0,M b0_155_1' 0,M b0_155_2' 0],[],[red U u0_155_0_1' e.2.1,W b0_155_0' [vB e.1,u0_155_0_1'],red U u0_155_1_1' e.2.2.2.1,W b0_155_1' [vB e.2.2.1,u0_155_1_1'],red U u0_155_2_1' e.2.2.2.2.2,W b0_155_2' [vB e.2.2.2.2.1,u0_155_2_1']])]:=hh
   cases hh
   refine kk fun w hQ=>?_
   obtain ⟨dB,df,hZ,a,b,c⟩:=hQ
   refine aR ?_
   refine O (H (P 3 Z ?_))
   refine I ?_
   exact bv (bz _ (by exact ⟨Z,Z,Z,Z,Z,Z,Z,Z,Z,V⟩) (cN (wI (bD - 1),e.1,e.2.1,e.2.2.1,e.2.2.2.1,e.2.2.2.2.1,e.2.2.2.2.2) _ _ ⟨m,f,n,j,o,l,Z,(SfT.mk' hZ (Y (a.b 41 Z) (Y (a.b 42 Z) (Y (a.b 43 Z) (Y (a.b 44 Z) (Y (a.b 45 Z) (Y (a.b 46 Z) (Y (a.b 28 Z) (Y (a.b 27 Z) (Y (a.b 26 Z) (Y (a.b 25 Z) (Y (a.b 24 Z) (Y (a.b 23 Z) (Y (a.b 22 Z) (Y (a.b 21 Z) (Y (a.b 20 Z) (Y (a.b 19 Z) (Y (a.b 18 Z) (Y (a.b 17 Z) (Y (a.b 16 Z) (Y (a.b 15 Z) (Y (a.b 14 Z) (Y (a.b 13 Z) (Y (a.b 12 Z) (Y (a.b 11 Z) (Y (a.b 10 Z) (Y (a.b 9 Z) (Y (a.b 8 Z) (Y (a.b 7 Z) (Y (a.b 6 Z) (Y (a.b 5 Z) (Y (a.b 4 Z) (Y (a.b 3 Z) (Y (a.b 2 Z) (Y (a.b 1 Z) (Y (a.b 0 Z) Q.nil))))))))))))))))))))))))))))))))))) (X (b.b 41 Z) (X (b.b 42 Z) (X (b.b 43 Z) (X (b.b 44 Z) (X (b.b 45 Z) (X (b.b 46 Z) (X (b.b 28 Z) (X (b.b 27 Z) (X (b.b 26 Z) (X (b.b 25 Z) (X (b.b 24 Z) (X (b.b 23 Z) (X (b.b 22 Z) (X (b.b 21 Z) (X (b.b 20 Z) (X (b.b 19 Z) (X (b.b 18 Z) (X (b.b 17 Z) (X (b.b 16 Z) (X (b.b 15 Z) (X (b.b 14 Z) (X (b.b 13 Z) (X (b.b 12 Z) (X (b.b 11 Z) (X (b.b 10 Z) (X (b.b 9 Z) (X (b.b 8 Z) (X (b.b 7 Z) (X (b.b 6 Z) (X (b.b 5 Z) (X (b.b 4 Z) (X (b.b 3 Z) (X (b.b 2 Z) (X (b.b 1 Z) (X (b.b 0 Z) K.nil))))))))))))))))))))))))))))))))))) (c.e [1,2,3,4,0] Z Z))⟩ (a8 h ct)))
  have h:=aI h b2
  refine bg ?_
  refine aF (aF ?_)
  have h:=aW h ct
  refine bd ?_
  refine O (J (H (P 1 Z ?_)))
  refine am (bY (us:=[M aZ 0,M aN 0,M aO 0]) u91 Z bR Z (c.q 4 Z Z)) Z ?_
  obtain ⟨cH,cS,h⟩:=aj h
  refine ao Z (lc d.1 d.2.2.1 d.2.2.2.2.1 d.2.2.2.2.2.2.1 d.2.2.2.2.2.2.2.2.1 d.2.2.2.2.2.2.2.2.2.2.1 bE bu bw cS ((a.rp 0 Z).d c.fr).rp ((a.rb 1 Z).d c.fr) ((a.rp 2 Z).d c.fr).rp ((a.rb 3 Z).d c.fr) ((a.rp 4 Z).d c.fr).rp ((a.rb 5 Z).d c.fr) ((a.rp 6 Z).d c.fr).rp ((a.rb 7 Z).d c.fr) ((a.rp 8 Z).d c.fr).rp ((a.rb 9 Z).d c.fr) ((a.rb 10 Z).d c.fr) ((a.rp 29 Z).d c.fr).rp ((a.rb 30 Z).d c.fr) ((a.rp 31 Z).d c.fr).rp ((a.rb 32 Z).d c.fr) ((a.rp 33 Z).d c.fr).rp ((a.rb 34 Z).d c.fr)) Z ?_
  rintro _ w ⟨cl,cm,rfl,aB⟩
  have c:=c.f aB
  refine bn (br (i:=2) (us:=[cl,cm,vB cH.2.2]) Z cI Z Z Z ⟨(c.ro 0 Z).one,(c.ro 1 Z).one,Z,V⟩ Z c) ?_
  intro w c
  refine P 1 Z ?_
  refine I (O (ax ?_))
  cases h
  replace c:=hZ.st c
  exact fj Z ⟨_,Z,bW (us:=[cl,cm,vB cH.2.2]) u33 Z cI (c.q 2 Z Z)⟩ Z ⟨cl,cm,Z,c.e [0,1] Z Z⟩
end Go.Proofs
