import Derived.Test.YtkickcbphbgldaaGreatDoorTW0
import Derived.Test.YtkickcbphbgldaaGreatDoorGkFman
import Derived.Test.YtkickcbphbgldaaGreatDoorTWbignumc
import Derived.Test.YtkickcbphbgldaaGreatDoorTWcurveb
set_option linter.unusedVariables false
set_option linter.unusedSimpArgs false
set_option linter.unusedSectionVars false
set_option maxRecDepth 4000
namespace Go.Proofs
open Go Go.RowKit Go.Gk
open Go.Gk renaming Off → K, Rds → Q, aa → P, ae → O, ah → J, ai → H, e32 → U, own → M, pB → N, vB → I
open Nat renaming le_of_ble_eq_true → R
open Go.Gk.OE renaming bx → X
open Go.Gk.Off renaming cons → W
open Go.Gk.Rds renaming cons → Y
set_option maxHeartbeats 8000000 in
theorem kX {w0:World} {a1 a2 b7 b8:List UInt32} {co cp a6 a7:Value} (a0:Int) (br:Bool) {r:List UInt32×List UInt32×Bool×Int}
  (h:F.Di a0 a1 a2 b7 b8 br=some r) (c9:RP [] w0 U co a1) (db:RP [] w0 U cp a2) (cU:RP [] w0 U a6 b7) (cV:RP [] w0 U a7 b8):Calls Tryz.prog 40 #[vI a0,co,cp,.agg #[a6,a7,I br]] w0 (Ret fun v w=>∃cJ cK:Value,v=.tuple #[.agg #[cJ,cK,I r.2.2.1],vI r.2.2.2]∧St [] w0 w [M U cJ r.1,M U cK r.2.1]):=by
 refine aJ 109 Tryz.func40 Z Z Z ?_
 have c:=St.l w0
 have hZ:=Fz.l (S:=[]) (w0:=w0)
 have hTT:TOk [] [] w0:=TOk.nil
 have a:Q [] w0 [red U a7 b8,red U a6 b7,red U cp a2,red U co a1]:=Y (RP.i (R Z) cV) (Y (RP.i (R Z) cU) (Y (RP.i (R Z) db) (Y (RP.i (R Z) c9) (Q.nil))))
 have b:K [] [red U a7 b8,red U a6 b7,red U cp a2,red U co a1]:=K.emp
 refine au [(0,vI a0),(1,co),(2,cp),(3,.agg #[a6,a7,I br])] ⟨Z,Z,Z,Z,V⟩ ?_
 unfold F.Di at h
 refine J (af (aT (da (cs:=[a6,a7,I br]) Z Z c) Z ?_))
 rintro _ w ⟨cq,rfl,c⟩
 refine aT (aY (cs:=[.slice none 0 0,.slice none 0 0,I false]) jc Z c) Z ?_
 rintro _ w ⟨aZ,rfl,c⟩
 refine P 1 Z ?_
 refine H (O (J (af (P 1 Z ?_))))
 refine am (bI (us:=[a6,a7,I br]) u33 Z ce Z (c.q 1 Z Z)) Z ?_
 replace c:=c.pick (os':=[]++[X aZ [.slice none 0 0,.slice none 0 0,I false],X cq [a6,a7,I br]]) [0,1] (by decide) rfl
 obtain ⟨hZ,a,b,c⟩:=hZ.frzK hTT a b c
 obtain ⟨dc,c8,h⟩:=aj h
 refine ao Z (gz a0 br c8 (hZ.okT hTT c) (a.j b 2 Z) (a.j b 3 Z)) Z ?_
 rintro v_q w hQ
 cases b9:dc.1 with
 | none=>
  have h:=fx h b9
  rw [b9]at hQ
  obtain ⟨rfl,aB⟩:=eJ hQ
  obtain ⟨dU,dj,hZ,a,b,c⟩:=hZ.m a b c aB Q.nil rfl
  refine P 4 Z ?_
  refine aT (aY (cs:=[.pointer none,.pointer none,.pointer none]) eQ Z c) Z ?_
  rintro _ w ⟨ca,rfl,c⟩
  refine P 1 Z ?_
  refine bk (bl (i:=0) (us:=[.pointer none,.pointer none,.pointer none]) Z bL Z Z Z ⟨Z,Z,Z,V⟩ Z c) ?_
  intro w c
  refine P 1 Z ?_
  refine H (O (J (J (af (P 2 Z ?_)))))
  refine H (O ?_)
  refine ax Z (fun cb=>?_) (fun cb=>?_)
  ·have h:=aI h cb
   refine J (af (am (bY (vs:=[]) (cells:=[.slice none 0 0,.slice none 0 0,I false]) Z fo V Z) Z (bk (bl (i:=1) (us:=[.slice none 0 0,.slice none 0 0,I false]) Z ce Z Z Z ⟨Z,Z,Z,V⟩ Z c) ?_)))
   intro w c
   refine P 1 Z ?_
   refine H (O (aw (aE ?_)))
   cases h
   replace c:=hZ.st c
   exact dR Z ⟨_,Z,bJ (us:=[.slice none 0 0,.slice none 0 0,I false]) u33 Z ce (c.q 1 Z Z)⟩ Z ⟨.slice none 0 0,.slice none 0 0,Z,((c.nil U).nil U).e [1,0] Z Z⟩
  have h:=aH h cb
  refine ay (O (J (af (P 1 Z ?_))))
  obtain ⟨bC,cW,h⟩:=aj h
  refine ao Z (ee  cW ((a.rp 0 Z).d c.fr).rp) Z ?_
  rintro _ w ⟨bQ,cc,rfl,aB⟩
  have c:=c.f aB
  refine P 5 Z ?_
  refine H (O (J (af (P 1 Z ?_))))
  obtain ⟨bD,cX,h⟩:=aj h
  refine ao Z (ee  cX ((a.rp 1 Z).d c.fr).rp) Z ?_
  rintro _ w ⟨bR,cd,rfl,aB⟩
  have c:=c.f aB
  refine P 5 Z ?_
  refine H (O (J ?_))
  refine a9 (r:=r) (fun (g:Bool) L w=>L=[(8,N aZ 0),(10,.pointer none),(11,N ca 0),(13,N cc 0),(15,N cd 0),(49,I g)]∧SfT [] [] w0 w [X cd [I bD.1,bR],red U bR bD.2.1,X cc [I bC.1,bQ],red U bQ bC.2.1] [X aZ [.slice none 0 0,.slice none 0 0,I false],X ca [.pointer none,.pointer none,.pointer none]]) (F.FL) ?_ ?_
  rotate_left
  ·intro cA
   refine af (P 3 Z ?_)
   cases bT:(!bC.2.2)
   case true=>
    have h:=aI h bT
    try simp only [bT]
    refine P 3 Z ?_
    refine H (O ?_)
    replace c:=c.pick (os':=[X cd [I bD.1,bR],M U bR bD.2.1,X cc [I bC.1,bQ],M U bQ bC.2.1]++[X ca [.pointer none,.pointer none,.pointer none],X aZ [.slice none 0 0,.slice none 0 0,I false],X cq [a6,a7,I br]]) [0,1,2,3,4,5,6] (by decide) rfl
    obtain ⟨dG,dk,hZ,a,b,c⟩:=hZ.frzT hTT a b c
    exact au _ (by exact ⟨Z,Z,Z,Z,Z,Z,V⟩) (cA true _ _ ⟨Z,(SfT.mk' hZ (Y (a.b 7 Z) (Y (a.b 6 Z) (Y (a.b 5 Z) (Y (a.b 4 Z) Q.nil)))) (W (b.b 7 Z) (W (b.b 6 Z) (W (b.b 5 Z) (W (b.b 4 Z) K.nil)))) (c.e [1,0] Z Z))⟩ h)
   case false=>
    have h:=aH h bT
    try simp only [bT]
    refine P 3 Z ?_
    refine H (O ?_)
    replace c:=c.pick (os':=[X cd [I bD.1,bR],M U bR bD.2.1,X cc [I bC.1,bQ],M U bQ bC.2.1]++[X ca [.pointer none,.pointer none,.pointer none],X aZ [.slice none 0 0,.slice none 0 0,I false],X cq [a6,a7,I br]]) [0,1,2,3,4,5,6] (by decide) rfl
    obtain ⟨dH,dl,hZ,a,b,c⟩:=hZ.frzT hTT a b c
    exact au _ (by exact ⟨Z,Z,Z,Z,Z,Z,V⟩) (cA (!bD.2.2) _ _ ⟨Z,(SfT.mk' hZ (Y (a.b 7 Z) (Y (a.b 6 Z) (Y (a.b 5 Z) (Y (a.b 4 Z) Q.nil)))) (W (b.b 7 Z) (W (b.b 6 Z) (W (b.b 5 Z) (W (b.b 4 Z) K.nil)))) (c.e [1,0] Z Z))⟩ h)
  rintro dI L w hJ h
  try dsimp only at hJ
  obtain ⟨rfl,⟨dJ,dm,hZ,a,b,c⟩⟩:=hJ
  unfold F.FL at h
  refine ax Z (fun cf=>?_) (fun cf=>?_)
  ·have h:=aI h cf
   refine J (af (am (bY (vs:=[]) (cells:=[.slice none 0 0,.slice none 0 0,I false]) Z fo V Z) Z (bk (bl (i:=0) (us:=[.slice none 0 0,.slice none 0 0,I false]) Z ce Z Z Z ⟨Z,Z,Z,V⟩ Z c) ?_)))
   intro w c
   refine P 1 Z ?_
   refine H (O (aw (aE ?_)))
   cases h
   replace c:=hZ.st c
   exact dR Z ⟨_,Z,bJ (us:=[.slice none 0 0,.slice none 0 0,I false]) u33 Z ce (c.q 0 Z Z)⟩ Z ⟨.slice none 0 0,.slice none 0 0,Z,((c.nil U).nil U).e [1,0] Z Z⟩
  have h:=aH h cf
  refine ay (O (J ?_))
  cases h
 | some d=>
  have h:=fv h b9
  rw [b9]at hQ
  obtain ⟨bs,aU,ap,aV,az,aX,aA,p,ad,t,ag,z,ak,A,al,B,an,rfl,aB,ct⟩:=eM hQ
  obtain ⟨dK,dn,hZ,a,b,c⟩:=hZ.m a b c aB ct rfl
  refine P 4 Z ?_
  refine aT (aY (cs:=[.pointer none,.pointer none,.pointer none]) eQ Z c) Z ?_
  rintro _ w ⟨aS,rfl,c⟩
  refine P 1 Z ?_
  refine bk (bl (i:=0) (us:=[N z 0,N A 0,N B 0]) Z bL Z Z Z ⟨Z,Z,Z,V⟩ Z c) ?_
  intro w c
  refine P 1 Z ?_
  refine H (O (J (J (af (P 2 Z ?_)))))
  refine H (O ?_)
  refine ax Z (fun b0=>?_) (fun b0=>?_)
  ·have h:=aI h b0
   refine J (af (am (bY (vs:=[]) (cells:=[.slice none 0 0,.slice none 0 0,I false]) Z fo V Z) Z (bk (bl (i:=1) (us:=[.slice none 0 0,.slice none 0 0,I false]) Z ce Z Z Z ⟨Z,Z,Z,V⟩ Z c) ?_)))
   intro w c
   refine P 1 Z ?_
   refine H (O (aw (aE ?_)))
   cases h
   replace c:=hZ.st c
   exact dR Z ⟨_,Z,bJ (us:=[.slice none 0 0,.slice none 0 0,I false]) u33 Z ce (c.q 1 Z Z)⟩ Z ⟨.slice none 0 0,.slice none 0 0,Z,((c.nil U).nil U).e [1,0] Z Z⟩
  have h:=aH h b0
  refine ay (O (J (af (P 1 Z ?_))))
  obtain ⟨aP,cY,h⟩:=aj h
  refine ao Z (ee  cY ((a.rp 0 Z).d c.fr).rp) Z ?_
  rintro _ w ⟨a4,bc,rfl,aB⟩
  have c:=c.f aB
  refine P 5 Z ?_
  refine H (O (J (af (P 1 Z ?_))))
  obtain ⟨aQ,cZ,h⟩:=aj h
  refine ao Z (ee  cZ ((a.rp 1 Z).d c.fr).rp) Z ?_
  rintro _ w ⟨a5,be,rfl,aB⟩
  have c:=c.f aB
  refine P 5 Z ?_
  refine H (O (J ?_))
  refine a9 (r:=r) (fun (g:Bool) L w=>L=[(8,N aZ 0),(10,N bs 0),(11,N aS 0),(13,N bc 0),(15,N be 0),(49,I g)]∧SfT [] [] w0 w [X B [I d.2.2.2.2.2.2.2.2.2.2.2.2.2.2.2.1,an],red U an d.2.2.2.2.2.2.2.2.2.2.2.2.2.2.2.2,X A [I d.2.2.2.2.2.2.2.2.2.2.2.2.2.1,al],red U al d.2.2.2.2.2.2.2.2.2.2.2.2.2.2.1,X z [I d.2.2.2.2.2.2.2.2.2.2.2.1,ak],red U ak d.2.2.2.2.2.2.2.2.2.2.2.2.1,X be [I aQ.1,a5],red U a5 aQ.2.1,X bc [I aP.1,a4],red U a4 aP.2.1,X bs [N aU 0,N aV 0,N aX 0,N p 0,N t 0,vI d.2.2.2.2.2.2.2.2.2.2.1,.func (.func 168) #[] #[]],X t [I d.2.2.2.2.2.2.2.2.1,ag],red U ag d.2.2.2.2.2.2.2.2.2.1,X p [I d.2.2.2.2.2.2.1,ad],red U ad d.2.2.2.2.2.2.2.1,X aX [I d.2.2.2.2.1,aA],red U aA d.2.2.2.2.2.1,X aV [I d.2.2.1,az],red U az d.2.2.2.1,X aU [I d.1,ap],red U ap d.2.1] [X aZ [.slice none 0 0,.slice none 0 0,I false],X aS [N z 0,N A 0,N B 0]]) (F.Ea d aP aQ) ?_ ?_
  rotate_left
  ·intro cB
   refine af (P 3 Z ?_)
   cases bU:(!aP.2.2)
   case true=>
    have h:=aI h bU
    try simp only [bU]
    refine P 3 Z ?_
    refine H (O ?_)
    replace c:=c.pick (os':=[X be [I aQ.1,a5],M U a5 aQ.2.1,X bc [I aP.1,a4],M U a4 aP.2.1]++[X aS [N z 0,N A 0,N B 0],X aZ [.slice none 0 0,.slice none 0 0,I false],X cq [a6,a7,I br]]) [0,1,2,3,4,5,6] (by decide) rfl
    obtain ⟨dL,dp,hZ,a,b,c⟩:=hZ.frzT hTT a b c
    exact au _ (by exact ⟨Z,Z,Z,Z,Z,Z,V⟩) (cB true _ _ ⟨Z,(SfT.mk' hZ (Y (a.b 20 Z) (Y (a.b 19 Z) (Y (a.b 18 Z) (Y (a.b 17 Z) (Y (a.b 16 Z) (Y (a.b 15 Z) (Y (a.b 24 Z) (Y (a.b 23 Z) (Y (a.b 22 Z) (Y (a.b 21 Z) (Y (a.b 14 Z) (Y (a.b 13 Z) (Y (a.b 12 Z) (Y (a.b 11 Z) (Y (a.b 10 Z) (Y (a.b 9 Z) (Y (a.b 8 Z) (Y (a.b 7 Z) (Y (a.b 6 Z) (Y (a.b 5 Z) (Y (a.b 4 Z) Q.nil))))))))))))))))))))) (W (b.b 20 Z) (W (b.b 19 Z) (W (b.b 18 Z) (W (b.b 17 Z) (W (b.b 16 Z) (W (b.b 15 Z) (W (b.b 24 Z) (W (b.b 23 Z) (W (b.b 22 Z) (W (b.b 21 Z) (W (b.b 14 Z) (W (b.b 13 Z) (W (b.b 12 Z) (W (b.b 11 Z) (W (b.b 10 Z) (W (b.b 9 Z) (W (b.b 8 Z) (W (b.b 7 Z) (W (b.b 6 Z) (W (b.b 5 Z) (W (b.b 4 Z) K.nil))))))))))))))))))))) (c.e [1,0] Z Z))⟩ h)
   case false=>
    have h:=aH h bU
    try simp only [bU]
    refine P 3 Z ?_
    refine H (O ?_)
    replace c:=c.pick (os':=[X be [I aQ.1,a5],M U a5 aQ.2.1,X bc [I aP.1,a4],M U a4 aP.2.1]++[X aS [N z 0,N A 0,N B 0],X aZ [.slice none 0 0,.slice none 0 0,I false],X cq [a6,a7,I br]]) [0,1,2,3,4,5,6] (by decide) rfl
    obtain ⟨dM,dq,hZ,a,b,c⟩:=hZ.frzT hTT a b c
    exact au _ (by exact ⟨Z,Z,Z,Z,Z,Z,V⟩) (cB (!aQ.2.2) _ _ ⟨Z,(SfT.mk' hZ (Y (a.b 20 Z) (Y (a.b 19 Z) (Y (a.b 18 Z) (Y (a.b 17 Z) (Y (a.b 16 Z) (Y (a.b 15 Z) (Y (a.b 24 Z) (Y (a.b 23 Z) (Y (a.b 22 Z) (Y (a.b 21 Z) (Y (a.b 14 Z) (Y (a.b 13 Z) (Y (a.b 12 Z) (Y (a.b 11 Z) (Y (a.b 10 Z) (Y (a.b 9 Z) (Y (a.b 8 Z) (Y (a.b 7 Z) (Y (a.b 6 Z) (Y (a.b 5 Z) (Y (a.b 4 Z) Q.nil))))))))))))))))))))) (W (b.b 20 Z) (W (b.b 19 Z) (W (b.b 18 Z) (W (b.b 17 Z) (W (b.b 16 Z) (W (b.b 15 Z) (W (b.b 24 Z) (W (b.b 23 Z) (W (b.b 22 Z) (W (b.b 21 Z) (W (b.b 14 Z) (W (b.b 13 Z) (W (b.b 12 Z) (W (b.b 11 Z) (W (b.b 10 Z) (W (b.b 9 Z) (W (b.b 8 Z) (W (b.b 7 Z) (W (b.b 6 Z) (W (b.b 5 Z) (W (b.b 4 Z) K.nil))))))))))))))))))))) (c.e [1,0] Z Z))⟩ h)
  rintro dN L w hJ h
  try dsimp only at hJ
  obtain ⟨rfl,⟨dO,dr,hZ,a,b,c⟩⟩:=hJ
  unfold F.Ea at h
  refine ax Z (fun b1=>?_) (fun b1=>?_)
  ·have h:=aI h b1
   refine J (af (am (bY (vs:=[]) (cells:=[.slice none 0 0,.slice none 0 0,I false]) Z fo V Z) Z (bk (bl (i:=0) (us:=[.slice none 0 0,.slice none 0 0,I false]) Z ce Z Z Z ⟨Z,Z,Z,V⟩ Z c) ?_)))
   intro w c
   refine P 1 Z ?_
   refine H (O (aw (aE ?_)))
   cases h
   replace c:=hZ.st c
   exact dR Z ⟨_,Z,bJ (us:=[.slice none 0 0,.slice none 0 0,I false]) u33 Z ce (c.q 0 Z Z)⟩ Z ⟨.slice none 0 0,.slice none 0 0,Z,((c.nil U).nil U).e [1,0] Z Z⟩
  have h:=aH h b1
  refine ay (O (J ?_))
  obtain ⟨E,c0,h⟩:=aj h
  refine fw (es:=[X B [I d.2.2.2.2.2.2.2.2.2.2.2.2.2.2.2.1,an],red U an d.2.2.2.2.2.2.2.2.2.2.2.2.2.2.2.2,X A [I d.2.2.2.2.2.2.2.2.2.2.2.2.2.1,al],red U al d.2.2.2.2.2.2.2.2.2.2.2.2.2.2.1,X z [I d.2.2.2.2.2.2.2.2.2.2.2.1,ak],red U ak d.2.2.2.2.2.2.2.2.2.2.2.2.1,X be [I aQ.1,a5],red U a5 aQ.2.1,X bc [I aP.1,a4],red U a4 aP.2.1,X bs [N aU 0,N aV 0,N aX 0,N p 0,N t 0,vI d.2.2.2.2.2.2.2.2.2.2.1,.func (.func 168) #[] #[]],X t [I d.2.2.2.2.2.2.2.2.1,ag],red U ag d.2.2.2.2.2.2.2.2.2.1,X p [I d.2.2.2.2.2.2.1,ad],red U ad d.2.2.2.2.2.2.2.1,X aX [I d.2.2.2.2.1,aA],red U aA d.2.2.2.2.2.1,X aV [I d.2.2.1,az],red U az d.2.2.2.1,X aU [I d.1,ap],red U ap d.2.1]) (os:=[X aZ [.slice none 0 0,.slice none 0 0,I false],X aS [N z 0,N A 0,N B 0]]) (fun i=>[8,10,11].contains i) (fun i=>if i=8 then some 11 else if i=10 then some 11 else none) (fun i=>[]) (fun i=>[]) (fun i=>[]) (fun i=>if i=11 then [8,10] else []) (fun i=>if i=8 then (fun h v x y=>∃u:Nat,∃C:Value,v=N u 0∧x=[X u [I E.1,C],M U C E.2]∧y=[]) else if i=10 then (fun h v x y=>∃D:Nat,v=N D 0∧x=[X D [.pointer none,.pointer none,.pointer none]]∧y=[]) else (fun h v x y=>∃u:Nat,∃C:Value,∃D:Nat,h=[(N u 0,[X u [I E.1,C],M U C E.2],[]),(N D 0,[X D [.pointer none,.pointer none,.pointer none]],[])]∧v=undef∧x=[X u [I E.1,C],M U C E.2,X D [N p 0,N t 0,N u 0]]∧y=[])) (SfT.mk' hZ a b c) (fun k hk=>rfl) hTT rfl (fun i=>(dF (by rintro h v x y ⟨_,_,rfl,rfl,rfl⟩; exact cQ rfl) (dF (by rintro h v x y ⟨_,rfl,rfl,rfl⟩; exact cQ rfl) (by rintro h v x y ⟨_,_,_,_,rfl,rfl,rfl⟩; exact cQ rfl)))) bS (by kernel_rfl) (by kernel_rfl) ?_
  show fy _ _ _ _ _ _ _ _ _ _ _ _ _ _ _ _ [0,1,2,3,4,5,6,7,8,9,10,11] _ _
  refine bu Z Z (fun w Sb wb hZ a b hF=>ar Z) Z (bu Z Z (fun w Sb wb hZ a b hF=>aK Z) Z (bu Z Z (fun w Sb wb hZ a b hF=>av (k:=3) u76 Z Z cw Z) Z (bu Z Z (fun w Sb wb hZ a b hF=>aC u73 Z Z ((a.rb 10 Z).cell hF.fr 3 Z)) Z (bu Z Z (fun w Sb wb hZ a b hF=>ar Z) Z (bu Z Z (fun w Sb wb hZ a b hF=>aK Z) Z (bu Z Z (fun w Sb wb hZ a b hF=>av (k:=4) u76 Z Z cw Z) Z (bu Z Z (fun w Sb wb hZ a b hF=>aC u73 Z Z ((a.rb 10 Z).cell hF.fr 4 Z)) Z ?_)))))))
  refine dC (fun h v x y=>∃u:Nat,∃C:Value,v=N u 0∧x=[X u [I E.1,C],M U C E.2]∧y=[]) [] [] [] _ Z Z (fun h v x y=>Z) Z Z Z Z ⟨_,_,_,0,undef,Z,Z,Z⟩ (by kernel_rfl) Z (fun w Sl Tl hZ hTT a b c=>?_) Z ?_
  ·refine dh (cG 1 c0 ) ?_
   rintro _ w ⟨C,u,rfl,aB⟩
   have c:=c.f aB
   exact ⟨_,_,⟨u,C,Z,Z,Z⟩,SfT.mk' hZ Q.nil K.nil c⟩
  rintro v_q x_q y_q ⟨u,C,rfl,rfl,rfl⟩
  refine bu Z Z (fun w Sb wb hZ a b hF=>bY (vs:=[(0,N p 0,[N p 0]),(1,N t 0,[N t 0]),(2,N u 0,[N u 0])]) (cells:=[N p 0,N t 0,N u 0]) Z mB ⟨Z,Z,Z,V⟩ Z) Z ?_
  refine g9 (fun h v x y=>∃D:Nat,v=N D 0∧x=[X D [.pointer none,.pointer none,.pointer none]]∧y=[]) [] [] [] _ Z Z (fun h v x y=>Z) Z Z Z Z ⟨_,_,_,0,Z,Z,Z⟩ (fun w Sl Tl hZ hTT a b c=>?_) Z ?_
  ·refine mH (aY (cs:=[.pointer none,.pointer none,.pointer none]) eQ Z c) ?_
   rintro _ w ⟨D,rfl,c⟩
   exact ⟨_,_,⟨D,Z,Z,Z⟩,SfT.mk' hZ Q.nil K.nil c⟩
  rintro v_q x_q y_q ⟨D,rfl,rfl,rfl⟩
  refine n6 (fun h v x y=>∃u:Nat,∃C:Value,∃D:Nat,h=[(N u 0,[X u [I E.1,C],M U C E.2],[]),(N D 0,[X D [.pointer none,.pointer none,.pointer none]],[])]∧v=undef∧x=[X u [I E.1,C],M U C E.2,X D [N p 0,N t 0,N u 0]]∧y=[]) [(N u 0,[X u [I E.1,C],M U C E.2],[]),(N D 0,[X D [.pointer none,.pointer none,.pointer none]],[])] [X u [I E.1,C],M U C E.2,X D [.pointer none,.pointer none,.pointer none]] [] _ Z Z (fun h v x y=>Z) Z Z Z Z ⟨_,_,_,u,C,D,Z,Z,Z,Z⟩ (fun w Sl Tl hZ hTT a b c=>?_) ?_
  ·refine mI (bl (i:=2) (us:=[N p 0,N t 0,N u 0]) Z bL Z Z Z ⟨Z,Z,Z,V⟩ Z c) ?_
   intro w c
   exact ⟨_,_,⟨u,C,D,Z,Z,Z,Z⟩,SfT.mk' hZ Q.nil K.nil c⟩
  rintro v_q x_q y_q ⟨b_60',v_58',b_62',hh,rfl,rfl,rfl⟩
  replace hh:([(N u 0,[X u [I E.1,C],M U C E.2],[]),(N D 0,[X D [.pointer none,.pointer none,.pointer none]],[])]:List Th)=[(N b_60' 0,[X b_60' [I E.1,v_58'],M U v_58' E.2],[]),(N b_62' 0,[X b_62' [.pointer none,.pointer none,.pointer none]],[])]:=hh
  cases hh
  refine ib fun w hQ=>?_
  obtain ⟨dP,ds,hZ,a,b,c⟩:=hQ
  refine O (J (af (P 1 Z ?_)))
  refine am (bI (us:=[N p 0,N t 0,N u 0]) u91 Z bL Z (c.q 2 Z Z)) Z (am (bI (us:=[N z 0,N A 0,N B 0]) u91 Z bL Z (c.q 4 Z Z)) Z ?_)
  replace c:=c.pick (os':=[X u [I E.1,C],M U C E.2]++[X D [N p 0,N t 0,N u 0],X aZ [.slice none 0 0,.slice none 0 0,I false],X aS [N z 0,N A 0,N B 0]]) [0,1,2,3,4] (by decide) rfl
  obtain ⟨hZ,a,b,c⟩:=hZ.frzK hTT a b c
  obtain ⟨G,c1,h⟩:=aj h
  refine ao Z (iR d.1 d.2.2.1 d.2.2.2.2.1 d.2.2.2.2.2.2.1 d.2.2.2.2.2.2.2.2.1 d.2.2.2.2.2.2.2.2.2.2.1 d.2.2.2.2.2.2.1 d.2.2.2.2.2.2.2.2.1 E.1 d.2.2.2.2.2.2.2.2.2.2.2.1 d.2.2.2.2.2.2.2.2.2.2.2.2.2.1 d.2.2.2.2.2.2.2.2.2.2.2.2.2.2.2.1 c1 (hZ.okT hTT c) (a.j b 0 Z) (a.k b 1 Z) (a.j b 2 Z) (a.k b 3 Z) (a.j b 4 Z) (a.k b 5 Z) (a.j b 6 Z) (a.k b 7 Z) (a.j b 8 Z) (a.k b 9 Z) (a.k b 10 Z) (a.j b 6 Z) (a.k b 7 Z) (a.j b 8 Z) (a.k b 9 Z) (a.j b 21 Z) (a.k b 22 Z) (a.j b 15 Z) (a.k b 16 Z) (a.j b 17 Z) (a.k b 18 Z) (a.j b 19 Z) (a.k b 20 Z)) Z ?_
  rintro _ w ⟨T,aF,ab,aL,ac,aM,rfl,aB,ct⟩
  obtain ⟨dQ,dt,hZ,a,b,c⟩:=hZ.m a b c aB ct rfl
  refine aT (aY (cs:=[.pointer none,.pointer none,.pointer none]) eQ Z c) Z ?_
  rintro _ w ⟨bg,rfl,c⟩
  refine bk (bl (i:=0) (us:=[N T 0,N ab 0,N ac 0]) Z bL Z Z Z ⟨Z,Z,Z,V⟩ Z c) ?_
  intro w c
  refine H (O (J (af ?_)))
  obtain ⟨bh,c2,h⟩:=aj h
  refine ao Z (eo  c2 ) Z ?_
  rintro _ w ⟨cx,cy,cz,cg,ch,ci,rfl,aB⟩
  have c:=c.f aB
  refine aT (aY (cs:=[.pointer none,.pointer none,.pointer none]) eQ Z c) Z ?_
  rintro _ w ⟨bb,rfl,c⟩
  refine bk (bl (i:=0) (us:=[N cg 0,N ch 0,N ci 0]) Z bL Z Z Z ⟨Z,Z,Z,V⟩ Z c) ?_
  intro w c
  refine H (O (J (J (af (P 1 Z ?_)))))
  obtain ⟨cL,c3,h⟩:=aj h
  refine ao Z (fC aP.1 c3 ((a.rp 11 Z).d c.fr).rp ((a.rb 12 Z).d c.fr)) Z ?_
  rintro _ w ⟨rfl,aB⟩
  have c:=c.f aB
  refine P 1 Z ?_
  obtain ⟨cM,c4,h⟩:=aj h
  refine ao Z (fC aQ.1 c4 ((a.rp 13 Z).d c.fr).rp ((a.rb 14 Z).d c.fr)) Z ?_
  rintro _ w ⟨rfl,aB⟩
  have c:=c.f aB
  refine am (tN Z Z) Z (P 2 Z ?_)
  refine H (O (aD ?_))
  replace c:=c.pick (os':=[X cg [I bh.1,cx],M U cx bh.2.1,X ch [I bh.2.2.1,cy],M U cy bh.2.2.2.1,X ci [I bh.2.2.2.2.1,cz],M U cz bh.2.2.2.2.2]++[X bb [N cg 0,N ch 0,N ci 0],X bg [N T 0,N ab 0,N ac 0],X D [N p 0,N t 0,N u 0],X aZ [.slice none 0 0,.slice none 0 0,I false],X aS [N z 0,N A 0,N B 0]]) [1,2,3,4,5,6,0,7,8,9,10] (by decide) rfl
  obtain ⟨dS,du,hZ,a,b,c⟩:=hZ.frzT hTT a b c
  refine au [(8,N aZ 0),(10,N bs 0),(11,N aS 0),(13,N bc 0),(15,N be 0),(17,N D 0),(18,N bg 0),(19,N bb 0),(20,vI (wI ((max cL cM) - 1)))] ⟨Z,Z,Z,Z,Z,Z,Z,Z,Z,V⟩ ?_
  refine bj (F.DG d aP aQ E G) (fun (s:Int×Bool×List UInt32×Bool×List UInt32×Bool×List UInt32) L w=>∃(a3:Nat) (bt:Value) (aN:Nat) (bi:Value) (aO:Nat) (bm:Value),L=[(8,N aZ 0),(10,N bs 0),(11,N aS 0),(13,N bc 0),(15,N be 0),(17,N D 0),(18,N bg 0),(19,N bb 0),(20,vI s.1)]∧SfT [] [] w0 w [X aO [I s.2.2.2.2.2.1,bm],red U bm s.2.2.2.2.2.2,X aN [I s.2.2.2.1,bi],red U bi s.2.2.2.2.1,X a3 [I s.2.1,bt],red U bt s.2.2.1,X ac [I G.2.2.2.2.1,aM],red U aM G.2.2.2.2.2,X ab [I G.2.2.1,aL],red U aL G.2.2.2.1,X T [I G.1,aF],red U aF G.2.1,X u [I E.1,C],red U C E.2,X B [I d.2.2.2.2.2.2.2.2.2.2.2.2.2.2.2.1,an],red U an d.2.2.2.2.2.2.2.2.2.2.2.2.2.2.2.2,X A [I d.2.2.2.2.2.2.2.2.2.2.2.2.2.1,al],red U al d.2.2.2.2.2.2.2.2.2.2.2.2.2.2.1,X z [I d.2.2.2.2.2.2.2.2.2.2.2.1,ak],red U ak d.2.2.2.2.2.2.2.2.2.2.2.2.1,X be [I aQ.1,a5],red U a5 aQ.2.1,X bc [I aP.1,a4],red U a4 aP.2.1,X bs [N aU 0,N aV 0,N aX 0,N p 0,N t 0,vI d.2.2.2.2.2.2.2.2.2.2.1,.func (.func 168) #[] #[]],X t [I d.2.2.2.2.2.2.2.2.1,ag],red U ag d.2.2.2.2.2.2.2.2.2.1,X p [I d.2.2.2.2.2.2.1,ad],red U ad d.2.2.2.2.2.2.2.1,X aX [I d.2.2.2.2.1,aA],red U aA d.2.2.2.2.2.1,X aV [I d.2.2.1,az],red U az d.2.2.2.1,X aU [I d.1,ap],red U ap d.2.1] [X aZ [.slice none 0 0,.slice none 0 0,I false],X aS [N z 0,N A 0,N B 0],X D [N p 0,N t 0,N u 0],X bg [N T 0,N ab 0,N ac 0],X bb [N a3 0,N aN 0,N aO 0]]) ?_ (wI ((max cL cM) - 1),bh.1,bh.2.1,bh.2.2.1,bh.2.2.2.1,bh.2.2.2.2.1,bh.2.2.2.2.2) ⟨cg,cx,ch,cy,ci,cz,Z,(SfT.mk' hZ (Y (a.b 30 Z) (Y (a.b 29 Z) (Y (a.b 32 Z) (Y (a.b 31 Z) (Y (a.b 34 Z) (Y (a.b 33 Z) (Y (a.b 28 Z) (Y (a.b 27 Z) (Y (a.b 26 Z) (Y (a.b 25 Z) (Y (a.b 24 Z) (Y (a.b 23 Z) (Y (a.b 22 Z) (Y (a.b 21 Z) (Y (a.b 20 Z) (Y (a.b 19 Z) (Y (a.b 18 Z) (Y (a.b 17 Z) (Y (a.b 16 Z) (Y (a.b 15 Z) (Y (a.b 14 Z) (Y (a.b 13 Z) (Y (a.b 12 Z) (Y (a.b 11 Z) (Y (a.b 10 Z) (Y (a.b 9 Z) (Y (a.b 8 Z) (Y (a.b 7 Z) (Y (a.b 6 Z) (Y (a.b 5 Z) (Y (a.b 4 Z) (Y (a.b 3 Z) (Y (a.b 2 Z) (Y (a.b 1 Z) (Y (a.b 0 Z) Q.nil))))))))))))))))))))))))))))))))))) (W (b.b 30 Z) (W (b.b 29 Z) (W (b.b 32 Z) (W (b.b 31 Z) (W (b.b 34 Z) (W (b.b 33 Z) (W (b.b 28 Z) (W (b.b 27 Z) (W (b.b 26 Z) (W (b.b 25 Z) (W (b.b 24 Z) (W (b.b 23 Z) (W (b.b 22 Z) (W (b.b 21 Z) (W (b.b 20 Z) (W (b.b 19 Z) (W (b.b 18 Z) (W (b.b 17 Z) (W (b.b 16 Z) (W (b.b 15 Z) (W (b.b 14 Z) (W (b.b 13 Z) (W (b.b 12 Z) (W (b.b 11 Z) (W (b.b 10 Z) (W (b.b 9 Z) (W (b.b 8 Z) (W (b.b 7 Z) (W (b.b 6 Z) (W (b.b 5 Z) (W (b.b 4 Z) (W (b.b 3 Z) (W (b.b 2 Z) (W (b.b 1 Z) (W (b.b 0 Z) K.nil))))))))))))))))))))))))))))))))))) (c.e [3,4,2,1,0] Z Z))⟩ h
  rintro dv ⟨bE,bF,b2,bv,bG,bw,bH⟩ L w cC hI cN h cu
  try dsimp only at hI
  obtain ⟨a3,bt,aN,bi,aO,bm,rfl,⟨dT,dw,hZ,a,b,c⟩⟩:=hI
  unfold F.DG at h
  refine J (J (af (P 2 Z ?_)))
  refine H (O ?_)
  refine ax Z (fun b3=>?_) (fun b3=>?_)
  ·have h:=aI h b3
   refine ay (O (J (aD ?_)))
   refine J (af (am (bI (us:=[N p 0,N t 0,N u 0]) u91 Z bL Z (c.q 2 Z Z)) Z (aT (aY (cs:=[.pointer none,.pointer none,.pointer none]) eQ Z c) Z ?_)))
   rintro _ w ⟨bn,rfl,c⟩
   refine bk (bl (i:=0) (us:=[N p 0,N t 0,N u 0]) Z bL Z Z Z ⟨Z,Z,Z,V⟩ Z c) ?_
   intro w c
   refine H (O ?_)
   refine a9 (r:=cC) (fun (g:Bool×List UInt32×Bool×List UInt32×Bool×List UInt32) L w=>∃(bo:Nat) (bK:Value) (bp:Nat) (bM:Value) (bq:Nat) (bN:Value),L=[(8,N aZ 0),(10,N bs 0),(11,N aS 0),(13,N bc 0),(15,N be 0),(17,N D 0),(18,N bg 0),(19,N bb 0),(20,vI bE),(21,N bn 0)]∧SfT [] [] w0 w [X bq [I g.2.2.2.2.1,bN],red U bN g.2.2.2.2.2,X bp [I g.2.2.1,bM],red U bM g.2.2.2.1,X bo [I g.1,bK],red U bK g.2.1,X aO [I bw,bm],red U bm bH,X aN [I bv,bi],red U bi bG,X a3 [I bF,bt],red U bt b2,X ac [I G.2.2.2.2.1,aM],red U aM G.2.2.2.2.2,X ab [I G.2.2.1,aL],red U aL G.2.2.2.1,X T [I G.1,aF],red U aF G.2.1,X u [I E.1,C],red U C E.2,X B [I d.2.2.2.2.2.2.2.2.2.2.2.2.2.2.2.1,an],red U an d.2.2.2.2.2.2.2.2.2.2.2.2.2.2.2.2,X A [I d.2.2.2.2.2.2.2.2.2.2.2.2.2.1,al],red U al d.2.2.2.2.2.2.2.2.2.2.2.2.2.2.1,X z [I d.2.2.2.2.2.2.2.2.2.2.2.1,ak],red U ak d.2.2.2.2.2.2.2.2.2.2.2.2.1,X be [I aQ.1,a5],red U a5 aQ.2.1,X bc [I aP.1,a4],red U a4 aP.2.1,X bs [N aU 0,N aV 0,N aX 0,N p 0,N t 0,vI d.2.2.2.2.2.2.2.2.2.2.1,.func (.func 168) #[] #[]],X t [I d.2.2.2.2.2.2.2.2.1,ag],red U ag d.2.2.2.2.2.2.2.2.2.1,X p [I d.2.2.2.2.2.2.1,ad],red U ad d.2.2.2.2.2.2.2.1,X aX [I d.2.2.2.2.1,aA],red U aA d.2.2.2.2.2.1,X aV [I d.2.2.1,az],red U az d.2.2.2.1,X aU [I d.1,ap],red U ap d.2.1] [X aZ [.slice none 0 0,.slice none 0 0,I false],X aS [N z 0,N A 0,N B 0],X D [N p 0,N t 0,N u 0],X bg [N T 0,N ab 0,N ac 0],X bb [N a3 0,N aN 0,N aO 0],X bn [N bo 0,N bp 0,N bq 0]]) (F.Cb d bE bF b2 bv bG bw bH) ?_ ?_
   rotate_left
   ·intro bO
    refine J (af (P 2 Z ?_))
    obtain ⟨cD,cO,h⟩:=aj h
    refine ao Z (gf aP.1 bE cO ((a.rp 11 Z).d c.fr).rp ((a.rb 12 Z).d c.fr)) Z ?_
    rintro _ w ⟨rfl,aB⟩
    have c:=c.f aB
    refine am (aq Z Z (pa _ cD 1)) Z (P 2 Z ?_)
    obtain ⟨bV,cP,h⟩:=aj h
    refine ao Z (gf aQ.1 bE cP ((a.rp 13 Z).d c.fr).rp ((a.rb 14 Z).d c.fr)) Z ?_
    rintro _ w ⟨rfl,aB⟩
    have c:=c.f aB
    refine am (aq Z Z (pa _ bV 1)) Z (P 2 Z ?_)
    refine H (O (aD ?_))
    refine a9 (r:=cC) (fun (g:Bool×Bool) L w=>L=[(8,N aZ 0),(10,N bs 0),(11,N aS 0),(13,N bc 0),(15,N be 0),(17,N D 0),(18,N bg 0),(19,N bb 0),(20,vI bE),(21,N bn 0),(22,I g.1),(23,I (bV == 1)),(85,I g.2)]∧SfT [] [] w0 w [X aO [I bw,bm],red U bm bH,X aN [I bv,bi],red U bi bG,X a3 [I bF,bt],red U bt b2,X ac [I G.2.2.2.2.1,aM],red U aM G.2.2.2.2.2,X ab [I G.2.2.1,aL],red U aL G.2.2.2.1,X T [I G.1,aF],red U aF G.2.1,X u [I E.1,C],red U C E.2,X B [I d.2.2.2.2.2.2.2.2.2.2.2.2.2.2.2.1,an],red U an d.2.2.2.2.2.2.2.2.2.2.2.2.2.2.2.2,X A [I d.2.2.2.2.2.2.2.2.2.2.2.2.2.1,al],red U al d.2.2.2.2.2.2.2.2.2.2.2.2.2.2.1,X z [I d.2.2.2.2.2.2.2.2.2.2.2.1,ak],red U ak d.2.2.2.2.2.2.2.2.2.2.2.2.1,X be [I aQ.1,a5],red U a5 aQ.2.1,X bc [I aP.1,a4],red U a4 aP.2.1,X bs [N aU 0,N aV 0,N aX 0,N p 0,N t 0,vI d.2.2.2.2.2.2.2.2.2.2.1,.func (.func 168) #[] #[]],X t [I d.2.2.2.2.2.2.2.2.1,ag],red U ag d.2.2.2.2.2.2.2.2.2.1,X p [I d.2.2.2.2.2.2.1,ad],red U ad d.2.2.2.2.2.2.2.1,X aX [I d.2.2.2.2.1,aA],red U aA d.2.2.2.2.2.1,X aV [I d.2.2.1,az],red U az d.2.2.2.1,X aU [I d.1,ap],red U ap d.2.1] [X aZ [.slice none 0 0,.slice none 0 0,I false],X aS [N z 0,N A 0,N B 0],X D [N p 0,N t 0,N u 0],X bg [N T 0,N ab 0,N ac 0],X bb [N a3 0,N aN 0,N aO 0],X bn [N p 0,N t 0,N u 0]]) (F.Fe d E G bV bE bF b2 bv bG bw bH) ?_ ?_
    rotate_left
    ·intro cv
     refine af (P 2 Z ?_)
     cases bP:(cD == 1)
     case true=>
      have h:=aI h bP
      try simp only [bP]
      refine P 3 Z ?_
      refine H (O ?_)
      exact au _ (by exact ⟨Z,Z,Z,Z,Z,Z,Z,Z,Z,Z,Z,Z,Z,V⟩) (cv (true,bV == 1) _ _ ⟨Z,(SfT.mk' hZ (Y (a.b 34 Z) (Y (a.b 33 Z) (Y (a.b 32 Z) (Y (a.b 31 Z) (Y (a.b 30 Z) (Y (a.b 29 Z) (Y (a.b 28 Z) (Y (a.b 27 Z) (Y (a.b 26 Z) (Y (a.b 25 Z) (Y (a.b 24 Z) (Y (a.b 23 Z) (Y (a.b 22 Z) (Y (a.b 21 Z) (Y (a.b 20 Z) (Y (a.b 19 Z) (Y (a.b 18 Z) (Y (a.b 17 Z) (Y (a.b 16 Z) (Y (a.b 15 Z) (Y (a.b 14 Z) (Y (a.b 13 Z) (Y (a.b 12 Z) (Y (a.b 11 Z) (Y (a.b 10 Z) (Y (a.b 9 Z) (Y (a.b 8 Z) (Y (a.b 7 Z) (Y (a.b 6 Z) (Y (a.b 5 Z) (Y (a.b 4 Z) (Y (a.b 3 Z) (Y (a.b 2 Z) (Y (a.b 1 Z) (Y (a.b 0 Z) Q.nil))))))))))))))))))))))))))))))))))) (W (b.b 34 Z) (W (b.b 33 Z) (W (b.b 32 Z) (W (b.b 31 Z) (W (b.b 30 Z) (W (b.b 29 Z) (W (b.b 28 Z) (W (b.b 27 Z) (W (b.b 26 Z) (W (b.b 25 Z) (W (b.b 24 Z) (W (b.b 23 Z) (W (b.b 22 Z) (W (b.b 21 Z) (W (b.b 20 Z) (W (b.b 19 Z) (W (b.b 18 Z) (W (b.b 17 Z) (W (b.b 16 Z) (W (b.b 15 Z) (W (b.b 14 Z) (W (b.b 13 Z) (W (b.b 12 Z) (W (b.b 11 Z) (W (b.b 10 Z) (W (b.b 9 Z) (W (b.b 8 Z) (W (b.b 7 Z) (W (b.b 6 Z) (W (b.b 5 Z) (W (b.b 4 Z) (W (b.b 3 Z) (W (b.b 2 Z) (W (b.b 1 Z) (W (b.b 0 Z) K.nil))))))))))))))))))))))))))))))))))) (c.e [1,2,3,4,5,0] Z Z))⟩ h)
     case false=>
      have h:=aH h bP
      try simp only [bP]
      refine P 3 Z ?_
      refine H (O ?_)
      exact au _ (by exact ⟨Z,Z,Z,Z,Z,Z,Z,Z,Z,Z,Z,Z,Z,V⟩) (cv (false,false) _ _ ⟨Z,(SfT.mk' hZ (Y (a.b 34 Z) (Y (a.b 33 Z) (Y (a.b 32 Z) (Y (a.b 31 Z) (Y (a.b 30 Z) (Y (a.b 29 Z) (Y (a.b 28 Z) (Y (a.b 27 Z) (Y (a.b 26 Z) (Y (a.b 25 Z) (Y (a.b 24 Z) (Y (a.b 23 Z) (Y (a.b 22 Z) (Y (a.b 21 Z) (Y (a.b 20 Z) (Y (a.b 19 Z) (Y (a.b 18 Z) (Y (a.b 17 Z) (Y (a.b 16 Z) (Y (a.b 15 Z) (Y (a.b 14 Z) (Y (a.b 13 Z) (Y (a.b 12 Z) (Y (a.b 11 Z) (Y (a.b 10 Z) (Y (a.b 9 Z) (Y (a.b 8 Z) (Y (a.b 7 Z) (Y (a.b 6 Z) (Y (a.b 5 Z) (Y (a.b 4 Z) (Y (a.b 3 Z) (Y (a.b 2 Z) (Y (a.b 1 Z) (Y (a.b 0 Z) Q.nil))))))))))))))))))))))))))))))))))) (W (b.b 34 Z) (W (b.b 33 Z) (W (b.b 32 Z) (W (b.b 31 Z) (W (b.b 30 Z) (W (b.b 29 Z) (W (b.b 28 Z) (W (b.b 27 Z) (W (b.b 26 Z) (W (b.b 25 Z) (W (b.b 24 Z) (W (b.b 23 Z) (W (b.b 22 Z) (W (b.b 21 Z) (W (b.b 20 Z) (W (b.b 19 Z) (W (b.b 18 Z) (W (b.b 17 Z) (W (b.b 16 Z) (W (b.b 15 Z) (W (b.b 14 Z) (W (b.b 13 Z) (W (b.b 12 Z) (W (b.b 11 Z) (W (b.b 10 Z) (W (b.b 9 Z) (W (b.b 8 Z) (W (b.b 7 Z) (W (b.b 6 Z) (W (b.b 5 Z) (W (b.b 4 Z) (W (b.b 3 Z) (W (b.b 2 Z) (W (b.b 1 Z) (W (b.b 0 Z) K.nil))))))))))))))))))))))))))))))))))) (c.e [1,2,3,4,5,0] Z Z))⟩ h)
    rintro ⟨dx,dy⟩ L w hJ h
    try dsimp only at hJ
    obtain ⟨rfl,⟨dz,dd,hZ,a,b,c⟩⟩:=hJ
    unfold F.Fe at h
    refine ax Z (fun b4=>?_) (fun b4=>?_)
    ·have h:=aI h b4
     refine af (am (bI (us:=[N T 0,N ab 0,N ac 0]) u91 Z bL Z (c.q 3 Z Z)) Z (bk (bl (i:=5) (us:=[N T 0,N ab 0,N ac 0]) Z bL Z Z Z ⟨Z,Z,Z,V⟩ Z c) ?_))
     intro w c
     refine H (aR ?_)
     refine O ?_
     exact au _ (by exact ⟨Z,Z,Z,Z,Z,Z,Z,Z,Z,Z,V⟩) (bO (G.1,G.2.1,G.2.2.1,G.2.2.2.1,G.2.2.2.2.1,G.2.2.2.2.2) _ _ ⟨T,aF,ab,aL,ac,aM,Z,(SfT.mk' hZ (Y (a.b 28 Z) (Y (a.b 27 Z) (Y (a.b 26 Z) (Y (a.b 25 Z) (Y (a.b 24 Z) (Y (a.b 23 Z) (Y (a.b 34 Z) (Y (a.b 33 Z) (Y (a.b 32 Z) (Y (a.b 31 Z) (Y (a.b 30 Z) (Y (a.b 29 Z) (Y (a.b 28 Z) (Y (a.b 27 Z) (Y (a.b 26 Z) (Y (a.b 25 Z) (Y (a.b 24 Z) (Y (a.b 23 Z) (Y (a.b 22 Z) (Y (a.b 21 Z) (Y (a.b 20 Z) (Y (a.b 19 Z) (Y (a.b 18 Z) (Y (a.b 17 Z) (Y (a.b 16 Z) (Y (a.b 15 Z) (Y (a.b 14 Z) (Y (a.b 13 Z) (Y (a.b 12 Z) (Y (a.b 11 Z) (Y (a.b 10 Z) (Y (a.b 9 Z) (Y (a.b 8 Z) (Y (a.b 7 Z) (Y (a.b 6 Z) (Y (a.b 5 Z) (Y (a.b 4 Z) (Y (a.b 3 Z) (Y (a.b 2 Z) (Y (a.b 1 Z) (Y (a.b 0 Z) Q.nil))))))))))))))))))))))))))))))))))))))))) (W (b.b 28 Z) (W (b.b 27 Z) (W (b.b 26 Z) (W (b.b 25 Z) (W (b.b 24 Z) (W (b.b 23 Z) (W (b.b 34 Z) (W (b.b 33 Z) (W (b.b 32 Z) (W (b.b 31 Z) (W (b.b 30 Z) (W (b.b 29 Z) (W (b.b 28 Z) (W (b.b 27 Z) (W (b.b 26 Z) (W (b.b 25 Z) (W (b.b 24 Z) (W (b.b 23 Z) (W (b.b 22 Z) (W (b.b 21 Z) (W (b.b 20 Z) (W (b.b 19 Z) (W (b.b 18 Z) (W (b.b 17 Z) (W (b.b 16 Z) (W (b.b 15 Z) (W (b.b 14 Z) (W (b.b 13 Z) (W (b.b 12 Z) (W (b.b 11 Z) (W (b.b 10 Z) (W (b.b 9 Z) (W (b.b 8 Z) (W (b.b 7 Z) (W (b.b 6 Z) (W (b.b 5 Z) (W (b.b 4 Z) (W (b.b 3 Z) (W (b.b 2 Z) (W (b.b 1 Z) (W (b.b 0 Z) K.nil))))))))))))))))))))))))))))))))))))))))) c)⟩ h)
    have h:=aH h b4
    refine J (af (P 2 Z ?_))
    refine H (O ?_)
    refine ax Z (fun b5=>?_) (fun b5=>?_)
    ·have h:=aI h b5
     refine af (am (bI (us:=[N z 0,N A 0,N B 0]) u91 Z bL Z (c.q 1 Z Z)) Z (bk (bl (i:=5) (us:=[N z 0,N A 0,N B 0]) Z bL Z Z Z ⟨Z,Z,Z,V⟩ Z c) ?_))
     intro w c
     refine H (aR ?_)
     refine O ?_
     exact au _ (by exact ⟨Z,Z,Z,Z,Z,Z,Z,Z,Z,Z,V⟩) (bO (d.2.2.2.2.2.2.2.2.2.2.2.1,d.2.2.2.2.2.2.2.2.2.2.2.2.1,d.2.2.2.2.2.2.2.2.2.2.2.2.2.1,d.2.2.2.2.2.2.2.2.2.2.2.2.2.2.1,d.2.2.2.2.2.2.2.2.2.2.2.2.2.2.2.1,d.2.2.2.2.2.2.2.2.2.2.2.2.2.2.2.2) _ _ ⟨z,ak,A,al,B,an,Z,(SfT.mk' hZ (Y (a.b 20 Z) (Y (a.b 19 Z) (Y (a.b 18 Z) (Y (a.b 17 Z) (Y (a.b 16 Z) (Y (a.b 15 Z) (Y (a.b 34 Z) (Y (a.b 33 Z) (Y (a.b 32 Z) (Y (a.b 31 Z) (Y (a.b 30 Z) (Y (a.b 29 Z) (Y (a.b 28 Z) (Y (a.b 27 Z) (Y (a.b 26 Z) (Y (a.b 25 Z) (Y (a.b 24 Z) (Y (a.b 23 Z) (Y (a.b 22 Z) (Y (a.b 21 Z) (Y (a.b 20 Z) (Y (a.b 19 Z) (Y (a.b 18 Z) (Y (a.b 17 Z) (Y (a.b 16 Z) (Y (a.b 15 Z) (Y (a.b 14 Z) (Y (a.b 13 Z) (Y (a.b 12 Z) (Y (a.b 11 Z) (Y (a.b 10 Z) (Y (a.b 9 Z) (Y (a.b 8 Z) (Y (a.b 7 Z) (Y (a.b 6 Z) (Y (a.b 5 Z) (Y (a.b 4 Z) (Y (a.b 3 Z) (Y (a.b 2 Z) (Y (a.b 1 Z) (Y (a.b 0 Z) Q.nil))))))))))))))))))))))))))))))))))))))))) (W (b.b 20 Z) (W (b.b 19 Z) (W (b.b 18 Z) (W (b.b 17 Z) (W (b.b 16 Z) (W (b.b 15 Z) (W (b.b 34 Z) (W (b.b 33 Z) (W (b.b 32 Z) (W (b.b 31 Z) (W (b.b 30 Z) (W (b.b 29 Z) (W (b.b 28 Z) (W (b.b 27 Z) (W (b.b 26 Z) (W (b.b 25 Z) (W (b.b 24 Z) (W (b.b 23 Z) (W (b.b 22 Z) (W (b.b 21 Z) (W (b.b 20 Z) (W (b.b 19 Z) (W (b.b 18 Z) (W (b.b 17 Z) (W (b.b 16 Z) (W (b.b 15 Z) (W (b.b 14 Z) (W (b.b 13 Z) (W (b.b 12 Z) (W (b.b 11 Z) (W (b.b 10 Z) (W (b.b 9 Z) (W (b.b 8 Z) (W (b.b 7 Z) (W (b.b 6 Z) (W (b.b 5 Z) (W (b.b 4 Z) (W (b.b 3 Z) (W (b.b 2 Z) (W (b.b 1 Z) (W (b.b 0 Z) K.nil))))))))))))))))))))))))))))))))))))))))) c)⟩ h)
    have h:=aH h b5
    refine J (af (P 3 Z ?_))
    refine H (O ?_)
    refine ax Z (fun b6=>?_) (fun b6=>?_)
    ·have h:=aI h b6
     refine af ?_
     obtain ⟨ba,cR,h⟩:=aj h
     refine ao Z (eo  cR ) Z ?_
     rintro _ w ⟨cj,ck,cl,bW,bX,bZ,rfl,aB⟩
     have c:=c.f aB
     refine bk (bl (i:=11) (us:=[N bW 0,N bX 0,N bZ 0]) Z bL Z Z Z ⟨Z,Z,Z,V⟩ Z c) ?_
     intro w c
     refine H (aR ?_)
     refine O ?_
     replace c:=c.pick (os':=[X bW [I ba.1,cj],M U cj ba.2.1,X bX [I ba.2.2.1,ck],M U ck ba.2.2.2.1,X bZ [I ba.2.2.2.2.1,cl],M U cl ba.2.2.2.2.2]++[X aZ [.slice none 0 0,.slice none 0 0,I false],X aS [N z 0,N A 0,N B 0],X D [N p 0,N t 0,N u 0],X bg [N T 0,N ab 0,N ac 0],X bb [N a3 0,N aN 0,N aO 0],X bn [N bW 0,N bX 0,N bZ 0]]) [0,1,2,3,4,5,6,7,8,9,10,11] (by decide) rfl
     obtain ⟨dA,de,hZ,a,b,c⟩:=hZ.frzT hTT a b c
     exact au _ (by exact ⟨Z,Z,Z,Z,Z,Z,Z,Z,Z,Z,V⟩) (bO (ba.1,ba.2.1,ba.2.2.1,ba.2.2.2.1,ba.2.2.2.2.1,ba.2.2.2.2.2) _ _ ⟨bW,cj,bX,ck,bZ,cl,Z,(SfT.mk' hZ (Y (a.b 36 Z) (Y (a.b 35 Z) (Y (a.b 38 Z) (Y (a.b 37 Z) (Y (a.b 40 Z) (Y (a.b 39 Z) (Y (a.b 34 Z) (Y (a.b 33 Z) (Y (a.b 32 Z) (Y (a.b 31 Z) (Y (a.b 30 Z) (Y (a.b 29 Z) (Y (a.b 28 Z) (Y (a.b 27 Z) (Y (a.b 26 Z) (Y (a.b 25 Z) (Y (a.b 24 Z) (Y (a.b 23 Z) (Y (a.b 22 Z) (Y (a.b 21 Z) (Y (a.b 20 Z) (Y (a.b 19 Z) (Y (a.b 18 Z) (Y (a.b 17 Z) (Y (a.b 16 Z) (Y (a.b 15 Z) (Y (a.b 14 Z) (Y (a.b 13 Z) (Y (a.b 12 Z) (Y (a.b 11 Z) (Y (a.b 10 Z) (Y (a.b 9 Z) (Y (a.b 8 Z) (Y (a.b 7 Z) (Y (a.b 6 Z) (Y (a.b 5 Z) (Y (a.b 4 Z) (Y (a.b 3 Z) (Y (a.b 2 Z) (Y (a.b 1 Z) (Y (a.b 0 Z) Q.nil))))))))))))))))))))))))))))))))))))))))) (W (b.b 36 Z) (W (b.b 35 Z) (W (b.b 38 Z) (W (b.b 37 Z) (W (b.b 40 Z) (W (b.b 39 Z) (W (b.b 34 Z) (W (b.b 33 Z) (W (b.b 32 Z) (W (b.b 31 Z) (W (b.b 30 Z) (W (b.b 29 Z) (W (b.b 28 Z) (W (b.b 27 Z) (W (b.b 26 Z) (W (b.b 25 Z) (W (b.b 24 Z) (W (b.b 23 Z) (W (b.b 22 Z) (W (b.b 21 Z) (W (b.b 20 Z) (W (b.b 19 Z) (W (b.b 18 Z) (W (b.b 17 Z) (W (b.b 16 Z) (W (b.b 15 Z) (W (b.b 14 Z) (W (b.b 13 Z) (W (b.b 12 Z) (W (b.b 11 Z) (W (b.b 10 Z) (W (b.b 9 Z) (W (b.b 8 Z) (W (b.b 7 Z) (W (b.b 6 Z) (W (b.b 5 Z) (W (b.b 4 Z) (W (b.b 3 Z) (W (b.b 2 Z) (W (b.b 1 Z) (W (b.b 0 Z) K.nil))))))))))))))))))))))))))))))))))))))))) c)⟩ h)
    have h:=aH h b6
    refine ay (aR ?_)
    refine O ?_
    exact au _ (by exact ⟨Z,Z,Z,Z,Z,Z,Z,Z,Z,Z,V⟩) (bO (d.2.2.2.2.2.2.1,d.2.2.2.2.2.2.2.1,d.2.2.2.2.2.2.2.2.1,d.2.2.2.2.2.2.2.2.2.1,E.1,E.2) _ _ ⟨p,ad,t,ag,u,C,Z,(SfT.mk' hZ (Y (a.b 22 Z) (Y (a.b 21 Z) (Y (a.b 9 Z) (Y (a.b 8 Z) (Y (a.b 7 Z) (Y (a.b 6 Z) (Y (a.b 34 Z) (Y (a.b 33 Z) (Y (a.b 32 Z) (Y (a.b 31 Z) (Y (a.b 30 Z) (Y (a.b 29 Z) (Y (a.b 28 Z) (Y (a.b 27 Z) (Y (a.b 26 Z) (Y (a.b 25 Z) (Y (a.b 24 Z) (Y (a.b 23 Z) (Y (a.b 22 Z) (Y (a.b 21 Z) (Y (a.b 20 Z) (Y (a.b 19 Z) (Y (a.b 18 Z) (Y (a.b 17 Z) (Y (a.b 16 Z) (Y (a.b 15 Z) (Y (a.b 14 Z) (Y (a.b 13 Z) (Y (a.b 12 Z) (Y (a.b 11 Z) (Y (a.b 10 Z) (Y (a.b 9 Z) (Y (a.b 8 Z) (Y (a.b 7 Z) (Y (a.b 6 Z) (Y (a.b 5 Z) (Y (a.b 4 Z) (Y (a.b 3 Z) (Y (a.b 2 Z) (Y (a.b 1 Z) (Y (a.b 0 Z) Q.nil))))))))))))))))))))))))))))))))))))))))) (W (b.b 22 Z) (W (b.b 21 Z) (W (b.b 9 Z) (W (b.b 8 Z) (W (b.b 7 Z) (W (b.b 6 Z) (W (b.b 34 Z) (W (b.b 33 Z) (W (b.b 32 Z) (W (b.b 31 Z) (W (b.b 30 Z) (W (b.b 29 Z) (W (b.b 28 Z) (W (b.b 27 Z) (W (b.b 26 Z) (W (b.b 25 Z) (W (b.b 24 Z) (W (b.b 23 Z) (W (b.b 22 Z) (W (b.b 21 Z) (W (b.b 20 Z) (W (b.b 19 Z) (W (b.b 18 Z) (W (b.b 17 Z) (W (b.b 16 Z) (W (b.b 15 Z) (W (b.b 14 Z) (W (b.b 13 Z) (W (b.b 12 Z) (W (b.b 11 Z) (W (b.b 10 Z) (W (b.b 9 Z) (W (b.b 8 Z) (W (b.b 7 Z) (W (b.b 6 Z) (W (b.b 5 Z) (W (b.b 4 Z) (W (b.b 3 Z) (W (b.b 2 Z) (W (b.b 1 Z) (W (b.b 0 Z) K.nil))))))))))))))))))))))))))))))))))))))))) c)⟩ h)
   rintro ⟨cE,c5,cF,c6,cH,c7⟩ L w hJ h
   try dsimp only at hJ
   obtain ⟨bo,bK,bp,bM,bq,bN,rfl,⟨dB,df,hZ,a,b,c⟩⟩:=hJ
   unfold F.Cb at h
   obtain ⟨e,cS,h⟩:=aj h
   refine fw (es:=[X bq [I cH,bN],red U bN c7,X bp [I cF,bM],red U bM c6,X bo [I cE,bK],red U bK c5,X aO [I bw,bm],red U bm bH,X aN [I bv,bi],red U bi bG,X a3 [I bF,bt],red U bt b2,X ac [I G.2.2.2.2.1,aM],red U aM G.2.2.2.2.2,X ab [I G.2.2.1,aL],red U aL G.2.2.2.1,X T [I G.1,aF],red U aF G.2.1,X u [I E.1,C],red U C E.2,X B [I d.2.2.2.2.2.2.2.2.2.2.2.2.2.2.2.1,an],red U an d.2.2.2.2.2.2.2.2.2.2.2.2.2.2.2.2,X A [I d.2.2.2.2.2.2.2.2.2.2.2.2.2.1,al],red U al d.2.2.2.2.2.2.2.2.2.2.2.2.2.2.1,X z [I d.2.2.2.2.2.2.2.2.2.2.2.1,ak],red U ak d.2.2.2.2.2.2.2.2.2.2.2.2.1,X be [I aQ.1,a5],red U a5 aQ.2.1,X bc [I aP.1,a4],red U a4 aP.2.1,X bs [N aU 0,N aV 0,N aX 0,N p 0,N t 0,vI d.2.2.2.2.2.2.2.2.2.2.1,.func (.func 168) #[] #[]],X t [I d.2.2.2.2.2.2.2.2.1,ag],red U ag d.2.2.2.2.2.2.2.2.2.1,X p [I d.2.2.2.2.2.2.1,ad],red U ad d.2.2.2.2.2.2.2.1,X aX [I d.2.2.2.2.1,aA],red U aA d.2.2.2.2.2.1,X aV [I d.2.2.1,az],red U az d.2.2.2.1,X aU [I d.1,ap],red U ap d.2.1]) (os:=[X aZ [.slice none 0 0,.slice none 0 0,I false],X aS [N z 0,N A 0,N B 0],X D [N p 0,N t 0,N u 0],X bg [N T 0,N ab 0,N ac 0],X bn [N bo 0,N bp 0,N bq 0]]) (fun i=>[5,7,8].contains i) (fun i=>none) (fun i=>if i=8 then [7] else []) (fun i=>if i=8 then [X bb [N a3 0,N aN 0,N aO 0]] else []) (fun i=>if i=5 then [8] else []) (fun i=>if i=8 then [7] else []) (fun i=>if i=5 then (fun h v x y=>v=.agg #[N a3 0,N aN 0,N aO 0]∧x=[]∧y=[]) else if i=7 then (fun h v x y=>∃m:Nat,∃n:Nat,∃o:Nat,∃f:Value,∃j:Value,∃l:Value,v=.agg #[N m 0,N n 0,N o 0]∧x=[]∧y=[red U f e.2.1,X m [I e.1,f],red U j e.2.2.2.1,X n [I e.2.2.1,j],red U l e.2.2.2.2.2,X o [I e.2.2.2.2.1,l]]) else (fun h v x y=>∃m:Nat,∃n:Nat,∃o:Nat,∃f:Value,∃j:Value,∃l:Value,h=[(.agg #[N m 0,N n 0,N o 0],[],[red U f e.2.1,X m [I e.1,f],red U j e.2.2.2.1,X n [I e.2.2.1,j],red U l e.2.2.2.2.2,X o [I e.2.2.2.2.1,l]])]∧v=undef∧x=[X bb [N m 0,N n 0,N o 0]]∧y=[red U f e.2.1,X m [I e.1,f],red U j e.2.2.2.1,X n [I e.2.2.1,j],red U l e.2.2.2.2.2,X o [I e.2.2.2.2.1,l]])) (SfT.mk' hZ a b (c.pick (os':=[X bb [N a3 0,N aN 0,N aO 0],X aZ [.slice none 0 0,.slice none 0 0,I false],X aS [N z 0,N A 0,N B 0],X D [N p 0,N t 0,N u 0],X bg [N T 0,N ab 0,N ac 0],X bn [N bo 0,N bp 0,N bq 0]]) [4,0,1,2,3,5] (by decide) rfl)) (fun k hk=>(if_neg (fun q=>by subst q; exact absurd hk (by decide)))) hTT rfl (fun i=>(dF (by rintro h v x y ⟨rfl,rfl,rfl⟩; exact cQ rfl) (dF (by rintro h v x y ⟨_,_,_,_,_,_,rfl,rfl,rfl⟩; exact cQ rfl) (by rintro h v x y ⟨_,_,_,_,_,_,_,rfl,rfl,rfl⟩; exact cQ rfl)))) bS (by kernel_rfl) (by kernel_rfl) ?_
   show fy _ _ _ _ _ _ _ _ _ _ _ _ _ _ _ _ [0,1,2,3,4,5,6,7,8] _ _
   refine bu Z Z (fun w Sb wb hZ a b hF=>ar Z) Z (bu Z Z (fun w Sb wb hZ a b hF=>aK Z) Z (bu Z Z (fun w Sb wb hZ a b hF=>av (k:=6) u76 Z Z Ab Z) Z (bu Z Z (fun w Sb wb hZ a b hF=>aC Tryz.underlying74 Z Z ((a.rb 10 Z).cell hF.fr 6 Z)) Z (bu Z Z (fun w Sb wb hZ a b hF=>ar Z) Z ?_))))
   refine g9 (fun h v x y=>v=.agg #[N a3 0,N aN 0,N aO 0]∧x=[]∧y=[]) [] [] [] [X bb [N a3 0,N aN 0,N aO 0],X aZ [.slice none 0 0,.slice none 0 0,I false],X aS [N z 0,N A 0,N B 0],X D [N p 0,N t 0,N u 0],X bg [N T 0,N ab 0,N ac 0],X bn [N bo 0,N bp 0,N bq 0]] Z Z (fun h v x y=>Z) Z Z Z Z ⟨_,_,_,Z,Z,Z⟩ (fun w Sl Tl hZ hTT a b c=>?_) Z ?_
   ·exact yK (bI (us:=[N a3 0,N aN 0,N aO 0]) u91 Z bL Z (c.q 0 Z Z)) ⟨_,_,⟨Z,Z,Z⟩,SfT.mk' hZ Q.nil K.nil c⟩
   rintro v_q x_q y_q ⟨rfl,rfl,rfl⟩
   refine bu Z Z (fun w Sb wb hZ a b hF=>bI (us:=[N bo 0,N bp 0,N bq 0]) u91 Z bL Z (hF.q 4 Z Z)) Z ?_
   refine oF (fun h v x y=>∃m:Nat,∃n:Nat,∃o:Nat,∃f:Value,∃j:Value,∃l:Value,v=.agg #[N m 0,N n 0,N o 0]∧x=[]∧y=[red U f e.2.1,X m [I e.1,f],red U j e.2.2.2.1,X n [I e.2.2.1,j],red U l e.2.2.2.2.2,X o [I e.2.2.2.2.1,l]]) [] [] [] _ Z Z (fun h v x y=>Z) Z Z Z Z ⟨_,_,_,0,0,0,undef,undef,undef,Z,Z,Z⟩ Z (by kernel_rfl) Z (fun w Sl Tl hZ hTT a b c=>?_) Z ?_
   ·replace c:=c.pick (os':=[]++[X aZ [.slice none 0 0,.slice none 0 0,I false],X aS [N z 0,N A 0,N B 0],X D [N p 0,N t 0,N u 0],X bg [N T 0,N ab 0,N ac 0],X bn [N bo 0,N bp 0,N bq 0]]) [0,1,2,3,4] (by decide) rfl
    obtain ⟨hZ,a,b,c⟩:=hZ.frzK hTT a b c
    refine dh (lV d.1 d.2.2.1 d.2.2.2.2.1 d.2.2.2.2.2.2.1 d.2.2.2.2.2.2.2.2.1 d.2.2.2.2.2.2.2.2.2.2.1 bF bv bw true cE cF cH cS (hZ.okT hTT c) (a.j b 0 Z) (a.k b 1 Z) (a.j b 2 Z) (a.k b 3 Z) (a.j b 4 Z) (a.k b 5 Z) (a.j b 6 Z) (a.k b 7 Z) (a.j b 8 Z) (a.k b 9 Z) (a.k b 10 Z) (a.j b 29 Z) (a.k b 30 Z) (a.j b 31 Z) (a.k b 32 Z) (a.j b 33 Z) (a.k b 34 Z) (a.j b 35 Z) (a.k b 36 Z) (a.j b 37 Z) (a.k b 38 Z) (a.j b 39 Z) (a.k b 40 Z)) ?_
    rintro _ w ⟨m,f,n,j,o,l,rfl,aB,ct⟩
    obtain ⟨dD,dg,hZ,a,b,c⟩:=hZ.m a b c aB ct rfl
    exact ⟨_,_,⟨m,n,o,f,j,l,Z,Z,Z⟩,SfT.mk' hZ (Y (a.b 41 Z) (Y (a.b 42 Z) (Y (a.b 43 Z) (Y (a.b 44 Z) (Y (a.b 45 Z) (Y (a.b 46 Z) Q.nil)))))) (W (b.b 41 Z) (W (b.b 42 Z) (W (b.b 43 Z) (W (b.b 44 Z) (W (b.b 45 Z) (W (b.b 46 Z) K.nil)))))) c⟩
   rintro v_q x_q y_q ⟨m,n,o,f,j,l,rfl,rfl,rfl⟩
   refine n6 (fun h v x y=>∃m:Nat,∃n:Nat,∃o:Nat,∃f:Value,∃j:Value,∃l:Value,h=[(.agg #[N m 0,N n 0,N o 0],[],[red U f e.2.1,X m [I e.1,f],red U j e.2.2.2.1,X n [I e.2.2.1,j],red U l e.2.2.2.2.2,X o [I e.2.2.2.2.1,l]])]∧v=undef∧x=[X bb [N m 0,N n 0,N o 0]]∧y=[red U f e.2.1,X m [I e.1,f],red U j e.2.2.2.1,X n [I e.2.2.1,j],red U l e.2.2.2.2.2,X o [I e.2.2.2.2.1,l]]) [(.agg #[N m 0,N n 0,N o 0],[],[red U f e.2.1,X m [I e.1,f],red U j e.2.2.2.1,X n [I e.2.2.1,j],red U l e.2.2.2.2.2,X o [I e.2.2.2.2.1,l]])] [X bb [N a3 0,N aN 0,N aO 0]] [red U f e.2.1,X m [I e.1,f],red U j e.2.2.2.1,X n [I e.2.2.1,j],red U l e.2.2.2.2.2,X o [I e.2.2.2.2.1,l]] _ Z Z (fun h v x y=>Z) Z Z Z Z ⟨_,_,_,m,n,o,f,j,l,Z,Z,Z,Z⟩ (fun w Sl Tl hZ hTT a b c=>?_) ?_
   ·refine mI (bl (i:=0) (us:=[N m 0,N n 0,N o 0]) Z bL Z Z Z ⟨Z,Z,Z,V⟩ Z c) ?_
    intro w c
    exact ⟨_,_,⟨m,n,o,f,j,l,Z,Z,Z,Z⟩,SfT.mk' hZ (Y (a.b 46 Z) (Y (a.b 45 Z) (Y (a.b 44 Z) (Y (a.b 43 Z) (Y (a.b 42 Z) (Y (a.b 41 Z) Q.nil)))))) (W (b.b 46 Z) (W (b.b 45 Z) (W (b.b 44 Z) (W (b.b 43 Z) (W (b.b 42 Z) (W (b.b 41 Z) K.nil)))))) c⟩
   rintro v_q x_q y_q ⟨b0_155_0',b0_155_1',b0_155_2',u0_155_0_1',u0_155_1_1',u0_155_2_1',hh,rfl,rfl,rfl⟩
   replace hh:([(.agg #[N m 0,N n 0,N o 0],[],[red U f e.2.1,X m [I e.1,f],red U j e.2.2.2.1,X n [I e.2.2.1,j],red U l e.2.2.2.2.2,X o [I e.2.2.2.2.1,l]])]:List Th)=[(.agg #[N b0_155_0' 0,N b0_155_1' 0,N b0_155_2' 0],[],[red U u0_155_0_1' e.2.1,X b0_155_0' [I e.1,u0_155_0_1'],red U u0_155_1_1' e.2.2.2.1,X b0_155_1' [I e.2.2.1,u0_155_1_1'],red U u0_155_2_1' e.2.2.2.2.2,X b0_155_2' [I e.2.2.2.2.1,u0_155_2_1']])]:=hh
   cases hh
   refine ib fun w hQ=>?_
   obtain ⟨dE,di,hZ,a,b,c⟩:=hQ
   refine aR ?_
   refine O (af (P 3 Z ?_))
   refine H ?_
   exact bA (bz _ (by exact ⟨Z,Z,Z,Z,Z,Z,Z,Z,Z,V⟩) (cN (wI (bE - 1),e.1,e.2.1,e.2.2.1,e.2.2.2.1,e.2.2.2.2.1,e.2.2.2.2.2) _ _ ⟨m,f,n,j,o,l,Z,(SfT.mk' hZ (Y (a.b 41 Z) (Y (a.b 42 Z) (Y (a.b 43 Z) (Y (a.b 44 Z) (Y (a.b 45 Z) (Y (a.b 46 Z) (Y (a.b 28 Z) (Y (a.b 27 Z) (Y (a.b 26 Z) (Y (a.b 25 Z) (Y (a.b 24 Z) (Y (a.b 23 Z) (Y (a.b 22 Z) (Y (a.b 21 Z) (Y (a.b 20 Z) (Y (a.b 19 Z) (Y (a.b 18 Z) (Y (a.b 17 Z) (Y (a.b 16 Z) (Y (a.b 15 Z) (Y (a.b 14 Z) (Y (a.b 13 Z) (Y (a.b 12 Z) (Y (a.b 11 Z) (Y (a.b 10 Z) (Y (a.b 9 Z) (Y (a.b 8 Z) (Y (a.b 7 Z) (Y (a.b 6 Z) (Y (a.b 5 Z) (Y (a.b 4 Z) (Y (a.b 3 Z) (Y (a.b 2 Z) (Y (a.b 1 Z) (Y (a.b 0 Z) Q.nil))))))))))))))))))))))))))))))))))) (W (b.b 41 Z) (W (b.b 42 Z) (W (b.b 43 Z) (W (b.b 44 Z) (W (b.b 45 Z) (W (b.b 46 Z) (W (b.b 28 Z) (W (b.b 27 Z) (W (b.b 26 Z) (W (b.b 25 Z) (W (b.b 24 Z) (W (b.b 23 Z) (W (b.b 22 Z) (W (b.b 21 Z) (W (b.b 20 Z) (W (b.b 19 Z) (W (b.b 18 Z) (W (b.b 17 Z) (W (b.b 16 Z) (W (b.b 15 Z) (W (b.b 14 Z) (W (b.b 13 Z) (W (b.b 12 Z) (W (b.b 11 Z) (W (b.b 10 Z) (W (b.b 9 Z) (W (b.b 8 Z) (W (b.b 7 Z) (W (b.b 6 Z) (W (b.b 5 Z) (W (b.b 4 Z) (W (b.b 3 Z) (W (b.b 2 Z) (W (b.b 1 Z) (W (b.b 0 Z) K.nil))))))))))))))))))))))))))))))))))) (c.e [1,2,3,4,0] Z Z))⟩ (a8 h cu)))
  have h:=aH h b3
  refine bd ?_
  refine aG (aG ?_)
  have h:=aW h cu
  refine bf ?_
  refine O (J (af (P 1 Z ?_)))
  refine am (bI (us:=[N a3 0,N aN 0,N aO 0]) u91 Z bL Z (c.q 4 Z Z)) Z ?_
  obtain ⟨cI,cT,h⟩:=aj h
  refine ao Z (iA d.1 d.2.2.1 d.2.2.2.2.1 d.2.2.2.2.2.2.1 d.2.2.2.2.2.2.2.2.1 d.2.2.2.2.2.2.2.2.2.2.1 bF bv bw cT ((a.rp 0 Z).d c.fr).rp ((a.rb 1 Z).d c.fr) ((a.rp 2 Z).d c.fr).rp ((a.rb 3 Z).d c.fr) ((a.rp 4 Z).d c.fr).rp ((a.rb 5 Z).d c.fr) ((a.rp 6 Z).d c.fr).rp ((a.rb 7 Z).d c.fr) ((a.rp 8 Z).d c.fr).rp ((a.rb 9 Z).d c.fr) ((a.rb 10 Z).d c.fr) ((a.rp 29 Z).d c.fr).rp ((a.rb 30 Z).d c.fr) ((a.rp 31 Z).d c.fr).rp ((a.rb 32 Z).d c.fr) ((a.rp 33 Z).d c.fr).rp ((a.rb 34 Z).d c.fr)) Z ?_
  rintro _ w ⟨cm,cn,rfl,aB⟩
  have c:=c.f aB
  refine bk (bl (i:=2) (us:=[cm,cn,I cI.2.2]) Z ce Z Z Z ⟨(c.ro 0 Z).one,(c.ro 1 Z).one,Z,V⟩ Z c) ?_
  intro w c
  refine P 1 Z ?_
  refine H (O (aw ?_))
  cases h
  replace c:=hZ.st c
  exact dR Z ⟨_,Z,bJ (us:=[cm,cn,I cI.2.2]) u33 Z ce (c.q 2 Z Z)⟩ Z ⟨cm,cn,Z,c.e [0,1] Z Z⟩
end Go.Proofs
