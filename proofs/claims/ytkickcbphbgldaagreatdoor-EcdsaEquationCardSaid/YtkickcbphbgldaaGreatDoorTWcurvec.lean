import Derived.Test.YtkickcbphbgldaaGreatDoorTW0
import Derived.Test.YtkickcbphbgldaaGreatDoorGkFman
import Derived.Test.YtkickcbphbgldaaGreatDoorTWbignumc
import Derived.Test.YtkickcbphbgldaaGreatDoorTWcurveb
set_option linter.unusedVariables false
set_option linter.unusedSimpArgs false
set_option linter.unusedSectionVars false
set_option maxRecDepth 4000
namespace Go.Proofs
open Go Go.RowKit Go.Gk
open Go.Gk renaming Off → O, Rds → Q, aa → P, ae → M, ah → I, ai → H, e32 → U, own → K, pB → N, vB → J
open Nat renaming le_of_ble_eq_true → R
open Go.Gk.OE renaming bx → W
open Go.Gk.Off renaming cons → X
open Go.Gk.Rds renaming cons → Y
set_option maxHeartbeats 8000000 in
theorem kW {w0:World} {a1 a2 b8 b9:List UInt32} {co cp a6 a8:Value} (a0:Int) (bs:Bool) {r:List UInt32×List UInt32×Bool×Int}
  (h:F.Dl a0 a1 a2 b8 b9 bs=some r) (da:RP [] w0 U co a1) (db:RP [] w0 U cp a2) (cU:RP [] w0 U a6 b8) (cV:RP [] w0 U a8 b9):Calls Tryz.prog 40 #[vI a0,co,cp,.agg #[a6,a8,J bs]] w0 (Ret fun v w=>∃cJ cK:Value,v=.tuple #[.agg #[cJ,cK,J r.2.2.1],vI r.2.2.2]∧St [] w0 w [K U cJ r.1,K U cK r.2.1]):=by
 refine aJ 109 Tryz.func40 Z Z Z ?_
 have c:=St.l w0
 have hZ:=Fz.l (S:=[]) (w0:=w0)
 have hTT:TOk [] [] w0:=TOk.nil
 have a:Q [] w0 [red U a8 b9,red U a6 b8,red U cp a2,red U co a1]:=Y (RP.i (R Z) cV) (Y (RP.i (R Z) cU) (Y (RP.i (R Z) db) (Y (RP.i (R Z) da) (Q.nil))))
 have b:O [] [red U a8 b9,red U a6 b8,red U cp a2,red U co a1]:=O.emp
 refine au [(0,vI a0),(1,co),(2,cp),(3,.agg #[a6,a8,J bs])] ⟨Z,Z,Z,Z,V⟩ ?_
 unfold F.Dl at h
 refine I (af (aP (cZ (cs:=[a6,a8,J bs]) Z Z c) Z ?_))
 rintro _ w ⟨cq,rfl,c⟩
 refine aP (aT (cs:=[.slice none 0 0,.slice none 0 0,J false]) fu Z c) Z ?_
 rintro _ w ⟨aZ,rfl,c⟩
 refine P 1 Z ?_
 refine H (M (I (af (P 1 Z ?_))))
 refine am (bo (us:=[a6,a8,J bs]) u33 Z bI Z (c.q 1 Z Z)) Z ?_
 replace c:=c.pick (os':=[]++[W aZ [.slice none 0 0,.slice none 0 0,J false],W cq [a6,a8,J bs]]) [0,1] (by decide) rfl
 obtain ⟨hZ,a,b,c⟩:=hZ.frzK hTT a b c
 obtain ⟨dc,c9,h⟩:=aj h
 refine ao Z (en a0 bs c9 (hZ.okT hTT c) (a.j b 2 Z) (a.j b 3 Z)) Z ?_
 rintro v_q w hQ
 cases ca:dc.1 with
 | none=>
  have h:=ea h ca
  rw [ca]at hQ
  obtain ⟨rfl,aB⟩:=dD hQ
  obtain ⟨dY,dj,hZ,a,b,c⟩:=hZ.m a b c aB Q.nil rfl
  refine P 4 Z ?_
  refine aP (aT (cs:=[.pointer none,.pointer none,.pointer none]) dK Z c) Z ?_
  rintro _ w ⟨cb,rfl,c⟩
  refine P 1 Z ?_
  refine bb (a7 (i:=0) (us:=[.pointer none,.pointer none,.pointer none]) Z bB Z Z Z ⟨Z,Z,Z,V⟩ Z c) ?_
  intro w c
  refine P 1 Z ?_
  refine H (M (I (I (af (P 2 Z ?_)))))
  refine H (M ?_)
  refine ax Z (fun cc=>?_) (fun cc=>?_)
  ·have h:=aG h cc
   refine I (af (am (bN (vs:=[]) (cells:=[.slice none 0 0,.slice none 0 0,J false]) Z dU V Z) Z (bb (a7 (i:=1) (us:=[.slice none 0 0,.slice none 0 0,J false]) Z bI Z Z Z ⟨Z,Z,Z,V⟩ Z c) ?_)))
   intro w c
   refine P 1 Z ?_
   refine H (M (aw (aD ?_)))
   cases h
   replace c:=hZ.st c
   exact dk Z ⟨_,Z,bC (us:=[.slice none 0 0,.slice none 0 0,J false]) u33 Z bI (c.q 1 Z Z)⟩ Z ⟨.slice none 0 0,.slice none 0 0,Z,((c.nil U).nil U).e [1,0] Z Z⟩
  have h:=aH h cc
  refine az (M (I (af (P 1 Z ?_))))
  obtain ⟨bF,cW,h⟩:=aj h
  refine ao Z (ee  cW ((a.rp 0 Z).d c.fr).rp) Z ?_
  rintro _ w ⟨bT,cd,rfl,aB⟩
  have c:=c.f aB
  refine P 5 Z ?_
  refine H (M (I (af (P 1 Z ?_))))
  obtain ⟨bG,cX,h⟩:=aj h
  refine ao Z (ee  cX ((a.rp 1 Z).d c.fr).rp) Z ?_
  rintro _ w ⟨bU,ce,rfl,aB⟩
  have c:=c.f aB
  refine P 5 Z ?_
  refine H (M (I ?_))
  refine a9 (r:=r) (fun (g:Bool) L w=>L=[(8,N aZ 0),(10,.pointer none),(11,N cb 0),(13,N cd 0),(15,N ce 0),(49,J g)]∧SfT [] [] w0 w [W ce [J bG.1,bU],red U bU bG.2.1,W cd [J bF.1,bT],red U bT bF.2.1] [W aZ [.slice none 0 0,.slice none 0 0,J false],W cb [.pointer none,.pointer none,.pointer none]]) (F.FU) ?_ ?_
  rotate_left
  ·intro cA
   refine af (P 3 Z ?_)
   cases bV:(!bF.2.2)
   case true=>
    have h:=aG h bV
    try simp only [bV]
    refine P 3 Z ?_
    refine H (M ?_)
    replace c:=c.pick (os':=[W ce [J bG.1,bU],K U bU bG.2.1,W cd [J bF.1,bT],K U bT bF.2.1]++[W cb [.pointer none,.pointer none,.pointer none],W aZ [.slice none 0 0,.slice none 0 0,J false],W cq [a6,a8,J bs]]) [0,1,2,3,4,5,6] (by decide) rfl
    obtain ⟨dJ,dl,hZ,a,b,c⟩:=hZ.frzT hTT a b c
    exact au _ (by exact ⟨Z,Z,Z,Z,Z,Z,V⟩) (cA true _ _ ⟨Z,(SfT.mk' hZ (Y (a.b 7 Z) (Y (a.b 6 Z) (Y (a.b 5 Z) (Y (a.b 4 Z) Q.nil)))) (X (b.b 7 Z) (X (b.b 6 Z) (X (b.b 5 Z) (X (b.b 4 Z) O.nil)))) (c.e [1,0] Z Z))⟩ h)
   case false=>
    have h:=aH h bV
    try simp only [bV]
    refine P 3 Z ?_
    refine H (M ?_)
    replace c:=c.pick (os':=[W ce [J bG.1,bU],K U bU bG.2.1,W cd [J bF.1,bT],K U bT bF.2.1]++[W cb [.pointer none,.pointer none,.pointer none],W aZ [.slice none 0 0,.slice none 0 0,J false],W cq [a6,a8,J bs]]) [0,1,2,3,4,5,6] (by decide) rfl
    obtain ⟨dL,dm,hZ,a,b,c⟩:=hZ.frzT hTT a b c
    exact au _ (by exact ⟨Z,Z,Z,Z,Z,Z,V⟩) (cA (!bG.2.2) _ _ ⟨Z,(SfT.mk' hZ (Y (a.b 7 Z) (Y (a.b 6 Z) (Y (a.b 5 Z) (Y (a.b 4 Z) Q.nil)))) (X (b.b 7 Z) (X (b.b 6 Z) (X (b.b 5 Z) (X (b.b 4 Z) O.nil)))) (c.e [1,0] Z Z))⟩ h)
  rintro dM L w hJ h
  try dsimp only at hJ
  obtain ⟨rfl,⟨dN,dn,hZ,a,b,c⟩⟩:=hJ
  unfold F.FU at h
  refine ax Z (fun cf=>?_) (fun cf=>?_)
  ·have h:=aG h cf
   refine I (af (am (bN (vs:=[]) (cells:=[.slice none 0 0,.slice none 0 0,J false]) Z dU V Z) Z (bb (a7 (i:=0) (us:=[.slice none 0 0,.slice none 0 0,J false]) Z bI Z Z Z ⟨Z,Z,Z,V⟩ Z c) ?_)))
   intro w c
   refine P 1 Z ?_
   refine H (M (aw (aD ?_)))
   cases h
   replace c:=hZ.st c
   exact dk Z ⟨_,Z,bC (us:=[.slice none 0 0,.slice none 0 0,J false]) u33 Z bI (c.q 0 Z Z)⟩ Z ⟨.slice none 0 0,.slice none 0 0,Z,((c.nil U).nil U).e [1,0] Z Z⟩
  have h:=aH h cf
  refine az (M (I ?_))
  cases h
 | some d=>
  have h:=d9 h ca
  rw [ca]at hQ
  obtain ⟨bt,aV,ap,aW,ay,aY,aA,p,ad,t,ag,z,ak,A,al,B,an,rfl,aB,ct⟩:=dC hQ
  obtain ⟨dO,dp,hZ,a,b,c⟩:=hZ.m a b c aB ct rfl
  refine P 4 Z ?_
  refine aP (aT (cs:=[.pointer none,.pointer none,.pointer none]) dK Z c) Z ?_
  rintro _ w ⟨aS,rfl,c⟩
  refine P 1 Z ?_
  refine bb (a7 (i:=0) (us:=[N z 0,N A 0,N B 0]) Z bB Z Z Z ⟨Z,Z,Z,V⟩ Z c) ?_
  intro w c
  refine P 1 Z ?_
  refine H (M (I (I (af (P 2 Z ?_)))))
  refine H (M ?_)
  refine ax Z (fun b1=>?_) (fun b1=>?_)
  ·have h:=aG h b1
   refine I (af (am (bN (vs:=[]) (cells:=[.slice none 0 0,.slice none 0 0,J false]) Z dU V Z) Z (bb (a7 (i:=1) (us:=[.slice none 0 0,.slice none 0 0,J false]) Z bI Z Z Z ⟨Z,Z,Z,V⟩ Z c) ?_)))
   intro w c
   refine P 1 Z ?_
   refine H (M (aw (aD ?_)))
   cases h
   replace c:=hZ.st c
   exact dk Z ⟨_,Z,bC (us:=[.slice none 0 0,.slice none 0 0,J false]) u33 Z bI (c.q 1 Z Z)⟩ Z ⟨.slice none 0 0,.slice none 0 0,Z,((c.nil U).nil U).e [1,0] Z Z⟩
  have h:=aH h b1
  refine az (M (I (af (P 1 Z ?_))))
  obtain ⟨aQ,cY,h⟩:=aj h
  refine ao Z (ee  cY ((a.rp 0 Z).d c.fr).rp) Z ?_
  rintro _ w ⟨a4,be,rfl,aB⟩
  have c:=c.f aB
  refine P 5 Z ?_
  refine H (M (I (af (P 1 Z ?_))))
  obtain ⟨aR,c0,h⟩:=aj h
  refine ao Z (ee  c0 ((a.rp 1 Z).d c.fr).rp) Z ?_
  rintro _ w ⟨a5,bf,rfl,aB⟩
  have c:=c.f aB
  refine P 5 Z ?_
  refine H (M (I ?_))
  refine a9 (r:=r) (fun (g:Bool) L w=>L=[(8,N aZ 0),(10,N bt 0),(11,N aS 0),(13,N be 0),(15,N bf 0),(49,J g)]∧SfT [] [] w0 w [W B [J d.2.2.2.2.2.2.2.2.2.2.2.2.2.2.2.1,an],red U an d.2.2.2.2.2.2.2.2.2.2.2.2.2.2.2.2,W A [J d.2.2.2.2.2.2.2.2.2.2.2.2.2.1,al],red U al d.2.2.2.2.2.2.2.2.2.2.2.2.2.2.1,W z [J d.2.2.2.2.2.2.2.2.2.2.2.1,ak],red U ak d.2.2.2.2.2.2.2.2.2.2.2.2.1,W bf [J aR.1,a5],red U a5 aR.2.1,W be [J aQ.1,a4],red U a4 aQ.2.1,W bt [N aV 0,N aW 0,N aY 0,N p 0,N t 0,vI d.2.2.2.2.2.2.2.2.2.2.1,.func (.func 168) #[] #[]],W t [J d.2.2.2.2.2.2.2.2.1,ag],red U ag d.2.2.2.2.2.2.2.2.2.1,W p [J d.2.2.2.2.2.2.1,ad],red U ad d.2.2.2.2.2.2.2.1,W aY [J d.2.2.2.2.1,aA],red U aA d.2.2.2.2.2.1,W aW [J d.2.2.1,ay],red U ay d.2.2.2.1,W aV [J d.1,ap],red U ap d.2.1] [W aZ [.slice none 0 0,.slice none 0 0,J false],W aS [N z 0,N A 0,N B 0]]) (F.Ed d aQ aR) ?_ ?_
  rotate_left
  ·intro cB
   refine af (P 3 Z ?_)
   cases bW:(!aQ.2.2)
   case true=>
    have h:=aG h bW
    try simp only [bW]
    refine P 3 Z ?_
    refine H (M ?_)
    replace c:=c.pick (os':=[W bf [J aR.1,a5],K U a5 aR.2.1,W be [J aQ.1,a4],K U a4 aQ.2.1]++[W aS [N z 0,N A 0,N B 0],W aZ [.slice none 0 0,.slice none 0 0,J false],W cq [a6,a8,J bs]]) [0,1,2,3,4,5,6] (by decide) rfl
    obtain ⟨dP,dq,hZ,a,b,c⟩:=hZ.frzT hTT a b c
    exact au _ (by exact ⟨Z,Z,Z,Z,Z,Z,V⟩) (cB true _ _ ⟨Z,(SfT.mk' hZ (Y (a.b 20 Z) (Y (a.b 19 Z) (Y (a.b 18 Z) (Y (a.b 17 Z) (Y (a.b 16 Z) (Y (a.b 15 Z) (Y (a.b 24 Z) (Y (a.b 23 Z) (Y (a.b 22 Z) (Y (a.b 21 Z) (Y (a.b 14 Z) (Y (a.b 13 Z) (Y (a.b 12 Z) (Y (a.b 11 Z) (Y (a.b 10 Z) (Y (a.b 9 Z) (Y (a.b 8 Z) (Y (a.b 7 Z) (Y (a.b 6 Z) (Y (a.b 5 Z) (Y (a.b 4 Z) Q.nil))))))))))))))))))))) (X (b.b 20 Z) (X (b.b 19 Z) (X (b.b 18 Z) (X (b.b 17 Z) (X (b.b 16 Z) (X (b.b 15 Z) (X (b.b 24 Z) (X (b.b 23 Z) (X (b.b 22 Z) (X (b.b 21 Z) (X (b.b 14 Z) (X (b.b 13 Z) (X (b.b 12 Z) (X (b.b 11 Z) (X (b.b 10 Z) (X (b.b 9 Z) (X (b.b 8 Z) (X (b.b 7 Z) (X (b.b 6 Z) (X (b.b 5 Z) (X (b.b 4 Z) O.nil))))))))))))))))))))) (c.e [1,0] Z Z))⟩ h)
   case false=>
    have h:=aH h bW
    try simp only [bW]
    refine P 3 Z ?_
    refine H (M ?_)
    replace c:=c.pick (os':=[W bf [J aR.1,a5],K U a5 aR.2.1,W be [J aQ.1,a4],K U a4 aQ.2.1]++[W aS [N z 0,N A 0,N B 0],W aZ [.slice none 0 0,.slice none 0 0,J false],W cq [a6,a8,J bs]]) [0,1,2,3,4,5,6] (by decide) rfl
    obtain ⟨dQ,dr,hZ,a,b,c⟩:=hZ.frzT hTT a b c
    exact au _ (by exact ⟨Z,Z,Z,Z,Z,Z,V⟩) (cB (!aR.2.2) _ _ ⟨Z,(SfT.mk' hZ (Y (a.b 20 Z) (Y (a.b 19 Z) (Y (a.b 18 Z) (Y (a.b 17 Z) (Y (a.b 16 Z) (Y (a.b 15 Z) (Y (a.b 24 Z) (Y (a.b 23 Z) (Y (a.b 22 Z) (Y (a.b 21 Z) (Y (a.b 14 Z) (Y (a.b 13 Z) (Y (a.b 12 Z) (Y (a.b 11 Z) (Y (a.b 10 Z) (Y (a.b 9 Z) (Y (a.b 8 Z) (Y (a.b 7 Z) (Y (a.b 6 Z) (Y (a.b 5 Z) (Y (a.b 4 Z) Q.nil))))))))))))))))))))) (X (b.b 20 Z) (X (b.b 19 Z) (X (b.b 18 Z) (X (b.b 17 Z) (X (b.b 16 Z) (X (b.b 15 Z) (X (b.b 24 Z) (X (b.b 23 Z) (X (b.b 22 Z) (X (b.b 21 Z) (X (b.b 14 Z) (X (b.b 13 Z) (X (b.b 12 Z) (X (b.b 11 Z) (X (b.b 10 Z) (X (b.b 9 Z) (X (b.b 8 Z) (X (b.b 7 Z) (X (b.b 6 Z) (X (b.b 5 Z) (X (b.b 4 Z) O.nil))))))))))))))))))))) (c.e [1,0] Z Z))⟩ h)
  rintro dR L w hJ h
  try dsimp only at hJ
  obtain ⟨rfl,⟨dS,ds,hZ,a,b,c⟩⟩:=hJ
  unfold F.Ed at h
  refine ax Z (fun b2=>?_) (fun b2=>?_)
  ·have h:=aG h b2
   refine I (af (am (bN (vs:=[]) (cells:=[.slice none 0 0,.slice none 0 0,J false]) Z dU V Z) Z (bb (a7 (i:=0) (us:=[.slice none 0 0,.slice none 0 0,J false]) Z bI Z Z Z ⟨Z,Z,Z,V⟩ Z c) ?_)))
   intro w c
   refine P 1 Z ?_
   refine H (M (aw (aD ?_)))
   cases h
   replace c:=hZ.st c
   exact dk Z ⟨_,Z,bC (us:=[.slice none 0 0,.slice none 0 0,J false]) u33 Z bI (c.q 0 Z Z)⟩ Z ⟨.slice none 0 0,.slice none 0 0,Z,((c.nil U).nil U).e [1,0] Z Z⟩
  have h:=aH h b2
  refine az (M (I ?_))
  obtain ⟨E,c1,h⟩:=aj h
  refine fq (es:=[W B [J d.2.2.2.2.2.2.2.2.2.2.2.2.2.2.2.1,an],red U an d.2.2.2.2.2.2.2.2.2.2.2.2.2.2.2.2,W A [J d.2.2.2.2.2.2.2.2.2.2.2.2.2.1,al],red U al d.2.2.2.2.2.2.2.2.2.2.2.2.2.2.1,W z [J d.2.2.2.2.2.2.2.2.2.2.2.1,ak],red U ak d.2.2.2.2.2.2.2.2.2.2.2.2.1,W bf [J aR.1,a5],red U a5 aR.2.1,W be [J aQ.1,a4],red U a4 aQ.2.1,W bt [N aV 0,N aW 0,N aY 0,N p 0,N t 0,vI d.2.2.2.2.2.2.2.2.2.2.1,.func (.func 168) #[] #[]],W t [J d.2.2.2.2.2.2.2.2.1,ag],red U ag d.2.2.2.2.2.2.2.2.2.1,W p [J d.2.2.2.2.2.2.1,ad],red U ad d.2.2.2.2.2.2.2.1,W aY [J d.2.2.2.2.1,aA],red U aA d.2.2.2.2.2.1,W aW [J d.2.2.1,ay],red U ay d.2.2.2.1,W aV [J d.1,ap],red U ap d.2.1]) (os:=[W aZ [.slice none 0 0,.slice none 0 0,J false],W aS [N z 0,N A 0,N B 0]]) (fun i=>[8,10,11].contains i) (fun i=>if i=8 then some 11 else if i=10 then some 11 else none) (fun i=>[]) (fun i=>[]) (fun i=>[]) (fun i=>if i=11 then [8,10] else []) (fun i=>if i=8 then (fun h v x y=>∃u:Nat,∃C:Value,v=N u 0∧x=[W u [J E.1,C],K U C E.2]∧y=[]) else if i=10 then (fun h v x y=>∃D:Nat,v=N D 0∧x=[W D [.pointer none,.pointer none,.pointer none]]∧y=[]) else (fun h v x y=>∃u:Nat,∃C:Value,∃D:Nat,h=[(N u 0,[W u [J E.1,C],K U C E.2],[]),(N D 0,[W D [.pointer none,.pointer none,.pointer none]],[])]∧v=undef∧x=[W u [J E.1,C],K U C E.2,W D [N p 0,N t 0,N u 0]]∧y=[])) (SfT.mk' hZ a b c) (fun k hk=>rfl) hTT rfl (fun i=>(dH (by rintro h v x y ⟨_,_,rfl,rfl,rfl⟩; exact cM rfl) (dH (by rintro h v x y ⟨_,rfl,rfl,rfl⟩; exact cM rfl) (by rintro h v x y ⟨_,_,_,_,rfl,rfl,rfl⟩; exact cM rfl)))) bS (by kernel_rfl) (by kernel_rfl) ?_
  show fv _ _ _ _ _ _ _ _ _ _ _ _ _ _ _ _ [0,1,2,3,4,5,6,7,8,9,10,11] _ _
  refine bu Z Z (fun w Sb wb hZ a b hF=>ar Z) Z (bu Z Z (fun w Sb wb hZ a b hF=>aK Z) Z (bu Z Z (fun w Sb wb hZ a b hF=>av (k:=3) u76 Z Z cx Z) Z (bu Z Z (fun w Sb wb hZ a b hF=>aC u73 Z Z ((a.rb 10 Z).cell hF.fr 3 Z)) Z (bu Z Z (fun w Sb wb hZ a b hF=>ar Z) Z (bu Z Z (fun w Sb wb hZ a b hF=>aK Z) Z (bu Z Z (fun w Sb wb hZ a b hF=>av (k:=4) u76 Z Z cx Z) Z (bu Z Z (fun w Sb wb hZ a b hF=>aC u73 Z Z ((a.rb 10 Z).cell hF.fr 4 Z)) Z ?_)))))))
  refine dE (fun h v x y=>∃u:Nat,∃C:Value,v=N u 0∧x=[W u [J E.1,C],K U C E.2]∧y=[]) [] [] [] _ Z Z (fun h v x y=>Z) Z Z Z Z ⟨_,_,_,0,undef,Z,Z,Z⟩ (by kernel_rfl) Z (fun w Sl Tl hZ hTT a b c=>?_) Z ?_
  ·refine dh (cD 1 c1 ) ?_
   rintro _ w ⟨C,u,rfl,aB⟩
   have c:=c.f aB
   exact ⟨_,_,⟨u,C,Z,Z,Z⟩,SfT.mk' hZ Q.nil O.nil c⟩
  rintro v_q x_q y_q ⟨u,C,rfl,rfl,rfl⟩
  refine bu Z Z (fun w Sb wb hZ a b hF=>bN (vs:=[(0,N p 0,[N p 0]),(1,N t 0,[N t 0]),(2,N u 0,[N u 0])]) (cells:=[N p 0,N t 0,N u 0]) Z mp ⟨Z,Z,Z,V⟩ Z) Z ?_
  refine gO (fun h v x y=>∃D:Nat,v=N D 0∧x=[W D [.pointer none,.pointer none,.pointer none]]∧y=[]) [] [] [] _ Z Z (fun h v x y=>Z) Z Z Z Z ⟨_,_,_,0,Z,Z,Z⟩ (fun w Sl Tl hZ hTT a b c=>?_) Z ?_
  ·refine ms (aT (cs:=[.pointer none,.pointer none,.pointer none]) dK Z c) ?_
   rintro _ w ⟨D,rfl,c⟩
   exact ⟨_,_,⟨D,Z,Z,Z⟩,SfT.mk' hZ Q.nil O.nil c⟩
  rintro v_q x_q y_q ⟨D,rfl,rfl,rfl⟩
  refine ow (fun h v x y=>∃u:Nat,∃C:Value,∃D:Nat,h=[(N u 0,[W u [J E.1,C],K U C E.2],[]),(N D 0,[W D [.pointer none,.pointer none,.pointer none]],[])]∧v=undef∧x=[W u [J E.1,C],K U C E.2,W D [N p 0,N t 0,N u 0]]∧y=[]) [(N u 0,[W u [J E.1,C],K U C E.2],[]),(N D 0,[W D [.pointer none,.pointer none,.pointer none]],[])] [W u [J E.1,C],K U C E.2,W D [.pointer none,.pointer none,.pointer none]] [] _ Z Z (fun h v x y=>Z) Z Z Z Z ⟨_,_,_,u,C,D,Z,Z,Z,Z⟩ (fun w Sl Tl hZ hTT a b c=>?_) ?_
  ·refine mq (a7 (i:=2) (us:=[N p 0,N t 0,N u 0]) Z bB Z Z Z ⟨Z,Z,Z,V⟩ Z c) ?_
   intro w c
   exact ⟨_,_,⟨u,C,D,Z,Z,Z,Z⟩,SfT.mk' hZ Q.nil O.nil c⟩
  rintro v_q x_q y_q ⟨b_60',v_58',b_62',hh,rfl,rfl,rfl⟩
  replace hh:([(N u 0,[W u [J E.1,C],K U C E.2],[]),(N D 0,[W D [.pointer none,.pointer none,.pointer none]],[])]:List Th)=[(N b_60' 0,[W b_60' [J E.1,v_58'],K U v_58' E.2],[]),(N b_62' 0,[W b_62' [.pointer none,.pointer none,.pointer none]],[])]:=hh
  cases hh
  refine gN fun w hQ=>?_
  obtain ⟨dT,dt,hZ,a,b,c⟩:=hQ
  refine M (I (af (P 1 Z ?_)))
  refine am (bo (us:=[N p 0,N t 0,N u 0]) u91 Z bB Z (c.q 2 Z Z)) Z (am (bo (us:=[N z 0,N A 0,N B 0]) u91 Z bB Z (c.q 4 Z Z)) Z ?_)
  replace c:=c.pick (os':=[W u [J E.1,C],K U C E.2]++[W D [N p 0,N t 0,N u 0],W aZ [.slice none 0 0,.slice none 0 0,J false],W aS [N z 0,N A 0,N B 0]]) [0,1,2,3,4] (by decide) rfl
  obtain ⟨hZ,a,b,c⟩:=hZ.frzK hTT a b c
  obtain ⟨G,c2,h⟩:=aj h
  refine ao Z (fS d.1 d.2.2.1 d.2.2.2.2.1 d.2.2.2.2.2.2.1 d.2.2.2.2.2.2.2.2.1 d.2.2.2.2.2.2.2.2.2.2.1 d.2.2.2.2.2.2.1 d.2.2.2.2.2.2.2.2.1 E.1 d.2.2.2.2.2.2.2.2.2.2.2.1 d.2.2.2.2.2.2.2.2.2.2.2.2.2.1 d.2.2.2.2.2.2.2.2.2.2.2.2.2.2.2.1 c2 (hZ.okT hTT c) (a.j b 0 Z) (a.k b 1 Z) (a.j b 2 Z) (a.k b 3 Z) (a.j b 4 Z) (a.k b 5 Z) (a.j b 6 Z) (a.k b 7 Z) (a.j b 8 Z) (a.k b 9 Z) (a.k b 10 Z) (a.j b 6 Z) (a.k b 7 Z) (a.j b 8 Z) (a.k b 9 Z) (a.j b 21 Z) (a.k b 22 Z) (a.j b 15 Z) (a.k b 16 Z) (a.j b 17 Z) (a.k b 18 Z) (a.j b 19 Z) (a.k b 20 Z)) Z ?_
  rintro _ w ⟨T,aF,ab,aL,ac,aM,rfl,aB,ct⟩
  obtain ⟨dV,du,hZ,a,b,c⟩:=hZ.m a b c aB ct rfl
  refine aP (aT (cs:=[.pointer none,.pointer none,.pointer none]) dK Z c) Z ?_
  rintro _ w ⟨bi,rfl,c⟩
  refine bb (a7 (i:=0) (us:=[N T 0,N ab 0,N ac 0]) Z bB Z Z Z ⟨Z,Z,Z,V⟩ Z c) ?_
  intro w c
  refine H (M (I (af ?_)))
  obtain ⟨bj,c3,h⟩:=aj h
  refine ao Z (ek  c3 ) Z ?_
  rintro _ w ⟨cw,cy,cz,cg,ch,ci,rfl,aB⟩
  have c:=c.f aB
  refine aP (aT (cs:=[.pointer none,.pointer none,.pointer none]) dK Z c) Z ?_
  rintro _ w ⟨bd,rfl,c⟩
  refine bb (a7 (i:=0) (us:=[N cg 0,N ch 0,N ci 0]) Z bB Z Z Z ⟨Z,Z,Z,V⟩ Z c) ?_
  intro w c
  refine H (M (I (I (af (P 1 Z ?_)))))
  obtain ⟨cL,c4,h⟩:=aj h
  refine ao Z (ft aQ.1 c4 ((a.rp 11 Z).d c.fr).rp ((a.rb 12 Z).d c.fr)) Z ?_
  rintro _ w ⟨rfl,aB⟩
  have c:=c.f aB
  refine P 1 Z ?_
  obtain ⟨cN,c5,h⟩:=aj h
  refine ao Z (ft aR.1 c5 ((a.rp 13 Z).d c.fr).rp ((a.rb 14 Z).d c.fr)) Z ?_
  rintro _ w ⟨rfl,aB⟩
  have c:=c.f aB
  refine am (tR Z Z) Z (P 2 Z ?_)
  refine H (M (aE ?_))
  replace c:=c.pick (os':=[W cg [J bj.1,cw],K U cw bj.2.1,W ch [J bj.2.2.1,cy],K U cy bj.2.2.2.1,W ci [J bj.2.2.2.2.1,cz],K U cz bj.2.2.2.2.2]++[W bd [N cg 0,N ch 0,N ci 0],W bi [N T 0,N ab 0,N ac 0],W D [N p 0,N t 0,N u 0],W aZ [.slice none 0 0,.slice none 0 0,J false],W aS [N z 0,N A 0,N B 0]]) [1,2,3,4,5,6,0,7,8,9,10] (by decide) rfl
  obtain ⟨dW,dv,hZ,a,b,c⟩:=hZ.frzT hTT a b c
  refine au [(8,N aZ 0),(10,N bt 0),(11,N aS 0),(13,N be 0),(15,N bf 0),(17,N D 0),(18,N bi 0),(19,N bd 0),(20,vI (wI ((max cL cN) - 1)))] ⟨Z,Z,Z,Z,Z,Z,Z,Z,Z,V⟩ ?_
  refine bk (F.Dc d aQ aR E G) (fun (s:Int×Bool×List UInt32×Bool×List UInt32×Bool×List UInt32) L w=>∃(a3:Nat) (bw:Value) (aN:Nat) (bl:Value) (aO:Nat) (bm:Value),L=[(8,N aZ 0),(10,N bt 0),(11,N aS 0),(13,N be 0),(15,N bf 0),(17,N D 0),(18,N bi 0),(19,N bd 0),(20,vI s.1)]∧SfT [] [] w0 w [W aO [J s.2.2.2.2.2.1,bm],red U bm s.2.2.2.2.2.2,W aN [J s.2.2.2.1,bl],red U bl s.2.2.2.2.1,W a3 [J s.2.1,bw],red U bw s.2.2.1,W ac [J G.2.2.2.2.1,aM],red U aM G.2.2.2.2.2,W ab [J G.2.2.1,aL],red U aL G.2.2.2.1,W T [J G.1,aF],red U aF G.2.1,W u [J E.1,C],red U C E.2,W B [J d.2.2.2.2.2.2.2.2.2.2.2.2.2.2.2.1,an],red U an d.2.2.2.2.2.2.2.2.2.2.2.2.2.2.2.2,W A [J d.2.2.2.2.2.2.2.2.2.2.2.2.2.1,al],red U al d.2.2.2.2.2.2.2.2.2.2.2.2.2.2.1,W z [J d.2.2.2.2.2.2.2.2.2.2.2.1,ak],red U ak d.2.2.2.2.2.2.2.2.2.2.2.2.1,W bf [J aR.1,a5],red U a5 aR.2.1,W be [J aQ.1,a4],red U a4 aQ.2.1,W bt [N aV 0,N aW 0,N aY 0,N p 0,N t 0,vI d.2.2.2.2.2.2.2.2.2.2.1,.func (.func 168) #[] #[]],W t [J d.2.2.2.2.2.2.2.2.1,ag],red U ag d.2.2.2.2.2.2.2.2.2.1,W p [J d.2.2.2.2.2.2.1,ad],red U ad d.2.2.2.2.2.2.2.1,W aY [J d.2.2.2.2.1,aA],red U aA d.2.2.2.2.2.1,W aW [J d.2.2.1,ay],red U ay d.2.2.2.1,W aV [J d.1,ap],red U ap d.2.1] [W aZ [.slice none 0 0,.slice none 0 0,J false],W aS [N z 0,N A 0,N B 0],W D [N p 0,N t 0,N u 0],W bi [N T 0,N ab 0,N ac 0],W bd [N a3 0,N aN 0,N aO 0]]) ?_ (wI ((max cL cN) - 1),bj.1,bj.2.1,bj.2.2.1,bj.2.2.2.1,bj.2.2.2.2.1,bj.2.2.2.2.2) ⟨cg,cw,ch,cy,ci,cz,Z,(SfT.mk' hZ (Y (a.b 30 Z) (Y (a.b 29 Z) (Y (a.b 32 Z) (Y (a.b 31 Z) (Y (a.b 34 Z) (Y (a.b 33 Z) (Y (a.b 28 Z) (Y (a.b 27 Z) (Y (a.b 26 Z) (Y (a.b 25 Z) (Y (a.b 24 Z) (Y (a.b 23 Z) (Y (a.b 22 Z) (Y (a.b 21 Z) (Y (a.b 20 Z) (Y (a.b 19 Z) (Y (a.b 18 Z) (Y (a.b 17 Z) (Y (a.b 16 Z) (Y (a.b 15 Z) (Y (a.b 14 Z) (Y (a.b 13 Z) (Y (a.b 12 Z) (Y (a.b 11 Z) (Y (a.b 10 Z) (Y (a.b 9 Z) (Y (a.b 8 Z) (Y (a.b 7 Z) (Y (a.b 6 Z) (Y (a.b 5 Z) (Y (a.b 4 Z) (Y (a.b 3 Z) (Y (a.b 2 Z) (Y (a.b 1 Z) (Y (a.b 0 Z) Q.nil))))))))))))))))))))))))))))))))))) (X (b.b 30 Z) (X (b.b 29 Z) (X (b.b 32 Z) (X (b.b 31 Z) (X (b.b 34 Z) (X (b.b 33 Z) (X (b.b 28 Z) (X (b.b 27 Z) (X (b.b 26 Z) (X (b.b 25 Z) (X (b.b 24 Z) (X (b.b 23 Z) (X (b.b 22 Z) (X (b.b 21 Z) (X (b.b 20 Z) (X (b.b 19 Z) (X (b.b 18 Z) (X (b.b 17 Z) (X (b.b 16 Z) (X (b.b 15 Z) (X (b.b 14 Z) (X (b.b 13 Z) (X (b.b 12 Z) (X (b.b 11 Z) (X (b.b 10 Z) (X (b.b 9 Z) (X (b.b 8 Z) (X (b.b 7 Z) (X (b.b 6 Z) (X (b.b 5 Z) (X (b.b 4 Z) (X (b.b 3 Z) (X (b.b 2 Z) (X (b.b 1 Z) (X (b.b 0 Z) O.nil))))))))))))))))))))))))))))))))))) (c.e [3,4,2,1,0] Z Z))⟩ h
  rintro dw ⟨bH,bJ,b3,bA,bK,bD,bL⟩ L w cC hI cO h cu
  try dsimp only at hI
  obtain ⟨a3,bw,aN,bl,aO,bm,rfl,⟨dX,dx,hZ,a,b,c⟩⟩:=hI
  unfold F.Dc at h
  refine I (I (af (P 2 Z ?_)))
  refine H (M ?_)
  refine ax Z (fun b4=>?_) (fun b4=>?_)
  ·have h:=aG h b4
   refine az (M (I (aE ?_)))
   refine I (af (am (bo (us:=[N p 0,N t 0,N u 0]) u91 Z bB Z (c.q 2 Z Z)) Z (aP (aT (cs:=[.pointer none,.pointer none,.pointer none]) dK Z c) Z ?_)))
   rintro _ w ⟨bn,rfl,c⟩
   refine bb (a7 (i:=0) (us:=[N p 0,N t 0,N u 0]) Z bB Z Z Z ⟨Z,Z,Z,V⟩ Z c) ?_
   intro w c
   refine H (M ?_)
   refine a9 (r:=cC) (fun (g:Bool×List UInt32×Bool×List UInt32×Bool×List UInt32) L w=>∃(bp:Nat) (bM:Value) (bq:Nat) (bO:Value) (br:Nat) (bP:Value),L=[(8,N aZ 0),(10,N bt 0),(11,N aS 0),(13,N be 0),(15,N bf 0),(17,N D 0),(18,N bi 0),(19,N bd 0),(20,vI bH),(21,N bn 0)]∧SfT [] [] w0 w [W br [J g.2.2.2.2.1,bP],red U bP g.2.2.2.2.2,W bq [J g.2.2.1,bO],red U bO g.2.2.2.1,W bp [J g.1,bM],red U bM g.2.1,W aO [J bD,bm],red U bm bL,W aN [J bA,bl],red U bl bK,W a3 [J bJ,bw],red U bw b3,W ac [J G.2.2.2.2.1,aM],red U aM G.2.2.2.2.2,W ab [J G.2.2.1,aL],red U aL G.2.2.2.1,W T [J G.1,aF],red U aF G.2.1,W u [J E.1,C],red U C E.2,W B [J d.2.2.2.2.2.2.2.2.2.2.2.2.2.2.2.1,an],red U an d.2.2.2.2.2.2.2.2.2.2.2.2.2.2.2.2,W A [J d.2.2.2.2.2.2.2.2.2.2.2.2.2.1,al],red U al d.2.2.2.2.2.2.2.2.2.2.2.2.2.2.1,W z [J d.2.2.2.2.2.2.2.2.2.2.2.1,ak],red U ak d.2.2.2.2.2.2.2.2.2.2.2.2.1,W bf [J aR.1,a5],red U a5 aR.2.1,W be [J aQ.1,a4],red U a4 aQ.2.1,W bt [N aV 0,N aW 0,N aY 0,N p 0,N t 0,vI d.2.2.2.2.2.2.2.2.2.2.1,.func (.func 168) #[] #[]],W t [J d.2.2.2.2.2.2.2.2.1,ag],red U ag d.2.2.2.2.2.2.2.2.2.1,W p [J d.2.2.2.2.2.2.1,ad],red U ad d.2.2.2.2.2.2.2.1,W aY [J d.2.2.2.2.1,aA],red U aA d.2.2.2.2.2.1,W aW [J d.2.2.1,ay],red U ay d.2.2.2.1,W aV [J d.1,ap],red U ap d.2.1] [W aZ [.slice none 0 0,.slice none 0 0,J false],W aS [N z 0,N A 0,N B 0],W D [N p 0,N t 0,N u 0],W bi [N T 0,N ab 0,N ac 0],W bd [N a3 0,N aN 0,N aO 0],W bn [N bp 0,N bq 0,N br 0]]) (F.B8 d bH bJ b3 bA bK bD bL) ?_ ?_
   rotate_left
   ·intro bQ
    refine I (af (P 2 Z ?_))
    obtain ⟨cE,cP,h⟩:=aj h
    refine ao Z (ge aQ.1 bH cP ((a.rp 11 Z).d c.fr).rp ((a.rb 12 Z).d c.fr)) Z ?_
    rintro _ w ⟨rfl,aB⟩
    have c:=c.f aB
    refine am (aq Z Z (oN _ cE 1)) Z (P 2 Z ?_)
    obtain ⟨bX,cQ,h⟩:=aj h
    refine ao Z (ge aR.1 bH cQ ((a.rp 13 Z).d c.fr).rp ((a.rb 14 Z).d c.fr)) Z ?_
    rintro _ w ⟨rfl,aB⟩
    have c:=c.f aB
    refine am (aq Z Z (oN _ bX 1)) Z (P 2 Z ?_)
    refine H (M (aE ?_))
    refine a9 (r:=cC) (fun (g:Bool×Bool) L w=>L=[(8,N aZ 0),(10,N bt 0),(11,N aS 0),(13,N be 0),(15,N bf 0),(17,N D 0),(18,N bi 0),(19,N bd 0),(20,vI bH),(21,N bn 0),(22,J g.1),(23,J (bX == 1)),(85,J g.2)]∧SfT [] [] w0 w [W aO [J bD,bm],red U bm bL,W aN [J bA,bl],red U bl bK,W a3 [J bJ,bw],red U bw b3,W ac [J G.2.2.2.2.1,aM],red U aM G.2.2.2.2.2,W ab [J G.2.2.1,aL],red U aL G.2.2.2.1,W T [J G.1,aF],red U aF G.2.1,W u [J E.1,C],red U C E.2,W B [J d.2.2.2.2.2.2.2.2.2.2.2.2.2.2.2.1,an],red U an d.2.2.2.2.2.2.2.2.2.2.2.2.2.2.2.2,W A [J d.2.2.2.2.2.2.2.2.2.2.2.2.2.1,al],red U al d.2.2.2.2.2.2.2.2.2.2.2.2.2.2.1,W z [J d.2.2.2.2.2.2.2.2.2.2.2.1,ak],red U ak d.2.2.2.2.2.2.2.2.2.2.2.2.1,W bf [J aR.1,a5],red U a5 aR.2.1,W be [J aQ.1,a4],red U a4 aQ.2.1,W bt [N aV 0,N aW 0,N aY 0,N p 0,N t 0,vI d.2.2.2.2.2.2.2.2.2.2.1,.func (.func 168) #[] #[]],W t [J d.2.2.2.2.2.2.2.2.1,ag],red U ag d.2.2.2.2.2.2.2.2.2.1,W p [J d.2.2.2.2.2.2.1,ad],red U ad d.2.2.2.2.2.2.2.1,W aY [J d.2.2.2.2.1,aA],red U aA d.2.2.2.2.2.1,W aW [J d.2.2.1,ay],red U ay d.2.2.2.1,W aV [J d.1,ap],red U ap d.2.1] [W aZ [.slice none 0 0,.slice none 0 0,J false],W aS [N z 0,N A 0,N B 0],W D [N p 0,N t 0,N u 0],W bi [N T 0,N ab 0,N ac 0],W bd [N a3 0,N aN 0,N aO 0],W bn [N p 0,N t 0,N u 0]]) (F.Fx d E G bX bH bJ b3 bA bK bD bL) ?_ ?_
    rotate_left
    ·intro cv
     refine af (P 2 Z ?_)
     cases bR:(cE == 1)
     case true=>
      have h:=aG h bR
      try simp only [bR]
      refine P 3 Z ?_
      refine H (M ?_)
      exact au _ (by exact ⟨Z,Z,Z,Z,Z,Z,Z,Z,Z,Z,Z,Z,Z,V⟩) (cv (true,bX == 1) _ _ ⟨Z,(SfT.mk' hZ (Y (a.b 34 Z) (Y (a.b 33 Z) (Y (a.b 32 Z) (Y (a.b 31 Z) (Y (a.b 30 Z) (Y (a.b 29 Z) (Y (a.b 28 Z) (Y (a.b 27 Z) (Y (a.b 26 Z) (Y (a.b 25 Z) (Y (a.b 24 Z) (Y (a.b 23 Z) (Y (a.b 22 Z) (Y (a.b 21 Z) (Y (a.b 20 Z) (Y (a.b 19 Z) (Y (a.b 18 Z) (Y (a.b 17 Z) (Y (a.b 16 Z) (Y (a.b 15 Z) (Y (a.b 14 Z) (Y (a.b 13 Z) (Y (a.b 12 Z) (Y (a.b 11 Z) (Y (a.b 10 Z) (Y (a.b 9 Z) (Y (a.b 8 Z) (Y (a.b 7 Z) (Y (a.b 6 Z) (Y (a.b 5 Z) (Y (a.b 4 Z) (Y (a.b 3 Z) (Y (a.b 2 Z) (Y (a.b 1 Z) (Y (a.b 0 Z) Q.nil))))))))))))))))))))))))))))))))))) (X (b.b 34 Z) (X (b.b 33 Z) (X (b.b 32 Z) (X (b.b 31 Z) (X (b.b 30 Z) (X (b.b 29 Z) (X (b.b 28 Z) (X (b.b 27 Z) (X (b.b 26 Z) (X (b.b 25 Z) (X (b.b 24 Z) (X (b.b 23 Z) (X (b.b 22 Z) (X (b.b 21 Z) (X (b.b 20 Z) (X (b.b 19 Z) (X (b.b 18 Z) (X (b.b 17 Z) (X (b.b 16 Z) (X (b.b 15 Z) (X (b.b 14 Z) (X (b.b 13 Z) (X (b.b 12 Z) (X (b.b 11 Z) (X (b.b 10 Z) (X (b.b 9 Z) (X (b.b 8 Z) (X (b.b 7 Z) (X (b.b 6 Z) (X (b.b 5 Z) (X (b.b 4 Z) (X (b.b 3 Z) (X (b.b 2 Z) (X (b.b 1 Z) (X (b.b 0 Z) O.nil))))))))))))))))))))))))))))))))))) (c.e [1,2,3,4,5,0] Z Z))⟩ h)
     case false=>
      have h:=aH h bR
      try simp only [bR]
      refine P 3 Z ?_
      refine H (M ?_)
      exact au _ (by exact ⟨Z,Z,Z,Z,Z,Z,Z,Z,Z,Z,Z,Z,Z,V⟩) (cv (false,false) _ _ ⟨Z,(SfT.mk' hZ (Y (a.b 34 Z) (Y (a.b 33 Z) (Y (a.b 32 Z) (Y (a.b 31 Z) (Y (a.b 30 Z) (Y (a.b 29 Z) (Y (a.b 28 Z) (Y (a.b 27 Z) (Y (a.b 26 Z) (Y (a.b 25 Z) (Y (a.b 24 Z) (Y (a.b 23 Z) (Y (a.b 22 Z) (Y (a.b 21 Z) (Y (a.b 20 Z) (Y (a.b 19 Z) (Y (a.b 18 Z) (Y (a.b 17 Z) (Y (a.b 16 Z) (Y (a.b 15 Z) (Y (a.b 14 Z) (Y (a.b 13 Z) (Y (a.b 12 Z) (Y (a.b 11 Z) (Y (a.b 10 Z) (Y (a.b 9 Z) (Y (a.b 8 Z) (Y (a.b 7 Z) (Y (a.b 6 Z) (Y (a.b 5 Z) (Y (a.b 4 Z) (Y (a.b 3 Z) (Y (a.b 2 Z) (Y (a.b 1 Z) (Y (a.b 0 Z) Q.nil))))))))))))))))))))))))))))))))))) (X (b.b 34 Z) (X (b.b 33 Z) (X (b.b 32 Z) (X (b.b 31 Z) (X (b.b 30 Z) (X (b.b 29 Z) (X (b.b 28 Z) (X (b.b 27 Z) (X (b.b 26 Z) (X (b.b 25 Z) (X (b.b 24 Z) (X (b.b 23 Z) (X (b.b 22 Z) (X (b.b 21 Z) (X (b.b 20 Z) (X (b.b 19 Z) (X (b.b 18 Z) (X (b.b 17 Z) (X (b.b 16 Z) (X (b.b 15 Z) (X (b.b 14 Z) (X (b.b 13 Z) (X (b.b 12 Z) (X (b.b 11 Z) (X (b.b 10 Z) (X (b.b 9 Z) (X (b.b 8 Z) (X (b.b 7 Z) (X (b.b 6 Z) (X (b.b 5 Z) (X (b.b 4 Z) (X (b.b 3 Z) (X (b.b 2 Z) (X (b.b 1 Z) (X (b.b 0 Z) O.nil))))))))))))))))))))))))))))))))))) (c.e [1,2,3,4,5,0] Z Z))⟩ h)
    rintro ⟨dy,dz⟩ L w hJ h
    try dsimp only at hJ
    obtain ⟨rfl,⟨dA,dd,hZ,a,b,c⟩⟩:=hJ
    unfold F.Fx at h
    refine ax Z (fun b5=>?_) (fun b5=>?_)
    ·have h:=aG h b5
     refine af (am (bo (us:=[N T 0,N ab 0,N ac 0]) u91 Z bB Z (c.q 3 Z Z)) Z (bb (a7 (i:=5) (us:=[N T 0,N ab 0,N ac 0]) Z bB Z Z Z ⟨Z,Z,Z,V⟩ Z c) ?_))
     intro w c
     refine H (aU ?_)
     refine M ?_
     exact au _ (by exact ⟨Z,Z,Z,Z,Z,Z,Z,Z,Z,Z,V⟩) (bQ (G.1,G.2.1,G.2.2.1,G.2.2.2.1,G.2.2.2.2.1,G.2.2.2.2.2) _ _ ⟨T,aF,ab,aL,ac,aM,Z,(SfT.mk' hZ (Y (a.b 28 Z) (Y (a.b 27 Z) (Y (a.b 26 Z) (Y (a.b 25 Z) (Y (a.b 24 Z) (Y (a.b 23 Z) (Y (a.b 34 Z) (Y (a.b 33 Z) (Y (a.b 32 Z) (Y (a.b 31 Z) (Y (a.b 30 Z) (Y (a.b 29 Z) (Y (a.b 28 Z) (Y (a.b 27 Z) (Y (a.b 26 Z) (Y (a.b 25 Z) (Y (a.b 24 Z) (Y (a.b 23 Z) (Y (a.b 22 Z) (Y (a.b 21 Z) (Y (a.b 20 Z) (Y (a.b 19 Z) (Y (a.b 18 Z) (Y (a.b 17 Z) (Y (a.b 16 Z) (Y (a.b 15 Z) (Y (a.b 14 Z) (Y (a.b 13 Z) (Y (a.b 12 Z) (Y (a.b 11 Z) (Y (a.b 10 Z) (Y (a.b 9 Z) (Y (a.b 8 Z) (Y (a.b 7 Z) (Y (a.b 6 Z) (Y (a.b 5 Z) (Y (a.b 4 Z) (Y (a.b 3 Z) (Y (a.b 2 Z) (Y (a.b 1 Z) (Y (a.b 0 Z) Q.nil))))))))))))))))))))))))))))))))))))))))) (X (b.b 28 Z) (X (b.b 27 Z) (X (b.b 26 Z) (X (b.b 25 Z) (X (b.b 24 Z) (X (b.b 23 Z) (X (b.b 34 Z) (X (b.b 33 Z) (X (b.b 32 Z) (X (b.b 31 Z) (X (b.b 30 Z) (X (b.b 29 Z) (X (b.b 28 Z) (X (b.b 27 Z) (X (b.b 26 Z) (X (b.b 25 Z) (X (b.b 24 Z) (X (b.b 23 Z) (X (b.b 22 Z) (X (b.b 21 Z) (X (b.b 20 Z) (X (b.b 19 Z) (X (b.b 18 Z) (X (b.b 17 Z) (X (b.b 16 Z) (X (b.b 15 Z) (X (b.b 14 Z) (X (b.b 13 Z) (X (b.b 12 Z) (X (b.b 11 Z) (X (b.b 10 Z) (X (b.b 9 Z) (X (b.b 8 Z) (X (b.b 7 Z) (X (b.b 6 Z) (X (b.b 5 Z) (X (b.b 4 Z) (X (b.b 3 Z) (X (b.b 2 Z) (X (b.b 1 Z) (X (b.b 0 Z) O.nil))))))))))))))))))))))))))))))))))))))))) c)⟩ h)
    have h:=aH h b5
    refine I (af (P 2 Z ?_))
    refine H (M ?_)
    refine ax Z (fun b6=>?_) (fun b6=>?_)
    ·have h:=aG h b6
     refine af (am (bo (us:=[N z 0,N A 0,N B 0]) u91 Z bB Z (c.q 1 Z Z)) Z (bb (a7 (i:=5) (us:=[N z 0,N A 0,N B 0]) Z bB Z Z Z ⟨Z,Z,Z,V⟩ Z c) ?_))
     intro w c
     refine H (aU ?_)
     refine M ?_
     exact au _ (by exact ⟨Z,Z,Z,Z,Z,Z,Z,Z,Z,Z,V⟩) (bQ (d.2.2.2.2.2.2.2.2.2.2.2.1,d.2.2.2.2.2.2.2.2.2.2.2.2.1,d.2.2.2.2.2.2.2.2.2.2.2.2.2.1,d.2.2.2.2.2.2.2.2.2.2.2.2.2.2.1,d.2.2.2.2.2.2.2.2.2.2.2.2.2.2.2.1,d.2.2.2.2.2.2.2.2.2.2.2.2.2.2.2.2) _ _ ⟨z,ak,A,al,B,an,Z,(SfT.mk' hZ (Y (a.b 20 Z) (Y (a.b 19 Z) (Y (a.b 18 Z) (Y (a.b 17 Z) (Y (a.b 16 Z) (Y (a.b 15 Z) (Y (a.b 34 Z) (Y (a.b 33 Z) (Y (a.b 32 Z) (Y (a.b 31 Z) (Y (a.b 30 Z) (Y (a.b 29 Z) (Y (a.b 28 Z) (Y (a.b 27 Z) (Y (a.b 26 Z) (Y (a.b 25 Z) (Y (a.b 24 Z) (Y (a.b 23 Z) (Y (a.b 22 Z) (Y (a.b 21 Z) (Y (a.b 20 Z) (Y (a.b 19 Z) (Y (a.b 18 Z) (Y (a.b 17 Z) (Y (a.b 16 Z) (Y (a.b 15 Z) (Y (a.b 14 Z) (Y (a.b 13 Z) (Y (a.b 12 Z) (Y (a.b 11 Z) (Y (a.b 10 Z) (Y (a.b 9 Z) (Y (a.b 8 Z) (Y (a.b 7 Z) (Y (a.b 6 Z) (Y (a.b 5 Z) (Y (a.b 4 Z) (Y (a.b 3 Z) (Y (a.b 2 Z) (Y (a.b 1 Z) (Y (a.b 0 Z) Q.nil))))))))))))))))))))))))))))))))))))))))) (X (b.b 20 Z) (X (b.b 19 Z) (X (b.b 18 Z) (X (b.b 17 Z) (X (b.b 16 Z) (X (b.b 15 Z) (X (b.b 34 Z) (X (b.b 33 Z) (X (b.b 32 Z) (X (b.b 31 Z) (X (b.b 30 Z) (X (b.b 29 Z) (X (b.b 28 Z) (X (b.b 27 Z) (X (b.b 26 Z) (X (b.b 25 Z) (X (b.b 24 Z) (X (b.b 23 Z) (X (b.b 22 Z) (X (b.b 21 Z) (X (b.b 20 Z) (X (b.b 19 Z) (X (b.b 18 Z) (X (b.b 17 Z) (X (b.b 16 Z) (X (b.b 15 Z) (X (b.b 14 Z) (X (b.b 13 Z) (X (b.b 12 Z) (X (b.b 11 Z) (X (b.b 10 Z) (X (b.b 9 Z) (X (b.b 8 Z) (X (b.b 7 Z) (X (b.b 6 Z) (X (b.b 5 Z) (X (b.b 4 Z) (X (b.b 3 Z) (X (b.b 2 Z) (X (b.b 1 Z) (X (b.b 0 Z) O.nil))))))))))))))))))))))))))))))))))))))))) c)⟩ h)
    have h:=aH h b6
    refine I (af (P 3 Z ?_))
    refine H (M ?_)
    refine ax Z (fun b7=>?_) (fun b7=>?_)
    ·have h:=aG h b7
     refine af ?_
     obtain ⟨bc,cR,h⟩:=aj h
     refine ao Z (ek  cR ) Z ?_
     rintro _ w ⟨cj,ck,cl,bY,bZ,b0,rfl,aB⟩
     have c:=c.f aB
     refine bb (a7 (i:=11) (us:=[N bY 0,N bZ 0,N b0 0]) Z bB Z Z Z ⟨Z,Z,Z,V⟩ Z c) ?_
     intro w c
     refine H (aU ?_)
     refine M ?_
     replace c:=c.pick (os':=[W bY [J bc.1,cj],K U cj bc.2.1,W bZ [J bc.2.2.1,ck],K U ck bc.2.2.2.1,W b0 [J bc.2.2.2.2.1,cl],K U cl bc.2.2.2.2.2]++[W aZ [.slice none 0 0,.slice none 0 0,J false],W aS [N z 0,N A 0,N B 0],W D [N p 0,N t 0,N u 0],W bi [N T 0,N ab 0,N ac 0],W bd [N a3 0,N aN 0,N aO 0],W bn [N bY 0,N bZ 0,N b0 0]]) [0,1,2,3,4,5,6,7,8,9,10,11] (by decide) rfl
     obtain ⟨dB,de,hZ,a,b,c⟩:=hZ.frzT hTT a b c
     exact au _ (by exact ⟨Z,Z,Z,Z,Z,Z,Z,Z,Z,Z,V⟩) (bQ (bc.1,bc.2.1,bc.2.2.1,bc.2.2.2.1,bc.2.2.2.2.1,bc.2.2.2.2.2) _ _ ⟨bY,cj,bZ,ck,b0,cl,Z,(SfT.mk' hZ (Y (a.b 36 Z) (Y (a.b 35 Z) (Y (a.b 38 Z) (Y (a.b 37 Z) (Y (a.b 40 Z) (Y (a.b 39 Z) (Y (a.b 34 Z) (Y (a.b 33 Z) (Y (a.b 32 Z) (Y (a.b 31 Z) (Y (a.b 30 Z) (Y (a.b 29 Z) (Y (a.b 28 Z) (Y (a.b 27 Z) (Y (a.b 26 Z) (Y (a.b 25 Z) (Y (a.b 24 Z) (Y (a.b 23 Z) (Y (a.b 22 Z) (Y (a.b 21 Z) (Y (a.b 20 Z) (Y (a.b 19 Z) (Y (a.b 18 Z) (Y (a.b 17 Z) (Y (a.b 16 Z) (Y (a.b 15 Z) (Y (a.b 14 Z) (Y (a.b 13 Z) (Y (a.b 12 Z) (Y (a.b 11 Z) (Y (a.b 10 Z) (Y (a.b 9 Z) (Y (a.b 8 Z) (Y (a.b 7 Z) (Y (a.b 6 Z) (Y (a.b 5 Z) (Y (a.b 4 Z) (Y (a.b 3 Z) (Y (a.b 2 Z) (Y (a.b 1 Z) (Y (a.b 0 Z) Q.nil))))))))))))))))))))))))))))))))))))))))) (X (b.b 36 Z) (X (b.b 35 Z) (X (b.b 38 Z) (X (b.b 37 Z) (X (b.b 40 Z) (X (b.b 39 Z) (X (b.b 34 Z) (X (b.b 33 Z) (X (b.b 32 Z) (X (b.b 31 Z) (X (b.b 30 Z) (X (b.b 29 Z) (X (b.b 28 Z) (X (b.b 27 Z) (X (b.b 26 Z) (X (b.b 25 Z) (X (b.b 24 Z) (X (b.b 23 Z) (X (b.b 22 Z) (X (b.b 21 Z) (X (b.b 20 Z) (X (b.b 19 Z) (X (b.b 18 Z) (X (b.b 17 Z) (X (b.b 16 Z) (X (b.b 15 Z) (X (b.b 14 Z) (X (b.b 13 Z) (X (b.b 12 Z) (X (b.b 11 Z) (X (b.b 10 Z) (X (b.b 9 Z) (X (b.b 8 Z) (X (b.b 7 Z) (X (b.b 6 Z) (X (b.b 5 Z) (X (b.b 4 Z) (X (b.b 3 Z) (X (b.b 2 Z) (X (b.b 1 Z) (X (b.b 0 Z) O.nil))))))))))))))))))))))))))))))))))))))))) c)⟩ h)
    have h:=aH h b7
    refine az (aU ?_)
    refine M ?_
    exact au _ (by exact ⟨Z,Z,Z,Z,Z,Z,Z,Z,Z,Z,V⟩) (bQ (d.2.2.2.2.2.2.1,d.2.2.2.2.2.2.2.1,d.2.2.2.2.2.2.2.2.1,d.2.2.2.2.2.2.2.2.2.1,E.1,E.2) _ _ ⟨p,ad,t,ag,u,C,Z,(SfT.mk' hZ (Y (a.b 22 Z) (Y (a.b 21 Z) (Y (a.b 9 Z) (Y (a.b 8 Z) (Y (a.b 7 Z) (Y (a.b 6 Z) (Y (a.b 34 Z) (Y (a.b 33 Z) (Y (a.b 32 Z) (Y (a.b 31 Z) (Y (a.b 30 Z) (Y (a.b 29 Z) (Y (a.b 28 Z) (Y (a.b 27 Z) (Y (a.b 26 Z) (Y (a.b 25 Z) (Y (a.b 24 Z) (Y (a.b 23 Z) (Y (a.b 22 Z) (Y (a.b 21 Z) (Y (a.b 20 Z) (Y (a.b 19 Z) (Y (a.b 18 Z) (Y (a.b 17 Z) (Y (a.b 16 Z) (Y (a.b 15 Z) (Y (a.b 14 Z) (Y (a.b 13 Z) (Y (a.b 12 Z) (Y (a.b 11 Z) (Y (a.b 10 Z) (Y (a.b 9 Z) (Y (a.b 8 Z) (Y (a.b 7 Z) (Y (a.b 6 Z) (Y (a.b 5 Z) (Y (a.b 4 Z) (Y (a.b 3 Z) (Y (a.b 2 Z) (Y (a.b 1 Z) (Y (a.b 0 Z) Q.nil))))))))))))))))))))))))))))))))))))))))) (X (b.b 22 Z) (X (b.b 21 Z) (X (b.b 9 Z) (X (b.b 8 Z) (X (b.b 7 Z) (X (b.b 6 Z) (X (b.b 34 Z) (X (b.b 33 Z) (X (b.b 32 Z) (X (b.b 31 Z) (X (b.b 30 Z) (X (b.b 29 Z) (X (b.b 28 Z) (X (b.b 27 Z) (X (b.b 26 Z) (X (b.b 25 Z) (X (b.b 24 Z) (X (b.b 23 Z) (X (b.b 22 Z) (X (b.b 21 Z) (X (b.b 20 Z) (X (b.b 19 Z) (X (b.b 18 Z) (X (b.b 17 Z) (X (b.b 16 Z) (X (b.b 15 Z) (X (b.b 14 Z) (X (b.b 13 Z) (X (b.b 12 Z) (X (b.b 11 Z) (X (b.b 10 Z) (X (b.b 9 Z) (X (b.b 8 Z) (X (b.b 7 Z) (X (b.b 6 Z) (X (b.b 5 Z) (X (b.b 4 Z) (X (b.b 3 Z) (X (b.b 2 Z) (X (b.b 1 Z) (X (b.b 0 Z) O.nil))))))))))))))))))))))))))))))))))))))))) c)⟩ h)
   rintro ⟨cF,c6,cG,c7,cH,c8⟩ L w hJ h
   try dsimp only at hJ
   obtain ⟨bp,bM,bq,bO,br,bP,rfl,⟨dF,df,hZ,a,b,c⟩⟩:=hJ
   unfold F.B8 at h
   obtain ⟨e,cS,h⟩:=aj h
   refine fq (es:=[W br [J cH,bP],red U bP c8,W bq [J cG,bO],red U bO c7,W bp [J cF,bM],red U bM c6,W aO [J bD,bm],red U bm bL,W aN [J bA,bl],red U bl bK,W a3 [J bJ,bw],red U bw b3,W ac [J G.2.2.2.2.1,aM],red U aM G.2.2.2.2.2,W ab [J G.2.2.1,aL],red U aL G.2.2.2.1,W T [J G.1,aF],red U aF G.2.1,W u [J E.1,C],red U C E.2,W B [J d.2.2.2.2.2.2.2.2.2.2.2.2.2.2.2.1,an],red U an d.2.2.2.2.2.2.2.2.2.2.2.2.2.2.2.2,W A [J d.2.2.2.2.2.2.2.2.2.2.2.2.2.1,al],red U al d.2.2.2.2.2.2.2.2.2.2.2.2.2.2.1,W z [J d.2.2.2.2.2.2.2.2.2.2.2.1,ak],red U ak d.2.2.2.2.2.2.2.2.2.2.2.2.1,W bf [J aR.1,a5],red U a5 aR.2.1,W be [J aQ.1,a4],red U a4 aQ.2.1,W bt [N aV 0,N aW 0,N aY 0,N p 0,N t 0,vI d.2.2.2.2.2.2.2.2.2.2.1,.func (.func 168) #[] #[]],W t [J d.2.2.2.2.2.2.2.2.1,ag],red U ag d.2.2.2.2.2.2.2.2.2.1,W p [J d.2.2.2.2.2.2.1,ad],red U ad d.2.2.2.2.2.2.2.1,W aY [J d.2.2.2.2.1,aA],red U aA d.2.2.2.2.2.1,W aW [J d.2.2.1,ay],red U ay d.2.2.2.1,W aV [J d.1,ap],red U ap d.2.1]) (os:=[W aZ [.slice none 0 0,.slice none 0 0,J false],W aS [N z 0,N A 0,N B 0],W D [N p 0,N t 0,N u 0],W bi [N T 0,N ab 0,N ac 0],W bn [N bp 0,N bq 0,N br 0]]) (fun i=>[5,7,8].contains i) (fun i=>none) (fun i=>if i=8 then [7] else []) (fun i=>if i=8 then [W bd [N a3 0,N aN 0,N aO 0]] else []) (fun i=>if i=5 then [8] else []) (fun i=>if i=8 then [7] else []) (fun i=>if i=5 then (fun h v x y=>v=.agg #[N a3 0,N aN 0,N aO 0]∧x=[]∧y=[]) else if i=7 then (fun h v x y=>∃m:Nat,∃n:Nat,∃o:Nat,∃f:Value,∃j:Value,∃l:Value,v=.agg #[N m 0,N n 0,N o 0]∧x=[]∧y=[red U f e.2.1,W m [J e.1,f],red U j e.2.2.2.1,W n [J e.2.2.1,j],red U l e.2.2.2.2.2,W o [J e.2.2.2.2.1,l]]) else (fun h v x y=>∃m:Nat,∃n:Nat,∃o:Nat,∃f:Value,∃j:Value,∃l:Value,h=[(.agg #[N m 0,N n 0,N o 0],[],[red U f e.2.1,W m [J e.1,f],red U j e.2.2.2.1,W n [J e.2.2.1,j],red U l e.2.2.2.2.2,W o [J e.2.2.2.2.1,l]])]∧v=undef∧x=[W bd [N m 0,N n 0,N o 0]]∧y=[red U f e.2.1,W m [J e.1,f],red U j e.2.2.2.1,W n [J e.2.2.1,j],red U l e.2.2.2.2.2,W o [J e.2.2.2.2.1,l]])) (SfT.mk' hZ a b (c.pick (os':=[W bd [N a3 0,N aN 0,N aO 0],W aZ [.slice none 0 0,.slice none 0 0,J false],W aS [N z 0,N A 0,N B 0],W D [N p 0,N t 0,N u 0],W bi [N T 0,N ab 0,N ac 0],W bn [N bp 0,N bq 0,N br 0]]) [4,0,1,2,3,5] (by decide) rfl)) (fun k hk=>(if_neg (fun q=>by subst q; exact absurd hk (by decide)))) hTT rfl (fun i=>(dH (by rintro h v x y ⟨rfl,rfl,rfl⟩; exact cM rfl) (dH (by rintro h v x y ⟨_,_,_,_,_,_,rfl,rfl,rfl⟩; exact cM rfl) (by rintro h v x y ⟨_,_,_,_,_,_,_,rfl,rfl,rfl⟩; exact cM rfl)))) bS (by kernel_rfl) (by kernel_rfl) ?_
   show fv _ _ _ _ _ _ _ _ _ _ _ _ _ _ _ _ [0,1,2,3,4,5,6,7,8] _ _
   refine bu Z Z (fun w Sb wb hZ a b hF=>ar Z) Z (bu Z Z (fun w Sb wb hZ a b hF=>aK Z) Z (bu Z Z (fun w Sb wb hZ a b hF=>av (k:=6) u76 Z Z Am Z) Z (bu Z Z (fun w Sb wb hZ a b hF=>aC Tryz.underlying74 Z Z ((a.rb 10 Z).cell hF.fr 6 Z)) Z (bu Z Z (fun w Sb wb hZ a b hF=>ar Z) Z ?_))))
   refine gO (fun h v x y=>v=.agg #[N a3 0,N aN 0,N aO 0]∧x=[]∧y=[]) [] [] [] [W bd [N a3 0,N aN 0,N aO 0],W aZ [.slice none 0 0,.slice none 0 0,J false],W aS [N z 0,N A 0,N B 0],W D [N p 0,N t 0,N u 0],W bi [N T 0,N ab 0,N ac 0],W bn [N bp 0,N bq 0,N br 0]] Z Z (fun h v x y=>Z) Z Z Z Z ⟨_,_,_,Z,Z,Z⟩ (fun w Sl Tl hZ hTT a b c=>?_) Z ?_
   ·exact yL (bo (us:=[N a3 0,N aN 0,N aO 0]) u91 Z bB Z (c.q 0 Z Z)) ⟨_,_,⟨Z,Z,Z⟩,SfT.mk' hZ Q.nil O.nil c⟩
   rintro v_q x_q y_q ⟨rfl,rfl,rfl⟩
   refine bu Z Z (fun w Sb wb hZ a b hF=>bo (us:=[N bp 0,N bq 0,N br 0]) u91 Z bB Z (hF.q 4 Z Z)) Z ?_
   refine oJ (fun h v x y=>∃m:Nat,∃n:Nat,∃o:Nat,∃f:Value,∃j:Value,∃l:Value,v=.agg #[N m 0,N n 0,N o 0]∧x=[]∧y=[red U f e.2.1,W m [J e.1,f],red U j e.2.2.2.1,W n [J e.2.2.1,j],red U l e.2.2.2.2.2,W o [J e.2.2.2.2.1,l]]) [] [] [] _ Z Z (fun h v x y=>Z) Z Z Z Z ⟨_,_,_,0,0,0,undef,undef,undef,Z,Z,Z⟩ Z (by kernel_rfl) Z (fun w Sl Tl hZ hTT a b c=>?_) Z ?_
   ·replace c:=c.pick (os':=[]++[W aZ [.slice none 0 0,.slice none 0 0,J false],W aS [N z 0,N A 0,N B 0],W D [N p 0,N t 0,N u 0],W bi [N T 0,N ab 0,N ac 0],W bn [N bp 0,N bq 0,N br 0]]) [0,1,2,3,4] (by decide) rfl
    obtain ⟨hZ,a,b,c⟩:=hZ.frzK hTT a b c
    refine dh (l9 d.1 d.2.2.1 d.2.2.2.2.1 d.2.2.2.2.2.2.1 d.2.2.2.2.2.2.2.2.1 d.2.2.2.2.2.2.2.2.2.2.1 bJ bA bD true cF cG cH cS (hZ.okT hTT c) (a.j b 0 Z) (a.k b 1 Z) (a.j b 2 Z) (a.k b 3 Z) (a.j b 4 Z) (a.k b 5 Z) (a.j b 6 Z) (a.k b 7 Z) (a.j b 8 Z) (a.k b 9 Z) (a.k b 10 Z) (a.j b 29 Z) (a.k b 30 Z) (a.j b 31 Z) (a.k b 32 Z) (a.j b 33 Z) (a.k b 34 Z) (a.j b 35 Z) (a.k b 36 Z) (a.j b 37 Z) (a.k b 38 Z) (a.j b 39 Z) (a.k b 40 Z)) ?_
    rintro _ w ⟨m,f,n,j,o,l,rfl,aB,ct⟩
    obtain ⟨dG,dg,hZ,a,b,c⟩:=hZ.m a b c aB ct rfl
    exact ⟨_,_,⟨m,n,o,f,j,l,Z,Z,Z⟩,SfT.mk' hZ (Y (a.b 41 Z) (Y (a.b 42 Z) (Y (a.b 43 Z) (Y (a.b 44 Z) (Y (a.b 45 Z) (Y (a.b 46 Z) Q.nil)))))) (X (b.b 41 Z) (X (b.b 42 Z) (X (b.b 43 Z) (X (b.b 44 Z) (X (b.b 45 Z) (X (b.b 46 Z) O.nil)))))) c⟩
   rintro v_q x_q y_q ⟨m,n,o,f,j,l,rfl,rfl,rfl⟩
   refine ow (fun h v x y=>∃m:Nat,∃n:Nat,∃o:Nat,∃f:Value,∃j:Value,∃l:Value,h=[(.agg #[N m 0,N n 0,N o 0],[],[red U f e.2.1,W m [J e.1,f],red U j e.2.2.2.1,W n [J e.2.2.1,j],red U l e.2.2.2.2.2,W o [J e.2.2.2.2.1,l]])]∧v=undef∧x=[W bd [N m 0,N n 0,N o 0]]∧y=[red U f e.2.1,W m [J e.1,f],red U j e.2.2.2.1,W n [J e.2.2.1,j],red U l e.2.2.2.2.2,W o [J e.2.2.2.2.1,l]]) [(.agg #[N m 0,N n 0,N o 0],[],[red U f e.2.1,W m [J e.1,f],red U j e.2.2.2.1,W n [J e.2.2.1,j],red U l e.2.2.2.2.2,W o [J e.2.2.2.2.1,l]])] [W bd [N a3 0,N aN 0,N aO 0]] [red U f e.2.1,W m [J e.1,f],red U j e.2.2.2.1,W n [J e.2.2.1,j],red U l e.2.2.2.2.2,W o [J e.2.2.2.2.1,l]] _ Z Z (fun h v x y=>Z) Z Z Z Z ⟨_,_,_,m,n,o,f,j,l,Z,Z,Z,Z⟩ (fun w Sl Tl hZ hTT a b c=>?_) ?_
   ·refine mq (a7 (i:=0) (us:=[N m 0,N n 0,N o 0]) Z bB Z Z Z ⟨Z,Z,Z,V⟩ Z c) ?_
    intro w c
    exact ⟨_,_,⟨m,n,o,f,j,l,Z,Z,Z,Z⟩,SfT.mk' hZ (Y (a.b 46 Z) (Y (a.b 45 Z) (Y (a.b 44 Z) (Y (a.b 43 Z) (Y (a.b 42 Z) (Y (a.b 41 Z) Q.nil)))))) (X (b.b 46 Z) (X (b.b 45 Z) (X (b.b 44 Z) (X (b.b 43 Z) (X (b.b 42 Z) (X (b.b 41 Z) O.nil)))))) c⟩
   rintro v_q x_q y_q ⟨b0_155_0',b0_155_1',b0_155_2',u0_155_0_1',u0_155_1_1',u0_155_2_1',hh,rfl,rfl,rfl⟩
   replace hh:([(.agg #[N m 0,N n 0,N o 0],[],[red U f e.2.1,W m [J e.1,f],red U j e.2.2.2.1,W n [J e.2.2.1,j],red U l e.2.2.2.2.2,W o [J e.2.2.2.2.1,l]])]:List Th)=[(.agg #[N b0_155_0' 0,N b0_155_1' 0,N b0_155_2' 0],[],[red U u0_155_0_1' e.2.1,W b0_155_0' [J e.1,u0_155_0_1'],red U u0_155_1_1' e.2.2.2.1,W b0_155_1' [J e.2.2.1,u0_155_1_1'],red U u0_155_2_1' e.2.2.2.2.2,W b0_155_2' [J e.2.2.2.2.1,u0_155_2_1']])]:=hh
   cases hh
   refine gN fun w hQ=>?_
   obtain ⟨dI,di,hZ,a,b,c⟩:=hQ
   refine aU ?_
   refine M (af (P 3 Z ?_))
   refine H ?_
   exact bv (bz _ (by exact ⟨Z,Z,Z,Z,Z,Z,Z,Z,Z,V⟩) (cO (wI (bH - 1),e.1,e.2.1,e.2.2.1,e.2.2.2.1,e.2.2.2.2.1,e.2.2.2.2.2) _ _ ⟨m,f,n,j,o,l,Z,(SfT.mk' hZ (Y (a.b 41 Z) (Y (a.b 42 Z) (Y (a.b 43 Z) (Y (a.b 44 Z) (Y (a.b 45 Z) (Y (a.b 46 Z) (Y (a.b 28 Z) (Y (a.b 27 Z) (Y (a.b 26 Z) (Y (a.b 25 Z) (Y (a.b 24 Z) (Y (a.b 23 Z) (Y (a.b 22 Z) (Y (a.b 21 Z) (Y (a.b 20 Z) (Y (a.b 19 Z) (Y (a.b 18 Z) (Y (a.b 17 Z) (Y (a.b 16 Z) (Y (a.b 15 Z) (Y (a.b 14 Z) (Y (a.b 13 Z) (Y (a.b 12 Z) (Y (a.b 11 Z) (Y (a.b 10 Z) (Y (a.b 9 Z) (Y (a.b 8 Z) (Y (a.b 7 Z) (Y (a.b 6 Z) (Y (a.b 5 Z) (Y (a.b 4 Z) (Y (a.b 3 Z) (Y (a.b 2 Z) (Y (a.b 1 Z) (Y (a.b 0 Z) Q.nil))))))))))))))))))))))))))))))))))) (X (b.b 41 Z) (X (b.b 42 Z) (X (b.b 43 Z) (X (b.b 44 Z) (X (b.b 45 Z) (X (b.b 46 Z) (X (b.b 28 Z) (X (b.b 27 Z) (X (b.b 26 Z) (X (b.b 25 Z) (X (b.b 24 Z) (X (b.b 23 Z) (X (b.b 22 Z) (X (b.b 21 Z) (X (b.b 20 Z) (X (b.b 19 Z) (X (b.b 18 Z) (X (b.b 17 Z) (X (b.b 16 Z) (X (b.b 15 Z) (X (b.b 14 Z) (X (b.b 13 Z) (X (b.b 12 Z) (X (b.b 11 Z) (X (b.b 10 Z) (X (b.b 9 Z) (X (b.b 8 Z) (X (b.b 7 Z) (X (b.b 6 Z) (X (b.b 5 Z) (X (b.b 4 Z) (X (b.b 3 Z) (X (b.b 2 Z) (X (b.b 1 Z) (X (b.b 0 Z) O.nil))))))))))))))))))))))))))))))))))) (c.e [1,2,3,4,0] Z Z))⟩ (ba h cu)))
  have h:=aH h b4
  refine bh ?_
  refine aI (aI ?_)
  have h:=aX h cu
  refine bg ?_
  refine M (I (af (P 1 Z ?_)))
  refine am (bo (us:=[N a3 0,N aN 0,N aO 0]) u91 Z bB Z (c.q 4 Z Z)) Z ?_
  obtain ⟨cI,cT,h⟩:=aj h
  refine ao Z (fw d.1 d.2.2.1 d.2.2.2.2.1 d.2.2.2.2.2.2.1 d.2.2.2.2.2.2.2.2.1 d.2.2.2.2.2.2.2.2.2.2.1 bJ bA bD cT ((a.rp 0 Z).d c.fr).rp ((a.rb 1 Z).d c.fr) ((a.rp 2 Z).d c.fr).rp ((a.rb 3 Z).d c.fr) ((a.rp 4 Z).d c.fr).rp ((a.rb 5 Z).d c.fr) ((a.rp 6 Z).d c.fr).rp ((a.rb 7 Z).d c.fr) ((a.rp 8 Z).d c.fr).rp ((a.rb 9 Z).d c.fr) ((a.rb 10 Z).d c.fr) ((a.rp 29 Z).d c.fr).rp ((a.rb 30 Z).d c.fr) ((a.rp 31 Z).d c.fr).rp ((a.rb 32 Z).d c.fr) ((a.rp 33 Z).d c.fr).rp ((a.rb 34 Z).d c.fr)) Z ?_
  rintro _ w ⟨cm,cn,rfl,aB⟩
  have c:=c.f aB
  refine bb (a7 (i:=2) (us:=[cm,cn,J cI.2.2]) Z bI Z Z Z ⟨(c.ro 0 Z).one,(c.ro 1 Z).one,Z,V⟩ Z c) ?_
  intro w c
  refine P 1 Z ?_
  refine H (M (aw ?_))
  cases h
  replace c:=hZ.st c
  exact dk Z ⟨_,Z,bC (us:=[cm,cn,J cI.2.2]) u33 Z bI (c.q 2 Z Z)⟩ Z ⟨cm,cn,Z,c.e [0,1] Z Z⟩
end Go.Proofs
