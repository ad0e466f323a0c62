import Derived.Test.YtpndnjnogehdfaaGreatDoorRW0
import Derived.Test.YtpndnjnogehdfaaGreatDoorRAw
import Derived.Test.YtpndnjnogehdfaaGreatDoorGkFman
import Derived.Test.YtpndnjnogehdfaaGreatDoorRWcbora
import Derived.Test.YtpndnjnogehdfaaGreatDoorRWlib
set_option linter.unusedVariables false
set_option linter.unusedSimpArgs false
set_option linter.unusedSectionVars false
set_option maxRecDepth 20000
set_option maxHeartbeats 20000000
namespace Go.Proofs
open Go Go.RowKit Go.Gk
open Go.Gk renaming RP -> N, Ret -> K, al -> O, e8 -> H, eP -> J, own -> W, pB -> R, v64 -> M, vB -> V, vI -> U
open Go.Gk.OE renaming bx -> Y
theorem B7 {m:World} {a0:Y3} {a:Value} {S:Y4} (a1:Int) (a2:UInt64) {r:Y3}
  (h:F.Vl a0 a1 a2=some r) (hS:St S m m [W H a a0]):Calls Tryz.prog 45 #[a,U a1,M a2] m (K fun v w=>∃u0:Value,v=u0/\St S m w [W H u0 r]):=by
 refine eZ 73 Tryz.func45 Z Z Z<|gl [(0,a),(1,U a1),(2,M a2)] Z ?_
 unfold F.Vl at h
 refine gl4<|O 1 Z<|gl2<|O 1 Z<|aT (bE Z Z (IL _ a1 5)) Z<|aT (gr Z (FV Tryz.underlying3 Tryz.underlying5 (gA a1 5))) Z<|O 1 Z<|gl2<|oq (kX (cs:=[v8 0,v8 0,v8 0,v8 0,v8 0,v8 0,v8 0,v8 0]) JA Z hS) Z fun d w hS=>gl1<|gl4<|O 1 Z<|gl3<|cx<|yV 100<|ki<|gl4<|aT (bE Z Z (kV _ 0 8)) Z<|gl1<|ja Z<|gl5<|cb<|cx<|gl4<|O 2 Z<|gl3<|bC<|O 3 Z<|aT (bE Z Z (lI _ 8 0)) Z<|aT (bE Z Z (lO _ 56 0)) Z<|aT (bE Z Z (kb _ a2 56 (by decide))) Z<|aT (gr Z (kq u62 Tryz.underlying5 (bb a2 56))) Z<|aT (kK u168 sz5 Z Z (by decide) (by decide)) Z<|gh (jf (i:=0) (us:=[v8 ((bb a2 56).toUInt8)]) Z sz5 Z Z Z ⟨Z,trivial⟩ Z hS) fun w hS=>c6<|ef<|bp ?_
 refine bC<|aT (bE Z Z (lH _ 0 1)) Z<|O 1 Z<|c6<|gZ<|ki<|gl4<|aT (bE Z Z (kV _ 1 8)) Z<|gl1<|ja Z<|gl5<|cb<|cx<|gl4<|O 2 Z<|gl3<|bC<|O 3 Z<|aT (bE Z Z (lI _ 8 1)) Z<|aT (bE Z Z (lO _ 56 8)) Z<|aT (bE Z Z (kb _ a2 48 (by decide))) Z<|aT (gr Z (kq u62 Tryz.underlying5 (bb a2 48))) Z<|aT (kK u168 sz5 Z Z (by decide) (by decide)) Z<|gh (jf (i:=0) (us:=[v8 ((bb a2 48).toUInt8)]) Z sz5 Z Z Z ⟨Z,trivial⟩ Z hS) fun w hS=>c6<|ef<|bp ?_
 refine bC<|aT (bE Z Z (lH _ 1 1)) Z<|O 1 Z<|c6<|gZ<|ki<|gl4<|aT (bE Z Z (kV _ 2 8)) Z<|gl1<|ja Z<|gl5<|cb<|cx<|gl4<|O 2 Z<|gl3<|bC<|O 3 Z<|aT (bE Z Z (lI _ 8 2)) Z<|aT (bE Z Z (lO _ 56 16)) Z<|aT (bE Z Z (kb _ a2 40 (by decide))) Z<|aT (gr Z (kq u62 Tryz.underlying5 (bb a2 40))) Z<|aT (kK u168 sz5 Z Z (by decide) (by decide)) Z<|gh (jf (i:=0) (us:=[v8 ((bb a2 40).toUInt8)]) Z sz5 Z Z Z ⟨Z,trivial⟩ Z hS) fun w hS=>c6<|ef<|bp ?_
 refine bC<|aT (bE Z Z (lH _ 2 1)) Z<|O 1 Z<|c6<|gZ<|ki<|gl4<|aT (bE Z Z (kV _ 3 8)) Z<|gl1<|ja Z<|gl5<|cb<|cx<|gl4<|O 2 Z<|gl3<|bC<|O 3 Z<|aT (bE Z Z (lI _ 8 3)) Z<|aT (bE Z Z (lO _ 56 24)) Z<|aT (bE Z Z (kb _ a2 32 (by decide))) Z<|aT (gr Z (kq u62 Tryz.underlying5 (bb a2 32))) Z<|aT (kK u168 sz5 Z Z (by decide) (by decide)) Z<|gh (jf (i:=0) (us:=[v8 ((bb a2 32).toUInt8)]) Z sz5 Z Z Z ⟨Z,trivial⟩ Z hS) fun w hS=>c6<|ef<|bp ?_
 refine bC<|aT (bE Z Z (lH _ 3 1)) Z<|O 1 Z<|c6<|gZ<|ki<|gl4<|aT (bE Z Z (kV _ 4 8)) Z<|gl1<|ja Z<|gl5<|cb<|cx<|gl4<|O 2 Z<|gl3<|bC<|O 3 Z<|aT (bE Z Z (lI _ 8 4)) Z<|aT (bE Z Z (lO _ 56 32)) Z<|aT (bE Z Z (kb _ a2 24 (by decide))) Z<|aT (gr Z (kq u62 Tryz.underlying5 (bb a2 24))) Z<|aT (kK u168 sz5 Z Z (by decide) (by decide)) Z<|gh (jf (i:=0) (us:=[v8 ((bb a2 24).toUInt8)]) Z sz5 Z Z Z ⟨Z,trivial⟩ Z hS) fun w hS=>c6<|ef<|bp ?_
 refine bC<|aT (bE Z Z (lH _ 4 1)) Z<|O 1 Z<|c6<|gZ<|ki<|gl4<|aT (bE Z Z (kV _ 5 8)) Z<|gl1<|ja Z<|gl5<|cb<|cx<|gl4<|O 2 Z<|gl3<|bC<|O 3 Z<|aT (bE Z Z (lI _ 8 5)) Z<|aT (bE Z Z (lO _ 56 40)) Z<|aT (bE Z Z (kb _ a2 16 (by decide))) Z<|aT (gr Z (kq u62 Tryz.underlying5 (bb a2 16))) Z<|aT (kK u168 sz5 Z Z (by decide) (by decide)) Z<|gh (jf (i:=0) (us:=[v8 ((bb a2 16).toUInt8)]) Z sz5 Z Z Z ⟨Z,trivial⟩ Z hS) fun w hS=>c6<|ef<|bp ?_
 refine bC<|aT (bE Z Z (lH _ 5 1)) Z<|O 1 Z<|c6<|gZ<|ki<|gl4<|aT (bE Z Z (kV _ 6 8)) Z<|gl1<|ja Z<|gl5<|cb<|cx<|gl4<|O 2 Z<|gl3<|bC<|O 3 Z<|aT (bE Z Z (lI _ 8 6)) Z<|aT (bE Z Z (lO _ 56 48)) Z<|aT (bE Z Z (kb _ a2 8 (by decide))) Z<|aT (gr Z (kq u62 Tryz.underlying5 (bb a2 8))) Z<|aT (kK u168 sz5 Z Z (by decide) (by decide)) Z<|gh (jf (i:=0) (us:=[v8 ((bb a2 8).toUInt8)]) Z sz5 Z Z Z ⟨Z,trivial⟩ Z hS) fun w hS=>c6<|ef<|bp ?_
 refine bC<|aT (bE Z Z (lH _ 6 1)) Z<|O 1 Z<|c6<|gZ<|ki<|gl4<|aT (bE Z Z (kV _ 7 8)) Z<|gl1<|ja Z<|gl5<|cb<|cx<|gl4<|O 2 Z<|gl3<|bC<|O 3 Z<|aT (bE Z Z (lI _ 8 7)) Z<|aT (bE Z Z (lO _ 56 56)) Z<|aT (bE Z Z (kb _ a2 0 (by decide))) Z<|aT (gr Z (kq u62 Tryz.underlying5 (bb a2 0))) Z<|aT (kK u168 sz5 Z Z (by decide) (by decide)) Z<|gh (jf (i:=0) (us:=[v8 ((bb a2 0).toUInt8)]) Z sz5 Z Z Z ⟨Z,trivial⟩ Z hS) fun w hS=>c6<|ef<|bp ?_
 refine bC<|aT (bE Z Z (lH _ 7 1)) Z<|O 1 Z<|c6<|gZ<|ki<|gl4<|aT (bE Z Z (kV _ 8 8)) Z<|gl1<|rE Z<|eE<|bu<|bu<|eF<|bp<|gl4<|O 1 Z<|bZ h fun n B h=>nu hS Z (rT a2 B ) Z fun w hS=>O 1 Z<|gl2<|O 1 Z<|gl3<|cx<|gl4<|O 2 Z<|gl3 ?_
 apply gl9 Z h<;>intro h
 ·refine gl4<|O 3 Z<|aT (gr Z (kq u62 Tryz.underlying5 a2)) Z<|aT (bE Z Z (yo _ (UInt8.ofInt (gA a1 5)) a2.toUInt8)) Z<|jC (jW (e:=H) (l:=[(UInt8.ofInt (gA a1 5)) ||| a2.toUInt8]) (vs:=[v8 ((UInt8.ofInt (gA a1 5)) ||| a2.toUInt8)]) u22 ti5 Z Z Z Z (by decide) (by decide) hS) Z fun ap w hS=>bZ h fun aq C h=>jC (qi u22 ti5 Z Z Z hS (i:=2) Z (hS.ro 0 Z) C) Z fun ab w hS=>O 1 Z<|gl3<|f5<|dR ?_
  cases h
  exact gC Z Z ⟨ab,Z,hS.f [2] Z Z⟩
 refine gl4<|O 2 Z<|gl3 ?_
 apply gl9 Z h<;>intro h
 ·refine gl4<|O 1 Z<|aT (bE Z Z (yo _ (UInt8.ofInt (gA a1 5)) 24)) Z<|kI h fun c p h=>aT (dz (v:=v8 c) (by rw[<-p]; rfl)) Z<|gl2<|O 3 Z<|aT (gr Z (kq u62 Tryz.underlying5 a2)) Z<|jC (jW (e:=H) (l:=[c,a2.toUInt8]) (vs:=[v8 c,v8 a2.toUInt8]) u22 ti5 Z Z Z Z (by decide) (by decide) hS) Z fun ae w hS=>bZ h fun af q h=>jC (qi u22 ti5 Z Z Z hS (i:=2) Z (hS.ro 0 Z) q) Z fun D w hS=>O 1 Z<|gl3<|f5<|dR ?_
  cases h
  exact gC Z Z ⟨D,Z,hS.f [2] Z Z⟩
 refine cb<|gl4<|O 1 Z<|gl3<|cx<|gl [(0,a),(7,v8 (UInt8.ofInt (gA a1 5))),(8,R d 0),(10,U n),(11,U 1)] Z ?_
 refine ji (F.Q1 a0 a2 n) (fun (s:UInt8×Int) L w=>L=[(0,a),(7,v8 s.1),(8,R d 0),(10,U n),(11,U s.2)]/\St S m w [W H a a0,Y d [v8 ((bb a2 56).toUInt8),v8 ((bb a2 48).toUInt8),v8 ((bb a2 40).toUInt8),v8 ((bb a2 32).toUInt8),v8 ((bb a2 24).toUInt8),v8 ((bb a2 16).toUInt8),v8 ((bb a2 8).toUInt8),v8 ((bb a2 0).toUInt8)]]) ?_ (UInt8.ofInt (gA a1 5),1) ⟨Z,(hS.f [1,0] Z Z)⟩ h
 rintro ag ⟨b,o⟩ L w ah hI u h f
 try dsimp only at hI
 obtain⟨rfl,hS⟩:=hI
 unfold F.Q1 at h
 refine cb<|gl4<|O 3 Z<|gl3 ?_
 apply gl9 Z h<;>intro h
 ·exact gl5<|cb<|cx<|bC<|O 1 Z<|aT (bE Z Z (LO _ b 1)) Z<|O 1 Z<|c6<|ef<|bp<|bC<|O 1 Z<|aT (bE Z Z (lI _ o 2)) Z<|O 1 Z<|c6<|gZ (ko (u (b+1,wI (o*2)) _ _ ⟨Z,hS⟩ (ia h f)) Z)
 refine eE<|bu<|bu<|have h:=fV h f;eF<|bp<|gl4<|O 2 Z<|bZ h fun ai x h=>jC (rV (e:=H) u22 ti5 Z Z Z hS x) Z fun E w hS=>O 1 Z<|gl2<|O 2 Z<|aT (bE Z Z (yo _ b 24)) Z<|bZ h fun aj g h=>aT (kP u22 ti5 Z Z (hS.ro 0 Z) g) Z<|gh (qD (t:=(b ||| 24)) ti5 Z Z hS (i:=0) Z g Z) fun w hS=>kI h fun G y h=>?_
 rw[y]at hS
 refine gl1<|pq (fun w'=>St S m w' [W H E G,W H a a0,Y d [v8 ((bb a2 56).toUInt8),v8 ((bb a2 48).toUInt8),v8 ((bb a2 40).toUInt8),v8 ((bb a2 32).toUInt8),v8 ((bb a2 24).toUInt8),v8 ((bb a2 16).toUInt8),v8 ((bb a2 8).toUInt8),v8 ((bb a2 0).toUInt8)]]) (fun i=>!([5].contains i)) ky (fun _ _ _ T=>T.2) (fun _ _ T=>T) (by kernel_rfl)<|have hS:=hS.drew;show lxE _ _ _ _ _ _ _ [0,1,2,3,4,5] _ _ from cM 1 Z hS<|bZ h fun ak j h=>dg hS Z Z (fun w hF=>uh u22 ti5 Z Z (hF.ro 0 Z) j) Z<|cM 2 Z hS<|bZ h fun am k h=>dg hS Z Z (fun w hF=>OH (e:=H) (l:=([(bb a2 56).toUInt8,(bb a2 48).toUInt8,(bb a2 40).toUInt8,(bb a2 32).toUInt8,(bb a2 24).toUInt8,(bb a2 16).toUInt8,(bb a2 8).toUInt8,(bb a2 0).toUInt8]:Y3)) u168 ti5 Z Z Z k) Z<|uS hS Z Z (tZ (e:=H) u22 ti5 Z Z Z hS (i:=0) Z ((hS.bxro 2 Z Z).g_sll k) (kD j).1.2 (av _)) Z ?_
 rintro v_q w ⟨hv_q,hS⟩
 subst v_q
 obtain⟨an,z,h⟩:=ic h
 rw[z]at hS
 refine jk trivial<|bp<|gl4<|O 2 Z<|bZ h fun ao A h=>jC (qi u22 ti5 Z Z Z hS (i:=1) Z (hS.ro 0 Z) A) Z fun aa w hS=>O 1 Z<|gl3<|f5<|dR ?_
 cases h
 exact gC Z Z ⟨aa,Z,hS.f [1] Z Z⟩
theorem vt (rc:Y3->(List (Int×UInt64×Y3×Int))->Int->Int->Option (Y3×Int)) (hrc:∀(o:World) (a0:Y3) (a1:List (Int×UInt64×Y3×Int)) (a2:Int) (a3:Int) (j:Value) (l:Value) (S:Y4) (hS:St S o o [W H j a0]) (hT:TB S o) (aG:N S o (J eI (J e64 (J eS eI))) l a1) (r:Y3×Int),rc a0 a1 a2 a3=some r->Calls Tryz.prog 17 #[j,l,U a2,U a3] o (K fun v w=>∃u0:Value,v=.tuple #[u0,U r.2]/\St S o w [W H u0 r.1])) (o:World) (a0:Y3) (a1:List (Int×UInt64×Y3×Int)) (a2:Int) (a3:Int) (j:Value) (l:Value) (S:Y4) (hS:St S o o [W H j a0]) (hT:TB S o) (aG:N S o (J eI (J e64 (J eS eI))) l a1) (r:Y3×Int)
  (h:F.Vy rc a0 a1 a2 a3=some r):Calls Tryz.prog 17 #[j,l,U a2,U a3] o (K fun v w=>∃u0:Value,v=.tuple #[u0,U r.2]/\St S o w [W H u0 r.1]):=by
 refine eZ 192 Tryz.func17 Z Z Z<|gl [(0,j),(1,l),(2,U a2),(3,U a3)] Z ?_
 unfold F.Vy at h
 refine gl4<|O 2 Z<|gl1<|gl4<|O 2 Z<|aT (fc u33 Z (aG.now hS.fr)) Z<|O 1 Z<|gl3 ?_
 apply gl9 Z h<;>intro h
 ·refine gl4<|O 2 Z<|gl8 ?_
  cases h
  exact jw Z Z Z ⟨Y5,Z,(hS.nil H).f [0] Z Z⟩
 refine gl6<|O 2 Z<|bZ h fun a aR h=>aT (kP u33 DB Z Z (aG.now hS.fr) aR) Z<|aT (vK Tryz.underlying64 Z yR Z (aG.now hS.fr) aR) Z<|oq (kX (cs:=[U 0,M 0,vS [],U 0]) Nd Z hS) Z fun f w hS=>gh (jf (i:=0) (us:=[U a.1,M a.2.1,vS a.2.2.1,U a.2.2.2]) Z yR Z Z Z ⟨Z,Z,Z,Z,trivial⟩ Z hS) fun w hS=>gl3 ?_
 refine gI (r:=r) (fun (g:Bool×Bool×Bool) L w=>L=[(0,j),(1,l),(2,U a2),(3,U a3),(10,R f 0),(11,V g.1),(12,V g.2.1),(13,V g.2.2)]/\St S o w [W H j a0,Y f [U a.1,M a.2.1,vS a.2.2.1,U a.2.2.2]]) (F.QK a a3 a0 a2 a1 rc) ?_ ?_
 rotate_left
 ·intro u
  refine kj (fun w'=>St S o w' [Y f [U a.1,M a.2.1,vS a.2.2.1,U a.2.2.2],W H j a0]) (fun _=>true) ky (fun _ _ _ hf=>hf.2) (fun _ _ hf=>hf) (by kernel_rfl)<|have hS:=hS.drew;show lxE _ _ _ _ _ _ _ [0,1,2,3,4,5,6,7,8,9,10,11,12,13,14,15,16,17,18,19,20,21,22,23,24,25,26] _ _ from dg hS Z Z (fun w c=>bc (k:=0) Tryz.underlying64 Z Z nz3 Z) Z<|dg hS Z Z (fun w c=>bY Tryz.underlying3 Z Z (c.s 0 Z 0)) Z<|cM 2 Z hS ?_
  cases ay:(a.1 == 2)
  case true=>
   have h:=fD h ay
   try simp only[ay]
   refine eG (b:=true) (t:=30) hS Z Z Z Z Z Z<|eG (b:=true) (t:=30) hS Z Z Z Z Z Z<|eG (b:=true) (t:=30) hS Z Z Z Z Z Z<|cM 1 Z hS<|dg hS Z Z (fun w c=>bc (k:=0) Tryz.underlying64 Z Z nz3 Z) Z<|dg hS Z Z (fun w c=>bY Tryz.underlying3 Z Z (c.s 0 Z 0)) Z<|cM 2 Z hS ?_
   cases az:(decide (a.1<2))
   case true=>
    have h:=fD h az
    try simp only[az]
    refine eG (b:=true) (t:=38) hS Z Z Z Z Z Z<|eG (b:=true) (t:=38) hS Z Z Z Z Z Z<|eG (b:=true) (t:=38) hS Z Z Z Z Z Z<|cM 1 Z hS<|dg hS Z Z (fun w c=>bc (k:=0) Tryz.underlying64 Z Z nz3 Z) Z<|dg hS Z Z (fun w c=>bY Tryz.underlying3 Z Z (c.s 0 Z 0)) Z<|cM 2 Z hS ?_
    cases aA:(decide ((4:Int)<=a.1))
    case true=>
     have h:=fD h aA
     try simp only[aA]
     exact gu (t:=46) hS Z Z Z Z (fun w c=>bc (k:=0) Tryz.underlying64 Z Z nz3 Z) Z<|gu (t:=46) hS Z Z Z Z (fun w c=>bY Tryz.underlying3 Z Z (c.s 0 Z 0)) Z<|gu (t:=46) hS Z Z Z Z (fun w c=>bE Z Z (qa _ a.1 6)) Z<|cM 4 Z hS<|jk hS<|bp<|cz (u (true,true,decide (a.1<=6)) _ _ ⟨Z,(hS.f [1,0] Z Z)⟩ h) Z
    case false=>
     have h:=fE h aA
     try simp only[aA]
     exact eG (b:=false) (t:=46) hS Z Z Z Z Z Z<|eG (b:=false) (t:=46) hS Z Z Z Z Z Z<|eG (b:=false) (t:=46) hS Z Z Z Z Z Z<|cM 4 Z hS<|jk hS<|bp<|cz (u (true,true,false) _ _ ⟨Z,(hS.f [1,0] Z Z)⟩ h) Z
   case false=>
    have h:=fE h az
    try simp only[az]
    refine gu (t:=38) hS Z Z Z Z (fun w c=>bc (k:=0) Tryz.underlying64 Z Z nz3 Z) Z<|gu (t:=38) hS Z Z Z Z (fun w c=>bY Tryz.underlying3 Z Z (c.s 0 Z 0)) Z<|gu (t:=38) hS Z Z Z Z (fun w c=>bE Z Z (uy _ a.1 5)) Z<|cM 1 Z hS<|dg hS Z Z (fun w c=>bc (k:=0) Tryz.underlying64 Z Z nz3 Z) Z<|dg hS Z Z (fun w c=>bY Tryz.underlying3 Z Z (c.s 0 Z 0)) Z<|cM 2 Z hS ?_
    cases aB:(decide ((4:Int)<=a.1))
    case true=>
     have h:=fD h aB
     try simp only[aB]
     exact gu (t:=46) hS Z Z Z Z (fun w c=>bc (k:=0) Tryz.underlying64 Z Z nz3 Z) Z<|gu (t:=46) hS Z Z Z Z (fun w c=>bY Tryz.underlying3 Z Z (c.s 0 Z 0)) Z<|gu (t:=46) hS Z Z Z Z (fun w c=>bE Z Z (qa _ a.1 6)) Z<|cM 2 Z hS<|kI h fun bo br h=>dg hS Z Z (fun w c=>dz (v:=V bo) (by rw[<-br]; rfl)) Z<|cM 1 Z hS<|jk hS<|bp<|cz (u (true,bo,decide (a.1<=6)) _ _ ⟨Z,(hS.f [1,0] Z Z)⟩ h) Z
    case false=>
     have h:=fE h aB
     try simp only[aB]
     exact eG (b:=false) (t:=46) hS Z Z Z Z Z Z<|eG (b:=false) (t:=46) hS Z Z Z Z Z Z<|eG (b:=false) (t:=46) hS Z Z Z Z Z Z<|cM 2 Z hS<|kI h fun aS bb h=>dg hS Z Z (fun w c=>dz (v:=V aS) (by rw[<-bb]; rfl)) Z<|cM 1 Z hS<|jk hS<|bp<|cz (u (true,aS,false) _ _ ⟨Z,(hS.f [1,0] Z Z)⟩ h) Z
  case false=>
   have h:=fE h ay
   try simp only[ay]
   refine gu (t:=30) hS Z Z Z Z (fun w c=>bc (k:=0) Tryz.underlying64 Z Z nz3 Z) Z<|gu (t:=30) hS Z Z Z Z (fun w c=>bY Tryz.underlying3 Z Z (c.s 0 Z 0)) Z<|gu (t:=30) hS Z Z Z Z (fun w c=>bE Z Z (AM _ a.1 3)) Z<|cM 1 Z hS<|dg hS Z Z (fun w c=>bc (k:=0) Tryz.underlying64 Z Z nz3 Z) Z<|dg hS Z Z (fun w c=>bY Tryz.underlying3 Z Z (c.s 0 Z 0)) Z<|cM 2 Z hS ?_
   cases B:(decide (a.1<2))
   case true=>
    have h:=fD h B
    try simp only[B]
    refine eG (b:=true) (t:=38) hS Z Z Z Z Z Z<|eG (b:=true) (t:=38) hS Z Z Z Z Z Z<|eG (b:=true) (t:=38) hS Z Z Z Z Z Z<|cM 1 Z hS<|dg hS Z Z (fun w c=>bc (k:=0) Tryz.underlying64 Z Z nz3 Z) Z<|dg hS Z Z (fun w c=>bY Tryz.underlying3 Z Z (c.s 0 Z 0)) Z<|cM 2 Z hS ?_
    cases C:(decide ((4:Int)<=a.1))
    case true=>
     have h:=fD h C
     try simp only[C]
     exact gu (t:=46) hS Z Z Z Z (fun w c=>bc (k:=0) Tryz.underlying64 Z Z nz3 Z) Z<|gu (t:=46) hS Z Z Z Z (fun w c=>bY Tryz.underlying3 Z Z (c.s 0 Z 0)) Z<|gu (t:=46) hS Z Z Z Z (fun w c=>bE Z Z (qa _ a.1 6)) Z<|cM 4 Z hS<|jk hS<|bp<|cz (u (a.1 == 3,true,decide (a.1<=6)) _ _ ⟨Z,(hS.f [1,0] Z Z)⟩ h) Z
    case false=>
     have h:=fE h C
     try simp only[C]
     exact eG (b:=false) (t:=46) hS Z Z Z Z Z Z<|eG (b:=false) (t:=46) hS Z Z Z Z Z Z<|eG (b:=false) (t:=46) hS Z Z Z Z Z Z<|cM 4 Z hS<|jk hS<|bp<|cz (u (a.1 == 3,true,false) _ _ ⟨Z,(hS.f [1,0] Z Z)⟩ h) Z
   case false=>
    have h:=fE h B
    try simp only[B]
    refine gu (t:=38) hS Z Z Z Z (fun w c=>bc (k:=0) Tryz.underlying64 Z Z nz3 Z) Z<|gu (t:=38) hS Z Z Z Z (fun w c=>bY Tryz.underlying3 Z Z (c.s 0 Z 0)) Z<|gu (t:=38) hS Z Z Z Z (fun w c=>bE Z Z (uy _ a.1 5)) Z<|cM 1 Z hS<|dg hS Z Z (fun w c=>bc (k:=0) Tryz.underlying64 Z Z nz3 Z) Z<|dg hS Z Z (fun w c=>bY Tryz.underlying3 Z Z (c.s 0 Z 0)) Z<|cM 2 Z hS ?_
    cases D:(decide ((4:Int)<=a.1))
    case true=>
     have h:=fD h D
     try simp only[D]
     exact gu (t:=46) hS Z Z Z Z (fun w c=>bc (k:=0) Tryz.underlying64 Z Z nz3 Z) Z<|gu (t:=46) hS Z Z Z Z (fun w c=>bY Tryz.underlying3 Z Z (c.s 0 Z 0)) Z<|gu (t:=46) hS Z Z Z Z (fun w c=>bE Z Z (qa _ a.1 6)) Z<|cM 2 Z hS<|kI h fun aU bd h=>dg hS Z Z (fun w c=>dz (v:=V aU) (by rw[<-bd]; rfl)) Z<|cM 1 Z hS<|jk hS<|bp<|cz (u (a.1 == 3,aU,decide (a.1<=6)) _ _ ⟨Z,(hS.f [1,0] Z Z)⟩ h) Z
    case false=>
     have h:=fE h D
     try simp only[D]
     exact eG (b:=false) (t:=46) hS Z Z Z Z Z Z<|eG (b:=false) (t:=46) hS Z Z Z Z Z Z<|eG (b:=false) (t:=46) hS Z Z Z Z Z Z<|cM 2 Z hS<|kI h fun aV be h=>dg hS Z Z (fun w c=>dz (v:=V aV) (by rw[<-be]; rfl)) Z<|cM 1 Z hS<|jk hS<|bp<|cz (u (a.1 == 3,aV,false) _ _ ⟨Z,(hS.f [1,0] Z Z)⟩ h) Z
 rintro⟨bs,aW,m⟩ L w n h
 try dsimp only at n
 obtain⟨rfl,hS⟩:=n
 unfold F.QK at h
 refine cb ?_
 refine gI (r:=r) (fun (g:Bool) L w=>L=[(0,j),(1,l),(2,U a2),(3,U a3),(10,R f 0),(13,V m),(90,V g)]/\St S o w [W H j a0,Y f [U a.1,M a.2.1,vS a.2.2.1,U a.2.2.2]]) (F.QI a a3 m a0 a2 a1 rc) ?_ ?_
 rotate_left
 ·intro d
  refine bC<|aT (bc (k:=0) Tryz.underlying64 Z Z nz3 Z) Z<|aT (bY Tryz.underlying3 Z Z (hS.s 1 Z 0)) Z<|O 2 Z ?_
  cases E:(decide (a.1<0))
  case true=>
   have h:=fD h E
   try simp only[E]
   exact O 36 Z<|gl3<|cz (d true _ _ ⟨Z,hS⟩ h) Z
  case false=>
   have h:=fE h E
   try simp only[E]
   refine cc (t:=54) Z Z (bc (k:=0) Tryz.underlying64 Z Z nz3 Z) Z<|cc (t:=54) Z Z (bY Tryz.underlying3 Z Z (hS.s 1 Z 0)) Z<|O 3 Z ?_
   cases G:(decide ((7:Int)<a.1))
   case true=>
    have h:=fD h G
    try simp only[G]
    exact O 31 Z<|gl3<|cz (d true _ _ ⟨Z,hS⟩ h) Z
   case false=>
    have h:=fE h G
    try simp only[G]
    refine O 3 Z ?_
    cases T:(!bs)
    case true=>
     have h:=fD h T
     try simp only[T]
     refine cc (t:=62) Z Z (bc (k:=2) Tryz.underlying64 Z Z nz9 Z) Z<|cc (t:=62) Z Z (bY Tryz.underlying9 Z Z (hS.s 1 Z 2)) Z<|cc (t:=62) Z Z (bE Z Z (L1 _ a.2.2.1 [])) Z<|O 3 Z ?_
     cases aa:(a.2.2.1 != [])
     case true=>
      have h:=fD h aa
      try simp only[aa]
      exact O 22 Z<|gl3<|cz (d true _ _ ⟨Z,hS⟩ h) Z
     case false=>
      have h:=fE h aa
      try simp only[aa]
      refine O 3 Z ?_
      cases ab:(!aW)
      case true=>
       have h:=fD h ab
       try simp only[ab]
       refine cc (t:=71) Z Z (bc (k:=1) Tryz.underlying64 Z Z tz Z) Z<|cc (t:=71) Z Z (bY u62 Z Z (hS.s 1 Z 1)) Z<|cc (t:=71) Z Z (bE Z Z (wm _ a.2.1 0)) Z<|O 3 Z ?_
       cases ac:(a.2.1 != 0)
       case true=>
        have h:=fD h ac
        try simp only[ac]
        exact O 13 Z<|gl3<|cz (d true _ _ ⟨Z,hS⟩ h) Z
       case false=>
        have h:=fE h ac
        try simp only[ac]
        refine O 3 Z ?_
        cases ad:(!m)
        case true=>
         have h:=fD h ad
         try simp only[ad]
         refine cc (t:=80) Z Z (bc (k:=3) Tryz.underlying64 Z Z nz3 Z) Z<|cc (t:=80) Z Z (bY Tryz.underlying3 Z Z (hS.s 1 Z 3)) Z<|O 4 Z ?_
         cases ae:(a.2.2.2 != 0)
         case true=>
          have h:=fD h ae
          try simp only[ae]
          exact O 4 Z<|gl3<|cz (d true _ _ ⟨Z,hS⟩ h) Z
         case false=>
          have h:=fE h ae
          try simp only[ae]
          exact cc (t:=86) Z Z (bc (k:=3) Tryz.underlying64 Z Z nz3 Z) Z<|cc (t:=86) Z Z (bY Tryz.underlying3 Z Z (hS.s 1 Z 3)) Z<|O 2 Z<|gl3<|cz (d (decide (a.2.2.2<0)) _ _ ⟨Z,hS⟩ h) Z
        case false=>
         have h:=fE h ad
         try simp only[ad]
         exact O 6 Z<|cc (t:=86) Z Z (bc (k:=3) Tryz.underlying64 Z Z nz3 Z) Z<|cc (t:=86) Z Z (bY Tryz.underlying3 Z Z (hS.s 1 Z 3)) Z<|O 2 Z<|gl3<|cz (d (decide (a.2.2.2<0)) _ _ ⟨Z,hS⟩ h) Z
      case false=>
       have h:=fE h ab
       try simp only[ab]
       refine O 9 Z ?_
       cases af:(!m)
       case true=>
        have h:=fD h af
        try simp only[af]
        refine cc (t:=80) Z Z (bc (k:=3) Tryz.underlying64 Z Z nz3 Z) Z<|cc (t:=80) Z Z (bY Tryz.underlying3 Z Z (hS.s 1 Z 3)) Z<|O 4 Z ?_
        cases ag:(a.2.2.2 != 0)
        case true=>
         have h:=fD h ag
         try simp only[ag]
         exact O 4 Z<|gl3<|cz (d true _ _ ⟨Z,hS⟩ h) Z
        case false=>
         have h:=fE h ag
         try simp only[ag]
         exact cc (t:=86) Z Z (bc (k:=3) Tryz.underlying64 Z Z nz3 Z) Z<|cc (t:=86) Z Z (bY Tryz.underlying3 Z Z (hS.s 1 Z 3)) Z<|O 2 Z<|gl3<|cz (d (decide (a.2.2.2<0)) _ _ ⟨Z,hS⟩ h) Z
       case false=>
        have h:=fE h af
        try simp only[af]
        exact O 6 Z<|cc (t:=86) Z Z (bc (k:=3) Tryz.underlying64 Z Z nz3 Z) Z<|cc (t:=86) Z Z (bY Tryz.underlying3 Z Z (hS.s 1 Z 3)) Z<|O 2 Z<|gl3<|cz (d (decide (a.2.2.2<0)) _ _ ⟨Z,hS⟩ h) Z
    case false=>
     have h:=fE h T
     try simp only[T]
     refine O 9 Z ?_
     cases ah:(!aW)
     case true=>
      have h:=fD h ah
      try simp only[ah]
      refine cc (t:=71) Z Z (bc (k:=1) Tryz.underlying64 Z Z tz Z) Z<|cc (t:=71) Z Z (bY u62 Z Z (hS.s 1 Z 1)) Z<|cc (t:=71) Z Z (bE Z Z (wm _ a.2.1 0)) Z<|O 3 Z ?_
      cases ai:(a.2.1 != 0)
      case true=>
       have h:=fD h ai
       try simp only[ai]
       exact O 13 Z<|gl3<|cz (d true _ _ ⟨Z,hS⟩ h) Z
      case false=>
       have h:=fE h ai
       try simp only[ai]
       refine O 3 Z ?_
       cases aj:(!m)
       case true=>
        have h:=fD h aj
        try simp only[aj]
        refine cc (t:=80) Z Z (bc (k:=3) Tryz.underlying64 Z Z nz3 Z) Z<|cc (t:=80) Z Z (bY Tryz.underlying3 Z Z (hS.s 1 Z 3)) Z<|O 4 Z ?_
        cases ak:(a.2.2.2 != 0)
        case true=>
         have h:=fD h ak
         try simp only[ak]
         exact O 4 Z<|gl3<|cz (d true _ _ ⟨Z,hS⟩ h) Z
        case false=>
         have h:=fE h ak
         try simp only[ak]
         exact cc (t:=86) Z Z (bc (k:=3) Tryz.underlying64 Z Z nz3 Z) Z<|cc (t:=86) Z Z (bY Tryz.underlying3 Z Z (hS.s 1 Z 3)) Z<|O 2 Z<|gl3<|cz (d (decide (a.2.2.2<0)) _ _ ⟨Z,hS⟩ h) Z
       case false=>
        have h:=fE h aj
        try simp only[aj]
        exact O 6 Z<|cc (t:=86) Z Z (bc (k:=3) Tryz.underlying64 Z Z nz3 Z) Z<|cc (t:=86) Z Z (bY Tryz.underlying3 Z Z (hS.s 1 Z 3)) Z<|O 2 Z<|gl3<|cz (d (decide (a.2.2.2<0)) _ _ ⟨Z,hS⟩ h) Z
     case false=>
      have h:=fE h ah
      try simp only[ah]
      refine O 9 Z ?_
      cases am:(!m)
      case true=>
       have h:=fD h am
       try simp only[am]
       refine cc (t:=80) Z Z (bc (k:=3) Tryz.underlying64 Z Z nz3 Z) Z<|cc (t:=80) Z Z (bY Tryz.underlying3 Z Z (hS.s 1 Z 3)) Z<|O 4 Z ?_
       cases ao:(a.2.2.2 != 0)
       case true=>
        have h:=fD h ao
        try simp only[ao]
        exact O 4 Z<|gl3<|cz (d true _ _ ⟨Z,hS⟩ h) Z
       case false=>
        have h:=fE h ao
        try simp only[ao]
        exact cc (t:=86) Z Z (bc (k:=3) Tryz.underlying64 Z Z nz3 Z) Z<|cc (t:=86) Z Z (bY Tryz.underlying3 Z Z (hS.s 1 Z 3)) Z<|O 2 Z<|gl3<|cz (d (decide (a.2.2.2<0)) _ _ ⟨Z,hS⟩ h) Z
      case false=>
       have h:=fE h am
       try simp only[am]
       exact O 6 Z<|cc (t:=86) Z Z (bc (k:=3) Tryz.underlying64 Z Z nz3 Z) Z<|cc (t:=86) Z Z (bY Tryz.underlying3 Z Z (hS.s 1 Z 3)) Z<|O 2 Z<|gl3<|cz (d (decide (a.2.2.2<0)) _ _ ⟨Z,hS⟩ h) Z
 rintro bK L w n h
 try dsimp only at n
 obtain⟨rfl,hS⟩:=n
 unfold F.QI at h
 apply gl9 Z h<;>intro h
 ·refine gl4<|O 2 Z<|gl8 ?_
  cases h
  exact jw Z Z Z ⟨Y5,Z,(hS.nil H).f [0] Z Z⟩
 refine gl6<|aT (bc (k:=1) Tryz.underlying64 Z Z tz Z) Z<|aT (bY u62 Z Z (hS.s 1 Z 1)) Z<|O 1 Z<|gl3 ?_
 refine gI (r:=r) (fun (g:UInt64) L w=>L=[(0,j),(1,l),(2,U a2),(3,U a3),(10,R f 0),(13,V m),(14,M g)]/\St S o w [W H j a0,Y f [U a.1,M a.2.1,vS a.2.2.1,U a.2.2.2]]) (F.QM a3 m a0 a2 a a1 rc) ?_ ?_
 rotate_left
 ·intro x
  refine gl4<|aT (bc (k:=0) Tryz.underlying64 Z Z nz3 Z) Z<|aT (bY Tryz.underlying3 Z Z (hS.s 1 Z 0)) Z<|gl3<|cx<|cb<|cx<|cb<|cx<|cb<|cx ?_
  refine gI (r:=r) (fun (g:Unit) L w=>L=[(0,j),(1,l),(2,U a2),(3,U a3),(10,R f 0),(13,V m)]/\St S o w [W H j a0,Y f [U a.1,M a.2.1,vS a.2.2.1,U a.2.2.2]]) (F.Q2 a a3 m a0 a2 a1 rc) ?_ ?_
  rotate_left
  ·intro aM
   refine cx<|cb<|cx<|cb<|cx<|cb<|cb<|gl4<|O 2 Z<|gl3 ?_
   apply gl9 Z h<;>intro h
   ·refine eE<|bu<|bu<|eF<|bp<|cb ?_
    refine gI (r:=r) (fun (g:Bool) L w=>L=[(0,j),(1,l),(2,U a2),(3,U a3),(10,R f 0),(13,V m),(14,M a.2.1),(112,V g)]/\St S o w [W H j a0,Y f [U a.1,M a.2.1,vS a.2.2.1,U a.2.2.2]]) (F.Q3 a a3 m a0 a2 a1 rc) ?_ ?_
    rotate_left
    ·intro aN
     refine bC<|O 1 Z<|aT (bE Z Z (Df _ a.2.1 20)) Z<|O 1 Z ?_
     cases ap:(decide (a.2.1<20))
     case true=>
      have h:=fD h ap
      try simp only[ap]
      exact O 3 Z<|gl3<|cz (aN true _ _ ⟨Z,hS⟩ h) Z
     case false=>
      have h:=fE h ap
      try simp only[ap]
      exact O 1 Z<|cc (t:=109) Z Z (bE Z Z (CO _ a.2.1 22)) Z<|O 1 Z<|gl3<|cz (aN (decide ((22:UInt64)<a.2.1)) _ _ ⟨Z,hS⟩ h) Z
    rintro bL L w n h
    try dsimp only at n
    obtain⟨rfl,hS⟩:=n
    unfold F.Q3 at h
    apply gl9 Z h<;>intro h
    ·refine gl4<|O 2 Z<|gl8<|dR<|de<|dR<|de<|dR<|de<|dR<|de<|dR<|de<|dR<|de ?_
     cases h
     exact jw Z Z Z ⟨Y5,Z,(hS.nil H).f [0] Z Z⟩
    exact gl5<|eE<|dC Z<|bu<|dC Z<|bu<|dC Z<|bu<|dC Z<|bu<|dC Z<|bu<|eF<|bp<|cz (x a.2.1 _ _ ⟨Z,hS⟩ h) Z
   refine gl5<|cb<|gl4<|O 2 Z<|gl3 ?_
   apply gl9 Z h<;>intro h
   ·refine eE<|bu<|bu<|dC Z<|bu<|eF<|bp<|gl4<|aT (bc (k:=2) Tryz.underlying64 Z Z nz9 Z) Z<|aT (bY Tryz.underlying9 Z Z (hS.s 1 Z 2)) Z<|bZ h fun bM bf h=>nu hS Z (kG a.2.2.1 bf (hT.now hS.fr)) Z fun w hS=>O 1 Z<|gl3 ?_
    apply gl9 Z h<;>intro h
    ·refine gl4<|O 2 Z<|gl3<|f5<|dR<|de<|dR<|de<|dR<|de<|dR<|de<|dR<|de ?_
     cases h
     exact jw Z Z Z ⟨Y5,Z,(hS.nil H).f [0] Z Z⟩
    exact kC<|ef<|bp<|cz (aM () _ _ ⟨Z,hS⟩ h) Z
   refine gl5<|cb<|gl4<|O 2 Z<|gl3 ?_
   apply gl9 Z h<;>intro h
   ·exact eE<|bu<|bu<|dC Z<|bu<|dC Z<|bu<|eF<|bp<|cz (aM () _ _ ⟨Z,hS⟩ h) Z
   refine gl5<|cb<|gl4<|O 2 Z<|gl3 ?_
   apply gl9 Z h<;>intro h
   ·exact eE<|bu<|bu<|dC Z<|bu<|dC Z<|bu<|dC Z<|bu<|eF<|bp<|gl4<|aT (bc (k:=3) Tryz.underlying64 Z Z nz3 Z) Z<|aT (bY Tryz.underlying3 Z Z (hS.s 1 Z 3)) Z<|aT (gr Z (oa Tryz.underlying3 u62 a.2.2.2)) Z<|O 1 Z<|gl3<|eE<|dC Z<|bu<|dC Z<|bu<|eF<|bp<|cz (x (UInt64.ofInt a.2.2.2) _ _ ⟨Z,hS⟩ h) Z
   refine gl5<|cb<|gl4<|O 2 Z<|gl3 ?_
   apply gl9 Z h<;>intro h
   ·refine eE<|bu<|bu<|dC Z<|bu<|dC Z<|bu<|dC Z<|bu<|dC Z<|bu<|eF<|bp<|cb<|cb<|gl4<|aT (bc (k:=3) Tryz.underlying64 Z Z nz3 Z) Z<|aT (bY Tryz.underlying3 Z Z (hS.s 1 Z 3)) Z<|aT (bE Z Z (Bb _ a.2.2.2 2 (by decide))) Z<|O 1 Z<|gl3 ?_
    apply gl9 Z h<;>intro h
    ·refine gl4<|O 2 Z<|gl8<|de<|dR<|de<|dR<|de ?_
     cases h
     exact jw Z Z Z ⟨Y5,Z,(hS.nil H).f [0] Z Z⟩
    exact gl5<|bC<|aT (bc (k:=3) Tryz.underlying64 Z Z nz3 Z) Z<|aT (bY Tryz.underlying3 Z Z (hS.s 1 Z 3)) Z<|aT (bE Z Z (Fu _ a.2.2.2 2 (by decide))) Z<|aT (gr Z (oa Tryz.underlying3 u62 (wI (Int.tdiv a.2.2.2 2)))) Z<|kI h fun aX bg h=>aT (dz (v:=M aX) (by rw[<-bg]; rfl)) Z<|gl3<|eE<|dC Z<|bu<|eF<|bp<|cz (x aX _ _ ⟨Z,hS⟩ h) Z
   refine gl6<|O 2 Z<|gl3 ?_
   apply gl9 Z h<;>intro h
   ·refine eE<|bu<|dC Z<|bu<|dC Z<|bu<|dC Z<|bu<|dC Z<|bu<|dC Z<|bu<|eF<|bp<|cb<|gl4<|aT (bc (k:=3) Tryz.underlying64 Z Z nz3 Z) Z<|aT (bY Tryz.underlying3 Z Z (hS.s 1 Z 3)) Z<|O 1 Z<|gl3 ?_
    apply gl9 Z h<;>intro h
    ·refine gl4<|O 2 Z<|gl8<|dR<|de ?_
     cases h
     exact jw Z Z Z ⟨Y5,Z,(hS.nil H).f [0] Z Z⟩
    exact gl5<|eE<|eF<|bp<|cz (x a.2.1 _ _ ⟨Z,hS⟩ h) Z
   exact gl5<|eE<|dC Z<|bu<|dC Z<|bu<|dC Z<|bu<|dC Z<|bu<|dC Z<|bu<|dC Z<|bu<|eF<|bp<|cz (x a.2.1 _ _ ⟨Z,hS⟩ h) Z
  rintro _g L w n h
  try dsimp only at n
  obtain⟨rfl,hS⟩:=n
  unfold F.Q2 at h
  exact gl4<|aT (bc (k:=2) Tryz.underlying64 Z Z nz9 Z) Z<|aT (bY Tryz.underlying9 Z Z (hS.s 1 Z 2)) Z<|aT (A6 Tryz.underlying9 Z) Z<|aT (gr Z (oa Tryz.underlying3 u62 (a.2.2.1.length:Int))) Z<|kI h fun aY bh h=>aT (dz (v:=M aY) (by rw[<-bh]; rfl)) Z<|gl3<|eE<|dC Z<|bu<|dC Z<|bu<|dC Z<|bu<|eF<|bp<|cz (x aY _ _ ⟨Z,hS⟩ h) Z
 rintro aJ L w n h
 try dsimp only at n
 obtain⟨rfl,hS⟩:=n
 unfold F.QM at h
 refine cb ?_
 refine gI (r:=r) (fun (g:Bool) L w=>L=[(0,j),(1,l),(2,U a2),(3,U a3),(10,R f 0),(14,M aJ),(139,V g)]/\St S o w [W H j a0,Y f [U a.1,M a.2.1,vS a.2.2.1,U a.2.2.2]]) (F.RG a0 a2 a aJ a1 a3 rc) ?_ ?_
 rotate_left
 ·intro aO
  refine bC<|O 2 Z ?_
  cases aq:m
  case true=>
   have hH:=fD h aq
   subst aq
   have h:=hH
   clear hH
   exact O 3 Z<|gl3<|cz (aO (a3 == 32) _ _ ⟨Z,hS⟩ h) Z
  case false=>
   have hH:=fE h aq
   subst aq
   have h:=hH
   clear hH
   exact O 3 Z<|gl3<|cz (aO false _ _ ⟨Z,hS⟩ h) Z
 rintro bN L w n h
 try dsimp only at n
 obtain⟨rfl,hS⟩:=n
 unfold F.RG at h
 apply gl9 Z h<;>intro h
 ·refine gl4<|O 2 Z<|gl8 ?_
  cases h
  exact jw Z Z Z ⟨Y5,Z,(hS.nil H).f [0] Z Z⟩
 refine gl5<|cb<|have hsh0:=(hS.ro 0 Z).shp;kj (fun w'=>St S o w' [Y f [U a.1,M a.2.1,vS a.2.2.1,U a.2.2.2]]) (fun i=>!([4,7].contains i)) ky (fun _ _ _ hf=>hf.2) (fun _ _ hf=>hf) (by kernel_rfl)<|have hS:=hS.drew;show lxE _ _ _ _ _ _ _ [0,1,2,3,4,5,6,7,8] _ _ from cM 1 Z (hS.f [1] Z Z)<|dg (hS.f [1] Z Z) Z Z (fun w c=>bc (k:=0) Tryz.underlying64 Z Z nz3 Z) Z<|dg (hS.f [1] Z Z) Z Z (fun w c=>bY Tryz.underlying3 Z Z (c.s 0 Z 0)) Z<|cM 1 Z (hS.f [1] Z Z)<|have hG:=hS.pick (os':=[W H j a0]++[Y f [U a.1,M a.2.1,vS a.2.2.1,U a.2.2.2]]) [0,1] (by decide) Z;bZ h fun bO bi h=>kf (hS.f [1] Z Z) Z Z (by kernel_rfl) Z (B7 a.1 aJ bi hG.give ) Z ?_
 rintro bP w ⟨bI,aZ,ax⟩
 rw[<-aZ]at ax
 have hS:=hG.j ax
 refine dg (hS.f [1] Z Z) Z Z (fun w c=>bc (k:=2) Tryz.underlying64 Z Z nz9 Z) Z<|dg (hS.f [1] Z Z) Z Z (fun w c=>bY Tryz.underlying9 Z Z (c.s 0 Z 2)) Z<|bZ h fun bt bj h=>uS (hS.f [1] Z Z) Z Z (xE u22 Tryz.underlying9 ti5 Z Z hS (i:=0) Z bj) Z fun ba w hS=>cM 1 Z (hS.f [1] Z Z)<|jk (hS.f [1] Z Z)<|bp<|gl4<|O 3 Z<|gl2<|O 1 Z<|gl1<|gl4<|aT (bc (k:=3) Tryz.underlying64 Z Z nz3 Z) Z<|aT (bY Tryz.underlying3 Z Z (hS.s 1 Z 3)) Z<|O 1 Z<|gl3<|cx<|gl [(0,ba),(1,l),(2,U (wI (a2+1))),(3,U a3),(10,R f 0),(15,.slice none 0 0),(151,U a.2.2.2),(152,U 0)] Z ?_
 refine ji (F.Rv a1 a3 rc a) (fun (s:Y3×Int×Y3×Int) L w=>∃(A:Value) (y:Value),L=[(0,A),(1,l),(2,U s.2.1),(3,U a3),(10,R f 0),(15,y),(151,U a.2.2.2),(152,U s.2.2.2)]/\St S o w [W H A s.1,W H y s.2.2.1,Y f [U a.1,M a.2.1,vS a.2.2.1,U a.2.2.2]]) ?_ (bt,wI (a2+1),[],0) ⟨ba,Y5,Z,((hS.nil H).f [1,0,2] Z Z)⟩ h
 rintro bJ ⟨aw,bv,aC,p⟩ L w aL hI bk h ar
 try dsimp only at hI
 obtain⟨A,y,rfl,hS⟩:=hI
 unfold F.Rv at h
 refine gl4<|O 1 Z<|gl1 ?_
 apply gl9 Z h<;>intro h
 ·refine gl5 ?_
  refine gI (r:=aL) (fun (g:Y3×Int×Y3) L w=>∃(aD:Value) (aE:Value),L=[(0,aD),(1,l),(2,U g.2.1),(3,U a3),(10,R f 0),(15,aE),(151,U a.2.2.2),(152,U p)]/\St S o w [W H aD g.1,W H aE g.2.2,Y f [U a.1,M a.2.1,vS a.2.2.1,U a.2.2.2]]) (F.SA p) ?_ ?_
  rotate_left
  ·intro aH
   refine cx<|gl4<|O 2 Z<|gl2<|O 1 Z<|aT (fc u22 Z (hS.ro 0 Z)) Z<|O 1 Z<|gl1<|gl4<|O 5 Z<|have hG:=hS.pick (os':=[W H A aw]++[W H y aC,Y f [U a.1,M a.2.1,vS a.2.2.1,U a.2.2.2]]) [0,1,2] (by decide) Z;bZ h fun q bl h=>kx Z (hrc _ aw a1 bv (wI (a3+1)) A l  _ hG.give (hT.give hG) (aG.give (an Z) hG) _ bl) Z ?_
   rintro _ w ⟨z,rfl,ax⟩
   have hS:=hG.j ax
   refine O 5 Z<|gl2<|O 2 Z<|gl3 ?_
   apply gl9 Z h<;>intro h
   ·refine gl4<|O 2 Z<|gl8<|dR<|de<|de<|have h:=fV h ar;dR<|de ?_
    cases h
    exact jw Z Z Z ⟨Y5,Z,(hS.nil H).f [0] Z Z⟩
   refine gl5 ?_
   refine gI (r:=aL) (fun (g:Bool) L w=>L=[(0,z),(1,l),(2,U q.2),(3,U a3),(10,R f 0),(15,y),(16,U p),(17,U (aw.length:Int)),(151,U a.2.2.2),(152,U p),(175,V g)]/\St S o w [W H z q.1,Y f [U a.1,M a.2.1,vS a.2.2.1,U a.2.2.2],W H y aC]) (F.SI aw aC p q) ?_ ?_
   rotate_left
   ·intro aP
    refine bC<|aT (bc (k:=0) Tryz.underlying64 Z Z nz3 Z) Z<|aT (bY Tryz.underlying3 Z Z (hS.s 2 Z 0)) Z<|O 2 Z ?_
    cases au:(a.1 == 5)
    case true=>
     have h:=fD h au
     try simp only[au]
     exact O 1 Z<|cc (t:=171) Z Z (bE Z Z (Bb _ p 2 (by decide))) Z<|O 2 Z<|gl3<|cz (aP ((Int.tmod p 2) == 0) _ _ ⟨Z,(hS.f [0,2,1] Z Z)⟩ h) Z
    case false=>
     have h:=fE h au
     try simp only[au]
     exact O 4 Z<|gl3<|cz (aP false _ _ ⟨Z,(hS.f [0,2,1] Z Z)⟩ h) Z
   rintro bQ L w n h
   try dsimp only at n
   obtain⟨rfl,hS⟩:=n
   unfold F.SI at h
   apply gl9 Z h<;>intro h
   ·refine gl4<|O 2 Z<|bZ h fun bw aF h=>aT (uh u22 ti5 Z Z (hS.ro 0 Z) aF) Z<|O 1 Z<|gl1 ?_
    refine gI (r:=aL) (fun (g:Bool) L w=>L=[(0,z),(1,l),(2,U q.2),(3,U a3),(10,R f 0),(18,slV z H.sz (((aw.length:Int):Int).toNat) q.1.length),(151,U a.2.2.2),(152,U p),(186,V g)]/\St S o w [W H z q.1,Y f [U a.1,M a.2.1,vS a.2.2.1,U a.2.2.2]]) (F.S8 q bw p) ?_ ?_
    rotate_left
    ·intro aQ
     refine bC<|O 3 Z ?_
     cases av:(decide ((0:Int)<p))
     case true=>
      have h:=fD h av
      try simp only[av]
      refine O 2 Z<|bZ h fun bz bm h=>wQ (t:=181) Z Z (by kernel_rfl) Z (kE  bm (hS.ro 2 Z).rp ((hS.ro 0 Z).g_sll aF).rp) Z ?_
      rintro _ w ⟨rfl,ax⟩
      have hS:=hS.call ax
      exact O 2 Z<|gl3<|cz (aQ (decide ((0:Int)<=bz)) _ _ ⟨Z,(hS.f [0,1] Z Z)⟩ h) Z
     case false=>
      have h:=fE h av
      try simp only[av]
      exact O 5 Z<|gl3<|cz (aQ false _ _ ⟨Z,(hS.f [0,1] Z Z)⟩ h) Z
    rintro bR L w n h
    try dsimp only at n
    obtain⟨rfl,hS⟩:=n
    unfold F.S8 at h
    apply gl9 Z h<;>intro h
    ·refine gl4<|O 2 Z<|gl8<|dR<|de<|de<|have h:=fV h ar;dR<|de ?_
     cases h
     exact jw Z Z Z ⟨Y5,Z,(hS.nil H).f [0] Z Z⟩
    exact gl5<|bC<|O 1 Z<|bZ h fun bA bn h=>uD hS Z (oF  bn ((hS.ro 0 Z).g_sll aF).rp) Z fun bB w hS=>O 1 Z<|c6<|ef<|bp<|cz (aH (q.1,q.2,bA) _ _ ⟨z,bB,Z,(hS.f [1,0,2] Z Z)⟩ h) Z
   exact kC<|ef<|bp<|cz (aH (q.1,q.2,aC) _ _ ⟨z,y,Z,(hS.f [0,2,1] Z Z)⟩ h) Z
  rintro⟨bD,bF,bG⟩ L w n h
  try dsimp only at n
  obtain⟨aD,aE,rfl,hS⟩:=n
  unfold F.SA at h
  exact bC<|O 2 Z<|c6<|gZ (ko (bk (bD,bF,bG,wI (p+1)) _ _ ⟨aD,aE,Z,hS⟩ (ia h ar)) Z)
 refine eE<|bu<|bu<|have h:=fV h ar;eF<|bp<|gl4<|O 4 Z<|gl3<|f5 ?_
 cases h
 exact jw Z Z Z ⟨A,Z,hS.f [0] Z Z⟩
theorem wz (n:Nat):∀(a:World) (a0:Y3) (a1:List (Int×UInt64×Y3×Int)) (a2:Int) (a3:Int) (b:Value) (c:Value) (S:Y4) (hS:St S a a [W H b a0]) (f:TB S a) (d:N S a (J eI (J e64 (J eS eI))) c a1) (r:Y3×Int),F.Sn n a0 a1 a2 a3=some r->Calls Tryz.prog 17 #[b,c,U a2,U a3] a (K fun v w=>∃u0:Value,v=.tuple #[u0,U r.2]/\St S a w [W H u0 r.1]):=by
 induction n with
 | zero=>intros; rename_i h; exact absurd h (by simp[F.Sn])
 | succ n ih=>exact vt (F.Sn n) ih
theorem yY (a:World) (a0:Y3) (a1:List (Int×UInt64×Y3×Int)) (a2:Int) (a3:Int) (b:Value) (c:Value) (S:Y4) (hS:St S a a [W H b a0]) (f:TB S a) (d:N S a (J eI (J e64 (J eS eI))) c a1) (r:Y3×Int) (h:F.WJ a0 a1 a2 a3=some r):Calls Tryz.prog 17 #[b,c,U a2,U a3] a (K fun v w=>∃u0:Value,v=.tuple #[u0,U r.2]/\St S a w [W H u0 r.1]):=wz 64 a a0 a1 a2 a3 b c S hS f d r h
theorem yd {f:World} {a0:List (Int×UInt64×Y3×Int)} {j:Value} {r:Bool}
  (h:F.S7 a0=some r) (hT:TB [] f) (p:N [] f (J eI (J e64 (J eS eI))) j a0):Calls Tryz.prog 85 #[j] f (K fun v w=>v=V r/\St [] f w []):=by
 refine ca1 18 Tryz.func85 Z Z Z<|have hS:=St.q f;?_
 unfold F.S7 at h
 exact wk
theorem yc {f:World} {a0:List (Int×UInt64×Y3×Int)} {j:Value} (a1:Int) {r:Int}
  (h:F.SK a0 a1=some r) (p:N [] f (J eI (J e64 (J eS eI))) j a0):Calls Tryz.prog 86 #[j,U a1] f (K fun v w=>v=U r/\St [] f w []):=by
 refine ca2 19 Tryz.func86 Z Z Z<|have hS:=St.q f;?_
 unfold F.SK at h
 let i1:=mkI (F.WG a0) (fun s L w=>L=[(0,j),(1,U s.1),(5,U s.2)]/\St [] f w [])
 exact wk
theorem xR {f:World} {a0:List (Int×UInt64×Y3×Int)} {j:Value} (a1:Int) {r:Int}
  (h:F.RK a0 a1=some r) (hT:TB [] f) (p:N [] f (J eI (J e64 (J eS eI))) j a0):Calls Tryz.prog 50 #[j,U a1] f (K fun v w=>v=U r/\St [] f w []):=by
 refine ca2 21 Tryz.func50 Z Z Z<|have hS:=St.q f;?_
 unfold F.RK at h
 let j1:=mkJ 3 (F.TT a0 a1) (fun g L w=>L=[(0,j),(1,U a1),(17,V g)]/\St [] f w []) [] []
 exact wk
theorem Bw {f:World} {a0 a1:List (Int×UInt64×Y3×Int)} {b c:Value} {r:Bool}
  (h:F.VK a0 a1=some r) (i:N [] f (J eI (J e64 (J eS eI))) b a0) (j:N [] f (J eI (J e64 (J eS eI))) c a1):Calls Tryz.prog 87 #[b,c] f (K fun v w=>v=V r/\St [] f w []):=by
 refine eZ 29 Tryz.func87 Z Z Z<|have a:=St.q f;gl [(0,b),(1,c)] Z ?_
 unfold F.VK at h
 refine gl4<|O 1 Z<|gl1<|gl4<|O 1 Z<|aT (fc u33 Z (i.now a.fr)) Z<|O 1 Z<|aT (fc u33 Z (j.now a.fr)) Z<|aT (CP Z Z) Z<|O 1 Z<|gl3<|cx<|gl [(0,b),(1,c),(10,U (min (a0.length:Int) (a1.length:Int))),(11,U 0)] Z ?_
 refine ji (F.VL a0 a1) (fun (s:Int) L w=>L=[(0,b),(1,c),(10,U (min (a0.length:Int) (a1.length:Int))),(11,U s)]/\St [] f w []) ?_ 0 ⟨Z,a⟩ h
 rintro u o L w x p m h g
 try dsimp only at p
 obtain⟨rfl,a⟩:=p
 unfold F.VL at h
 refine gl4<|O 1 Z<|gl1 ?_
 apply gl9 Z h<;>intro h
 ·refine gl5<|cb<|cx<|gl4<|O 2 Z<|gl1<|kj (fun w'=>St [] f w' []) (fun _=>true) ky (fun _ _ _ n=>n.2) (fun _ _ n=>n) (by kernel_rfl)<|have a:=a.drew;show lxE _ _ _ _ _ _ _ [0,1,2,3,4,5,6,7,8] _ _ from cM 2 Z a<|bZ h fun q k h=>dg a Z Z (fun w d=>kP u33 DB Z Z (i.now d.fr) k) Z<|dg a Z Z (fun w d=>vK Tryz.underlying64 Z yR Z (i.now d.fr) k) Z<|cM 2 Z a<|bZ h fun t l h=>dg a Z Z (fun w d=>kP u33 DB Z Z (j.now d.fr) l) Z<|dg a Z Z (fun w d=>vK Tryz.underlying64 Z yR Z (j.now d.fr) l) Z<|dg a Z Z (fun w d=>bE Z Z (agx (b':=q != t) (MF Tryz.underlying64 Qc Pl (DJ Z Tryz.underlying3 Z Z (M9 Z u62 Z Z (Oz Z Tryz.underlying9 Z Z (DJ Z Tryz.underlying3 Z Z Lj))))) (by simp only[Bool.and_true]; rfl))) Z<|jk a<|bp ?_
  apply gl9 Z h<;>intro h
  ·refine gl4<|O 1 Z<|gl3<|f5<|dR<|de<|de<|have h:=fV h g;dR<|de ?_
   cases h
   exact gC Z Z ⟨Z,a⟩
  exact kC<|ef<|bp<|bC<|O 2 Z<|c6<|gZ (ko (m (wI (o+1)) _ _ ⟨Z,a⟩ (ia h g)) Z)
 refine eE<|bu<|bu<|have h:=fV h g;eF<|bp<|gl4<|O 1 Z<|aT (fc u33 Z (i.now a.fr)) Z<|O 1 Z<|aT (fc u33 Z (j.now a.fr)) Z<|O 2 Z<|gl3<|f5 ?_
 cases h
 exact gC Z Z ⟨Z,a⟩
end Go.Proofs
