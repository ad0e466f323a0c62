import Derived.Test.YtkbacjmklhgpcaaGreatDoorSW0
import Derived.Test.YtkbacjmklhgpcaaGreatDoorSAw
import Derived.Test.YtkbacjmklhgpcaaGreatDoorQGkFman
import Derived.Test.YtkbacjmklhgpcaaGreatDoorSWcbora
import Derived.Test.YtkbacjmklhgpcaaGreatDoorSWlib
set_option linter.unusedVariables false
set_option linter.unusedSimpArgs false
set_option linter.unusedSectionVars false
set_option maxRecDepth 20000
set_option maxHeartbeats 20000000
namespace Go.Proofs
open Go Go.RowKit Go.Gk
open Go.Gk renaming RP -> O, Ret -> N, ar -> J, e64 -> H, e8 -> K, eP -> I, own -> W, pB -> Q, v64 -> M, vB -> U, vI -> V
open Go.Gk.OE renaming bx -> Y
theorem Dm {m:World} {a0:L01} {a:Value} {S:L02} (a1:Int) (a2:UInt64) {r:L01}
  (h:F.Ya a0 a1 a2=some r) (hS:St S m m [W K a a0]):Calls Tryz.prog 44 #[a,V a1,M a2] m (N fun v w=>∃u0:Value,v=u0/\St S m w [W K u0 r]):=by
 refine dN 73 Tryz.func44 Z Z Z<|ig [(0,a),(1,V a1),(2,M a2)] Z ?_
 unfold F.Ya at h
 refine gl4<|J 1 Z<|gl2<|J 1 Z<|aQ (bH Z Z (Kn _ a1 5)) Z<|aQ (fK Z (Ho Tryz.underlying3 Tryz.underlying5 (gL a1 5))) Z<|J 1 Z<|gl2<|qd (mU (cs:=[v8 0,v8 0,v8 0,v8 0,v8 0,v8 0,v8 0,v8 0]) Q1 Z hS) Z fun d w hS=>gl1<|gl4<|J 1 Z<|gl3<|cR<|zX 100<|kK<|gl4<|aQ (bH Z Z (lS _ 0 8)) Z<|gl1<|jF Z<|gl5<|cI<|cR<|gl4<|J 2 Z<|gl3<|bV<|J 3 Z<|aQ (bH Z Z (mp _ 8 0)) Z<|aQ (bH Z Z (my _ 56 0)) Z<|aQ (bH Z Z (kE _ a2 56 (by decide))) Z<|aQ (fK Z (kV u38 Tryz.underlying5 (bb a2 56))) Z<|aQ (kw u157 sz5 Z Z (by decide) (by decide)) Z<|ia (jN (i:=0) (us:=[v8 ((bb a2 56).toUInt8)]) Z sz5 Z Z Z ⟨Z,trivial⟩ Z hS) fun w hS=>dy<|fk<|bA ?_
 refine bV<|aQ (bH Z Z (mo _ 0 1)) Z<|J 1 Z<|dy<|jk<|kK<|gl4<|aQ (bH Z Z (lS _ 1 8)) Z<|gl1<|jF Z<|gl5<|cI<|cR<|gl4<|J 2 Z<|gl3<|bV<|J 3 Z<|aQ (bH Z Z (mp _ 8 1)) Z<|aQ (bH Z Z (my _ 56 8)) Z<|aQ (bH Z Z (kE _ a2 48 (by decide))) Z<|aQ (fK Z (kV u38 Tryz.underlying5 (bb a2 48))) Z<|aQ (kw u157 sz5 Z Z (by decide) (by decide)) Z<|ia (jN (i:=0) (us:=[v8 ((bb a2 48).toUInt8)]) Z sz5 Z Z Z ⟨Z,trivial⟩ Z hS) fun w hS=>dy<|fk<|bA ?_
 refine bV<|aQ (bH Z Z (mo _ 1 1)) Z<|J 1 Z<|dy<|jk<|kK<|gl4<|aQ (bH Z Z (lS _ 2 8)) Z<|gl1<|jF Z<|gl5<|cI<|cR<|gl4<|J 2 Z<|gl3<|bV<|J 3 Z<|aQ (bH Z Z (mp _ 8 2)) Z<|aQ (bH Z Z (my _ 56 16)) Z<|aQ (bH Z Z (kE _ a2 40 (by decide))) Z<|aQ (fK Z (kV u38 Tryz.underlying5 (bb a2 40))) Z<|aQ (kw u157 sz5 Z Z (by decide) (by decide)) Z<|ia (jN (i:=0) (us:=[v8 ((bb a2 40).toUInt8)]) Z sz5 Z Z Z ⟨Z,trivial⟩ Z hS) fun w hS=>dy<|fk<|bA ?_
 refine bV<|aQ (bH Z Z (mo _ 2 1)) Z<|J 1 Z<|dy<|jk<|kK<|gl4<|aQ (bH Z Z (lS _ 3 8)) Z<|gl1<|jF Z<|gl5<|cI<|cR<|gl4<|J 2 Z<|gl3<|bV<|J 3 Z<|aQ (bH Z Z (mp _ 8 3)) Z<|aQ (bH Z Z (my _ 56 24)) Z<|aQ (bH Z Z (kE _ a2 32 (by decide))) Z<|aQ (fK Z (kV u38 Tryz.underlying5 (bb a2 32))) Z<|aQ (kw u157 sz5 Z Z (by decide) (by decide)) Z<|ia (jN (i:=0) (us:=[v8 ((bb a2 32).toUInt8)]) Z sz5 Z Z Z ⟨Z,trivial⟩ Z hS) fun w hS=>dy<|fk<|bA ?_
 refine bV<|aQ (bH Z Z (mo _ 3 1)) Z<|J 1 Z<|dy<|jk<|kK<|gl4<|aQ (bH Z Z (lS _ 4 8)) Z<|gl1<|jF Z<|gl5<|cI<|cR<|gl4<|J 2 Z<|gl3<|bV<|J 3 Z<|aQ (bH Z Z (mp _ 8 4)) Z<|aQ (bH Z Z (my _ 56 32)) Z<|aQ (bH Z Z (kE _ a2 24 (by decide))) Z<|aQ (fK Z (kV u38 Tryz.underlying5 (bb a2 24))) Z<|aQ (kw u157 sz5 Z Z (by decide) (by decide)) Z<|ia (jN (i:=0) (us:=[v8 ((bb a2 24).toUInt8)]) Z sz5 Z Z Z ⟨Z,trivial⟩ Z hS) fun w hS=>dy<|fk<|bA ?_
 refine bV<|aQ (bH Z Z (mo _ 4 1)) Z<|J 1 Z<|dy<|jk<|kK<|gl4<|aQ (bH Z Z (lS _ 5 8)) Z<|gl1<|jF Z<|gl5<|cI<|cR<|gl4<|J 2 Z<|gl3<|bV<|J 3 Z<|aQ (bH Z Z (mp _ 8 5)) Z<|aQ (bH Z Z (my _ 56 40)) Z<|aQ (bH Z Z (kE _ a2 16 (by decide))) Z<|aQ (fK Z (kV u38 Tryz.underlying5 (bb a2 16))) Z<|aQ (kw u157 sz5 Z Z (by decide) (by decide)) Z<|ia (jN (i:=0) (us:=[v8 ((bb a2 16).toUInt8)]) Z sz5 Z Z Z ⟨Z,trivial⟩ Z hS) fun w hS=>dy<|fk<|bA ?_
 refine bV<|aQ (bH Z Z (mo _ 5 1)) Z<|J 1 Z<|dy<|jk<|kK<|gl4<|aQ (bH Z Z (lS _ 6 8)) Z<|gl1<|jF Z<|gl5<|cI<|cR<|gl4<|J 2 Z<|gl3<|bV<|J 3 Z<|aQ (bH Z Z (mp _ 8 6)) Z<|aQ (bH Z Z (my _ 56 48)) Z<|aQ (bH Z Z (kE _ a2 8 (by decide))) Z<|aQ (fK Z (kV u38 Tryz.underlying5 (bb a2 8))) Z<|aQ (kw u157 sz5 Z Z (by decide) (by decide)) Z<|ia (jN (i:=0) (us:=[v8 ((bb a2 8).toUInt8)]) Z sz5 Z Z Z ⟨Z,trivial⟩ Z hS) fun w hS=>dy<|fk<|bA ?_
 refine bV<|aQ (bH Z Z (mo _ 6 1)) Z<|J 1 Z<|dy<|jk<|kK<|gl4<|aQ (bH Z Z (lS _ 7 8)) Z<|gl1<|jF Z<|gl5<|cI<|cR<|gl4<|J 2 Z<|gl3<|bV<|J 3 Z<|aQ (bH Z Z (mp _ 8 7)) Z<|aQ (bH Z Z (my _ 56 56)) Z<|aQ (bH Z Z (kE _ a2 0 (by decide))) Z<|aQ (fK Z (kV u38 Tryz.underlying5 (bb a2 0))) Z<|aQ (kw u157 sz5 Z Z (by decide) (by decide)) Z<|ia (jN (i:=0) (us:=[v8 ((bb a2 0).toUInt8)]) Z sz5 Z Z Z ⟨Z,trivial⟩ Z hS) fun w hS=>dy<|fk<|bA ?_
 refine bV<|aQ (bH Z Z (mo _ 7 1)) Z<|J 1 Z<|dy<|jk<|kK<|gl4<|aQ (bH Z Z (lS _ 8 8)) Z<|gl1<|sh Z<|fw<|bB<|bB<|fx<|bA<|gl4<|J 1 Z<|cq h fun n B h=>pe hS Z (sH a2 B ) Z fun w hS=>J 1 Z<|gl2<|J 1 Z<|gl3<|cR<|gl4<|J 2 Z<|gl3 ?_
 apply gl9 Z h<;>intro h
 ·refine gl4<|J 3 Z<|aQ (fK Z (kV u38 Tryz.underlying5 a2)) Z<|aQ (bH Z Z (zv _ (UInt8.ofInt (gL a1 5)) a2.toUInt8)) Z<|kQ (kx (e:=K) (l:=[(UInt8.ofInt (gL a1 5)) ||| a2.toUInt8]) (vs:=[v8 ((UInt8.ofInt (gL a1 5)) ||| a2.toUInt8)]) u22 ti5 Z Z Z Z (by decide) (by decide) hS) Z fun ao w hS=>cq h fun ap C h=>kQ (qz u22 ti5 Z Z Z hS (i:=2) Z (hS.ro 0 Z) C) Z fun ab w hS=>J 1 Z<|gl3<|gM<|fc ?_
  cases h
  exact jl Z Z ⟨ab,Z,hS.f [2] Z Z⟩
 refine gl4<|J 2 Z<|gl3 ?_
 apply gl9 Z h<;>intro h
 ·refine gl4<|J 1 Z<|aQ (bH Z Z (zv _ (UInt8.ofInt (gL a1 5)) 24)) Z<|kH h fun c p h=>aQ (dp (v:=v8 c) (by rw[<-p]; rfl)) Z<|gl2<|J 3 Z<|aQ (fK Z (kV u38 Tryz.underlying5 a2)) Z<|kQ (kx (e:=K) (l:=[c,a2.toUInt8]) (vs:=[v8 c,v8 a2.toUInt8]) u22 ti5 Z Z Z Z (by decide) (by decide) hS) Z fun ae w hS=>cq h fun af q h=>kQ (qz u22 ti5 Z Z Z hS (i:=2) Z (hS.ro 0 Z) q) Z fun D w hS=>J 1 Z<|gl3<|gM<|fc ?_
  cases h
  exact jl Z Z ⟨D,Z,hS.f [2] Z Z⟩
 refine cI<|gl4<|J 1 Z<|gl3<|cR<|ig [(0,a),(7,v8 (UInt8.ofInt (gL a1 5))),(8,Q d 0),(10,V n),(11,V 1)] Z ?_
 refine kJ (F.Tm a0 a2 n) (fun (s:UInt8×Int) L w=>L=[(0,a),(7,v8 s.1),(8,Q d 0),(10,V n),(11,V s.2)]/\St S m w [W K a a0,Y d [v8 ((bb a2 56).toUInt8),v8 ((bb a2 48).toUInt8),v8 ((bb a2 40).toUInt8),v8 ((bb a2 32).toUInt8),v8 ((bb a2 24).toUInt8),v8 ((bb a2 16).toUInt8),v8 ((bb a2 8).toUInt8),v8 ((bb a2 0).toUInt8)]]) ?_ (UInt8.ofInt (gL a1 5),1) ⟨Z,(hS.f [1,0] Z Z)⟩ h
 rintro ag ⟨b,o⟩ L w ah hI u h f
 try dsimp only at hI
 obtain⟨rfl,hS⟩:=hI
 unfold F.Tm at h
 refine cI<|gl4<|J 3 Z<|gl3 ?_
 apply gl9 Z h<;>intro h
 ·exact gl5<|cI<|cR<|bV<|J 1 Z<|aQ (bH Z Z (N6 _ b 1)) Z<|J 1 Z<|dy<|fk<|bA<|bV<|J 1 Z<|aQ (bH Z Z (mp _ o 2)) Z<|J 1 Z<|dy<|jk (mr (u (b+1,wI (o*2)) _ _ ⟨Z,hS⟩ (jH h f)) Z)
 refine fw<|bB<|bB<|have h:=iR h f;fx<|bA<|gl4<|J 2 Z<|cq h fun ai x h=>kQ (Cn (e:=K) u22 ti5 Z Z Z hS x) Z fun E w hS=>J 1 Z<|gl2<|J 2 Z<|aQ (bH Z Z (zv _ b 24)) Z<|cq h fun aj g h=>aQ (oY u22 ti5 Z Z (hS.ro 0 Z) g) Z<|ia (qX (t:=(b ||| 24)) ti5 Z Z hS (i:=0) Z g Z) fun w hS=>kH h fun G y h=>?_
 rw[y]at hS
 refine gl1<|lH (fun w'=>St S m w' [W K E G,W K a a0,Y d [v8 ((bb a2 56).toUInt8),v8 ((bb a2 48).toUInt8),v8 ((bb a2 40).toUInt8),v8 ((bb a2 32).toUInt8),v8 ((bb a2 24).toUInt8),v8 ((bb a2 16).toUInt8),v8 ((bb a2 8).toUInt8),v8 ((bb a2 0).toUInt8)]]) (fun i=>!([5].contains i)) ku (fun _ _ _ T=>T.2) (fun _ _ T=>T) (by kernel_rfl)<|have hS:=hS.drew;show lxE _ _ _ _ _ _ _ [0,1,2,3,4,5] _ _ from cG 1 Z hS<|cq h fun ak j h=>cC hS Z Z (fun w hF=>uW u22 ti5 Z Z (hF.ro 0 Z) j) Z<|cG 2 Z hS<|cq h fun al k h=>cC hS Z Z (fun w hF=>QU (e:=K) (l:=([(bb a2 56).toUInt8,(bb a2 48).toUInt8,(bb a2 40).toUInt8,(bb a2 32).toUInt8,(bb a2 24).toUInt8,(bb a2 16).toUInt8,(bb a2 8).toUInt8,(bb a2 0).toUInt8]:L01)) u157 ti5 Z Z Z k) Z<|vH hS Z Z (CC (e:=K) u22 ti5 Z Z Z hS (i:=0) Z ((hS.bxro 2 Z Z).g_sll k) (lD j).1.2 (aw _)) Z ?_
 rintro v_q w ⟨hv_q,hS⟩
 subst v_q
 obtain⟨am,z,h⟩:=jp h
 rw[z]at hS
 refine iB trivial<|bA<|gl4<|J 2 Z<|cq h fun an A h=>kQ (qz u22 ti5 Z Z Z hS (i:=1) Z (hS.ro 0 Z) A) Z fun aa w hS=>J 1 Z<|gl3<|gM<|fc ?_
 cases h
 exact jl Z Z ⟨aa,Z,hS.f [1] Z Z⟩
theorem ww (rc:L01->(List (Int×UInt64×L01×Int))->Int->Int->Option (L01×Int)) (hrc:∀(o:World) (a0:L01) (a1:List (Int×UInt64×L01×Int)) (a2:Int) (a3:Int) (j:Value) (l:Value) (S:L02) (hS:St S o o [W K j a0]) (hT:TB S o) (aG:O S o (I eI (I H (I eS eI))) l a1) (r:L01×Int),rc a0 a1 a2 a3=some r->Calls Tryz.prog 22 #[j,l,V a2,V a3] o (N fun v w=>∃u0:Value,v=.tuple #[u0,V r.2]/\St S o w [W K u0 r.1])) (o:World) (a0:L01) (a1:List (Int×UInt64×L01×Int)) (a2:Int) (a3:Int) (j:Value) (l:Value) (S:L02) (hS:St S o o [W K j a0]) (hT:TB S o) (aG:O S o (I eI (I H (I eS eI))) l a1) (r:L01×Int)
  (h:F.Yp rc a0 a1 a2 a3=some r):Calls Tryz.prog 22 #[j,l,V a2,V a3] o (N fun v w=>∃u0:Value,v=.tuple #[u0,V r.2]/\St S o w [W K u0 r.1]):=by
 refine dN 192 Tryz.func22 Z Z Z<|ig [(0,j),(1,l),(2,V a2),(3,V a3)] Z ?_
 unfold F.Yp at h
 refine gl4<|J 2 Z<|gl1<|gl4<|J 2 Z<|aQ (gt u41 Z (aG.now hS.fr)) Z<|J 1 Z<|gl3 ?_
 apply gl9 Z h<;>intro h
 ·refine gl4<|J 2 Z<|gl8 ?_
  cases h
  exact jP Z Z Z ⟨L03,Z,(hS.nil K).f [0] Z Z⟩
 refine gl6<|J 2 Z<|cq h fun a aS h=>aQ (oY u41 FC Z Z (aG.now hS.fr) aS) Z<|aQ (wH u40 Z F6 Z (aG.now hS.fr) aS) Z<|qd (mU (cs:=[V 0,M 0,vS [],V 0]) Ph Z hS) Z fun f w hS=>ia (jN (i:=0) (us:=[V a.1,M a.2.1,vS a.2.2.1,V a.2.2.2]) Z F6 Z Z Z ⟨Z,Z,Z,Z,trivial⟩ Z hS) fun w hS=>gl3 ?_
 refine ja (r:=r) (fun (g:Bool×Bool×Bool) L w=>L=[(0,j),(1,l),(2,V a2),(3,V a3),(10,Q f 0),(11,U g.1),(12,U g.2.1),(13,U g.2.2)]/\St S o w [W K j a0,Y f [V a.1,M a.2.1,vS a.2.2.1,V a.2.2.2]]) (F.S0 a a3 a0 a2 a1 rc) ?_ ?_
 rotate_left
 ·intro u
  refine kL (fun w'=>St S o w' [Y f [V a.1,M a.2.1,vS a.2.2.1,V a.2.2.2],W K j a0]) (fun _=>true) ku (fun _ _ _ hf=>hf.2) (fun _ _ hf=>hf) (by kernel_rfl)<|have hS:=hS.drew;show lxE _ _ _ _ _ _ _ [0,1,2,3,4,5,6,7,8,9,10,11,12,13,14,15,16,17,18,19,20,21,22,23,24,25,26] _ _ from cC hS Z Z (fun w c=>bu (k:=0) u40 Z Z nz3 Z) Z<|cC hS Z Z (fun w c=>cb Tryz.underlying3 Z Z (c.u 0 Z 0)) Z<|cG 2 Z hS ?_
  cases ay:(a.1 == 2)
  case true=>
   have h:=ik h ay
   try simp only[ay]
   refine eL (b:=true) (t:=30) hS Z Z Z Z Z Z<|eL (b:=true) (t:=30) hS Z Z Z Z Z Z<|eL (b:=true) (t:=30) hS Z Z Z Z Z Z<|cG 1 Z hS<|cC hS Z Z (fun w c=>bu (k:=0) u40 Z Z nz3 Z) Z<|cC hS Z Z (fun w c=>cb Tryz.underlying3 Z Z (c.u 0 Z 0)) Z<|cG 2 Z hS ?_
   cases az:(decide (a.1<2))
   case true=>
    have h:=ik h az
    try simp only[az]
    refine eL (b:=true) (t:=38) hS Z Z Z Z Z Z<|eL (b:=true) (t:=38) hS Z Z Z Z Z Z<|eL (b:=true) (t:=38) hS Z Z Z Z Z Z<|cG 1 Z hS<|cC hS Z Z (fun w c=>bu (k:=0) u40 Z Z nz3 Z) Z<|cC hS Z Z (fun w c=>cb Tryz.underlying3 Z Z (c.u 0 Z 0)) Z<|cG 2 Z hS ?_
    cases aA:(decide ((4:Int)<=a.1))
    case true=>
     have h:=ik h aA
     try simp only[aA]
     exact gG (t:=46) hS Z Z Z Z (fun w c=>bu (k:=0) u40 Z Z nz3 Z) Z<|gG (t:=46) hS Z Z Z Z (fun w c=>cb Tryz.underlying3 Z Z (c.u 0 Z 0)) Z<|gG (t:=46) hS Z Z Z Z (fun w c=>bH Z Z (qr _ a.1 6)) Z<|cG 4 Z hS<|iB hS<|bA<|de (u (true,true,decide (a.1<=6)) _ _ ⟨Z,(hS.f [1,0] Z Z)⟩ h) Z
    case false=>
     have h:=il h aA
     try simp only[aA]
     exact eL (b:=false) (t:=46) hS Z Z Z Z Z Z<|eL (b:=false) (t:=46) hS Z Z Z Z Z Z<|eL (b:=false) (t:=46) hS Z Z Z Z Z Z<|cG 4 Z hS<|iB hS<|bA<|de (u (true,true,false) _ _ ⟨Z,(hS.f [1,0] Z Z)⟩ h) Z
   case false=>
    have h:=il h az
    try simp only[az]
    refine gG (t:=38) hS Z Z Z Z (fun w c=>bu (k:=0) u40 Z Z nz3 Z) Z<|gG (t:=38) hS Z Z Z Z (fun w c=>cb Tryz.underlying3 Z Z (c.u 0 Z 0)) Z<|gG (t:=38) hS Z Z Z Z (fun w c=>bH Z Z (vk _ a.1 5)) Z<|cG 1 Z hS<|cC hS Z Z (fun w c=>bu (k:=0) u40 Z Z nz3 Z) Z<|cC hS Z Z (fun w c=>cb Tryz.underlying3 Z Z (c.u 0 Z 0)) Z<|cG 2 Z hS ?_
    cases aB:(decide ((4:Int)<=a.1))
    case true=>
     have h:=ik h aB
     try simp only[aB]
     exact gG (t:=46) hS Z Z Z Z (fun w c=>bu (k:=0) u40 Z Z nz3 Z) Z<|gG (t:=46) hS Z Z Z Z (fun w c=>cb Tryz.underlying3 Z Z (c.u 0 Z 0)) Z<|gG (t:=46) hS Z Z Z Z (fun w c=>bH Z Z (qr _ a.1 6)) Z<|cG 2 Z hS<|kH h fun bn bp h=>cC hS Z Z (fun w c=>dp (v:=U bn) (by rw[<-bp]; rfl)) Z<|cG 1 Z hS<|iB hS<|bA<|de (u (true,bn,decide (a.1<=6)) _ _ ⟨Z,(hS.f [1,0] Z Z)⟩ h) Z
    case false=>
     have h:=il h aB
     try simp only[aB]
     exact eL (b:=false) (t:=46) hS Z Z Z Z Z Z<|eL (b:=false) (t:=46) hS Z Z Z Z Z Z<|eL (b:=false) (t:=46) hS Z Z Z Z Z Z<|cG 2 Z hS<|kH h fun aT bb h=>cC hS Z Z (fun w c=>dp (v:=U aT) (by rw[<-bb]; rfl)) Z<|cG 1 Z hS<|iB hS<|bA<|de (u (true,aT,false) _ _ ⟨Z,(hS.f [1,0] Z Z)⟩ h) Z
  case false=>
   have h:=il h ay
   try simp only[ay]
   refine gG (t:=30) hS Z Z Z Z (fun w c=>bu (k:=0) u40 Z Z nz3 Z) Z<|gG (t:=30) hS Z Z Z Z (fun w c=>cb Tryz.underlying3 Z Z (c.u 0 Z 0)) Z<|gG (t:=30) hS Z Z Z Z (fun w c=>bH Z Z (BE _ a.1 3)) Z<|cG 1 Z hS<|cC hS Z Z (fun w c=>bu (k:=0) u40 Z Z nz3 Z) Z<|cC hS Z Z (fun w c=>cb Tryz.underlying3 Z Z (c.u 0 Z 0)) Z<|cG 2 Z hS ?_
   cases B:(decide (a.1<2))
   case true=>
    have h:=ik h B
    try simp only[B]
    refine eL (b:=true) (t:=38) hS Z Z Z Z Z Z<|eL (b:=true) (t:=38) hS Z Z Z Z Z Z<|eL (b:=true) (t:=38) hS Z Z Z Z Z Z<|cG 1 Z hS<|cC hS Z Z (fun w c=>bu (k:=0) u40 Z Z nz3 Z) Z<|cC hS Z Z (fun w c=>cb Tryz.underlying3 Z Z (c.u 0 Z 0)) Z<|cG 2 Z hS ?_
    cases C:(decide ((4:Int)<=a.1))
    case true=>
     have h:=ik h C
     try simp only[C]
     exact gG (t:=46) hS Z Z Z Z (fun w c=>bu (k:=0) u40 Z Z nz3 Z) Z<|gG (t:=46) hS Z Z Z Z (fun w c=>cb Tryz.underlying3 Z Z (c.u 0 Z 0)) Z<|gG (t:=46) hS Z Z Z Z (fun w c=>bH Z Z (qr _ a.1 6)) Z<|cG 4 Z hS<|iB hS<|bA<|de (u (a.1 == 3,true,decide (a.1<=6)) _ _ ⟨Z,(hS.f [1,0] Z Z)⟩ h) Z
    case false=>
     have h:=il h C
     try simp only[C]
     exact eL (b:=false) (t:=46) hS Z Z Z Z Z Z<|eL (b:=false) (t:=46) hS Z Z Z Z Z Z<|eL (b:=false) (t:=46) hS Z Z Z Z Z Z<|cG 4 Z hS<|iB hS<|bA<|de (u (a.1 == 3,true,false) _ _ ⟨Z,(hS.f [1,0] Z Z)⟩ h) Z
   case false=>
    have h:=il h B
    try simp only[B]
    refine gG (t:=38) hS Z Z Z Z (fun w c=>bu (k:=0) u40 Z Z nz3 Z) Z<|gG (t:=38) hS Z Z Z Z (fun w c=>cb Tryz.underlying3 Z Z (c.u 0 Z 0)) Z<|gG (t:=38) hS Z Z Z Z (fun w c=>bH Z Z (vk _ a.1 5)) Z<|cG 1 Z hS<|cC hS Z Z (fun w c=>bu (k:=0) u40 Z Z nz3 Z) Z<|cC hS Z Z (fun w c=>cb Tryz.underlying3 Z Z (c.u 0 Z 0)) Z<|cG 2 Z hS ?_
    cases D:(decide ((4:Int)<=a.1))
    case true=>
     have h:=ik h D
     try simp only[D]
     exact gG (t:=46) hS Z Z Z Z (fun w c=>bu (k:=0) u40 Z Z nz3 Z) Z<|gG (t:=46) hS Z Z Z Z (fun w c=>cb Tryz.underlying3 Z Z (c.u 0 Z 0)) Z<|gG (t:=46) hS Z Z Z Z (fun w c=>bH Z Z (qr _ a.1 6)) Z<|cG 2 Z hS<|kH h fun aU bc h=>cC hS Z Z (fun w c=>dp (v:=U aU) (by rw[<-bc]; rfl)) Z<|cG 1 Z hS<|iB hS<|bA<|de (u (a.1 == 3,aU,decide (a.1<=6)) _ _ ⟨Z,(hS.f [1,0] Z Z)⟩ h) Z
    case false=>
     have h:=il h D
     try simp only[D]
     exact eL (b:=false) (t:=46) hS Z Z Z Z Z Z<|eL (b:=false) (t:=46) hS Z Z Z Z Z Z<|eL (b:=false) (t:=46) hS Z Z Z Z Z Z<|cG 2 Z hS<|kH h fun aV bd h=>cC hS Z Z (fun w c=>dp (v:=U aV) (by rw[<-bd]; rfl)) Z<|cG 1 Z hS<|iB hS<|bA<|de (u (a.1 == 3,aV,false) _ _ ⟨Z,(hS.f [1,0] Z Z)⟩ h) Z
 rintro⟨bq,aW,m⟩ L w n h
 try dsimp only at n
 obtain⟨rfl,hS⟩:=n
 unfold F.S0 at h
 refine cI ?_
 refine ja (r:=r) (fun (g:Bool) L w=>L=[(0,j),(1,l),(2,V a2),(3,V a3),(10,Q f 0),(13,U m),(90,U g)]/\St S o w [W K j a0,Y f [V a.1,M a.2.1,vS a.2.2.1,V a.2.2.2]]) (F.SX a a3 m a0 a2 a1 rc) ?_ ?_
 rotate_left
 ·intro d
  refine bV<|aQ (bu (k:=0) u40 Z Z nz3 Z) Z<|aQ (cb Tryz.underlying3 Z Z (hS.u 1 Z 0)) Z<|J 2 Z ?_
  cases E:(decide (a.1<0))
  case true=>
   have h:=ik h E
   try simp only[E]
   exact J 36 Z<|gl3<|de (d true _ _ ⟨Z,hS⟩ h) Z
  case false=>
   have h:=il h E
   try simp only[E]
   refine dJ (t:=54) Z Z (bu (k:=0) u40 Z Z nz3 Z) Z<|dJ (t:=54) Z Z (cb Tryz.underlying3 Z Z (hS.u 1 Z 0)) Z<|J 3 Z ?_
   cases G:(decide ((7:Int)<a.1))
   case true=>
    have h:=ik h G
    try simp only[G]
    exact J 31 Z<|gl3<|de (d true _ _ ⟨Z,hS⟩ h) Z
   case false=>
    have h:=il h G
    try simp only[G]
    refine J 3 Z ?_
    cases T:(!bq)
    case true=>
     have h:=ik h T
     try simp only[T]
     refine dJ (t:=62) Z Z (bu (k:=2) u40 Z Z nz9 Z) Z<|dJ (t:=62) Z Z (cb Tryz.underlying9 Z Z (hS.u 1 Z 2)) Z<|dJ (t:=62) Z Z (bH Z Z (Oj _ a.2.2.1 [])) Z<|J 3 Z ?_
     cases aa:(a.2.2.1 != [])
     case true=>
      have h:=ik h aa
      try simp only[aa]
      exact J 22 Z<|gl3<|de (d true _ _ ⟨Z,hS⟩ h) Z
     case false=>
      have h:=il h aa
      try simp only[aa]
      refine J 3 Z ?_
      cases ab:(!aW)
      case true=>
       have h:=ik h ab
       try simp only[ab]
       refine dJ (t:=71) Z Z (bu (k:=1) u40 Z Z xv Z) Z<|dJ (t:=71) Z Z (cb u38 Z Z (hS.u 1 Z 1)) Z<|dJ (t:=71) Z Z (bH Z Z (xd _ a.2.1 0)) Z<|J 3 Z ?_
       cases ac:(a.2.1 != 0)
       case true=>
        have h:=ik h ac
        try simp only[ac]
        exact J 13 Z<|gl3<|de (d true _ _ ⟨Z,hS⟩ h) Z
       case false=>
        have h:=il h ac
        try simp only[ac]
        refine J 3 Z ?_
        cases ad:(!m)
        case true=>
         have h:=ik h ad
         try simp only[ad]
         refine dJ (t:=80) Z Z (bu (k:=3) u40 Z Z nz3 Z) Z<|dJ (t:=80) Z Z (cb Tryz.underlying3 Z Z (hS.u 1 Z 3)) Z<|J 4 Z ?_
         cases ae:(a.2.2.2 != 0)
         case true=>
          have h:=ik h ae
          try simp only[ae]
          exact J 4 Z<|gl3<|de (d true _ _ ⟨Z,hS⟩ h) Z
         case false=>
          have h:=il h ae
          try simp only[ae]
          exact dJ (t:=86) Z Z (bu (k:=3) u40 Z Z nz3 Z) Z<|dJ (t:=86) Z Z (cb Tryz.underlying3 Z Z (hS.u 1 Z 3)) Z<|J 2 Z<|gl3<|de (d (decide (a.2.2.2<0)) _ _ ⟨Z,hS⟩ h) Z
        case false=>
         have h:=il h ad
         try simp only[ad]
         exact J 6 Z<|dJ (t:=86) Z Z (bu (k:=3) u40 Z Z nz3 Z) Z<|dJ (t:=86) Z Z (cb Tryz.underlying3 Z Z (hS.u 1 Z 3)) Z<|J 2 Z<|gl3<|de (d (decide (a.2.2.2<0)) _ _ ⟨Z,hS⟩ h) Z
      case false=>
       have h:=il h ab
       try simp only[ab]
       refine J 9 Z ?_
       cases af:(!m)
       case true=>
        have h:=ik h af
        try simp only[af]
        refine dJ (t:=80) Z Z (bu (k:=3) u40 Z Z nz3 Z) Z<|dJ (t:=80) Z Z (cb Tryz.underlying3 Z Z (hS.u 1 Z 3)) Z<|J 4 Z ?_
        cases ag:(a.2.2.2 != 0)
        case true=>
         have h:=ik h ag
         try simp only[ag]
         exact J 4 Z<|gl3<|de (d true _ _ ⟨Z,hS⟩ h) Z
        case false=>
         have h:=il h ag
         try simp only[ag]
         exact dJ (t:=86) Z Z (bu (k:=3) u40 Z Z nz3 Z) Z<|dJ (t:=86) Z Z (cb Tryz.underlying3 Z Z (hS.u 1 Z 3)) Z<|J 2 Z<|gl3<|de (d (decide (a.2.2.2<0)) _ _ ⟨Z,hS⟩ h) Z
       case false=>
        have h:=il h af
        try simp only[af]
        exact J 6 Z<|dJ (t:=86) Z Z (bu (k:=3) u40 Z Z nz3 Z) Z<|dJ (t:=86) Z Z (cb Tryz.underlying3 Z Z (hS.u 1 Z 3)) Z<|J 2 Z<|gl3<|de (d (decide (a.2.2.2<0)) _ _ ⟨Z,hS⟩ h) Z
    case false=>
     have h:=il h T
     try simp only[T]
     refine J 9 Z ?_
     cases ah:(!aW)
     case true=>
      have h:=ik h ah
      try simp only[ah]
      refine dJ (t:=71) Z Z (bu (k:=1) u40 Z Z xv Z) Z<|dJ (t:=71) Z Z (cb u38 Z Z (hS.u 1 Z 1)) Z<|dJ (t:=71) Z Z (bH Z Z (xd _ a.2.1 0)) Z<|J 3 Z ?_
      cases ai:(a.2.1 != 0)
      case true=>
       have h:=ik h ai
       try simp only[ai]
       exact J 13 Z<|gl3<|de (d true _ _ ⟨Z,hS⟩ h) Z
      case false=>
       have h:=il h ai
       try simp only[ai]
       refine J 3 Z ?_
       cases aj:(!m)
       case true=>
        have h:=ik h aj
        try simp only[aj]
        refine dJ (t:=80) Z Z (bu (k:=3) u40 Z Z nz3 Z) Z<|dJ (t:=80) Z Z (cb Tryz.underlying3 Z Z (hS.u 1 Z 3)) Z<|J 4 Z ?_
        cases ak:(a.2.2.2 != 0)
        case true=>
         have h:=ik h ak
         try simp only[ak]
         exact J 4 Z<|gl3<|de (d true _ _ ⟨Z,hS⟩ h) Z
        case false=>
         have h:=il h ak
         try simp only[ak]
         exact dJ (t:=86) Z Z (bu (k:=3) u40 Z Z nz3 Z) Z<|dJ (t:=86) Z Z (cb Tryz.underlying3 Z Z (hS.u 1 Z 3)) Z<|J 2 Z<|gl3<|de (d (decide (a.2.2.2<0)) _ _ ⟨Z,hS⟩ h) Z
       case false=>
        have h:=il h aj
        try simp only[aj]
        exact J 6 Z<|dJ (t:=86) Z Z (bu (k:=3) u40 Z Z nz3 Z) Z<|dJ (t:=86) Z Z (cb Tryz.underlying3 Z Z (hS.u 1 Z 3)) Z<|J 2 Z<|gl3<|de (d (decide (a.2.2.2<0)) _ _ ⟨Z,hS⟩ h) Z
     case false=>
      have h:=il h ah
      try simp only[ah]
      refine J 9 Z ?_
      cases al:(!m)
      case true=>
       have h:=ik h al
       try simp only[al]
       refine dJ (t:=80) Z Z (bu (k:=3) u40 Z Z nz3 Z) Z<|dJ (t:=80) Z Z (cb Tryz.underlying3 Z Z (hS.u 1 Z 3)) Z<|J 4 Z ?_
       cases am:(a.2.2.2 != 0)
       case true=>
        have h:=ik h am
        try simp only[am]
        exact J 4 Z<|gl3<|de (d true _ _ ⟨Z,hS⟩ h) Z
       case false=>
        have h:=il h am
        try simp only[am]
        exact dJ (t:=86) Z Z (bu (k:=3) u40 Z Z nz3 Z) Z<|dJ (t:=86) Z Z (cb Tryz.underlying3 Z Z (hS.u 1 Z 3)) Z<|J 2 Z<|gl3<|de (d (decide (a.2.2.2<0)) _ _ ⟨Z,hS⟩ h) Z
      case false=>
       have h:=il h al
       try simp only[al]
       exact J 6 Z<|dJ (t:=86) Z Z (bu (k:=3) u40 Z Z nz3 Z) Z<|dJ (t:=86) Z Z (cb Tryz.underlying3 Z Z (hS.u 1 Z 3)) Z<|J 2 Z<|gl3<|de (d (decide (a.2.2.2<0)) _ _ ⟨Z,hS⟩ h) Z
 rintro bJ L w n h
 try dsimp only at n
 obtain⟨rfl,hS⟩:=n
 unfold F.SX at h
 apply gl9 Z h<;>intro h
 ·refine gl4<|J 2 Z<|gl8 ?_
  cases h
  exact jP Z Z Z ⟨L03,Z,(hS.nil K).f [0] Z Z⟩
 refine gl6<|aQ (bu (k:=1) u40 Z Z xv Z) Z<|aQ (cb u38 Z Z (hS.u 1 Z 1)) Z<|J 1 Z<|gl3 ?_
 refine ja (r:=r) (fun (g:UInt64) L w=>L=[(0,j),(1,l),(2,V a2),(3,V a3),(10,Q f 0),(13,U m),(14,M g)]/\St S o w [W K j a0,Y f [V a.1,M a.2.1,vS a.2.2.1,V a.2.2.2]]) (F.S2 a3 m a0 a2 a a1 rc) ?_ ?_
 rotate_left
 ·intro x
  refine gl4<|aQ (bu (k:=0) u40 Z Z nz3 Z) Z<|aQ (cb Tryz.underlying3 Z Z (hS.u 1 Z 0)) Z<|gl3<|cR<|cI<|cR<|cI<|cR<|cI<|cR ?_
  refine ja (r:=r) (fun (g:Unit) L w=>L=[(0,j),(1,l),(2,V a2),(3,V a3),(10,Q f 0),(13,U m)]/\St S o w [W K j a0,Y f [V a.1,M a.2.1,vS a.2.2.1,V a.2.2.2]]) (F.Tn a a3 m a0 a2 a1 rc) ?_ ?_
  rotate_left
  ·intro aM
   refine cR<|cI<|cR<|cI<|cR<|cI<|cI<|gl4<|J 2 Z<|gl3 ?_
   apply gl9 Z h<;>intro h
   ·refine fw<|bB<|bB<|fx<|bA<|cI ?_
    refine ja (r:=r) (fun (g:Bool) L w=>L=[(0,j),(1,l),(2,V a2),(3,V a3),(10,Q f 0),(13,U m),(14,M a.2.1),(112,U g)]/\St S o w [W K j a0,Y f [V a.1,M a.2.1,vS a.2.2.1,V a.2.2.2]]) (F.Tq a a3 m a0 a2 a1 rc) ?_ ?_
    rotate_left
    ·intro aN
     refine bV<|J 1 Z<|aQ (bH Z Z (En _ a.2.1 20)) Z<|J 1 Z ?_
     cases an:(decide (a.2.1<20))
     case true=>
      have h:=ik h an
      try simp only[an]
      exact J 3 Z<|gl3<|de (aN true _ _ ⟨Z,hS⟩ h) Z
     case false=>
      have h:=il h an
      try simp only[an]
      exact J 1 Z<|dJ (t:=109) Z Z (bH Z Z (DV _ a.2.1 22)) Z<|J 1 Z<|gl3<|de (aN (decide ((22:UInt64)<a.2.1)) _ _ ⟨Z,hS⟩ h) Z
    rintro bK L w n h
    try dsimp only at n
    obtain⟨rfl,hS⟩:=n
    unfold F.Tq at h
    apply gl9 Z h<;>intro h
    ·refine gl4<|J 2 Z<|gl8<|fc<|dQ<|fc<|dQ<|fc<|dQ<|fc<|dQ<|fc<|dQ<|fc<|dQ ?_
     cases h
     exact jP Z Z Z ⟨L03,Z,(hS.nil K).f [0] Z Z⟩
    exact gl5<|fw<|dF Z<|bB<|dF Z<|bB<|dF Z<|bB<|dF Z<|bB<|dF Z<|bB<|fx<|bA<|de (x a.2.1 _ _ ⟨Z,hS⟩ h) Z
   refine gl5<|cI<|gl4<|J 2 Z<|gl3 ?_
   apply gl9 Z h<;>intro h
   ·refine fw<|bB<|bB<|dF Z<|bB<|fx<|bA<|gl4<|aQ (bu (k:=2) u40 Z Z nz9 Z) Z<|aQ (cb Tryz.underlying9 Z Z (hS.u 1 Z 2)) Z<|cq h fun bL be h=>pe hS Z (lF a.2.2.1 be (hT.now hS.fr)) Z fun w hS=>J 1 Z<|gl3 ?_
    apply gl9 Z h<;>intro h
    ·refine gl4<|J 2 Z<|gl3<|gM<|fc<|dQ<|fc<|dQ<|fc<|dQ<|fc<|dQ<|fc<|dQ ?_
     cases h
     exact jP Z Z Z ⟨L03,Z,(hS.nil K).f [0] Z Z⟩
    exact mN<|fk<|bA<|de (aM () _ _ ⟨Z,hS⟩ h) Z
   refine gl5<|cI<|gl4<|J 2 Z<|gl3 ?_
   apply gl9 Z h<;>intro h
   ·exact fw<|bB<|bB<|dF Z<|bB<|dF Z<|bB<|fx<|bA<|de (aM () _ _ ⟨Z,hS⟩ h) Z
   refine gl5<|cI<|gl4<|J 2 Z<|gl3 ?_
   apply gl9 Z h<;>intro h
   ·exact fw<|bB<|bB<|dF Z<|bB<|dF Z<|bB<|dF Z<|bB<|fx<|bA<|gl4<|aQ (bu (k:=3) u40 Z Z nz3 Z) Z<|aQ (cb Tryz.underlying3 Z Z (hS.u 1 Z 3)) Z<|aQ (fK Z (oC Tryz.underlying3 u38 a.2.2.2)) Z<|J 1 Z<|gl3<|fw<|dF Z<|bB<|dF Z<|bB<|fx<|bA<|de (x (UInt64.ofInt a.2.2.2) _ _ ⟨Z,hS⟩ h) Z
   refine gl5<|cI<|gl4<|J 2 Z<|gl3 ?_
   apply gl9 Z h<;>intro h
   ·refine fw<|bB<|bB<|dF Z<|bB<|dF Z<|bB<|dF Z<|bB<|dF Z<|bB<|fx<|bA<|cI<|cI<|gl4<|aQ (bu (k:=3) u40 Z Z nz3 Z) Z<|aQ (cb Tryz.underlying3 Z Z (hS.u 1 Z 3)) Z<|aQ (bH Z Z (Ca _ a.2.2.2 2 (by decide))) Z<|J 1 Z<|gl3 ?_
    apply gl9 Z h<;>intro h
    ·refine gl4<|J 2 Z<|gl8<|dQ<|fc<|dQ<|fc<|dQ ?_
     cases h
     exact jP Z Z Z ⟨L03,Z,(hS.nil K).f [0] Z Z⟩
    exact gl5<|bV<|aQ (bu (k:=3) u40 Z Z nz3 Z) Z<|aQ (cb Tryz.underlying3 Z Z (hS.u 1 Z 3)) Z<|aQ (bH Z Z (GW _ a.2.2.2 2 (by decide))) Z<|aQ (fK Z (oC Tryz.underlying3 u38 (wI (Int.tdiv a.2.2.2 2)))) Z<|kH h fun aX bf h=>aQ (dp (v:=M aX) (by rw[<-bf]; rfl)) Z<|gl3<|fw<|dF Z<|bB<|fx<|bA<|de (x aX _ _ ⟨Z,hS⟩ h) Z
   refine gl6<|J 2 Z<|gl3 ?_
   apply gl9 Z h<;>intro h
   ·refine fw<|bB<|dF Z<|bB<|dF Z<|bB<|dF Z<|bB<|dF Z<|bB<|dF Z<|bB<|fx<|bA<|cI<|gl4<|aQ (bu (k:=3) u40 Z Z nz3 Z) Z<|aQ (cb Tryz.underlying3 Z Z (hS.u 1 Z 3)) Z<|J 1 Z<|gl3 ?_
    apply gl9 Z h<;>intro h
    ·refine gl4<|J 2 Z<|gl8<|fc<|dQ ?_
     cases h
     exact jP Z Z Z ⟨L03,Z,(hS.nil K).f [0] Z Z⟩
    exact gl5<|fw<|fx<|bA<|de (x a.2.1 _ _ ⟨Z,hS⟩ h) Z
   exact gl5<|fw<|dF Z<|bB<|dF Z<|bB<|dF Z<|bB<|dF Z<|bB<|dF Z<|bB<|dF Z<|bB<|fx<|bA<|de (x a.2.1 _ _ ⟨Z,hS⟩ h) Z
  rintro _g L w n h
  try dsimp only at n
  obtain⟨rfl,hS⟩:=n
  unfold F.Tn at h
  exact gl4<|aQ (bu (k:=2) u40 Z Z nz9 Z) Z<|aQ (cb Tryz.underlying9 Z Z (hS.u 1 Z 2)) Z<|aQ (B4 Tryz.underlying9 Z) Z<|aQ (fK Z (oC Tryz.underlying3 u38 (a.2.2.1.length:Int))) Z<|kH h fun aY bg h=>aQ (dp (v:=M aY) (by rw[<-bg]; rfl)) Z<|gl3<|fw<|dF Z<|bB<|dF Z<|bB<|dF Z<|bB<|fx<|bA<|de (x aY _ _ ⟨Z,hS⟩ h) Z
 rintro aJ L w n h
 try dsimp only at n
 obtain⟨rfl,hS⟩:=n
 unfold F.S2 at h
 refine cI ?_
 refine ja (r:=r) (fun (g:Bool) L w=>L=[(0,j),(1,l),(2,V a2),(3,V a3),(10,Q f 0),(14,M aJ),(139,U g)]/\St S o w [W K j a0,Y f [V a.1,M a.2.1,vS a.2.2.1,V a.2.2.2]]) (F.Ud a0 a2 a aJ a1 a3 rc) ?_ ?_
 rotate_left
 ·intro aO
  refine bV<|J 2 Z ?_
  cases ap:m
  case true=>
   have hH:=ik h ap
   subst ap
   have h:=hH
   clear hH
   exact J 3 Z<|gl3<|de (aO (a3 == 32) _ _ ⟨Z,hS⟩ h) Z
  case false=>
   have hH:=il h ap
   subst ap
   have h:=hH
   clear hH
   exact J 3 Z<|gl3<|de (aO false _ _ ⟨Z,hS⟩ h) Z
 rintro bM L w n h
 try dsimp only at n
 obtain⟨rfl,hS⟩:=n
 unfold F.Ud at h
 apply gl9 Z h<;>intro h
 ·refine gl4<|J 2 Z<|gl8 ?_
  cases h
  exact jP Z Z Z ⟨L03,Z,(hS.nil K).f [0] Z Z⟩
 refine gl5<|cI<|have hsh0:=(hS.ro 0 Z).shp;kL (fun w'=>St S o w' [Y f [V a.1,M a.2.1,vS a.2.2.1,V a.2.2.2]]) (fun i=>!([4,7].contains i)) ku (fun _ _ _ hf=>hf.2) (fun _ _ hf=>hf) (by kernel_rfl)<|have hS:=hS.drew;show lxE _ _ _ _ _ _ _ [0,1,2,3,4,5,6,7,8] _ _ from cG 1 Z (hS.f [1] Z Z)<|cC (hS.f [1] Z Z) Z Z (fun w c=>bu (k:=0) u40 Z Z nz3 Z) Z<|cC (hS.f [1] Z Z) Z Z (fun w c=>cb Tryz.underlying3 Z Z (c.u 0 Z 0)) Z<|cG 1 Z (hS.f [1] Z Z)<|have hG:=hS.pick (os':=[W K j a0]++[Y f [V a.1,M a.2.1,vS a.2.2.1,V a.2.2.2]]) [0,1] (by decide) Z;cq h fun bN bh h=>jQ (hS.f [1] Z Z) Z Z (by kernel_rfl) Z (Dm a.1 aJ bh hG.give ) Z ?_
 rintro bO w ⟨bG,aZ,ax⟩
 rw[<-aZ]at ax
 have hS:=hG.p ax
 refine cC (hS.f [1] Z Z) Z Z (fun w c=>bu (k:=2) u40 Z Z nz9 Z) Z<|cC (hS.f [1] Z Z) Z Z (fun w c=>cb Tryz.underlying9 Z Z (c.u 0 Z 2)) Z<|cq h fun br bi h=>vH (hS.f [1] Z Z) Z Z (yB u22 Tryz.underlying9 ti5 Z Z hS (i:=0) Z bi) Z fun ba w hS=>cG 1 Z (hS.f [1] Z Z)<|iB (hS.f [1] Z Z)<|bA<|gl4<|J 3 Z<|gl2<|J 1 Z<|gl1<|gl4<|aQ (bu (k:=3) u40 Z Z nz3 Z) Z<|aQ (cb Tryz.underlying3 Z Z (hS.u 1 Z 3)) Z<|J 1 Z<|gl3<|cR<|ig [(0,ba),(1,l),(2,V (wI (a2+1))),(3,V a3),(10,Q f 0),(15,.slice none 0 0),(151,V a.2.2.2),(152,V 0)] Z ?_
 refine kJ (F.T5 a1 a3 rc a) (fun (s:L01×Int×L01×Int) L w=>∃(A:Value) (y:Value),L=[(0,A),(1,l),(2,V s.2.1),(3,V a3),(10,Q f 0),(15,y),(151,V a.2.2.2),(152,V s.2.2.2)]/\St S o w [W K A s.1,W K y s.2.2.1,Y f [V a.1,M a.2.1,vS a.2.2.1,V a.2.2.2]]) ?_ (br,wI (a2+1),[],0) ⟨ba,L03,Z,((hS.nil K).f [1,0,2] Z Z)⟩ h
 rintro bI ⟨aw,bs,aC,p⟩ L w aL hI bj h aq
 try dsimp only at hI
 obtain⟨A,y,rfl,hS⟩:=hI
 unfold F.T5 at h
 refine gl4<|J 1 Z<|gl1 ?_
 apply gl9 Z h<;>intro h
 ·refine gl5 ?_
  refine ja (r:=aL) (fun (g:L01×Int×L01) L w=>∃(aD:Value) (aE:Value),L=[(0,aD),(1,l),(2,V g.2.1),(3,V a3),(10,Q f 0),(15,aE),(151,V a.2.2.2),(152,V p)]/\St S o w [W K aD g.1,W K aE g.2.2,Y f [V a.1,M a.2.1,vS a.2.2.1,V a.2.2.2]]) (F.U1 p) ?_ ?_
  rotate_left
  ·intro aH
   refine cR<|gl4<|J 2 Z<|gl2<|J 1 Z<|aQ (gt u22 Z (hS.ro 0 Z)) Z<|J 1 Z<|gl1<|gl4<|J 5 Z<|have hG:=hS.pick (os':=[W K A aw]++[W K y aC,Y f [V a.1,M a.2.1,vS a.2.2.1,V a.2.2.2]]) [0,1,2] (by decide) Z;cq h fun q bk h=>lU Z (hrc _ aw a1 bs (wI (a3+1)) A l  _ hG.give (hT.give hG) (aG.give (ao Z) hG) _ bk) Z ?_
   rintro _ w ⟨z,rfl,ax⟩
   have hS:=hG.p ax
   refine J 5 Z<|gl2<|J 2 Z<|gl3 ?_
   apply gl9 Z h<;>intro h
   ·refine gl4<|J 2 Z<|gl8<|fc<|dQ<|dQ<|have h:=iR h aq;fc<|dQ ?_
    cases h
    exact jP Z Z Z ⟨L03,Z,(hS.nil K).f [0] Z Z⟩
   refine gl5 ?_
   refine ja (r:=aL) (fun (g:Bool) L w=>L=[(0,z),(1,l),(2,V q.2),(3,V a3),(10,Q f 0),(15,y),(16,V p),(17,V (aw.length:Int)),(151,V a.2.2.2),(152,V p),(175,U g)]/\St S o w [W K z q.1,Y f [V a.1,M a.2.1,vS a.2.2.1,V a.2.2.2],W K y aC]) (F.U7 aw aC p q) ?_ ?_
   rotate_left
   ·intro aP
    refine bV<|aQ (bu (k:=0) u40 Z Z nz3 Z) Z<|aQ (cb Tryz.underlying3 Z Z (hS.u 2 Z 0)) Z<|J 2 Z ?_
    cases au:(a.1 == 5)
    case true=>
     have h:=ik h au
     try simp only[au]
     exact J 1 Z<|dJ (t:=171) Z Z (bH Z Z (Ca _ p 2 (by decide))) Z<|J 2 Z<|gl3<|de (aP ((Int.tmod p 2) == 0) _ _ ⟨Z,(hS.f [0,2,1] Z Z)⟩ h) Z
    case false=>
     have h:=il h au
     try simp only[au]
     exact J 4 Z<|gl3<|de (aP false _ _ ⟨Z,(hS.f [0,2,1] Z Z)⟩ h) Z
   rintro bP L w n h
   try dsimp only at n
   obtain⟨rfl,hS⟩:=n
   unfold F.U7 at h
   apply gl9 Z h<;>intro h
   ·refine gl4<|J 2 Z<|cq h fun bt aF h=>aQ (uW u22 ti5 Z Z (hS.ro 0 Z) aF) Z<|J 1 Z<|gl1 ?_
    refine ja (r:=aL) (fun (g:Bool) L w=>L=[(0,z),(1,l),(2,V q.2),(3,V a3),(10,Q f 0),(18,slV z K.sz (((aw.length:Int):Int).toNat) q.1.length),(151,V a.2.2.2),(152,V p),(186,U g)]/\St S o w [W K z q.1,Y f [V a.1,M a.2.1,vS a.2.2.1,V a.2.2.2]]) (F.VD q bt p) ?_ ?_
    rotate_left
    ·intro aR
     refine bV<|J 3 Z ?_
     cases av:(decide ((0:Int)<p))
     case true=>
      have h:=ik h av
      try simp only[av]
      refine J 2 Z<|cq h fun bv bl h=>Gr (t:=181) Z Z (by kernel_rfl) Z (lE  bl (hS.ro 2 Z).rp ((hS.ro 0 Z).g_sll aF).rp) Z ?_
      rintro _ w ⟨rfl,ax⟩
      have hS:=hS.j ax
      exact J 2 Z<|gl3<|de (aR (decide ((0:Int)<=bv)) _ _ ⟨Z,(hS.f [0,1] Z Z)⟩ h) Z
     case false=>
      have h:=il h av
      try simp only[av]
      exact J 5 Z<|gl3<|de (aR false _ _ ⟨Z,(hS.f [0,1] Z Z)⟩ h) Z
    rintro bQ L w n h
    try dsimp only at n
    obtain⟨rfl,hS⟩:=n
    unfold F.VD at h
    apply gl9 Z h<;>intro h
    ·refine gl4<|J 2 Z<|gl8<|fc<|dQ<|dQ<|have h:=iR h aq;fc<|dQ ?_
     cases h
     exact jP Z Z Z ⟨L03,Z,(hS.nil K).f [0] Z Z⟩
    exact gl5<|bV<|J 1 Z<|cq h fun bw bm h=>vr hS Z (oW  bm ((hS.ro 0 Z).g_sll aF).rp) Z fun bz w hS=>J 1 Z<|dy<|fk<|bA<|de (aH (q.1,q.2,bw) _ _ ⟨z,bz,Z,(hS.f [1,0,2] Z Z)⟩ h) Z
   exact mN<|fk<|bA<|de (aH (q.1,q.2,aC) _ _ ⟨z,y,Z,(hS.f [0,2,1] Z Z)⟩ h) Z
  rintro⟨bC,bD,bE⟩ L w n h
  try dsimp only at n
  obtain⟨aD,aE,rfl,hS⟩:=n
  unfold F.U1 at h
  exact bV<|J 2 Z<|dy<|jk (mr (bj (bC,bD,bE,wI (p+1)) _ _ ⟨aD,aE,Z,hS⟩ (jH h aq)) Z)
 refine fw<|bB<|bB<|have h:=iR h aq;fx<|bA<|gl4<|J 4 Z<|gl3<|gM ?_
 cases h
 exact jP Z Z Z ⟨A,Z,hS.f [0] Z Z⟩
theorem xt (n:Nat):∀(a:World) (a0:L01) (a1:List (Int×UInt64×L01×Int)) (a2:Int) (a3:Int) (b:Value) (c:Value) (S:L02) (hS:St S a a [W K b a0]) (f:TB S a) (d:O S a (I eI (I H (I eS eI))) c a1) (r:L01×Int),F.UU n a0 a1 a2 a3=some r->Calls Tryz.prog 22 #[b,c,V a2,V a3] a (N fun v w=>∃u0:Value,v=.tuple #[u0,V r.2]/\St S a w [W K u0 r.1]):=by
 induction n with
 | zero=>intros; rename_i h; exact absurd h (by simp[F.UU])
 | succ n ih=>exact ww (F.UU n) ih
theorem zZ (a:World) (a0:L01) (a1:List (Int×UInt64×L01×Int)) (a2:Int) (a3:Int) (b:Value) (c:Value) (S:L02) (hS:St S a a [W K b a0]) (f:TB S a) (d:O S a (I eI (I H (I eS eI))) c a1) (r:L01×Int) (h:F.ZQ a0 a1 a2 a3=some r):Calls Tryz.prog 22 #[b,c,V a2,V a3] a (N fun v w=>∃u0:Value,v=.tuple #[u0,V r.2]/\St S a w [W K u0 r.1]):=xt 64 a a0 a1 a2 a3 b c S hS f d r h
theorem zd {f:World} {a0:List (Int×UInt64×L01×Int)} {j:Value} {r:Bool}
  (h:F.VC a0=some r) (hT:TB [] f) (p:O [] f (I eI (I H (I eS eI))) j a0):Calls Tryz.prog 81 #[j] f (N fun v w=>v=U r/\St [] f w []):=by
 refine ca1 18 Tryz.func81 Z Z Z<|have hS:=St.r f;?_
 unfold F.VC at h
 exact wk
theorem zb {f:World} {a0:List (Int×UInt64×L01×Int)} {j:Value} (a1:Int) {r:Int}
  (h:F.U9 a0 a1=some r) (p:O [] f (I eI (I H (I eS eI))) j a0):Calls Tryz.prog 82 #[j,V a1] f (N fun v w=>v=V r/\St [] f w []):=by
 refine ca2 19 Tryz.func82 Z Z Z<|have hS:=St.r f;?_
 unfold F.U9 at h
 let i1:=mkI (F.ZM a0) (fun s L w=>L=[(0,j),(1,V s.1),(5,V s.2)]/\St [] f w [])
 exact wk
theorem yM {f:World} {a0:List (Int×UInt64×L01×Int)} {j:Value} (a1:Int) {r:Int}
  (h:F.Ui a0 a1=some r) (hT:TB [] f) (p:O [] f (I eI (I H (I eS eI))) j a0):Calls Tryz.prog 39 #[j,V a1] f (N fun v w=>v=V r/\St [] f w []):=by
 refine ca2 21 Tryz.func39 Z Z Z<|have hS:=St.r f;?_
 unfold F.Ui at h
 let j1:=mkJ 3 (F.Wy a0 a1) (fun g L w=>L=[(0,j),(1,V a1),(17,U g)]/\St [] f w []) [] []
 exact wk
theorem CF {f:World} {a0 a1:List (Int×UInt64×L01×Int)} {b c:Value} {r:Bool}
  (h:F.YB a0 a1=some r) (i:O [] f (I eI (I H (I eS eI))) b a0) (j:O [] f (I eI (I H (I eS eI))) c a1):Calls Tryz.prog 83 #[b,c] f (N fun v w=>v=U r/\St [] f w []):=by
 refine dN 29 Tryz.func83 Z Z Z<|have a:=St.r f;ig [(0,b),(1,c)] Z ?_
 unfold F.YB at h
 refine gl4<|J 1 Z<|gl1<|gl4<|J 1 Z<|aQ (gt u41 Z (i.now a.fr)) Z<|J 1 Z<|aQ (gt u41 Z (j.now a.fr)) Z<|aQ (sY Z Z) Z<|J 1 Z<|gl3<|cR<|ig [(0,b),(1,c),(10,V (min (a0.length:Int) (a1.length:Int))),(11,V 0)] Z ?_
 refine kJ (F.YJ a0 a1) (fun (s:Int) L w=>L=[(0,b),(1,c),(10,V (min (a0.length:Int) (a1.length:Int))),(11,V s)]/\St [] f w []) ?_ 0 ⟨Z,a⟩ h
 rintro u o L w x p m h g
 try dsimp only at p
 obtain⟨rfl,a⟩:=p
 unfold F.YJ at h
 refine gl4<|J 1 Z<|gl1 ?_
 apply gl9 Z h<;>intro h
 ·refine gl5<|cI<|cR<|gl4<|J 2 Z<|gl1<|kL (fun w'=>St [] f w' []) (fun _=>true) ku (fun _ _ _ n=>n.2) (fun _ _ n=>n) (by kernel_rfl)<|have a:=a.drew;show lxE _ _ _ _ _ _ _ [0,1,2,3,4,5,6,7,8] _ _ from cG 2 Z a<|cq h fun q k h=>cC a Z Z (fun w d=>oY u41 FC Z Z (i.now d.fr) k) Z<|cC a Z Z (fun w d=>wH u40 Z F6 Z (i.now d.fr) k) Z<|cG 2 Z a<|cq h fun t l h=>cC a Z Z (fun w d=>oY u41 FC Z Z (j.now d.fr) l) Z<|cC a Z Z (fun w d=>wH u40 Z F6 Z (j.now d.fr) l) Z<|cC a Z Z (fun w d=>bH Z Z (agx (b':=q != t) (O0 u40 RC SK (EV Z Tryz.underlying3 Z Z (PD Z u38 Z Z (QJ Z Tryz.underlying9 Z Z (EV Z Tryz.underlying3 Z Z NE))))) (by simp only[Bool.and_true]; rfl))) Z<|iB a<|bA ?_
  apply gl9 Z h<;>intro h
  ·refine gl4<|J 1 Z<|gl3<|gM<|fc<|dQ<|dQ<|have h:=iR h g;fc<|dQ ?_
   cases h
   exact jl Z Z ⟨Z,a⟩
  exact mN<|fk<|bA<|bV<|J 2 Z<|dy<|jk (mr (m (wI (o+1)) _ _ ⟨Z,a⟩ (jH h g)) Z)
 refine fw<|bB<|bB<|have h:=iR h g;fx<|bA<|gl4<|J 1 Z<|aQ (gt u41 Z (i.now a.fr)) Z<|J 1 Z<|aQ (gt u41 Z (j.now a.fr)) Z<|J 2 Z<|gl3<|gM ?_
 cases h
 exact jl Z Z ⟨Z,a⟩
end Go.Proofs
