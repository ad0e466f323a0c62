import Derived.Test.YtkbacjmklhgpcaaGreatDoorRW0
import Derived.Test.YtkbacjmklhgpcaaGreatDoorRAw
import Derived.Test.YtkbacjmklhgpcaaGreatDoorGkFman
import Derived.Test.YtkbacjmklhgpcaaGreatDoorRWcbora
import Derived.Test.YtkbacjmklhgpcaaGreatDoorRWlib
set_option linter.unusedVariables false
set_option linter.unusedSimpArgs false
set_option linter.unusedSectionVars false
set_option maxRecDepth 20000
set_option maxHeartbeats 20000000
namespace Go.Proofs
open Go Go.RowKit Go.Gk
open Go.Gk renaming RP -> O, Ret -> N, aq -> K, e64 -> H, e8 -> I, eP -> J, own -> W, pB -> Q, v64 -> M, vB -> U, vI -> V
open Go.Gk.OE renaming bx -> Y
theorem Dm {m:World} {a0:L01} {a:Value} {S:L02} (a1:Int) (a2:UInt64) {r:L01}
  (h:F.Yc a0 a1 a2=some r) (hS:St S m m [W I a a0]):Calls Tryz.prog 44 #[a,V a1,M a2] m (N fun v w=>∃u0:Value,v=u0/\St S m w [W I u0 r]):=by
 refine dY 73 Tryz.func44 Z Z Z<|il [(0,a),(1,V a1),(2,M a2)] Z ?_
 unfold F.Yc at h
 refine gl4<|K 1 Z<|gl2<|K 1 Z<|aO (bI Z Z (Kq _ a1 5)) Z<|aO (fM Z (Hp Tryz.underlying3 Tryz.underlying5 (gU a1 5))) Z<|K 1 Z<|gl2<|qh (m0 (cs:=[v8 0,v8 0,v8 0,v8 0,v8 0,v8 0,v8 0,v8 0]) QZ Z hS) Z fun d w hS=>gl1<|gl4<|K 1 Z<|gl3<|cU<|zZ 100<|kK<|gl4<|aO (bI Z Z (lT _ 0 8)) Z<|gl1<|jF Z<|gl5<|cJ<|cU<|gl4<|K 2 Z<|gl3<|bV<|K 3 Z<|aO (bI Z Z (mw _ 8 0)) Z<|aO (bI Z Z (mC _ 56 0)) Z<|aO (bI Z Z (kE _ a2 56 (by decide))) Z<|aO (fM Z (kV u38 Tryz.underlying5 (bb a2 56))) Z<|aO (kv u157 sz5 Z Z (by decide) (by decide)) Z<|ii (jN (i:=0) (us:=[v8 ((bb a2 56).toUInt8)]) Z sz5 Z Z Z ⟨Z,trivial⟩ Z hS) fun w hS=>dB<|fg<|bA ?_
 refine bV<|aO (bI Z Z (ms _ 0 1)) Z<|K 1 Z<|dB<|jl<|kK<|gl4<|aO (bI Z Z (lT _ 1 8)) Z<|gl1<|jF Z<|gl5<|cJ<|cU<|gl4<|K 2 Z<|gl3<|bV<|K 3 Z<|aO (bI Z Z (mw _ 8 1)) Z<|aO (bI Z Z (mC _ 56 8)) Z<|aO (bI Z Z (kE _ a2 48 (by decide))) Z<|aO (fM Z (kV u38 Tryz.underlying5 (bb a2 48))) Z<|aO (kv u157 sz5 Z Z (by decide) (by decide)) Z<|ii (jN (i:=0) (us:=[v8 ((bb a2 48).toUInt8)]) Z sz5 Z Z Z ⟨Z,trivial⟩ Z hS) fun w hS=>dB<|fg<|bA ?_
 refine bV<|aO (bI Z Z (ms _ 1 1)) Z<|K 1 Z<|dB<|jl<|kK<|gl4<|aO (bI Z Z (lT _ 2 8)) Z<|gl1<|jF Z<|gl5<|cJ<|cU<|gl4<|K 2 Z<|gl3<|bV<|K 3 Z<|aO (bI Z Z (mw _ 8 2)) Z<|aO (bI Z Z (mC _ 56 16)) Z<|aO (bI Z Z (kE _ a2 40 (by decide))) Z<|aO (fM Z (kV u38 Tryz.underlying5 (bb a2 40))) Z<|aO (kv u157 sz5 Z Z (by decide) (by decide)) Z<|ii (jN (i:=0) (us:=[v8 ((bb a2 40).toUInt8)]) Z sz5 Z Z Z ⟨Z,trivial⟩ Z hS) fun w hS=>dB<|fg<|bA ?_
 refine bV<|aO (bI Z Z (ms _ 2 1)) Z<|K 1 Z<|dB<|jl<|kK<|gl4<|aO (bI Z Z (lT _ 3 8)) Z<|gl1<|jF Z<|gl5<|cJ<|cU<|gl4<|K 2 Z<|gl3<|bV<|K 3 Z<|aO (bI Z Z (mw _ 8 3)) Z<|aO (bI Z Z (mC _ 56 24)) Z<|aO (bI Z Z (kE _ a2 32 (by decide))) Z<|aO (fM Z (kV u38 Tryz.underlying5 (bb a2 32))) Z<|aO (kv u157 sz5 Z Z (by decide) (by decide)) Z<|ii (jN (i:=0) (us:=[v8 ((bb a2 32).toUInt8)]) Z sz5 Z Z Z ⟨Z,trivial⟩ Z hS) fun w hS=>dB<|fg<|bA ?_
 refine bV<|aO (bI Z Z (ms _ 3 1)) Z<|K 1 Z<|dB<|jl<|kK<|gl4<|aO (bI Z Z (lT _ 4 8)) Z<|gl1<|jF Z<|gl5<|cJ<|cU<|gl4<|K 2 Z<|gl3<|bV<|K 3 Z<|aO (bI Z Z (mw _ 8 4)) Z<|aO (bI Z Z (mC _ 56 32)) Z<|aO (bI Z Z (kE _ a2 24 (by decide))) Z<|aO (fM Z (kV u38 Tryz.underlying5 (bb a2 24))) Z<|aO (kv u157 sz5 Z Z (by decide) (by decide)) Z<|ii (jN (i:=0) (us:=[v8 ((bb a2 24).toUInt8)]) Z sz5 Z Z Z ⟨Z,trivial⟩ Z hS) fun w hS=>dB<|fg<|bA ?_
 refine bV<|aO (bI Z Z (ms _ 4 1)) Z<|K 1 Z<|dB<|jl<|kK<|gl4<|aO (bI Z Z (lT _ 5 8)) Z<|gl1<|jF Z<|gl5<|cJ<|cU<|gl4<|K 2 Z<|gl3<|bV<|K 3 Z<|aO (bI Z Z (mw _ 8 5)) Z<|aO (bI Z Z (mC _ 56 40)) Z<|aO (bI Z Z (kE _ a2 16 (by decide))) Z<|aO (fM Z (kV u38 Tryz.underlying5 (bb a2 16))) Z<|aO (kv u157 sz5 Z Z (by decide) (by decide)) Z<|ii (jN (i:=0) (us:=[v8 ((bb a2 16).toUInt8)]) Z sz5 Z Z Z ⟨Z,trivial⟩ Z hS) fun w hS=>dB<|fg<|bA ?_
 refine bV<|aO (bI Z Z (ms _ 5 1)) Z<|K 1 Z<|dB<|jl<|kK<|gl4<|aO (bI Z Z (lT _ 6 8)) Z<|gl1<|jF Z<|gl5<|cJ<|cU<|gl4<|K 2 Z<|gl3<|bV<|K 3 Z<|aO (bI Z Z (mw _ 8 6)) Z<|aO (bI Z Z (mC _ 56 48)) Z<|aO (bI Z Z (kE _ a2 8 (by decide))) Z<|aO (fM Z (kV u38 Tryz.underlying5 (bb a2 8))) Z<|aO (kv u157 sz5 Z Z (by decide) (by decide)) Z<|ii (jN (i:=0) (us:=[v8 ((bb a2 8).toUInt8)]) Z sz5 Z Z Z ⟨Z,trivial⟩ Z hS) fun w hS=>dB<|fg<|bA ?_
 refine bV<|aO (bI Z Z (ms _ 6 1)) Z<|K 1 Z<|dB<|jl<|kK<|gl4<|aO (bI Z Z (lT _ 7 8)) Z<|gl1<|jF Z<|gl5<|cJ<|cU<|gl4<|K 2 Z<|gl3<|bV<|K 3 Z<|aO (bI Z Z (mw _ 8 7)) Z<|aO (bI Z Z (mC _ 56 56)) Z<|aO (bI Z Z (kE _ a2 0 (by decide))) Z<|aO (fM Z (kV u38 Tryz.underlying5 (bb a2 0))) Z<|aO (kv u157 sz5 Z Z (by decide) (by decide)) Z<|ii (jN (i:=0) (us:=[v8 ((bb a2 0).toUInt8)]) Z sz5 Z Z Z ⟨Z,trivial⟩ Z hS) fun w hS=>dB<|fg<|bA ?_
 refine bV<|aO (bI Z Z (ms _ 7 1)) Z<|K 1 Z<|dB<|jl<|kK<|gl4<|aO (bI Z Z (lT _ 8 8)) Z<|gl1<|sm Z<|fv<|bB<|bB<|fw<|bA<|gl4<|K 1 Z<|cr h fun n B h=>pi hS Z (sN a2 B ) Z fun w hS=>K 1 Z<|gl2<|K 1 Z<|gl3<|cU<|gl4<|K 2 Z<|gl3 ?_
 apply gl9 Z h<;>intro h
 ·refine gl4<|K 3 Z<|aO (fM Z (kV u38 Tryz.underlying5 a2)) Z<|aO (bI Z Z (zE _ (UInt8.ofInt (gU a1 5)) a2.toUInt8)) Z<|kP (kw (e:=I) (l:=[(UInt8.ofInt (gU a1 5)) ||| a2.toUInt8]) (vs:=[v8 ((UInt8.ofInt (gU a1 5)) ||| a2.toUInt8)]) u22 ti5 Z Z Z Z (by decide) (by decide) hS) Z fun ao w hS=>cr h fun ap C h=>kP (qE u22 ti5 Z Z Z hS (i:=2) Z (hS.ro 0 Z) C) Z fun ab w hS=>K 1 Z<|gl3<|gV<|eX ?_
  cases h
  exact jm Z Z ⟨ab,Z,hS.f [2] Z Z⟩
 refine gl4<|K 2 Z<|gl3 ?_
 apply gl9 Z h<;>intro h
 ·refine gl4<|K 1 Z<|aO (bI Z Z (zE _ (UInt8.ofInt (gU a1 5)) 24)) Z<|kH h fun c p h=>aO (du (v:=v8 c) (by rw[<-p]; rfl)) Z<|gl2<|K 3 Z<|aO (fM Z (kV u38 Tryz.underlying5 a2)) Z<|kP (kw (e:=I) (l:=[c,a2.toUInt8]) (vs:=[v8 c,v8 a2.toUInt8]) u22 ti5 Z Z Z Z (by decide) (by decide) hS) Z fun ae w hS=>cr h fun af q h=>kP (qE u22 ti5 Z Z Z hS (i:=2) Z (hS.ro 0 Z) q) Z fun D w hS=>K 1 Z<|gl3<|gV<|eX ?_
  cases h
  exact jm Z Z ⟨D,Z,hS.f [2] Z Z⟩
 refine cJ<|gl4<|K 1 Z<|gl3<|cU<|il [(0,a),(7,v8 (UInt8.ofInt (gU a1 5))),(8,Q d 0),(10,V n),(11,V 1)] Z ?_
 refine kJ (F.To a0 a2 n) (fun (s:UInt8×Int) L w=>L=[(0,a),(7,v8 s.1),(8,Q d 0),(10,V n),(11,V s.2)]/\St S m w [W I a a0,Y d [v8 ((bb a2 56).toUInt8),v8 ((bb a2 48).toUInt8),v8 ((bb a2 40).toUInt8),v8 ((bb a2 32).toUInt8),v8 ((bb a2 24).toUInt8),v8 ((bb a2 16).toUInt8),v8 ((bb a2 8).toUInt8),v8 ((bb a2 0).toUInt8)]]) ?_ (UInt8.ofInt (gU a1 5),1) ⟨Z,(hS.f [1,0] Z Z)⟩ h
 rintro ag ⟨b,o⟩ L w ah hI u h f
 try dsimp only at hI
 obtain⟨rfl,hS⟩:=hI
 unfold F.To at h
 refine cJ<|gl4<|K 3 Z<|gl3 ?_
 apply gl9 Z h<;>intro h
 ·exact gl5<|cJ<|cU<|bV<|K 1 Z<|aO (bI Z Z (N5 _ b 1)) Z<|K 1 Z<|dB<|fg<|bA<|bV<|K 1 Z<|aO (bI Z Z (mw _ o 2)) Z<|K 1 Z<|dB<|jl (mx (u (b+1,wI (o*2)) _ _ ⟨Z,hS⟩ (jH h f)) Z)
 refine fv<|bB<|bB<|have h:=iV h f;fw<|bA<|gl4<|K 2 Z<|cr h fun ai x h=>kP (Co (e:=I) u22 ti5 Z Z Z hS x) Z fun E w hS=>K 1 Z<|gl2<|K 2 Z<|aO (bI Z Z (zE _ b 24)) Z<|cr h fun aj g h=>aO (o8 u22 ti5 Z Z (hS.ro 0 Z) g) Z<|ii (rf (t:=(b ||| 24)) ti5 Z Z hS (i:=0) Z g Z) fun w hS=>kH h fun G y h=>?_
 rw[y]at hS
 refine gl1<|lG (fun w'=>St S m w' [W I E G,W I a a0,Y d [v8 ((bb a2 56).toUInt8),v8 ((bb a2 48).toUInt8),v8 ((bb a2 40).toUInt8),v8 ((bb a2 32).toUInt8),v8 ((bb a2 24).toUInt8),v8 ((bb a2 16).toUInt8),v8 ((bb a2 8).toUInt8),v8 ((bb a2 0).toUInt8)]]) (fun i=>!([5].contains i)) kr (fun _ _ _ T=>T.2) (fun _ _ T=>T) (by kernel_rfl)<|have hS:=hS.drew;show lxE _ _ _ _ _ _ _ [0,1,2,3,4,5] _ _ from cH 1 Z hS<|cr h fun ak j h=>cC hS Z Z (fun w hF=>u7 u22 ti5 Z Z (hF.ro 0 Z) j) Z<|cH 2 Z hS<|cr h fun al k h=>cC hS Z Z (fun w hF=>QS (e:=I) (l:=([(bb a2 56).toUInt8,(bb a2 48).toUInt8,(bb a2 40).toUInt8,(bb a2 32).toUInt8,(bb a2 24).toUInt8,(bb a2 16).toUInt8,(bb a2 8).toUInt8,(bb a2 0).toUInt8]:L01)) u157 ti5 Z Z Z k) Z<|vP hS Z Z (CD (e:=I) u22 ti5 Z Z Z hS (i:=0) Z ((hS.bxro 2 Z Z).g_sll k) (lC j).1.2 (ax _)) Z ?_
 rintro v_q w ⟨hv_q,hS⟩
 subst v_q
 obtain⟨am,z,h⟩:=jo h
 rw[z]at hS
 refine iG trivial<|bA<|gl4<|K 2 Z<|cr h fun an A h=>kP (qE u22 ti5 Z Z Z hS (i:=1) Z (hS.ro 0 Z) A) Z fun aa w hS=>K 1 Z<|gl3<|gV<|eX ?_
 cases h
 exact jm Z Z ⟨aa,Z,hS.f [1] Z Z⟩
theorem wE (rc:L01->(List (Int×UInt64×L01×Int))->Int->Int->Option (L01×Int)) (hrc:∀(o:World) (a0:L01) (a1:List (Int×UInt64×L01×Int)) (a2:Int) (a3:Int) (j:Value) (l:Value) (S:L02) (hS:St S o o [W I j a0]) (hT:TB S o) (aG:O S o (J eI (J H (J eS eI))) l a1) (r:L01×Int),rc a0 a1 a2 a3=some r->Calls Tryz.prog 22 #[j,l,V a2,V a3] o (N fun v w=>∃u0:Value,v=.tuple #[u0,V r.2]/\St S o w [W I u0 r.1])) (o:World) (a0:L01) (a1:List (Int×UInt64×L01×Int)) (a2:Int) (a3:Int) (j:Value) (l:Value) (S:L02) (hS:St S o o [W I j a0]) (hT:TB S o) (aG:O S o (J eI (J H (J eS eI))) l a1) (r:L01×Int)
  (h:F.Yr rc a0 a1 a2 a3=some r):Calls Tryz.prog 22 #[j,l,V a2,V a3] o (N fun v w=>∃u0:Value,v=.tuple #[u0,V r.2]/\St S o w [W I u0 r.1]):=by
 refine dY 192 Tryz.func22 Z Z Z<|il [(0,j),(1,l),(2,V a2),(3,V a3)] Z ?_
 unfold F.Yr at h
 refine gl4<|K 2 Z<|gl1<|gl4<|K 2 Z<|aO (gx u41 Z (aG.now hS.fr)) Z<|K 1 Z<|gl3 ?_
 apply gl9 Z h<;>intro h
 ·refine gl4<|K 2 Z<|gl8 ?_
  cases h
  exact jP Z Z Z ⟨L03,Z,(hS.nil I).f [0] Z Z⟩
 refine gl6<|K 2 Z<|cr h fun a aS h=>aO (o8 u41 FD Z Z (aG.now hS.fr) aS) Z<|aO (wP u40 Z F8 Z (aG.now hS.fr) aS) Z<|qh (m0 (cs:=[V 0,M 0,vS [],V 0]) Pi Z hS) Z fun f w hS=>ii (jN (i:=0) (us:=[V a.1,M a.2.1,vS a.2.2.1,V a.2.2.2]) Z F8 Z Z Z ⟨Z,Z,Z,Z,trivial⟩ Z hS) fun w hS=>gl3 ?_
 refine jd (r:=r) (fun (g:Bool×Bool×Bool) L w=>L=[(0,j),(1,l),(2,V a2),(3,V a3),(10,Q f 0),(11,U g.1),(12,U g.2.1),(13,U g.2.2)]/\St S o w [W I j a0,Y f [V a.1,M a.2.1,vS a.2.2.1,V a.2.2.2]]) (F.S2 a a3 a0 a2 a1 rc) ?_ ?_
 rotate_left
 ·intro u
  refine kL (fun w'=>St S o w' [Y f [V a.1,M a.2.1,vS a.2.2.1,V a.2.2.2],W I j a0]) (fun _=>true) kr (fun _ _ _ hf=>hf.2) (fun _ _ hf=>hf) (by kernel_rfl)<|have hS:=hS.drew;show lxE _ _ _ _ _ _ _ [0,1,2,3,4,5,6,7,8,9,10,11,12,13,14,15,16,17,18,19,20,21,22,23,24,25,26] _ _ from cC hS Z Z (fun w c=>br (k:=0) u40 Z Z nz3 Z) Z<|cC hS Z Z (fun w c=>cc Tryz.underlying3 Z Z (c.u 0 Z 0)) Z<|cH 2 Z hS ?_
  cases ay:(a.1 == 2)
  case true=>
   have h:=iq h ay
   try simp only[ay]
   refine eK (b:=true) (t:=30) hS Z Z Z Z Z Z<|eK (b:=true) (t:=30) hS Z Z Z Z Z Z<|eK (b:=true) (t:=30) hS Z Z Z Z Z Z<|cH 1 Z hS<|cC hS Z Z (fun w c=>br (k:=0) u40 Z Z nz3 Z) Z<|cC hS Z Z (fun w c=>cc Tryz.underlying3 Z Z (c.u 0 Z 0)) Z<|cH 2 Z hS ?_
   cases az:(decide (a.1<2))
   case true=>
    have h:=iq h az
    try simp only[az]
    refine eK (b:=true) (t:=38) hS Z Z Z Z Z Z<|eK (b:=true) (t:=38) hS Z Z Z Z Z Z<|eK (b:=true) (t:=38) hS Z Z Z Z Z Z<|cH 1 Z hS<|cC hS Z Z (fun w c=>br (k:=0) u40 Z Z nz3 Z) Z<|cC hS Z Z (fun w c=>cc Tryz.underlying3 Z Z (c.u 0 Z 0)) Z<|cH 2 Z hS ?_
    cases aA:(decide ((4:Int)<=a.1))
    case true=>
     have h:=iq h aA
     try simp only[aA]
     exact gN (t:=46) hS Z Z Z Z (fun w c=>br (k:=0) u40 Z Z nz3 Z) Z<|gN (t:=46) hS Z Z Z Z (fun w c=>cc Tryz.underlying3 Z Z (c.u 0 Z 0)) Z<|gN (t:=46) hS Z Z Z Z (fun w c=>bI Z Z (qu _ a.1 6)) Z<|cH 4 Z hS<|iG hS<|bA<|dm (u (true,true,decide (a.1<=6)) _ _ ⟨Z,(hS.f [1,0] Z Z)⟩ h) Z
    case false=>
     have h:=ir h aA
     try simp only[aA]
     exact eK (b:=false) (t:=46) hS Z Z Z Z Z Z<|eK (b:=false) (t:=46) hS Z Z Z Z Z Z<|eK (b:=false) (t:=46) hS Z Z Z Z Z Z<|cH 4 Z hS<|iG hS<|bA<|dm (u (true,true,false) _ _ ⟨Z,(hS.f [1,0] Z Z)⟩ h) Z
   case false=>
    have h:=ir h az
    try simp only[az]
    refine gN (t:=38) hS Z Z Z Z (fun w c=>br (k:=0) u40 Z Z nz3 Z) Z<|gN (t:=38) hS Z Z Z Z (fun w c=>cc Tryz.underlying3 Z Z (c.u 0 Z 0)) Z<|gN (t:=38) hS Z Z Z Z (fun w c=>bI Z Z (vr _ a.1 5)) Z<|cH 1 Z hS<|cC hS Z Z (fun w c=>br (k:=0) u40 Z Z nz3 Z) Z<|cC hS Z Z (fun w c=>cc Tryz.underlying3 Z Z (c.u 0 Z 0)) Z<|cH 2 Z hS ?_
    cases aB:(decide ((4:Int)<=a.1))
    case true=>
     have h:=iq h aB
     try simp only[aB]
     exact gN (t:=46) hS Z Z Z Z (fun w c=>br (k:=0) u40 Z Z nz3 Z) Z<|gN (t:=46) hS Z Z Z Z (fun w c=>cc Tryz.underlying3 Z Z (c.u 0 Z 0)) Z<|gN (t:=46) hS Z Z Z Z (fun w c=>bI Z Z (qu _ a.1 6)) Z<|cH 2 Z hS<|kH h fun bn bp h=>cC hS Z Z (fun w c=>du (v:=U bn) (by rw[<-bp]; rfl)) Z<|cH 1 Z hS<|iG hS<|bA<|dm (u (true,bn,decide (a.1<=6)) _ _ ⟨Z,(hS.f [1,0] Z Z)⟩ h) Z
    case false=>
     have h:=ir h aB
     try simp only[aB]
     exact eK (b:=false) (t:=46) hS Z Z Z Z Z Z<|eK (b:=false) (t:=46) hS Z Z Z Z Z Z<|eK (b:=false) (t:=46) hS Z Z Z Z Z Z<|cH 2 Z hS<|kH h fun aT bb h=>cC hS Z Z (fun w c=>du (v:=U aT) (by rw[<-bb]; rfl)) Z<|cH 1 Z hS<|iG hS<|bA<|dm (u (true,aT,false) _ _ ⟨Z,(hS.f [1,0] Z Z)⟩ h) Z
  case false=>
   have h:=ir h ay
   try simp only[ay]
   refine gN (t:=30) hS Z Z Z Z (fun w c=>br (k:=0) u40 Z Z nz3 Z) Z<|gN (t:=30) hS Z Z Z Z (fun w c=>cc Tryz.underlying3 Z Z (c.u 0 Z 0)) Z<|gN (t:=30) hS Z Z Z Z (fun w c=>bI Z Z (BG _ a.1 3)) Z<|cH 1 Z hS<|cC hS Z Z (fun w c=>br (k:=0) u40 Z Z nz3 Z) Z<|cC hS Z Z (fun w c=>cc Tryz.underlying3 Z Z (c.u 0 Z 0)) Z<|cH 2 Z hS ?_
   cases B:(decide (a.1<2))
   case true=>
    have h:=iq h B
    try simp only[B]
    refine eK (b:=true) (t:=38) hS Z Z Z Z Z Z<|eK (b:=true) (t:=38) hS Z Z Z Z Z Z<|eK (b:=true) (t:=38) hS Z Z Z Z Z Z<|cH 1 Z hS<|cC hS Z Z (fun w c=>br (k:=0) u40 Z Z nz3 Z) Z<|cC hS Z Z (fun w c=>cc Tryz.underlying3 Z Z (c.u 0 Z 0)) Z<|cH 2 Z hS ?_
    cases C:(decide ((4:Int)<=a.1))
    case true=>
     have h:=iq h C
     try simp only[C]
     exact gN (t:=46) hS Z Z Z Z (fun w c=>br (k:=0) u40 Z Z nz3 Z) Z<|gN (t:=46) hS Z Z Z Z (fun w c=>cc Tryz.underlying3 Z Z (c.u 0 Z 0)) Z<|gN (t:=46) hS Z Z Z Z (fun w c=>bI Z Z (qu _ a.1 6)) Z<|cH 4 Z hS<|iG hS<|bA<|dm (u (a.1 == 3,true,decide (a.1<=6)) _ _ ⟨Z,(hS.f [1,0] Z Z)⟩ h) Z
    case false=>
     have h:=ir h C
     try simp only[C]
     exact eK (b:=false) (t:=46) hS Z Z Z Z Z Z<|eK (b:=false) (t:=46) hS Z Z Z Z Z Z<|eK (b:=false) (t:=46) hS Z Z Z Z Z Z<|cH 4 Z hS<|iG hS<|bA<|dm (u (a.1 == 3,true,false) _ _ ⟨Z,(hS.f [1,0] Z Z)⟩ h) Z
   case false=>
    have h:=ir h B
    try simp only[B]
    refine gN (t:=38) hS Z Z Z Z (fun w c=>br (k:=0) u40 Z Z nz3 Z) Z<|gN (t:=38) hS Z Z Z Z (fun w c=>cc Tryz.underlying3 Z Z (c.u 0 Z 0)) Z<|gN (t:=38) hS Z Z Z Z (fun w c=>bI Z Z (vr _ a.1 5)) Z<|cH 1 Z hS<|cC hS Z Z (fun w c=>br (k:=0) u40 Z Z nz3 Z) Z<|cC hS Z Z (fun w c=>cc Tryz.underlying3 Z Z (c.u 0 Z 0)) Z<|cH 2 Z hS ?_
    cases D:(decide ((4:Int)<=a.1))
    case true=>
     have h:=iq h D
     try simp only[D]
     exact gN (t:=46) hS Z Z Z Z (fun w c=>br (k:=0) u40 Z Z nz3 Z) Z<|gN (t:=46) hS Z Z Z Z (fun w c=>cc Tryz.underlying3 Z Z (c.u 0 Z 0)) Z<|gN (t:=46) hS Z Z Z Z (fun w c=>bI Z Z (qu _ a.1 6)) Z<|cH 2 Z hS<|kH h fun aU bc h=>cC hS Z Z (fun w c=>du (v:=U aU) (by rw[<-bc]; rfl)) Z<|cH 1 Z hS<|iG hS<|bA<|dm (u (a.1 == 3,aU,decide (a.1<=6)) _ _ ⟨Z,(hS.f [1,0] Z Z)⟩ h) Z
    case false=>
     have h:=ir h D
     try simp only[D]
     exact eK (b:=false) (t:=46) hS Z Z Z Z Z Z<|eK (b:=false) (t:=46) hS Z Z Z Z Z Z<|eK (b:=false) (t:=46) hS Z Z Z Z Z Z<|cH 2 Z hS<|kH h fun aV bd h=>cC hS Z Z (fun w c=>du (v:=U aV) (by rw[<-bd]; rfl)) Z<|cH 1 Z hS<|iG hS<|bA<|dm (u (a.1 == 3,aV,false) _ _ ⟨Z,(hS.f [1,0] Z Z)⟩ h) Z
 rintro⟨bq,aW,m⟩ L w n h
 try dsimp only at n
 obtain⟨rfl,hS⟩:=n
 unfold F.S2 at h
 refine cJ ?_
 refine jd (r:=r) (fun (g:Bool) L w=>L=[(0,j),(1,l),(2,V a2),(3,V a3),(10,Q f 0),(13,U m),(90,U g)]/\St S o w [W I j a0,Y f [V a.1,M a.2.1,vS a.2.2.1,V a.2.2.2]]) (F.SZ a a3 m a0 a2 a1 rc) ?_ ?_
 rotate_left
 ·intro d
  refine bV<|aO (br (k:=0) u40 Z Z nz3 Z) Z<|aO (cc Tryz.underlying3 Z Z (hS.u 1 Z 0)) Z<|K 2 Z ?_
  cases E:(decide (a.1<0))
  case true=>
   have h:=iq h E
   try simp only[E]
   exact K 36 Z<|gl3<|dm (d true _ _ ⟨Z,hS⟩ h) Z
  case false=>
   have h:=ir h E
   try simp only[E]
   refine dM (t:=54) Z Z (br (k:=0) u40 Z Z nz3 Z) Z<|dM (t:=54) Z Z (cc Tryz.underlying3 Z Z (hS.u 1 Z 0)) Z<|K 3 Z ?_
   cases G:(decide ((7:Int)<a.1))
   case true=>
    have h:=iq h G
    try simp only[G]
    exact K 31 Z<|gl3<|dm (d true _ _ ⟨Z,hS⟩ h) Z
   case false=>
    have h:=ir h G
    try simp only[G]
    refine K 3 Z ?_
    cases T:(!bq)
    case true=>
     have h:=iq h T
     try simp only[T]
     refine dM (t:=62) Z Z (br (k:=2) u40 Z Z nz9 Z) Z<|dM (t:=62) Z Z (cc Tryz.underlying9 Z Z (hS.u 1 Z 2)) Z<|dM (t:=62) Z Z (bI Z Z (Oj _ a.2.2.1 [])) Z<|K 3 Z ?_
     cases aa:(a.2.2.1 != [])
     case true=>
      have h:=iq h aa
      try simp only[aa]
      exact K 22 Z<|gl3<|dm (d true _ _ ⟨Z,hS⟩ h) Z
     case false=>
      have h:=ir h aa
      try simp only[aa]
      refine K 3 Z ?_
      cases ab:(!aW)
      case true=>
       have h:=iq h ab
       try simp only[ab]
       refine dM (t:=71) Z Z (br (k:=1) u40 Z Z xD Z) Z<|dM (t:=71) Z Z (cc u38 Z Z (hS.u 1 Z 1)) Z<|dM (t:=71) Z Z (bI Z Z (xo _ a.2.1 0)) Z<|K 3 Z ?_
       cases ac:(a.2.1 != 0)
       case true=>
        have h:=iq h ac
        try simp only[ac]
        exact K 13 Z<|gl3<|dm (d true _ _ ⟨Z,hS⟩ h) Z
       case false=>
        have h:=ir h ac
        try simp only[ac]
        refine K 3 Z ?_
        cases ad:(!m)
        case true=>
         have h:=iq h ad
         try simp only[ad]
         refine dM (t:=80) Z Z (br (k:=3) u40 Z Z nz3 Z) Z<|dM (t:=80) Z Z (cc Tryz.underlying3 Z Z (hS.u 1 Z 3)) Z<|K 4 Z ?_
         cases ae:(a.2.2.2 != 0)
         case true=>
          have h:=iq h ae
          try simp only[ae]
          exact K 4 Z<|gl3<|dm (d true _ _ ⟨Z,hS⟩ h) Z
         case false=>
          have h:=ir h ae
          try simp only[ae]
          exact dM (t:=86) Z Z (br (k:=3) u40 Z Z nz3 Z) Z<|dM (t:=86) Z Z (cc Tryz.underlying3 Z Z (hS.u 1 Z 3)) Z<|K 2 Z<|gl3<|dm (d (decide (a.2.2.2<0)) _ _ ⟨Z,hS⟩ h) Z
        case false=>
         have h:=ir h ad
         try simp only[ad]
         exact K 6 Z<|dM (t:=86) Z Z (br (k:=3) u40 Z Z nz3 Z) Z<|dM (t:=86) Z Z (cc Tryz.underlying3 Z Z (hS.u 1 Z 3)) Z<|K 2 Z<|gl3<|dm (d (decide (a.2.2.2<0)) _ _ ⟨Z,hS⟩ h) Z
      case false=>
       have h:=ir h ab
       try simp only[ab]
       refine K 9 Z ?_
       cases af:(!m)
       case true=>
        have h:=iq h af
        try simp only[af]
        refine dM (t:=80) Z Z (br (k:=3) u40 Z Z nz3 Z) Z<|dM (t:=80) Z Z (cc Tryz.underlying3 Z Z (hS.u 1 Z 3)) Z<|K 4 Z ?_
        cases ag:(a.2.2.2 != 0)
        case true=>
         have h:=iq h ag
         try simp only[ag]
         exact K 4 Z<|gl3<|dm (d true _ _ ⟨Z,hS⟩ h) Z
        case false=>
         have h:=ir h ag
         try simp only[ag]
         exact dM (t:=86) Z Z (br (k:=3) u40 Z Z nz3 Z) Z<|dM (t:=86) Z Z (cc Tryz.underlying3 Z Z (hS.u 1 Z 3)) Z<|K 2 Z<|gl3<|dm (d (decide (a.2.2.2<0)) _ _ ⟨Z,hS⟩ h) Z
       case false=>
        have h:=ir h af
        try simp only[af]
        exact K 6 Z<|dM (t:=86) Z Z (br (k:=3) u40 Z Z nz3 Z) Z<|dM (t:=86) Z Z (cc Tryz.underlying3 Z Z (hS.u 1 Z 3)) Z<|K 2 Z<|gl3<|dm (d (decide (a.2.2.2<0)) _ _ ⟨Z,hS⟩ h) Z
    case false=>
     have h:=ir h T
     try simp only[T]
     refine K 9 Z ?_
     cases ah:(!aW)
     case true=>
      have h:=iq h ah
      try simp only[ah]
      refine dM (t:=71) Z Z (br (k:=1) u40 Z Z xD Z) Z<|dM (t:=71) Z Z (cc u38 Z Z (hS.u 1 Z 1)) Z<|dM (t:=71) Z Z (bI Z Z (xo _ a.2.1 0)) Z<|K 3 Z ?_
      cases ai:(a.2.1 != 0)
      case true=>
       have h:=iq h ai
       try simp only[ai]
       exact K 13 Z<|gl3<|dm (d true _ _ ⟨Z,hS⟩ h) Z
      case false=>
       have h:=ir h ai
       try simp only[ai]
       refine K 3 Z ?_
       cases aj:(!m)
       case true=>
        have h:=iq h aj
        try simp only[aj]
        refine dM (t:=80) Z Z (br (k:=3) u40 Z Z nz3 Z) Z<|dM (t:=80) Z Z (cc Tryz.underlying3 Z Z (hS.u 1 Z 3)) Z<|K 4 Z ?_
        cases ak:(a.2.2.2 != 0)
        case true=>
         have h:=iq h ak
         try simp only[ak]
         exact K 4 Z<|gl3<|dm (d true _ _ ⟨Z,hS⟩ h) Z
        case false=>
         have h:=ir h ak
         try simp only[ak]
         exact dM (t:=86) Z Z (br (k:=3) u40 Z Z nz3 Z) Z<|dM (t:=86) Z Z (cc Tryz.underlying3 Z Z (hS.u 1 Z 3)) Z<|K 2 Z<|gl3<|dm (d (decide (a.2.2.2<0)) _ _ ⟨Z,hS⟩ h) Z
       case false=>
        have h:=ir h aj
        try simp only[aj]
        exact K 6 Z<|dM (t:=86) Z Z (br (k:=3) u40 Z Z nz3 Z) Z<|dM (t:=86) Z Z (cc Tryz.underlying3 Z Z (hS.u 1 Z 3)) Z<|K 2 Z<|gl3<|dm (d (decide (a.2.2.2<0)) _ _ ⟨Z,hS⟩ h) Z
     case false=>
      have h:=ir h ah
      try simp only[ah]
      refine K 9 Z ?_
      cases al:(!m)
      case true=>
       have h:=iq h al
       try simp only[al]
       refine dM (t:=80) Z Z (br (k:=3) u40 Z Z nz3 Z) Z<|dM (t:=80) Z Z (cc Tryz.underlying3 Z Z (hS.u 1 Z 3)) Z<|K 4 Z ?_
       cases am:(a.2.2.2 != 0)
       case true=>
        have h:=iq h am
        try simp only[am]
        exact K 4 Z<|gl3<|dm (d true _ _ ⟨Z,hS⟩ h) Z
       case false=>
        have h:=ir h am
        try simp only[am]
        exact dM (t:=86) Z Z (br (k:=3) u40 Z Z nz3 Z) Z<|dM (t:=86) Z Z (cc Tryz.underlying3 Z Z (hS.u 1 Z 3)) Z<|K 2 Z<|gl3<|dm (d (decide (a.2.2.2<0)) _ _ ⟨Z,hS⟩ h) Z
      case false=>
       have h:=ir h al
       try simp only[al]
       exact K 6 Z<|dM (t:=86) Z Z (br (k:=3) u40 Z Z nz3 Z) Z<|dM (t:=86) Z Z (cc Tryz.underlying3 Z Z (hS.u 1 Z 3)) Z<|K 2 Z<|gl3<|dm (d (decide (a.2.2.2<0)) _ _ ⟨Z,hS⟩ h) Z
 rintro bJ L w n h
 try dsimp only at n
 obtain⟨rfl,hS⟩:=n
 unfold F.SZ at h
 apply gl9 Z h<;>intro h
 ·refine gl4<|K 2 Z<|gl8 ?_
  cases h
  exact jP Z Z Z ⟨L03,Z,(hS.nil I).f [0] Z Z⟩
 refine gl6<|aO (br (k:=1) u40 Z Z xD Z) Z<|aO (cc u38 Z Z (hS.u 1 Z 1)) Z<|K 1 Z<|gl3 ?_
 refine jd (r:=r) (fun (g:UInt64) L w=>L=[(0,j),(1,l),(2,V a2),(3,V a3),(10,Q f 0),(13,U m),(14,M g)]/\St S o w [W I j a0,Y f [V a.1,M a.2.1,vS a.2.2.1,V a.2.2.2]]) (F.S4 a3 m a0 a2 a a1 rc) ?_ ?_
 rotate_left
 ·intro x
  refine gl4<|aO (br (k:=0) u40 Z Z nz3 Z) Z<|aO (cc Tryz.underlying3 Z Z (hS.u 1 Z 0)) Z<|gl3<|cU<|cJ<|cU<|cJ<|cU<|cJ<|cU ?_
  refine jd (r:=r) (fun (g:Unit) L w=>L=[(0,j),(1,l),(2,V a2),(3,V a3),(10,Q f 0),(13,U m)]/\St S o w [W I j a0,Y f [V a.1,M a.2.1,vS a.2.2.1,V a.2.2.2]]) (F.Tp a a3 m a0 a2 a1 rc) ?_ ?_
  rotate_left
  ·intro aM
   refine cU<|cJ<|cU<|cJ<|cU<|cJ<|cJ<|gl4<|K 2 Z<|gl3 ?_
   apply gl9 Z h<;>intro h
   ·refine fv<|bB<|bB<|fw<|bA<|cJ ?_
    refine jd (r:=r) (fun (g:Bool) L w=>L=[(0,j),(1,l),(2,V a2),(3,V a3),(10,Q f 0),(13,U m),(14,M a.2.1),(112,U g)]/\St S o w [W I j a0,Y f [V a.1,M a.2.1,vS a.2.2.1,V a.2.2.2]]) (F.Ts a a3 m a0 a2 a1 rc) ?_ ?_
    rotate_left
    ·intro aN
     refine bV<|K 1 Z<|aO (bI Z Z (Ep _ a.2.1 20)) Z<|K 1 Z ?_
     cases an:(decide (a.2.1<20))
     case true=>
      have h:=iq h an
      try simp only[an]
      exact K 3 Z<|gl3<|dm (aN true _ _ ⟨Z,hS⟩ h) Z
     case false=>
      have h:=ir h an
      try simp only[an]
      exact K 1 Z<|dM (t:=109) Z Z (bI Z Z (DW _ a.2.1 22)) Z<|K 1 Z<|gl3<|dm (aN (decide ((22:UInt64)<a.2.1)) _ _ ⟨Z,hS⟩ h) Z
    rintro bK L w n h
    try dsimp only at n
    obtain⟨rfl,hS⟩:=n
    unfold F.Ts at h
    apply gl9 Z h<;>intro h
    ·refine gl4<|K 2 Z<|gl8<|eX<|dS<|eX<|dS<|eX<|dS<|eX<|dS<|eX<|dS<|eX<|dS ?_
     cases h
     exact jP Z Z Z ⟨L03,Z,(hS.nil I).f [0] Z Z⟩
    exact gl5<|fv<|dG Z<|bB<|dG Z<|bB<|dG Z<|bB<|dG Z<|bB<|dG Z<|bB<|fw<|bA<|dm (x a.2.1 _ _ ⟨Z,hS⟩ h) Z
   refine gl5<|cJ<|gl4<|K 2 Z<|gl3 ?_
   apply gl9 Z h<;>intro h
   ·refine fv<|bB<|bB<|dG Z<|bB<|fw<|bA<|gl4<|aO (br (k:=2) u40 Z Z nz9 Z) Z<|aO (cc Tryz.underlying9 Z Z (hS.u 1 Z 2)) Z<|cr h fun bL be h=>pi hS Z (lE a.2.2.1 be (hT.now hS.fr)) Z fun w hS=>K 1 Z<|gl3 ?_
    apply gl9 Z h<;>intro h
    ·refine gl4<|K 2 Z<|gl3<|gV<|eX<|dS<|eX<|dS<|eX<|dS<|eX<|dS<|eX<|dS ?_
     cases h
     exact jP Z Z Z ⟨L03,Z,(hS.nil I).f [0] Z Z⟩
    exact mS<|fg<|bA<|dm (aM () _ _ ⟨Z,hS⟩ h) Z
   refine gl5<|cJ<|gl4<|K 2 Z<|gl3 ?_
   apply gl9 Z h<;>intro h
   ·exact fv<|bB<|bB<|dG Z<|bB<|dG Z<|bB<|fw<|bA<|dm (aM () _ _ ⟨Z,hS⟩ h) Z
   refine gl5<|cJ<|gl4<|K 2 Z<|gl3 ?_
   apply gl9 Z h<;>intro h
   ·exact fv<|bB<|bB<|dG Z<|bB<|dG Z<|bB<|dG Z<|bB<|fw<|bA<|gl4<|aO (br (k:=3) u40 Z Z nz3 Z) Z<|aO (cc Tryz.underlying3 Z Z (hS.u 1 Z 3)) Z<|aO (fM Z (oH Tryz.underlying3 u38 a.2.2.2)) Z<|K 1 Z<|gl3<|fv<|dG Z<|bB<|dG Z<|bB<|fw<|bA<|dm (x (UInt64.ofInt a.2.2.2) _ _ ⟨Z,hS⟩ h) Z
   refine gl5<|cJ<|gl4<|K 2 Z<|gl3 ?_
   apply gl9 Z h<;>intro h
   ·refine fv<|bB<|bB<|dG Z<|bB<|dG Z<|bB<|dG Z<|bB<|dG Z<|bB<|fw<|bA<|cJ<|cJ<|gl4<|aO (br (k:=3) u40 Z Z nz3 Z) Z<|aO (cc Tryz.underlying3 Z Z (hS.u 1 Z 3)) Z<|aO (bI Z Z (Cc _ a.2.2.2 2 (by decide))) Z<|K 1 Z<|gl3 ?_
    apply gl9 Z h<;>intro h
    ·refine gl4<|K 2 Z<|gl8<|dS<|eX<|dS<|eX<|dS ?_
     cases h
     exact jP Z Z Z ⟨L03,Z,(hS.nil I).f [0] Z Z⟩
    exact gl5<|bV<|aO (br (k:=3) u40 Z Z nz3 Z) Z<|aO (cc Tryz.underlying3 Z Z (hS.u 1 Z 3)) Z<|aO (bI Z Z (GY _ a.2.2.2 2 (by decide))) Z<|aO (fM Z (oH Tryz.underlying3 u38 (wI (Int.tdiv a.2.2.2 2)))) Z<|kH h fun aX bf h=>aO (du (v:=M aX) (by rw[<-bf]; rfl)) Z<|gl3<|fv<|dG Z<|bB<|fw<|bA<|dm (x aX _ _ ⟨Z,hS⟩ h) Z
   refine gl6<|K 2 Z<|gl3 ?_
   apply gl9 Z h<;>intro h
   ·refine fv<|bB<|dG Z<|bB<|dG Z<|bB<|dG Z<|bB<|dG Z<|bB<|dG Z<|bB<|fw<|bA<|cJ<|gl4<|aO (br (k:=3) u40 Z Z nz3 Z) Z<|aO (cc Tryz.underlying3 Z Z (hS.u 1 Z 3)) Z<|K 1 Z<|gl3 ?_
    apply gl9 Z h<;>intro h
    ·refine gl4<|K 2 Z<|gl8<|eX<|dS ?_
     cases h
     exact jP Z Z Z ⟨L03,Z,(hS.nil I).f [0] Z Z⟩
    exact gl5<|fv<|fw<|bA<|dm (x a.2.1 _ _ ⟨Z,hS⟩ h) Z
   exact gl5<|fv<|dG Z<|bB<|dG Z<|bB<|dG Z<|bB<|dG Z<|bB<|dG Z<|bB<|dG Z<|bB<|fw<|bA<|dm (x a.2.1 _ _ ⟨Z,hS⟩ h) Z
  rintro _g L w n h
  try dsimp only at n
  obtain⟨rfl,hS⟩:=n
  unfold F.Tp at h
  exact gl4<|aO (br (k:=2) u40 Z Z nz9 Z) Z<|aO (cc Tryz.underlying9 Z Z (hS.u 1 Z 2)) Z<|aO (B7 Tryz.underlying9 Z) Z<|aO (fM Z (oH Tryz.underlying3 u38 (a.2.2.1.length:Int))) Z<|kH h fun aY bg h=>aO (du (v:=M aY) (by rw[<-bg]; rfl)) Z<|gl3<|fv<|dG Z<|bB<|dG Z<|bB<|dG Z<|bB<|fw<|bA<|dm (x aY _ _ ⟨Z,hS⟩ h) Z
 rintro aJ L w n h
 try dsimp only at n
 obtain⟨rfl,hS⟩:=n
 unfold F.S4 at h
 refine cJ ?_
 refine jd (r:=r) (fun (g:Bool) L w=>L=[(0,j),(1,l),(2,V a2),(3,V a3),(10,Q f 0),(14,M aJ),(139,U g)]/\St S o w [W I j a0,Y f [V a.1,M a.2.1,vS a.2.2.1,V a.2.2.2]]) (F.Uh a0 a2 a aJ a1 a3 rc) ?_ ?_
 rotate_left
 ·intro aP
  refine bV<|K 2 Z ?_
  cases ap:m
  case true=>
   have hH:=iq h ap
   subst ap
   have h:=hH
   clear hH
   exact K 3 Z<|gl3<|dm (aP (a3 == 32) _ _ ⟨Z,hS⟩ h) Z
  case false=>
   have hH:=ir h ap
   subst ap
   have h:=hH
   clear hH
   exact K 3 Z<|gl3<|dm (aP false _ _ ⟨Z,hS⟩ h) Z
 rintro bM L w n h
 try dsimp only at n
 obtain⟨rfl,hS⟩:=n
 unfold F.Uh at h
 apply gl9 Z h<;>intro h
 ·refine gl4<|K 2 Z<|gl8 ?_
  cases h
  exact jP Z Z Z ⟨L03,Z,(hS.nil I).f [0] Z Z⟩
 refine gl5<|cJ<|have hsh0:=(hS.ro 0 Z).shp;kL (fun w'=>St S o w' [Y f [V a.1,M a.2.1,vS a.2.2.1,V a.2.2.2]]) (fun i=>!([4,7].contains i)) kr (fun _ _ _ hf=>hf.2) (fun _ _ hf=>hf) (by kernel_rfl)<|have hS:=hS.drew;show lxE _ _ _ _ _ _ _ [0,1,2,3,4,5,6,7,8] _ _ from cH 1 Z (hS.f [1] Z Z)<|cC (hS.f [1] Z Z) Z Z (fun w c=>br (k:=0) u40 Z Z nz3 Z) Z<|cC (hS.f [1] Z Z) Z Z (fun w c=>cc Tryz.underlying3 Z Z (c.u 0 Z 0)) Z<|cH 1 Z (hS.f [1] Z Z)<|have hG:=hS.pick (os':=[W I j a0]++[Y f [V a.1,M a.2.1,vS a.2.2.1,V a.2.2.2]]) [0,1] (by decide) Z;cr h fun bN bh h=>jQ (hS.f [1] Z Z) Z Z (by kernel_rfl) Z (Dm a.1 aJ bh hG.give ) Z ?_
 rintro bO w ⟨bG,aZ,ax⟩
 rw[<-aZ]at ax
 have hS:=hG.p ax
 refine cC (hS.f [1] Z Z) Z Z (fun w c=>br (k:=2) u40 Z Z nz9 Z) Z<|cC (hS.f [1] Z Z) Z Z (fun w c=>cc Tryz.underlying9 Z Z (c.u 0 Z 2)) Z<|cr h fun bs bi h=>vP (hS.f [1] Z Z) Z Z (yL u22 Tryz.underlying9 ti5 Z Z hS (i:=0) Z bi) Z fun ba w hS=>cH 1 Z (hS.f [1] Z Z)<|iG (hS.f [1] Z Z)<|bA<|gl4<|K 3 Z<|gl2<|K 1 Z<|gl1<|gl4<|aO (br (k:=3) u40 Z Z nz3 Z) Z<|aO (cc Tryz.underlying3 Z Z (hS.u 1 Z 3)) Z<|K 1 Z<|gl3<|cU<|il [(0,ba),(1,l),(2,V (wI (a2+1))),(3,V a3),(10,Q f 0),(15,.slice none 0 0),(151,V a.2.2.2),(152,V 0)] Z ?_
 refine kJ (F.Ua a1 a3 rc a) (fun (s:L01×Int×L01×Int) L w=>∃(A:Value) (y:Value),L=[(0,A),(1,l),(2,V s.2.1),(3,V a3),(10,Q f 0),(15,y),(151,V a.2.2.2),(152,V s.2.2.2)]/\St S o w [W I A s.1,W I y s.2.2.1,Y f [V a.1,M a.2.1,vS a.2.2.1,V a.2.2.2]]) ?_ (bs,wI (a2+1),[],0) ⟨ba,L03,Z,((hS.nil I).f [1,0,2] Z Z)⟩ h
 rintro bH ⟨aw,bt,aC,p⟩ L w aL hI bj h ar
 try dsimp only at hI
 obtain⟨A,y,rfl,hS⟩:=hI
 unfold F.Ua at h
 refine gl4<|K 1 Z<|gl1 ?_
 apply gl9 Z h<;>intro h
 ·refine gl5 ?_
  refine jd (r:=aL) (fun (g:L01×Int×L01) L w=>∃(aD:Value) (aE:Value),L=[(0,aD),(1,l),(2,V g.2.1),(3,V a3),(10,Q f 0),(15,aE),(151,V a.2.2.2),(152,V p)]/\St S o w [W I aD g.1,W I aE g.2.2,Y f [V a.1,M a.2.1,vS a.2.2.1,V a.2.2.2]]) (F.U5 p) ?_ ?_
  rotate_left
  ·intro aH
   refine cU<|gl4<|K 2 Z<|gl2<|K 1 Z<|aO (gx u22 Z (hS.ro 0 Z)) Z<|K 1 Z<|gl1<|gl4<|K 5 Z<|have hG:=hS.pick (os':=[W I A aw]++[W I y aC,Y f [V a.1,M a.2.1,vS a.2.2.1,V a.2.2.2]]) [0,1,2] (by decide) Z;cr h fun q bk h=>lV Z (hrc _ aw a1 bt (wI (a3+1)) A l  _ hG.give (hT.give hG) (aG.give (ao Z) hG) _ bk) Z ?_
   rintro _ w ⟨z,rfl,ax⟩
   have hS:=hG.p ax
   refine K 5 Z<|gl2<|K 2 Z<|gl3 ?_
   apply gl9 Z h<;>intro h
   ·refine gl4<|K 2 Z<|gl8<|eX<|dS<|dS<|have h:=iV h ar;eX<|dS ?_
    cases h
    exact jP Z Z Z ⟨L03,Z,(hS.nil I).f [0] Z Z⟩
   refine gl5 ?_
   refine jd (r:=aL) (fun (g:Bool) L w=>L=[(0,z),(1,l),(2,V q.2),(3,V a3),(10,Q f 0),(15,y),(16,V p),(17,V (aw.length:Int)),(151,V a.2.2.2),(152,V p),(175,U g)]/\St S o w [W I z q.1,Y f [V a.1,M a.2.1,vS a.2.2.1,V a.2.2.2],W I y aC]) (F.Vb aw aC p q) ?_ ?_
   rotate_left
   ·intro aQ
    refine bV<|aO (br (k:=0) u40 Z Z nz3 Z) Z<|aO (cc Tryz.underlying3 Z Z (hS.u 2 Z 0)) Z<|K 2 Z ?_
    cases au:(a.1 == 5)
    case true=>
     have h:=iq h au
     try simp only[au]
     exact K 1 Z<|dM (t:=171) Z Z (bI Z Z (Cc _ p 2 (by decide))) Z<|K 2 Z<|gl3<|dm (aQ ((Int.tmod p 2) == 0) _ _ ⟨Z,(hS.f [0,2,1] Z Z)⟩ h) Z
    case false=>
     have h:=ir h au
     try simp only[au]
     exact K 4 Z<|gl3<|dm (aQ false _ _ ⟨Z,(hS.f [0,2,1] Z Z)⟩ h) Z
   rintro bP L w n h
   try dsimp only at n
   obtain⟨rfl,hS⟩:=n
   unfold F.Vb at h
   apply gl9 Z h<;>intro h
   ·refine gl4<|K 2 Z<|cr h fun bu aF h=>aO (u7 u22 ti5 Z Z (hS.ro 0 Z) aF) Z<|K 1 Z<|gl1 ?_
    refine jd (r:=aL) (fun (g:Bool) L w=>L=[(0,z),(1,l),(2,V q.2),(3,V a3),(10,Q f 0),(18,slV z I.sz (((aw.length:Int):Int).toNat) q.1.length),(151,V a.2.2.2),(152,V p),(186,U g)]/\St S o w [W I z q.1,Y f [V a.1,M a.2.1,vS a.2.2.1,V a.2.2.2]]) (F.VF q bu p) ?_ ?_
    rotate_left
    ·intro aR
     refine bV<|K 3 Z ?_
     cases av:(decide ((0:Int)<p))
     case true=>
      have h:=iq h av
      try simp only[av]
      refine K 2 Z<|cr h fun bv bl h=>Gr (t:=181) Z Z (by kernel_rfl) Z (lD  bl (hS.ro 2 Z).rp ((hS.ro 0 Z).g_sll aF).rp) Z ?_
      rintro _ w ⟨rfl,ax⟩
      have hS:=hS.j ax
      exact K 2 Z<|gl3<|dm (aR (decide ((0:Int)<=bv)) _ _ ⟨Z,(hS.f [0,1] Z Z)⟩ h) Z
     case false=>
      have h:=ir h av
      try simp only[av]
      exact K 5 Z<|gl3<|dm (aR false _ _ ⟨Z,(hS.f [0,1] Z Z)⟩ h) Z
    rintro bQ L w n h
    try dsimp only at n
    obtain⟨rfl,hS⟩:=n
    unfold F.VF at h
    apply gl9 Z h<;>intro h
    ·refine gl4<|K 2 Z<|gl8<|eX<|dS<|dS<|have h:=iV h ar;eX<|dS ?_
     cases h
     exact jP Z Z Z ⟨L03,Z,(hS.nil I).f [0] Z Z⟩
    exact gl5<|bV<|K 1 Z<|cr h fun bw bm h=>vA hS Z (oZ  bm ((hS.ro 0 Z).g_sll aF).rp) Z fun bz w hS=>K 1 Z<|dB<|fg<|bA<|dm (aH (q.1,q.2,bw) _ _ ⟨z,bz,Z,(hS.f [1,0,2] Z Z)⟩ h) Z
   exact mS<|fg<|bA<|dm (aH (q.1,q.2,aC) _ _ ⟨z,y,Z,(hS.f [0,2,1] Z Z)⟩ h) Z
  rintro⟨bC,bD,bE⟩ L w n h
  try dsimp only at n
  obtain⟨aD,aE,rfl,hS⟩:=n
  unfold F.U5 at h
  exact bV<|K 2 Z<|dB<|jl (mx (bj (bC,bD,bE,wI (p+1)) _ _ ⟨aD,aE,Z,hS⟩ (jH h ar)) Z)
 refine fv<|bB<|bB<|have h:=iV h ar;fw<|bA<|gl4<|K 4 Z<|gl3<|gV ?_
 cases h
 exact jP Z Z Z ⟨A,Z,hS.f [0] Z Z⟩
theorem xA (n:Nat):∀(a:World) (a0:L01) (a1:List (Int×UInt64×L01×Int)) (a2:Int) (a3:Int) (b:Value) (c:Value) (S:L02) (hS:St S a a [W I b a0]) (f:TB S a) (d:O S a (J eI (J H (J eS eI))) c a1) (r:L01×Int),F.UY n a0 a1 a2 a3=some r->Calls Tryz.prog 22 #[b,c,V a2,V a3] a (N fun v w=>∃u0:Value,v=.tuple #[u0,V r.2]/\St S a w [W I u0 r.1]):=by
 induction n with
 | zero=>intros; rename_i h; exact absurd h (by simp[F.UY])
 | succ n ih=>exact wE (F.UY n) ih
theorem z7 (a:World) (a0:L01) (a1:List (Int×UInt64×L01×Int)) (a2:Int) (a3:Int) (b:Value) (c:Value) (S:L02) (hS:St S a a [W I b a0]) (f:TB S a) (d:O S a (J eI (J H (J eS eI))) c a1) (r:L01×Int) (h:F.ZW a0 a1 a2 a3=some r):Calls Tryz.prog 22 #[b,c,V a2,V a3] a (N fun v w=>∃u0:Value,v=.tuple #[u0,V r.2]/\St S a w [W I u0 r.1]):=xA 64 a a0 a1 a2 a3 b c S hS f d r h
theorem zm {f:World} {a0:List (Int×UInt64×L01×Int)} {j:Value} {r:Bool}
  (h:F.VE a0=some r) (hT:TB [] f) (p:O [] f (J eI (J H (J eS eI))) j a0):Calls Tryz.prog 81 #[j] f (N fun v w=>v=U r/\St [] f w []):=by
 refine ca1 18 Tryz.func81 Z Z Z<|have hS:=St.r f;?_
 unfold F.VE at h
 exact wk
theorem zl {f:World} {a0:List (Int×UInt64×L01×Int)} {j:Value} (a1:Int) {r:Int}
  (h:F.Vd a0 a1=some r) (p:O [] f (J eI (J H (J eS eI))) j a0):Calls Tryz.prog 82 #[j,V a1] f (N fun v w=>v=V r/\St [] f w []):=by
 refine ca2 19 Tryz.func82 Z Z Z<|have hS:=St.r f;?_
 unfold F.Vd at h
 let i1:=mkI (F.ZR a0) (fun s L w=>L=[(0,j),(1,V s.1),(5,V s.2)]/\St [] f w [])
 exact wk
theorem yY {f:World} {a0:List (Int×UInt64×L01×Int)} {j:Value} (a1:Int) {r:Int}
  (h:F.Ul a0 a1=some r) (hT:TB [] f) (p:O [] f (J eI (J H (J eS eI))) j a0):Calls Tryz.prog 39 #[j,V a1] f (N fun v w=>v=V r/\St [] f w []):=by
 refine ca2 21 Tryz.func39 Z Z Z<|have hS:=St.r f;?_
 unfold F.Ul at h
 let j1:=mkJ 3 (F.Wy a0 a1) (fun g L w=>L=[(0,j),(1,V a1),(17,U g)]/\St [] f w []) [] []
 exact wk
theorem CG {f:World} {a0 a1:List (Int×UInt64×L01×Int)} {b c:Value} {r:Bool}
  (h:F.YE a0 a1=some r) (i:O [] f (J eI (J H (J eS eI))) b a0) (j:O [] f (J eI (J H (J eS eI))) c a1):Calls Tryz.prog 83 #[b,c] f (N fun v w=>v=U r/\St [] f w []):=by
 refine dY 29 Tryz.func83 Z Z Z<|have a:=St.r f;il [(0,b),(1,c)] Z ?_
 unfold F.YE at h
 refine gl4<|K 1 Z<|gl1<|gl4<|K 1 Z<|aO (gx u41 Z (i.now a.fr)) Z<|K 1 Z<|aO (gx u41 Z (j.now a.fr)) Z<|aO (td Z Z) Z<|K 1 Z<|gl3<|cU<|il [(0,b),(1,c),(10,V (min (a0.length:Int) (a1.length:Int))),(11,V 0)] Z ?_
 refine kJ (F.YM a0 a1) (fun (s:Int) L w=>L=[(0,b),(1,c),(10,V (min (a0.length:Int) (a1.length:Int))),(11,V s)]/\St [] f w []) ?_ 0 ⟨Z,a⟩ h
 rintro u o L w x p m h g
 try dsimp only at p
 obtain⟨rfl,a⟩:=p
 unfold F.YM at h
 refine gl4<|K 1 Z<|gl1 ?_
 apply gl9 Z h<;>intro h
 ·refine gl5<|cJ<|cU<|gl4<|K 2 Z<|gl1<|kL (fun w'=>St [] f w' []) (fun _=>true) kr (fun _ _ _ n=>n.2) (fun _ _ n=>n) (by kernel_rfl)<|have a:=a.drew;show lxE _ _ _ _ _ _ _ [0,1,2,3,4,5,6,7,8] _ _ from cH 2 Z a<|cr h fun q k h=>cC a Z Z (fun w d=>o8 u41 FD Z Z (i.now d.fr) k) Z<|cC a Z Z (fun w d=>wP u40 Z F8 Z (i.now d.fr) k) Z<|cH 2 Z a<|cr h fun t l h=>cC a Z Z (fun w d=>o8 u41 FD Z Z (j.now d.fr) l) Z<|cC a Z Z (fun w d=>wP u40 Z F8 Z (j.now d.fr) l) Z<|cC a Z Z (fun w d=>bI Z Z (agx (b':=q != t) (O1 u40 Rz SL (EY Z Tryz.underlying3 Z Z (PA Z u38 Z Z (QH Z Tryz.underlying9 Z Z (EY Z Tryz.underlying3 Z Z NE))))) (by simp only[Bool.and_true]; rfl))) Z<|iG a<|bA ?_
  apply gl9 Z h<;>intro h
  ·refine gl4<|K 1 Z<|gl3<|gV<|eX<|dS<|dS<|have h:=iV h g;eX<|dS ?_
   cases h
   exact jm Z Z ⟨Z,a⟩
  exact mS<|fg<|bA<|bV<|K 2 Z<|dB<|jl (mx (m (wI (o+1)) _ _ ⟨Z,a⟩ (jH h g)) Z)
 refine fv<|bB<|bB<|have h:=iV h g;fw<|bA<|gl4<|K 1 Z<|aO (gx u41 Z (i.now a.fr)) Z<|K 1 Z<|aO (gx u41 Z (j.now a.fr)) Z<|K 2 Z<|gl3<|gV ?_
 cases h
 exact jm Z Z ⟨Z,a⟩
end Go.Proofs
