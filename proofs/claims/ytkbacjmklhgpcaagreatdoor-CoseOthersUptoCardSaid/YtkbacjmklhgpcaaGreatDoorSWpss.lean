import Derived.Test.YtkbacjmklhgpcaaGreatDoorSW0
import Derived.Test.YtkbacjmklhgpcaaGreatDoorSAw
import Derived.Test.YtkbacjmklhgpcaaGreatDoorQGkFman
import Derived.Test.YtkbacjmklhgpcaaGreatDoorSWlib
import Derived.Test.YtkbacjmklhgpcaaGreatDoorSWmodn
import Derived.Test.YtkbacjmklhgpcaaGreatDoorSWnatb
import Derived.Test.YtkbacjmklhgpcaaGreatDoorSWrsa1
import Derived.Test.YtkbacjmklhgpcaaGreatDoorSWshab
set_option linter.unusedVariables false
set_option linter.unusedSimpArgs false
set_option linter.unusedSectionVars false
set_option maxRecDepth 20000
set_option maxHeartbeats 20000000
namespace Go.Proofs
open Go Go.RowKit Go.Gk
open Go.Gk renaming RP -> O, Ret -> N, ar -> J, e32 -> X, e8 -> K, own -> W, vB -> U, vI -> V
theorem FE {f:World} (a0:Int) {r:UInt8}
  (h:F.Xz a0=some r) :Calls Tryz.prog 101 #[V a0] f (N fun v w=>v=v8 r/\St [] f w []):=by
 refine ca1 8 Tryz.func101 Z Z Z<|have hS:=St.r f;?_
 unfold F.Xz at h
 exact wk
theorem Fm {o:World} {a1 a2:L01} {g j q:Value} {S:L02} (a0:Int) (C d:Nat) {r:L01}
  (h:F.Z3 a0 a1 a2 C d=some r) (hS:St S o o [W K j a2]) (hT:TB S o) (ae:O S o K g a1) (aj:mh j K.sz C d q):Calls Tryz.prog 103 #[V a0,g,q] o (N fun v w=>v=.tuple #[]/\St S o w [W K j r]):=by
 refine dN 56 Tryz.func103 Z Z Z<|ig [(0,V a0),(1,g),(2,q)] Z ?_
 unfold F.Z3 at h
 refine gl4<|J 1 Z<|gl3<|cR<|ig [(0,V a0),(1,g),(2,q),(6,v32 0)] Z ?_
 refine kJ (F.V0 a0 a1 d) (fun (s:Nat×UInt32×L01) L w=>∃(n:Value),L=[(0,V a0),(1,g),(2,n),(6,v32 s.2.1)]/\mh j K.sz s.1 d n/\St S o w [W K j s.2.2]) ?_ (C,0,a2) ⟨q,Z,aj,hS⟩ h
 rintro al ⟨c,a,u⟩ L w au D af h E
 try dsimp only at D
 obtain⟨n,rfl,b,hS⟩:=D
 unfold F.V0 at h
 refine cI<|gl4<|J 1 Z<|aQ (gt u22 Z ((hS.ro 0 Z).po b)) Z<|J 1 Z<|gl3 ?_
 apply gl9 Z h<;>intro h
 ·refine gl5<|cI<|cR<|gl4<|J 3 Z<|aQ (bH Z Z (ov _ a 24)) Z<|aQ (fK Z (qs u163 Tryz.underlying5 (dB a 24))) Z<|J 1 Z<|aQ (bH Z Z (ov _ a 16)) Z<|aQ (fK Z (qs u163 Tryz.underlying5 (dB a 16))) Z<|J 1 Z<|aQ (bH Z Z (ov _ a 8)) Z<|aQ (fK Z (qs u163 Tryz.underlying5 (dB a 8))) Z<|J 1 Z<|aQ (fK Z (qs u163 Tryz.underlying5 a)) Z<|kQ (kx (e:=K) (l:=[(dB a 24).toUInt8,(dB a 16).toUInt8,(dB a 8).toUInt8,a.toUInt8]) (vs:=[v8 ((dB a 24).toUInt8),v8 ((dB a 16).toUInt8),v8 ((dB a 8).toUInt8),v8 a.toUInt8]) u22 ti5 Z Z Z Z (by decide) (by decide) hS) Z fun G w hS=>kQ (kx (e:=eV) (l:=([SV.of g,SV.of G]:List SV)) (vs:=[g,G]) u173 Jx Z Z Z (sE (ae.now hS.fr).sv (sE (hS.ro 0 Z).sv Z)) (by decide) (by decide) hS) Z fun am w hS=>cq h fun f ab h=>vr hS Z (yn a0 ab (hT.now hS.fr) (hS.ro 0 Z).rp ⟨(ae.now hS.fr).svrp,(hS.ro 1 Z).svrp,trivial⟩) Z fun p w hS=>J 1 Z<|gl1<|gl4<|J 1 Z<|aQ (gt u22 Z (hS.ro 0 Z)) Z<|J 1 Z<|aQ (gt u22 Z ((hS.ro 3 Z).po b)) Z<|aQ (sY Z Z) Z<|J 1 Z<|gl3<|cR ?_
  refine ig [(0,V a0),(1,g),(2,n),(6,v32 a),(7,p),(34,V (min (f.length:Int) (((u.drop c).take (d - c)).length:Int))),(35,V 0)] Z ?_
  refine kJ (F.VV d c a u f) (fun (s:Int×L01) L w=>L=[(0,V a0),(1,g),(2,n),(6,v32 a),(7,p),(34,V (min (f.length:Int) (((u.drop c).take (d - c)).length:Int))),(35,V s.1)]/\St S o w [W K j s.2,W K p f]) ?_ (0,u) ⟨Z,(hS.f [3,0] Z Z)⟩ h
  rintro an ⟨ag,k⟩ L w ao D ac h x
  try dsimp only at D
  obtain⟨rfl,hS⟩:=D
  unfold F.VV at h
  refine gl4<|J 1 Z<|gl1 ?_
  apply gl9 Z h<;>intro h
  ·refine gl5<|cI<|cR<|gl4<|J 2 Z<|gl3<|lH (fun w'=>St S o w' [W K j k,W K p f]) (fun i=>!([10].contains i)) ku (fun _ _ _ hf=>hf.2) (fun _ _ hf=>hf) (by kernel_rfl)<|have hS:=hS.drew;show lxE _ _ _ _ _ _ _ [0,1,2,3,4,5,6,7,8,9,10] _ _ from cG 2 Z hS<|cq h fun T y h=>cC hS Z Z (fun w m=>oY u22 ti5 Z Z ((m.ro 0 Z).po b) y) Z<|cC hS Z Z (fun w m=>oX Tryz.underlying5 Z Z ((m.ro 0 Z).po b) y Z) Z<|cG 2 Z hS<|cq h fun aa z h=>cC hS Z Z (fun w m=>oY u22 ti5 Z Z (m.ro 1 Z) z) Z<|cC hS Z Z (fun w m=>oX Tryz.underlying5 Z Z (m.ro 1 Z) z Z) Z<|cC hS Z Z (fun w m=>bH Z Z (Im _ T aa)) Z<|cq h fun ap A h=>cC hS Z Z (fun w m=>oY u22 ti5 Z Z ((m.ro 0 Z).po b) A) Z<|qK hS Z Z (B1 (t:=(T ^^^ aa)) ti5 Z Z hS (i:=0) Z b A Z) fun w hS=>kH h fun ai ad h=>?_
   rw[ad]at hS
   exact iB trivial<|fk<|bA<|bV<|J 2 Z<|dy<|jk (mr (ac (wI (ag+1),ai) _ _ ⟨Z,hS⟩ (jH h x)) Z)
  exact fw<|bB<|bB<|have h:=iR h x;fx<|bA<|bV<|J 2 Z<|aQ (gt u22 Z (hS.ro 1 Z)) Z<|J 1 Z<|aQ (gt u22 Z ((hS.ro 0 Z).po b)) Z<|aQ (sY Z Z) Z<|cq h fun aq B h=>aQ (uW u22 ti5 Z Z ((hS.ro 0 Z).po b) B) Z<|J 1 Z<|dy<|fk<|bA<|bV<|J 1 Z<|aQ (bH Z Z (Ep _ a 1)) Z<|J 1 Z<|dy<|jk (mr (af (c+(min (f.length:Int) (((k.drop c).take (d - c)).length:Int):Int).toNat,a+1,k) _ _ ⟨slV n K.sz (min (f.length:Int) (((k.drop c).take (d - c)).length:Int):Int).toNat ((k.drop c).take (d - c)).length,Z,((hS.ro 0 Z).pcut b B),(hS.f [0] Z Z)⟩ (jH h E)) Z)
 refine fw<|bB<|bB<|have h:=iR h E;fx ?_
 cases h
 exact s8 Z ⟨Z,hS.f [0] Z Z⟩
theorem Cw {f:World} {a1 a2:L01} {j p:Value} (a0:Int) {r:L01}
  (h:F.Zu a0 a1 a2=some r) (hT:TB [] f) (u:O [] f K j a1) (A:O [] f K p a2):Calls Tryz.prog 104 #[V a0,j,p] f (N fun v w=>St [] f w [W K v r]):=by
 refine ca3 13 Tryz.func104 Z Z Z<|have hS:=St.r f;?_
 unfold F.Zu at h
 exact wk
theorem Dl {j:World} {a1 a2:L01} {u A:Value} (a0 a3:Int) {r:Bool}
  (h:F.XO a0 a1 a2 a3=some r) (hT:TB [] j) (E:O [] j K u a1) (G:O [] j K A a2):Calls Tryz.prog 59 #[V a0,u,A,V a3] j (N fun v w=>v=U r/\St [] j w []):=by
 refine ca4 123 Tryz.func59 Z Z Z<|have hS:=St.r j;?_
 unfold F.XO at h
 let i1:=fun B f D (C:L01) p=>mkI (F.Xe a0 a1 D C p) (fun s L w=>L=[(0,V a0),(1,u),(11,slV A K.sz ((wI ((wI ((jx (wI (a3+7)) 3) - f)) - 1):Int).toNat) ((wI ((jx (wI (a3+7)) 3) - 1):Int).toNat)),(12,B),(13,V p),(98,slV B K.sz 0 ((p:Int).toNat)),(99,V ((C.take ((p:Int).toNat)).length:Int)),(100,V s)]/\St [] j w [W K B C])
 let j1:=fun f=>mkJ 4 (F.Xj a2 a3 f a0 a1) (fun g L w=>L=[(0,V a0),(1,u),(2,A),(3,V a3),(9,V f),(33,U g)]/\St [] j w []) [(9,V f)] []
 let j2:=fun f=>mkJ 7 (F.UA a0 a2 a3 f a1) (fun g L w=>L=[(0,V a0),(1,u),(2,A),(3,V a3),(9,V f),(10,V (jx (wI (a3+7)) 3)),(64,U g)]/\St [] j w []) [(9,V f)] []
 exact wk
theorem zV {f:World} {a1 a2 a3 a4:L01} {D u A E:Value} (a0:Int) {r:Int}
  (h:F.Zl a0 a1 a2 a3 a4=some r) (hT:TB [] f) (G:O [] f K D a1) (S:O [] f K u a2) (T:O [] f K A a3) (aa:O [] f K E a4):Calls Tryz.prog 29 #[V a0,D,u,A,E] f (N fun v w=>v=V r/\St [] f w []):=by
 refine ca5 74 Tryz.func29 Z Z Z<|have hS:=St.r f;?_
 unfold F.Zl at h
 let j1:=fun j p B C=>mkJ 8 (F.Zh a0 a2 a3 B C) (fun g L w=>L=[(0,V a0),(2,u),(3,A),(11,j),(12,p),(39,U g)]/\St [] f w [W X j B,W X p C]) [(11,j),(12,p)] [W X j B,W X p C]
 let j2:=mkJ 15 (F.ZP) (fun g L w=>L=[(73,U g)]/\St [] f w []) [] []
 exact wk
end Go.Proofs
