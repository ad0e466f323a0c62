import Derived.Test.YtkbacjmklhgpcaaGreatDoorRW0
import Derived.Test.YtkbacjmklhgpcaaGreatDoorRAw
import Derived.Test.YtkbacjmklhgpcaaGreatDoorGkFman
import Derived.Test.YtkbacjmklhgpcaaGreatDoorRWlib
import Derived.Test.YtkbacjmklhgpcaaGreatDoorRWmodn
import Derived.Test.YtkbacjmklhgpcaaGreatDoorRWnatb
import Derived.Test.YtkbacjmklhgpcaaGreatDoorRWrsa1
import Derived.Test.YtkbacjmklhgpcaaGreatDoorRWshab
set_option linter.unusedVariables false
set_option linter.unusedSimpArgs false
set_option linter.unusedSectionVars false
set_option maxRecDepth 20000
set_option maxHeartbeats 20000000
namespace Go.Proofs
open Go Go.RowKit Go.Gk
open Go.Gk renaming RP -> O, Ret -> N, aq -> K, e32 -> X, e8 -> I, own -> W, vB -> U, vI -> V
theorem FF {f:World} (a0:Int) {r:UInt8}
  (h:F.XA a0=some r) :Calls Tryz.prog 101 #[V a0] f (N fun v w=>v=v8 r/\St [] f w []):=by
 refine ca1 8 Tryz.func101 Z Z Z<|have hS:=St.r f;?_
 unfold F.XA at h
 exact wk
theorem Fp {o:World} {a1 a2:L01} {g j q:Value} {S:L02} (a0:Int) (C d:Nat) {r:L01}
  (h:F.Z9 a0 a1 a2 C d=some r) (hS:St S o o [W I j a2]) (hT:TB S o) (ae:O S o I g a1) (aj:mi j I.sz C d q):Calls Tryz.prog 103 #[V a0,g,q] o (N fun v w=>v=.tuple #[]/\St S o w [W I j r]):=by
 refine dY 56 Tryz.func103 Z Z Z<|il [(0,V a0),(1,g),(2,q)] Z ?_
 unfold F.Z9 at h
 refine gl4<|K 1 Z<|gl3<|cU<|il [(0,V a0),(1,g),(2,q),(6,v32 0)] Z ?_
 refine kJ (F.V7 a0 a1 d) (fun (s:Nat×UInt32×L01) L w=>∃(n:Value),L=[(0,V a0),(1,g),(2,n),(6,v32 s.2.1)]/\mi j I.sz s.1 d n/\St S o w [W I j s.2.2]) ?_ (C,0,a2) ⟨q,Z,aj,hS⟩ h
 rintro al ⟨c,a,u⟩ L w au D af h E
 try dsimp only at D
 obtain⟨n,rfl,b,hS⟩:=D
 unfold F.V7 at h
 refine cJ<|gl4<|K 1 Z<|aO (gx u22 Z ((hS.ro 0 Z).po b)) Z<|K 1 Z<|gl3 ?_
 apply gl9 Z h<;>intro h
 ·refine gl5<|cJ<|cU<|gl4<|K 3 Z<|aO (bI Z Z (oA _ a 24)) Z<|aO (fM Z (qv u163 Tryz.underlying5 (dD a 24))) Z<|K 1 Z<|aO (bI Z Z (oA _ a 16)) Z<|aO (fM Z (qv u163 Tryz.underlying5 (dD a 16))) Z<|K 1 Z<|aO (bI Z Z (oA _ a 8)) Z<|aO (fM Z (qv u163 Tryz.underlying5 (dD a 8))) Z<|K 1 Z<|aO (fM Z (qv u163 Tryz.underlying5 a)) Z<|kP (kw (e:=I) (l:=[(dD a 24).toUInt8,(dD a 16).toUInt8,(dD a 8).toUInt8,a.toUInt8]) (vs:=[v8 ((dD a 24).toUInt8),v8 ((dD a 16).toUInt8),v8 ((dD a 8).toUInt8),v8 a.toUInt8]) u22 ti5 Z Z Z Z (by decide) (by decide) hS) Z fun G w hS=>kP (kw (e:=eV) (l:=([SV.of g,SV.of G]:List SV)) (vs:=[g,G]) u173 JB Z Z Z (sK (ae.now hS.fr).sv (sK (hS.ro 0 Z).sv Z)) (by decide) (by decide) hS) Z fun am w hS=>cr h fun f ab h=>vA hS Z (yv a0 ab (hT.now hS.fr) (hS.ro 0 Z).rp ⟨(ae.now hS.fr).svrp,(hS.ro 1 Z).svrp,trivial⟩) Z fun p w hS=>K 1 Z<|gl1<|gl4<|K 1 Z<|aO (gx u22 Z (hS.ro 0 Z)) Z<|K 1 Z<|aO (gx u22 Z ((hS.ro 3 Z).po b)) Z<|aO (td Z Z) Z<|K 1 Z<|gl3<|cU ?_
  refine il [(0,V a0),(1,g),(2,n),(6,v32 a),(7,p),(34,V (min (f.length:Int) (((u.drop c).take (d - c)).length:Int))),(35,V 0)] Z ?_
  refine kJ (F.VW d c a u f) (fun (s:Int×L01) L w=>L=[(0,V a0),(1,g),(2,n),(6,v32 a),(7,p),(34,V (min (f.length:Int) (((u.drop c).take (d - c)).length:Int))),(35,V s.1)]/\St S o w [W I j s.2,W I p f]) ?_ (0,u) ⟨Z,(hS.f [3,0] Z Z)⟩ h
  rintro an ⟨ag,k⟩ L w ao D ac h x
  try dsimp only at D
  obtain⟨rfl,hS⟩:=D
  unfold F.VW at h
  refine gl4<|K 1 Z<|gl1 ?_
  apply gl9 Z h<;>intro h
  ·refine gl5<|cJ<|cU<|gl4<|K 2 Z<|gl3<|lG (fun w'=>St S o w' [W I j k,W I p f]) (fun i=>!([10].contains i)) kr (fun _ _ _ hf=>hf.2) (fun _ _ hf=>hf) (by kernel_rfl)<|have hS:=hS.drew;show lxE _ _ _ _ _ _ _ [0,1,2,3,4,5,6,7,8,9,10] _ _ from cH 2 Z hS<|cr h fun T y h=>cC hS Z Z (fun w m=>o8 u22 ti5 Z Z ((m.ro 0 Z).po b) y) Z<|cC hS Z Z (fun w m=>o7 Tryz.underlying5 Z Z ((m.ro 0 Z).po b) y Z) Z<|cH 2 Z hS<|cr h fun aa z h=>cC hS Z Z (fun w m=>o8 u22 ti5 Z Z (m.ro 1 Z) z) Z<|cC hS Z Z (fun w m=>o7 Tryz.underlying5 Z Z (m.ro 1 Z) z Z) Z<|cC hS Z Z (fun w m=>bI Z Z (Ik _ T aa)) Z<|cr h fun ap A h=>cC hS Z Z (fun w m=>o8 u22 ti5 Z Z ((m.ro 0 Z).po b) A) Z<|qS hS Z Z (B5 (t:=(T ^^^ aa)) ti5 Z Z hS (i:=0) Z b A Z) fun w hS=>kH h fun ai ad h=>?_
   rw[ad]at hS
   exact iG trivial<|fg<|bA<|bV<|K 2 Z<|dB<|jl (mx (ac (wI (ag+1),ai) _ _ ⟨Z,hS⟩ (jH h x)) Z)
  exact fv<|bB<|bB<|have h:=iV h x;fw<|bA<|bV<|K 2 Z<|aO (gx u22 Z (hS.ro 1 Z)) Z<|K 1 Z<|aO (gx u22 Z ((hS.ro 0 Z).po b)) Z<|aO (td Z Z) Z<|cr h fun ar B h=>aO (u7 u22 ti5 Z Z ((hS.ro 0 Z).po b) B) Z<|K 1 Z<|dB<|fg<|bA<|bV<|K 1 Z<|aO (bI Z Z (Et _ a 1)) Z<|K 1 Z<|dB<|jl (mx (af (c+(min (f.length:Int) (((k.drop c).take (d - c)).length:Int):Int).toNat,a+1,k) _ _ ⟨slV n I.sz (min (f.length:Int) (((k.drop c).take (d - c)).length:Int):Int).toNat ((k.drop c).take (d - c)).length,Z,((hS.ro 0 Z).pcut b B),(hS.f [0] Z Z)⟩ (jH h E)) Z)
 refine fv<|bB<|bB<|have h:=iV h E;fw ?_
 cases h
 exact tg Z ⟨Z,hS.f [0] Z Z⟩
theorem Cx {f:World} {a1 a2:L01} {j p:Value} (a0:Int) {r:L01}
  (h:F.Zz a0 a1 a2=some r) (hT:TB [] f) (u:O [] f I j a1) (A:O [] f I p a2):Calls Tryz.prog 104 #[V a0,j,p] f (N fun v w=>St [] f w [W I v r]):=by
 refine ca3 13 Tryz.func104 Z Z Z<|have hS:=St.r f;?_
 unfold F.Zz at h
 exact wk
theorem Dk {j:World} {a1 a2:L01} {u A:Value} (a0 a3:Int) {r:Bool}
  (h:F.XP a0 a1 a2 a3=some r) (hT:TB [] j) (E:O [] j I u a1) (G:O [] j I A a2):Calls Tryz.prog 59 #[V a0,u,A,V a3] j (N fun v w=>v=U r/\St [] j w []):=by
 refine ca4 123 Tryz.func59 Z Z Z<|have hS:=St.r j;?_
 unfold F.XP at h
 let i1:=fun B f D (C:L01) p=>mkI (F.Xf a0 a1 D C p) (fun s L w=>L=[(0,V a0),(1,u),(11,slV A I.sz ((wI ((wI ((jw (wI (a3+7)) 3) - f)) - 1):Int).toNat) ((wI ((jw (wI (a3+7)) 3) - 1):Int).toNat)),(12,B),(13,V p),(98,slV B I.sz 0 ((p:Int).toNat)),(99,V ((C.take ((p:Int).toNat)).length:Int)),(100,V s)]/\St [] j w [W I B C])
 let j1:=fun f=>mkJ 4 (F.Xk a2 a3 f a0 a1) (fun g L w=>L=[(0,V a0),(1,u),(2,A),(3,V a3),(9,V f),(33,U g)]/\St [] j w []) [(9,V f)] []
 let j2:=fun f=>mkJ 7 (F.UE a0 a2 a3 f a1) (fun g L w=>L=[(0,V a0),(1,u),(2,A),(3,V a3),(9,V f),(10,V (jw (wI (a3+7)) 3)),(64,U g)]/\St [] j w []) [(9,V f)] []
 exact wk
theorem zY {f:World} {a1 a2 a3 a4:L01} {D u A E:Value} (a0:Int) {r:Int}
  (h:F.Zq a0 a1 a2 a3 a4=some r) (hT:TB [] f) (G:O [] f I D a1) (S:O [] f I u a2) (T:O [] f I A a3) (aa:O [] f I E a4):Calls Tryz.prog 29 #[V a0,D,u,A,E] f (N fun v w=>v=V r/\St [] f w []):=by
 refine ca5 74 Tryz.func29 Z Z Z<|have hS:=St.r f;?_
 unfold F.Zq at h
 let j1:=fun j p B C=>mkJ 8 (F.Zm a0 a2 a3 B C) (fun g L w=>L=[(0,V a0),(2,u),(3,A),(11,j),(12,p),(39,U g)]/\St [] f w [W X j B,W X p C]) [(11,j),(12,p)] [W X j B,W X p C]
 let j2:=mkJ 15 (F.ZV) (fun g L w=>L=[(73,U g)]/\St [] f w []) [] []
 exact wk
end Go.Proofs
