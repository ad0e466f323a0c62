import Derived.Test.YthnmbmmifamifaaGreatDoorRW0
import Derived.Test.YthnmbmmifamifaaGreatDoorRAw
import Derived.Test.YthnmbmmifamifaaGreatDoorGkFman
import Derived.Test.YthnmbmmifamifaaGreatDoorRWmodn
import Derived.Test.YthnmbmmifamifaaGreatDoorRWlib
import Derived.Test.YthnmbmmifamifaaGreatDoorRWnata
set_option linter.unusedVariables false
set_option linter.unusedSimpArgs false
set_option linter.unusedSectionVars false
section
set_option maxRecDepth 20000
set_option maxHeartbeats 20000000
namespace Go.Proofs
open Go Go.RowKit Go.Gk
open Go.Gk renaming RP -> O,Ret -> K,ar -> J,e32 -> Y,e8 -> M,own -> W,vB -> P,vI -> R
theorem AW {f:World} {a1:L00} {B:Value} (a0:Int) (a2:UInt8) {r:L00}
  (h:F.Yp a0 a1 a2=some r) (hT:TB [] f) (C:O [] f M B a1):Calls Tryz.prog 97 #[R a0,B,v8 a2] f (K fun v w=>St [] f w [W M v r]):=by
 refine ca3 38 Tryz.func97 Z Z Z<|have hS:=St.r f;?_
 unfold F.Yp at h
 let i1:=fun j p=>mkI (F.adi a2 p) (fun s L w=>L=[(2,v8 a2),(7,j),(25,R p),(26,R s.1)]/\St [] f w [W M j s.2])
 let i2:=fun u A=>mkI (F.ade a2 A) (fun s L w=>L=[(2,v8 a2),(7,u),(25,R A),(26,R s.1)]/\St [] f w [W M u s.2])
 exact wk
theorem Gl {f:World} {a1 a2:L00} {j p:Value} (a0:Int) {r:L00}
  (h:F.ab5 a0 a1 a2=some r) (hT:TB [] f) (u:O [] f M j a1) (A:O [] f M p a2):Calls Tryz.prog 30 #[R a0,j,p] f (K fun v w=>St [] f w [W M v r]):=by
 refine ca3 23 Tryz.func30 Z Z Z<|have hS:=St.r f;?_
 unfold F.ab5 at h
 exact wk
theorem Bh {f:World} {a0 a1:L00} {j p:Value} {r:Bool}
  (h:F.abd a0 a1=some r) (u:O [] f M j a0) (A:O [] f M p a1):Calls Tryz.prog 29 #[j,p] f (K fun v w=>v=P r/\St [] f w []):=by
 refine ca2 31 Tryz.func29 Z Z Z<|have hS:=St.r f;?_
 unfold F.abd at h
 let i1:=mkI (F.YU a0 a1) (fun s L w=>L=[(0,j),(1,p),(5,v8 s.1),(13,R (a0.length:Int)),(14,R s.2)]/\St [] f w [])
 exact wk
theorem DD {f:World} {a1 a2 a3:L00} {j p u:Value} (a0:Int) {r:Bool}
  (h:F.aa8 a0 a1 a2 a3=some r) (hT:TB [] f) (A:O [] f M j a1) (B:O [] f M p a2) (C:O [] f M u a3):Calls Tryz.prog 15 #[R a0,j,p,u] f (K fun v w=>v=P r/\St [] f w []):=by
 refine ca4 20 Tryz.func15 Z Z Z<|have hS:=St.r f;?_
 unfold F.aa8 at h
 exact wk
theorem Hs {f:World} {a0 a1:L00} {j p:Value} {r:Int}
  (h:F.WA a0 a1=some r) (u:O [] f M j a0) (A:O [] f M p a1):Calls Tryz.prog 32 #[j,p] f (K fun v w=>v=R r/\St [] f w []):=by
 refine ca2 70 Tryz.func32 Z Z Z<|have hS:=St.r f;?_
 unfold F.WA at h
 let j1:=mkJ 3 (F.Vg a0 a1) (fun g L w=>L=[(0,j),(1,p),(37,P g)]/\St [] f w []) [] []
 let j2:=mkJ 7 (F.Vw) (fun g L w=>L=[(69,P g)]/\St [] f w []) [] []
 exact wk
theorem CP {f:World} (a0:Int) {r:Bool}
  (h:F.Y4 a0=some r) :Calls Tryz.prog 31 #[R a0] f (K fun v w=>v=P r/\St [] f w []):=by
 refine ca1 9 Tryz.func31 Z Z Z<|have hS:=St.r f;?_
 unfold F.Y4 at h
 exact wk
theorem AT {u:World} {a1:L00} {C:Value} (a0 a2:Int) {r:L00×Int}
  (h:F.aam a0 a1 a2=some r) (hT:TB [] u) (D:O [] u M C a1):Calls Tryz.prog 35 #[R a0,C,R a2] u (K fun v w=>∃u0:Value,v=.tuple #[u0,R r.2]/\St [] u w [W M u0 r.1]):=by
 refine ca3 64 Tryz.func35 Z Z Z<|have hS:=St.r u;?_
 unfold F.aam at h
 let i1:=fun f A j p=>mkI (F.aaD j p A) (fun s L w=>∃B,L=[(8,f),(9,vS p),(11,B),(48,R A),(49,R s.2)]/\St [] u w [W M B s.1,W M f j])
 let j1:=fun f j p=>mkJ 7 (F.ack a2 j p) (fun g L w=>L=[(2,R a2),(8,f),(9,vS p),(34,P g)]/\St [] u w [W M f j]) [(8,f),(9,vS p)] [W M f j]
 exact wk
theorem AJ {f:World} {a1 a2 a3 a4:L00} {u A B E:Value} (a0:Int) {r:Int}
  (h:F.abn a0 a1 a2 a3 a4=some r) (hT:TB [] f) (G:O [] f M u a1) (S:O [] f M A a2) (T:O [] f M B a3) (aa:O [] f M E a4):Calls Tryz.prog 16 #[R a0,u,A,B,E] f (K fun v w=>v=R r/\St [] f w []):=by
 refine ca5 80 Tryz.func16 Z Z Z<|have hS:=St.r f;?_
 unfold F.abn at h
 let j1:=fun j p C D=>mkJ 9 (F.aac a0 a1 a2 a3 C D) (fun g L w=>L=[(0,R a0),(1,u),(2,A),(3,B),(12,j),(13,p),(42,P g)]/\St [] f w [W Y j C,W Y p D]) [(12,j),(13,p)] [W Y j C,W Y p D]
 let j2:=mkJ 16 (F.aa0) (fun g L w=>L=[(79,P g)]/\St [] f w []) [] []
 exact wk
theorem Hj {f:World} (a0:Int) {r:UInt8}
  (h:F.Zm a0=some r) :Calls Tryz.prog 107 #[R a0] f (K fun v w=>v=v8 r/\St [] f w []):=by
 refine ca1 8 Tryz.func107 Z Z Z<|have hS:=St.r f;?_
 unfold F.Zm at h
 exact wk
theorem G7 {o:World} {a1 a2:L00} {g j q:Value} {S:L01} (a0:Int) (C d:Nat) {r:L00}
  (h:F.aco a0 a1 a2 C d=some r) (hS:St S o o [W M j a2]) (hT:TB S o) (ae:O S o M g a1) (aj:nY j M.sz C d q):Calls Tryz.prog 109 #[R a0,g,q] o (K fun v w=>v=.tuple #[]/\St S o w [W M j r]):=by
 refine dP 56 Tryz.func109 Z Z Z<|eZ [(0,R a0),(1,g),(2,q)] Z ?_
 unfold F.aco at h
 refine gl4<|J 1 Z<|gl3<|cn<|eZ [(0,R a0),(1,g),(2,q),(6,v32 0)] Z ?_
 refine fN (F.Xa a0 a1 d) (fun (s:Nat×UInt32×L00) L w=>∃(n:Value),L=[(0,R a0),(1,g),(2,n),(6,v32 s.2.1)]/\nY j M.sz s.1 d n/\St S o w [W M j s.2.2]) ?_ (C,0,a2) ⟨q,Z,aj,hS⟩ h
 rintro al ⟨c,a,u⟩ L w au D af h E
 try dsimp only at D
 obtain⟨n,rfl,b,hS⟩:=D
 unfold F.Xa at h
 refine cw<|gl4<|J 1 Z<|aQ (dV u25 Z ((hS.ro 0 Z).po b)) Z<|J 1 Z<|gl3 ?_
 apply gl9 Z h<;>intro h
 ·refine gl5<|cw<|cn<|gl4<|J 3 Z<|aQ (bk Z Z (kY _ a 24)) Z<|aQ (io Z (nW u109 Tryz.underlying5 (cq a 24))) Z<|J 1 Z<|aQ (bk Z Z (kY _ a 16)) Z<|aQ (io Z (nW u109 Tryz.underlying5 (cq a 16))) Z<|J 1 Z<|aQ (bk Z Z (kY _ a 8)) Z<|aQ (io Z (nW u109 Tryz.underlying5 (cq a 8))) Z<|J 1 Z<|aQ (io Z (nW u109 Tryz.underlying5 a)) Z<|mg (lR (e:=M) (l:=[(cq a 24).toUInt8,(cq a 16).toUInt8,(cq a 8).toUInt8,a.toUInt8]) (vs:=[v8 ((cq a 24).toUInt8),v8 ((cq a 16).toUInt8),v8 ((cq a 8).toUInt8),v8 a.toUInt8]) u25 ti5 Z Z Z Z q11 q11 hS) Z fun G w hS=>mg (lR (e:=eV) (l:=([SV.of g,SV.of G]:List SV)) (vs:=[g,G]) u119 MR Z Z Z (ul (ae.f hS.fr).sv (ul (hS.ro 0 Z).sv Z)) q11 q11 hS) Z fun am w hS=>aK h fun f ab h=>rJ hS Z (Af a0 ab (hT.f hS.fr) (hS.ro 0 Z).rp ⟨(ae.f hS.fr).svrp,(hS.ro 1 Z).svrp,I⟩) Z fun p w hS=>J 1 Z<|gl1<|gl4<|J 1 Z<|aQ (dV u25 Z (hS.ro 0 Z)) Z<|J 1 Z<|aQ (dV u25 Z ((hS.ro 3 Z).po b)) Z<|aQ (yM Z Z) Z<|J 1 Z<|gl3<|cn ?_
  refine eZ [(0,R a0),(1,g),(2,n),(6,v32 a),(7,p),(34,R (min (f.length:Int) (((u.drop c).take (d - c)).length:Int))),(35,R 0)] Z ?_
  refine fN (F.W1 d c a u f) (fun (s:Int×L00) L w=>L=[(0,R a0),(1,g),(2,n),(6,v32 a),(7,p),(34,R (min (f.length:Int) (((u.drop c).take (d - c)).length:Int))),(35,R s.1)]/\St S o w [W M j s.2,W M p f]) ?_ (0,u) ⟨Z,(hS.j [3,0] Z Z)⟩ h
  rintro an ⟨ag,k⟩ L w ao D ac h x
  try dsimp only at D
  obtain⟨rfl,hS⟩:=D
  unfold F.W1 at h
  refine gl4<|J 1 Z<|gl1 ?_
  apply gl9 Z h<;>intro h
  ·refine gl5<|cw<|cn<|gl4<|J 2 Z<|gl3<|gV (fun w'=>St S o w' [W M j k,W M p f]) (fun i=>!([10].contains i)) gC (fun _ _ _ hf=>hf.2) (fun _ _ hf=>hf) (by kernel_rfl)<|have hS:=hS.drew;show lxE _ _ _ _ _ _ _ [0,1,2,3,4,5,6,7,8,9,10] _ _ from bT 2 Z hS<|aK h fun T y h=>aN hS Z Z (fun w m=>mz u25 ti5 Z Z ((m.ro 0 Z).po b) y) Z<|aN hS Z Z (fun w m=>iu Tryz.underlying5 Z Z ((m.ro 0 Z).po b) y Z) Z<|bT 2 Z hS<|aK h fun aa z h=>aN hS Z Z (fun w m=>mz u25 ti5 Z Z (m.ro 1 Z) z) Z<|aN hS Z Z (fun w m=>iu Tryz.underlying5 Z Z (m.ro 1 Z) z Z) Z<|aN hS Z Z (fun w m=>bk Z Z (pQ _ T aa)) Z<|aK h fun ap A h=>aN hS Z Z (fun w m=>mz u25 ti5 Z Z ((m.ro 0 Z).po b) A) Z<|mD hS Z Z (Ds (t:=(T ^^^ aa)) ti5 Z Z hS (i:=0) Z b A Z) fun w hS=>jp h fun ai ad h=>?_
   rw[ad]at hS
   exact gf I<|eH<|bL<|bS<|J 2 Z<|d7<|iz (iM (ac (wI (ag+1),ai) _ _ ⟨Z,hS⟩ (eG h x)) Z)
  exact fc<|cj<|cj<|have h:=ep h x;fe<|bL<|bS<|J 2 Z<|aQ (dV u25 Z (hS.ro 1 Z)) Z<|J 1 Z<|aQ (dV u25 Z ((hS.ro 0 Z).po b)) Z<|aQ (yM Z Z) Z<|aK h fun aq B h=>aQ (wG u25 ti5 Z Z ((hS.ro 0 Z).po b) B) Z<|J 1 Z<|d7<|eH<|bL<|bS<|J 1 Z<|aQ (bk Z Z (lZ _ a 1)) Z<|J 1 Z<|d7<|iz (iM (af (c+(min (f.length:Int) (((k.drop c).take (d - c)).length:Int):Int).toNat,a+1,k) _ _ ⟨slV n M.sz (min (f.length:Int) (((k.drop c).take (d - c)).length:Int):Int).toNat ((k.drop c).take (d - c)).length,Z,((hS.ro 0 Z).pcut b B),(hS.j [0] Z Z)⟩ (eG h E)) Z)
 refine fc<|cj<|cj<|have h:=ep h E;fe ?_
 cases h
 exact uQ Z ⟨Z,hS.j [0] Z Z⟩
theorem DN {f:World} {a1 a2:L00} {j p:Value} (a0:Int) {r:L00}
  (h:F.abW a0 a1 a2=some r) (hT:TB [] f) (u:O [] f M j a1) (A:O [] f M p a2):Calls Tryz.prog 110 #[R a0,j,p] f (K fun v w=>St [] f w [W M v r]):=by
 refine ca3 13 Tryz.func110 Z Z Z<|have hS:=St.r f;?_
 unfold F.abW at h
 exact wk
theorem EP {j:World} {a1 a2:L00} {u A:Value} (a0 a3:Int) {r:Bool}
  (h:F.ZH a0 a1 a2 a3=some r) (hT:TB [] j) (E:O [] j M u a1) (G:O [] j M A a2):Calls Tryz.prog 40 #[R a0,u,A,R a3] j (K fun v w=>v=P r/\St [] j w []):=by
 refine ca4 123 Tryz.func40 Z Z Z<|have hS:=St.r j;?_
 unfold F.ZH at h
 let i1:=fun B f D (C:L00) p=>mkI (F.YK a0 a1 D C p) (fun s L w=>L=[(0,R a0),(1,u),(11,slV A M.sz ((wI ((wI ((kV (wI (a3+7)) 3) - f)) - 1):Int).toNat) ((wI ((kV (wI (a3+7)) 3) - 1):Int).toNat)),(12,B),(13,R p),(98,slV B M.sz 0 ((p:Int).toNat)),(99,R ((C.take ((p:Int).toNat)).length:Int)),(100,R s)]/\St [] j w [W M B C])
 let j1:=fun f=>mkJ 4 (F.YR a2 a3 f a0 a1) (fun g L w=>L=[(0,R a0),(1,u),(2,A),(3,R a3),(9,R f),(33,P g)]/\St [] j w []) [(9,R f)] []
 let j2:=fun f=>mkJ 7 (F.Vt a0 a2 a3 f a1) (fun g L w=>L=[(0,R a0),(1,u),(2,A),(3,R a3),(9,R f),(10,R (kV (wI (a3+7)) 3)),(64,P g)]/\St [] j w []) [(9,R f)] []
 exact wk
theorem Bj {f:World} {a1 a2 a3 a4:L00} {D u A E:Value} (a0:Int) {r:Int}
  (h:F.abN a0 a1 a2 a3 a4=some r) (hT:TB [] f) (G:O [] f M D a1) (S:O [] f M u a2) (T:O [] f M A a3) (aa:O [] f M E a4):Calls Tryz.prog 17 #[R a0,D,u,A,E] f (K fun v w=>v=R r/\St [] f w []):=by
 refine ca5 74 Tryz.func17 Z Z Z<|have hS:=St.r f;?_
 unfold F.abN at h
 let j1:=fun j p B C=>mkJ 8 (F.abI a0 a2 a3 B C) (fun g L w=>L=[(0,R a0),(2,u),(3,A),(11,j),(12,p),(39,P g)]/\St [] f w [W Y j B,W Y p C]) [(11,j),(12,p)] [W Y j B,W Y p C]
 let j2:=mkJ 15 (F.ach) (fun g L w=>L=[(73,P g)]/\St [] f w []) [] []
 exact wk
end Go.Proofs
end
