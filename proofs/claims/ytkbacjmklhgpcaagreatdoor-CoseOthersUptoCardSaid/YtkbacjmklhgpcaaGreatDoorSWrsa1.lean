import Derived.Test.YtkbacjmklhgpcaaGreatDoorSW0
import Derived.Test.YtkbacjmklhgpcaaGreatDoorSAw
import Derived.Test.YtkbacjmklhgpcaaGreatDoorQGkFman
import Derived.Test.YtkbacjmklhgpcaaGreatDoorSWlib
import Derived.Test.YtkbacjmklhgpcaaGreatDoorSWmodn
import Derived.Test.YtkbacjmklhgpcaaGreatDoorSWnatb
import Derived.Test.YtkbacjmklhgpcaaGreatDoorSWshab
set_option linter.unusedVariables false
set_option linter.unusedSimpArgs false
set_option linter.unusedSectionVars false
set_option maxRecDepth 20000
set_option maxHeartbeats 20000000
namespace Go.Proofs
open Go Go.RowKit Go.Gk
open Go.Gk renaming RP -> O, Ret -> N, e32 -> X, e8 -> K, own -> W, vB -> U, vI -> V
theorem FK {f:World} {a0 a1:L01} {j p:Value} {r:Int}
  (h:F.VB a0 a1=some r) (u:O [] f K j a0) (A:O [] f K p a1):Calls Tryz.prog 51 #[j,p] f (N fun v w=>v=V r/\St [] f w []):=by
 refine ca2 70 Tryz.func51 Z Z Z<|have hS:=St.r f;?_
 unfold F.VB at h
 let j1:=mkJ 3 (F.Ul a0 a1) (fun g L w=>L=[(0,j),(1,p),(37,U g)]/\St [] f w []) [] []
 let j2:=mkJ 7 (F.UE) (fun g L w=>L=[(69,U g)]/\St [] f w []) [] []
 exact wk
theorem Bp {f:World} (a0:Int) {r:Bool}
  (h:F.Xp a0=some r) :Calls Tryz.prog 50 #[V a0] f (N fun v w=>v=U r/\St [] f w []):=by
 refine ca1 9 Tryz.func50 Z Z Z<|have hS:=St.r f;?_
 unfold F.Xp at h
 exact wk
theorem za {u:World} {a1:L01} {C:Value} (a0 a2:Int) {r:L01×Int}
  (h:F.Yk a0 a1 a2=some r) (hT:TB [] u) (D:O [] u K C a1):Calls Tryz.prog 54 #[V a0,C,V a2] u (N fun v w=>∃u0:Value,v=.tuple #[u0,V r.2]/\St [] u w [W K u0 r.1]):=by
 refine ca3 64 Tryz.func54 Z Z Z<|have hS:=St.r u;?_
 unfold F.Yk at h
 let i1:=fun f A j p=>mkI (F.Yq j p A) (fun s L w=>∃B,L=[(8,f),(9,vS p),(11,B),(48,V A),(49,V s.2)]/\St [] u w [W K B s.1,W K f j])
 let j1:=fun f j p=>mkJ 7 (F.ZU a2 j p) (fun g L w=>L=[(2,V a2),(8,f),(9,vS p),(34,U g)]/\St [] u w [W K f j]) [(8,f),(9,vS p)] [W K f j]
 exact wk
theorem yX {f:World} {a1 a2 a3 a4:L01} {u A B E:Value} (a0:Int) {r:Int}
  (h:F.YZ a0 a1 a2 a3 a4=some r) (hT:TB [] f) (G:O [] f K u a1) (S:O [] f K A a2) (T:O [] f K B a3) (aa:O [] f K E a4):Calls Tryz.prog 28 #[V a0,u,A,B,E] f (N fun v w=>v=V r/\St [] f w []):=by
 refine ca5 80 Tryz.func28 Z Z Z<|have hS:=St.r f;?_
 unfold F.YZ at h
 let j1:=fun j p C D=>mkJ 9 (F.Yd a0 a1 a2 a3 C D) (fun g L w=>L=[(0,V a0),(1,u),(2,A),(3,B),(12,j),(13,p),(42,U g)]/\St [] f w [W X j C,W X p D]) [(12,j),(13,p)] [W X j C,W X p D]
 let j2:=mkJ 16 (F.YK) (fun g L w=>L=[(79,U g)]/\St [] f w []) [] []
 exact wk
end Go.Proofs
