import Derived.Test.YtkbacjmklhgpcaaGreatDoorRW0
import Derived.Test.YtkbacjmklhgpcaaGreatDoorRAw
import Derived.Test.YtkbacjmklhgpcaaGreatDoorGkFman
import Derived.Test.YtkbacjmklhgpcaaGreatDoorRWlib
import Derived.Test.YtkbacjmklhgpcaaGreatDoorRWmodn
import Derived.Test.YtkbacjmklhgpcaaGreatDoorRWnatb
import Derived.Test.YtkbacjmklhgpcaaGreatDoorRWshab
set_option linter.unusedVariables false
set_option linter.unusedSimpArgs false
set_option linter.unusedSectionVars false
set_option maxRecDepth 20000
set_option maxHeartbeats 20000000
namespace Go.Proofs
open Go Go.RowKit Go.Gk
open Go.Gk renaming RP -> O, Ret -> N, e32 -> X, e8 -> I, own -> W, vB -> U, vI -> V
theorem FL {f:World} {a0 a1:L01} {j p:Value} {r:Int}
  (h:F.VD a0 a1=some r) (u:O [] f I j a0) (A:O [] f I p a1):Calls Tryz.prog 51 #[j,p] f (N fun v w=>v=V r/\St [] f w []):=by
 refine ca2 70 Tryz.func51 Z Z Z<|have hS:=St.r f;?_
 unfold F.VD at h
 let j1:=mkJ 3 (F.Uq a0 a1) (fun g L w=>L=[(0,j),(1,p),(37,U g)]/\St [] f w []) [] []
 let j2:=mkJ 7 (F.UG) (fun g L w=>L=[(69,U g)]/\St [] f w []) [] []
 exact wk
theorem Br {f:World} (a0:Int) {r:Bool}
  (h:F.Xq a0=some r) :Calls Tryz.prog 50 #[V a0] f (N fun v w=>v=U r/\St [] f w []):=by
 refine ca1 9 Tryz.func50 Z Z Z<|have hS:=St.r f;?_
 unfold F.Xq at h
 exact wk
theorem zk {u:World} {a1:L01} {C:Value} (a0 a2:Int) {r:L01×Int}
  (h:F.Ym a0 a1 a2=some r) (hT:TB [] u) (D:O [] u I C a1):Calls Tryz.prog 54 #[V a0,C,V a2] u (N fun v w=>∃u0:Value,v=.tuple #[u0,V r.2]/\St [] u w [W I u0 r.1]):=by
 refine ca3 64 Tryz.func54 Z Z Z<|have hS:=St.r u;?_
 unfold F.Ym at h
 let i1:=fun f A j p=>mkI (F.Ys j p A) (fun s L w=>∃B,L=[(8,f),(9,vS p),(11,B),(48,V A),(49,V s.2)]/\St [] u w [W I B s.1,W I f j])
 let j1:=fun f j p=>mkJ 7 (F.Z3 a2 j p) (fun g L w=>L=[(2,V a2),(8,f),(9,vS p),(34,U g)]/\St [] u w [W I f j]) [(8,f),(9,vS p)] [W I f j]
 exact wk
theorem ze {f:World} {a1 a2 a3 a4:L01} {u A B E:Value} (a0:Int) {r:Int}
  (h:F.Y5 a0 a1 a2 a3 a4=some r) (hT:TB [] f) (G:O [] f I u a1) (S:O [] f I A a2) (T:O [] f I B a3) (aa:O [] f I E a4):Calls Tryz.prog 28 #[V a0,u,A,B,E] f (N fun v w=>v=V r/\St [] f w []):=by
 refine ca5 80 Tryz.func28 Z Z Z<|have hS:=St.r f;?_
 unfold F.Y5 at h
 let j1:=fun j p C D=>mkJ 9 (F.Yf a0 a1 a2 a3 C D) (fun g L w=>L=[(0,V a0),(1,u),(2,A),(3,B),(12,j),(13,p),(42,U g)]/\St [] f w [W X j C,W X p D]) [(12,j),(13,p)] [W X j C,W X p D]
 let j2:=mkJ 16 (F.YN) (fun g L w=>L=[(79,U g)]/\St [] f w []) [] []
 exact wk
end Go.Proofs
