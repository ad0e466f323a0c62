import Derived.Test.YtkbacjmklhgpcaaGreatDoorSW0
import Derived.Test.YtkbacjmklhgpcaaGreatDoorSAw
import Derived.Test.YtkbacjmklhgpcaaGreatDoorQGkFman
set_option linter.unusedVariables false
set_option linter.unusedSimpArgs false
set_option linter.unusedSectionVars false
set_option maxRecDepth 20000
set_option maxHeartbeats 20000000
namespace Go.Proofs
open Go Go.RowKit Go.Gk
open Go.Gk renaming Ret -> N, vB -> U, vI -> V
theorem zi {f:World} (a0:Int) {r:L01}
  (h:F.Vm a0=some r) (hT:TB [] f):Calls Tryz.prog 12 #[V a0] f (N fun v w=>v=vS r/\St [] f w []):=by
 refine ca1 12 Tryz.func12 Z Z Z<|have hS:=St.r f;?_
 unfold F.Vm at h
 let j1:=mkJ 3 (F.aah a0) (fun g L w=>L=[(0,V a0),(8,U g)]/\St [] f w []) [] []
 exact wk
end Go.Proofs
