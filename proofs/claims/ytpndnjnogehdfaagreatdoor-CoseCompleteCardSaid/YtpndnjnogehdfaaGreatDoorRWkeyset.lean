import Derived.Test.YtpndnjnogehdfaaGreatDoorRW0
import Derived.Test.YtpndnjnogehdfaaGreatDoorRAw
import Derived.Test.YtpndnjnogehdfaaGreatDoorGkFman
set_option linter.unusedVariables false
set_option linter.unusedSimpArgs false
set_option linter.unusedSectionVars false
set_option maxRecDepth 20000
set_option maxHeartbeats 20000000
namespace Go.Proofs
open Go Go.RowKit Go.Gk
open Go.Gk renaming Ret -> K, vB -> V, vI -> U
theorem yf {f:World} (a0:Int) {r:Y3}
  (h:F.WM a0=some r) (hT:TB [] f):Calls Tryz.prog 35 #[U a0] f (K fun v w=>v=vS r/\St [] f w []):=by
 refine ca1 12 Tryz.func35 Z Z Z<|have hS:=St.q f;?_
 unfold F.WM at h
 let j1:=mkJ 3 (F.X4 a0) (fun g L w=>L=[(0,U a0),(8,V g)]/\St [] f w []) [] []
 exact wk
end Go.Proofs
