import Derived.Test.YtkbacjmklhgpcaaGreatDoorSW0
import Derived.Test.YtkbacjmklhgpcaaGreatDoorSAw
import Derived.Test.YtkbacjmklhgpcaaGreatDoorQGkFman
import Derived.Test.YtkbacjmklhgpcaaGreatDoorSWcborb
set_option linter.unusedVariables false
set_option linter.unusedSimpArgs false
set_option linter.unusedSectionVars false
set_option maxRecDepth 20000
set_option maxHeartbeats 20000000
namespace Go.Proofs
open Go Go.RowKit Go.Gk
open Go.Gk renaming RP -> O, Ret -> N, e64 -> H, e8 -> K, eP -> I, own -> W, vB -> U, vI -> V
theorem yL {f:World} {a0 a2:List (Int×UInt64×L01×Int)} {j p:Value} (a1:Int) {r:Int}
  (h:F.TA a0 a1 a2=some r) (hT:TB [] f) (A:O [] f (I eI (I H (I eS eI))) j a0) (B:O [] f (I eI (I H (I eS eI))) p a2):Calls Tryz.prog 33 #[j,V a1,p] f (N fun v w=>v=V r/\St [] f w []):=by
 refine ca3 54 Tryz.func33 Z Z Z<|have hS:=St.r f;?_
 unfold F.TA at h
 let i1:=fun (u:(Int×UInt64×L01×Int))=>mkI (F.VQ a0 a2 u) (fun s L w=>L=[(0,j),(2,p),(7,V s.1),(37,V (wI (Int.tdiv u.2.2.2 2))),(38,V s.2)]/\St [] f w [])
 let j1:=mkJ 3 (F.T3 a0 a1 a2) (fun g L w=>L=[(0,j),(1,V a1),(2,p),(29,U g)]/\St [] f w []) [] []
 exact wk
theorem Cu {j:World} {a0:List (Int×UInt64×L01×Int)} {u:Value} {r:L01×Int}
  (h:F.Un a0=some r) (hT:TB [] j) (A:O [] j (I eI (I H (I eS eI))) u a0):Calls Tryz.prog 9 #[u] j (N fun v w=>∃u0:Value,v=.tuple #[u0,V r.2]/\St [] j w [W K u0 r.1]):=by
 refine ca1 23 Tryz.func9 Z Z Z<|have hS:=St.r j;?_
 unfold F.Un at h
 let j1:=fun f (p:L01×Int)=>mkJ 4 (F.W3 p) (fun g L w=>L=[(4,f),(18,U g)]/\St [] j w [W K f p.1]) [(4,f)] [W K f p.1]
 exact wk
end Go.Proofs
