import Derived.Test.YtkbacjmklhgpcaaGreatDoorSW0
import Derived.Test.YtkbacjmklhgpcaaGreatDoorSAw
import Derived.Test.YtkbacjmklhgpcaaGreatDoorQGkFman
import Derived.Test.YtkbacjmklhgpcaaGreatDoorSWcurvec
import Derived.Test.YtkbacjmklhgpcaaGreatDoorSWedb
import Derived.Test.YtkbacjmklhgpcaaGreatDoorSWrsa1
set_option linter.unusedVariables false
set_option linter.unusedSimpArgs false
set_option linter.unusedSectionVars false
set_option maxRecDepth 20000
set_option maxHeartbeats 20000000
namespace Go.Proofs
open Go Go.RowKit Go.Gk
open Go.Gk renaming RP -> O, Ret -> N, e8 -> K, pB -> Q, vB -> U, vI -> V
open Go.Gk.OE renaming bx -> Y
theorem yW {f:World} {a0:List L01} {j:Value} {s0:List SV} {r:Bool}
  (h:F.T0 a0=some r) (p:O [] f eV j s0) (hl0:jE [] f K s0 a0):Calls Tryz.prog 90 #[j] f (N fun v w=>v=U r/\St [] f w []):=by
 refine ca1 19 Tryz.func90 Z Z Z<|have hS:=St.r f;?_
 unfold F.T0 at h
 let i1:=mkI (F.XG a0) (fun s L w=>L=[(3,V s.1),(6,j),(7,V (a0.length:Int)),(8,V s.2)]/\St [] f w [])
 exact wk
theorem CS {B:World} {S T aa E ab:L01} {f j p u A:Value} (C D:Int) {r:Bool}
  (h:F.Zt C D S T aa E ab=some r) (hT:TB [] B) (ac:O [] B K f S) (ad:O [] B K j T) (ae:O [] B K p aa) (af:O [] B K u E) (ag:O [] B K A ab):Calls Tryz.prog 47 #[.agg #[V C,V D,f,j,p,u,A]] B (N fun v w=>v=U r/\St [] B w []):=by
 refine ca1 111 Tryz.func47 Z Z Z<|have hS:=St.r B;?_
 unfold F.Zt at h
 let j1:=fun G=>mkJ 12 (F.aac E) (fun g L w=>L=[(1,Q G 0),(102,U g)]/\St [] B w [Y G [V C,V D,f,j,p,u,A]]) [(1,Q G 0)] [Y G [V C,V D,f,j,p,u,A]]
 exact wk
theorem BZ {f:World} {C D E G S:L01} {j p u A B:Value} (T aa:Int) {r:Int}
  (h:F.XR T aa C D E G S=some r) (hT:TB [] f) (ab:O [] f K j C) (ac:O [] f K p D) (ad:O [] f K u E) (ae:O [] f K A G) (af:O [] f K B S):Calls Tryz.prog 25 #[.agg #[V T,V aa,j,p,u,A,B]] f (N fun v w=>v=V r/\St [] f w []):=by
 refine ca1 5 Tryz.func25 Z Z Z<|have hS:=St.r f;?_
 unfold F.XR at h
 exact wk
end Go.Proofs
