import Derived.Test.YtkbacjmklhgpcaaGreatDoorRW0
import Derived.Test.YtkbacjmklhgpcaaGreatDoorRAw
import Derived.Test.YtkbacjmklhgpcaaGreatDoorGkFman
import Derived.Test.YtkbacjmklhgpcaaGreatDoorRWcurvec
import Derived.Test.YtkbacjmklhgpcaaGreatDoorRWedb
import Derived.Test.YtkbacjmklhgpcaaGreatDoorRWrsa1
set_option linter.unusedVariables false
set_option linter.unusedSimpArgs false
set_option linter.unusedSectionVars false
set_option maxRecDepth 20000
set_option maxHeartbeats 20000000
namespace Go.Proofs
open Go Go.RowKit Go.Gk
open Go.Gk renaming RP -> O, Ret -> N, e8 -> I, pB -> Q, vB -> U, vI -> V
open Go.Gk.OE renaming bx -> Y
theorem zd {f:World} {a0:List L01} {j:Value} {s0:List SV} {r:Bool}
  (h:F.T6 a0=some r) (p:O [] f eV j s0) (hl0:jD [] f I s0 a0):Calls Tryz.prog 90 #[j] f (N fun v w=>v=U r/\St [] f w []):=by
 refine ca1 19 Tryz.func90 Z Z Z<|have hS:=St.r f;?_
 unfold F.T6 at h
 let i1:=mkI (F.XH a0) (fun s L w=>L=[(3,V s.1),(6,j),(7,V (a0.length:Int)),(8,V s.2)]/\St [] f w [])
 exact wk
theorem CT {B:World} {S T aa E ab:L01} {f j p u A:Value} (C D:Int) {r:Bool}
  (h:F.Zy C D S T aa E ab=some r) (hT:TB [] B) (ac:O [] B I f S) (ad:O [] B I j T) (ae:O [] B I p aa) (af:O [] B I u E) (ag:O [] B I A ab):Calls Tryz.prog 47 #[.agg #[V C,V D,f,j,p,u,A]] B (N fun v w=>v=U r/\St [] B w []):=by
 refine ca1 111 Tryz.func47 Z Z Z<|have hS:=St.r B;?_
 unfold F.Zy at h
 let j1:=fun G=>mkJ 12 (F.aai E) (fun g L w=>L=[(1,Q G 0),(102,U g)]/\St [] B w [Y G [V C,V D,f,j,p,u,A]]) [(1,Q G 0)] [Y G [V C,V D,f,j,p,u,A]]
 exact wk
theorem B3 {f:World} {C D E G S:L01} {j p u A B:Value} (T aa:Int) {r:Int}
  (h:F.XS T aa C D E G S=some r) (hT:TB [] f) (ab:O [] f I j C) (ac:O [] f I p D) (ad:O [] f I u E) (ae:O [] f I A G) (af:O [] f I B S):Calls Tryz.prog 25 #[.agg #[V T,V aa,j,p,u,A,B]] f (N fun v w=>v=V r/\St [] f w []):=by
 refine ca1 5 Tryz.func25 Z Z Z<|have hS:=St.r f;?_
 unfold F.XS at h
 exact wk
end Go.Proofs
