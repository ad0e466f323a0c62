import Derived.Test.YtkbacjmklhgpcaaGreatDoorSW0
import Derived.Test.YtkbacjmklhgpcaaGreatDoorSAw
import Derived.Test.YtkbacjmklhgpcaaGreatDoorQGkFman
import Derived.Test.YtkbacjmklhgpcaaGreatDoorSWcborc
import Derived.Test.YtkbacjmklhgpcaaGreatDoorSWcoseb
import Derived.Test.YtkbacjmklhgpcaaGreatDoorSWlaw31a
set_option linter.unusedVariables false
set_option linter.unusedSimpArgs false
set_option linter.unusedSectionVars false
set_option maxRecDepth 20000
set_option maxHeartbeats 20000000
namespace Go.Proofs
open Go Go.RowKit Go.Gk
open Go.Gk renaming RP -> O, Ret -> N, ar -> J, e8 -> K, own -> W, pB -> Q, vB -> U, vI -> V
open Go.Gk.OE renaming bx -> Y
theorem c_law31_CoseOthers {p:World} {a0 a1 a2 a3 a4 ad ae af ag ah:L01} {a6:List L01} {ak al am an ai B C D E G aj:Value} (u A:Int) {r:Bool}
  (h:F.Z5 a0 a1 a2 a3 a4 u A ad ae af ag ah a6=some r) (hT:TB [] p) (ax:O [] p K ak a0) (ay:O [] p K al a1) (az:O [] p K am a2) (aA:O [] p K an a3) (aC:O [] p K ai a4) (ap:O [] p K B ad) (aq:O [] p K C ae) (J:O [] p K D af) (au:O [] p K E ag) (av:O [] p K G ah) (aD:O [] p eS aj a6):Calls Tryz.prog 4 #[ak,al,am,an,ai,.agg #[V u,V A,B,C,D,E,G],aj] p (N fun v w=>v=U r/\St [] p w []):=by
 refine ca7 154 Tryz.func4 Z Z Z<|have hS:=St.r p;?_
 unfold F.Z5 at h
 let j1:=fun aa f j ab (S:L01×Int) (T:L01×Int) (ac:L01×Int)=>mkJ 8 (F.Vc a0 a1 a2 a3 a4 ac S T u A ad ae af ag ah a6) (fun g L w=>L=[(0,ak),(1,al),(2,am),(3,an),(4,ai),(6,aj),(12,Q aa 0),(15,ab),(17,f),(19,j),(75,U g)]/\St [] p w [Y aa [V u,V A,B,C,D,E,G],W K ab ac.1,W K f S.1,W K j T.1]) [(12,Q aa 0),(15,ab),(17,f),(19,j)] [Y aa [V u,V A,B,C,D,E,G],W K ab ac.1,W K f S.1,W K j T.1]
 let j2:=fun aa f j ab (S:L01×Int) (T:L01×Int) (ac:L01×Int)=>mkJ 13 (F.Uk a4 u A ad ae af ag ah a6 ac S T) (fun g L w=>L=[(4,ai),(6,aj),(12,Q aa 0),(15,ab),(17,f),(19,j),(139,U g)]/\St [] p w [Y aa [V u,V A,B,C,D,E,G],W K ab ac.1,W K f S.1,W K j T.1]) [(12,Q aa 0),(15,ab),(17,f),(19,j)] [Y aa [V u,V A,B,C,D,E,G],W K ab ac.1,W K f S.1,W K j T.1]
 exact wk
end Go.Proofs
