import Derived.Test.YtkbacjmklhgpcaaGreatDoorSW0
import Derived.Test.YtkbacjmklhgpcaaGreatDoorSAw
import Derived.Test.YtkbacjmklhgpcaaGreatDoorQGkFman
import Derived.Test.YtkbacjmklhgpcaaGreatDoorSWecdsa
import Derived.Test.YtkbacjmklhgpcaaGreatDoorSWedb
import Derived.Test.YtkbacjmklhgpcaaGreatDoorSWhmac
import Derived.Test.YtkbacjmklhgpcaaGreatDoorSWpss
import Derived.Test.YtkbacjmklhgpcaaGreatDoorSWrsa1
import Derived.Test.YtkbacjmklhgpcaaGreatDoorSWshab
import Derived.Test.YtkbacjmklhgpcaaGreatDoorSWspki
set_option linter.unusedVariables false
set_option linter.unusedSimpArgs false
set_option linter.unusedSectionVars false
set_option maxRecDepth 20000
set_option maxHeartbeats 20000000
namespace Go.Proofs
open Go Go.RowKit Go.Gk
open Go.Gk renaming RP -> O, Ret -> N, e8 -> K, pB -> Q, vB -> U, vI -> V
open Go.Gk.OE renaming bx -> Y
theorem Ga {f:World} (a0:Int) {r:Int×Int×Int}
  (h:F.W4 a0=some r) :Calls Tryz.prog 23 #[V a0] f (N fun v w=>v=.tuple #[V r.1,V r.2.1,V r.2.2]/\St [] f w []):=by
 refine ca1 33 Tryz.func23 Z Z Z<|have hS:=St.r f;?_
 unfold F.W4 at h
 let j1:=mkJ 6 (F.Yc a0) (fun g L w=>L=[(0,V a0),(5,V a0),(6,U g)]/\St [] f w []) [] []
 let j2:=mkJ 10 (F.YE a0) (fun g L w=>L=[(0,V a0),(5,V a0),(13,U g)]/\St [] f w []) [] []
 let j3:=mkJ 14 (F.Zs a0) (fun g L w=>L=[(0,V a0),(5,V a0),(20,U g)]/\St [] f w []) [] []
 exact wk
theorem Fa {D:World} {S T aa ab ac:L01} {f j p u A:Value} (a0 B C:Int) {r:Bool}
  (h:F.YF a0 B C S T aa ab ac=some r) (ad:O [] D K f S) (ae:O [] D K j T) (af:O [] D K p aa) (ag:O [] D K u ab) (ah:O [] D K A ac):Calls Tryz.prog 24 #[V a0,.agg #[V B,V C,f,j,p,u,A]] D (N fun v w=>v=U r/\St [] D w []):=by
 refine ca2 48 Tryz.func24 Z Z Z<|have hS:=St.r D;?_
 unfold F.YF at h
 let j1:=fun G (E:Int×Int×Int)=>mkJ 8 (F.aa1 B C E) (fun g L w=>L=[(3,Q G 0),(7,V E.2.2),(14,V E.1),(20,U g)]/\St [] D w [Y G [V B,V C,f,j,p,u,A]]) [(3,Q G 0),(7,V E.2.2),(14,V E.1)] [Y G [V B,V C,f,j,p,u,A]]
 exact wk
theorem C3 {f:World} {G S T aa ab a3:L01} {j p u A B ad:Value} (a0 D E:Int) (a2:L01) {r:Int}
  (h:F.Wl a0 D E G S T aa ab a2 a3=some r) (hT:TB [] f) (ae:O [] f K j G) (af:O [] f K p S) (ag:O [] f K u T) (ah:O [] f K A aa) (ai:O [] f K B ab) (aj:O [] f K ad a3):Calls Tryz.prog 13 #[V a0,.agg #[V D,V E,j,p,u,A,B],vS a2,ad] f (N fun v w=>v=V r/\St [] f w []):=by
 refine ca4 92 Tryz.func13 Z Z Z<|have hS:=St.r f;?_
 unfold F.Wl at h
 let j1:=fun ac (C:Int×Int×Int)=>mkJ 9 (F.V7 G S T aa ab a2 a3 C) (fun g L w=>L=[(2,vS a2),(3,ad),(5,Q ac 0),(9,V C.1),(10,V C.2.1),(11,V C.2.2),(28,U g)]/\St [] f w [Y ac [V D,V E,j,p,u,A,B]]) [(5,Q ac 0),(9,V C.1),(10,V C.2.1),(11,V C.2.2)] [Y ac [V D,V E,j,p,u,A,B]]
 let j2:=mkJ 23 (F.Ur) (fun g L w=>L=[(13,V g)]/\St [] f w []) [] []
 exact wk
end Go.Proofs
