import Derived.Test.YtkbacjmklhgpcaaGreatDoorRW0
import Derived.Test.YtkbacjmklhgpcaaGreatDoorRAw
import Derived.Test.YtkbacjmklhgpcaaGreatDoorGkFman
import Derived.Test.YtkbacjmklhgpcaaGreatDoorRWecdsa
import Derived.Test.YtkbacjmklhgpcaaGreatDoorRWedb
import Derived.Test.YtkbacjmklhgpcaaGreatDoorRWhmac
import Derived.Test.YtkbacjmklhgpcaaGreatDoorRWpss
import Derived.Test.YtkbacjmklhgpcaaGreatDoorRWrsa1
import Derived.Test.YtkbacjmklhgpcaaGreatDoorRWshab
import Derived.Test.YtkbacjmklhgpcaaGreatDoorRWspki
set_option linter.unusedVariables false
set_option linter.unusedSimpArgs false
set_option linter.unusedSectionVars false
set_option maxRecDepth 20000
set_option maxHeartbeats 20000000
namespace Go.Proofs
open Go Go.RowKit Go.Gk
open Go.Gk renaming RP -> O, Ret -> N, e8 -> I, pB -> Q, vB -> U, vI -> V
open Go.Gk.OE renaming bx -> Y
theorem Gc {f:World} (a0:Int) {r:Int×Int×Int}
  (h:F.W5 a0=some r) :Calls Tryz.prog 23 #[V a0] f (N fun v w=>v=.tuple #[V r.1,V r.2.1,V r.2.2]/\St [] f w []):=by
 refine ca1 33 Tryz.func23 Z Z Z<|have hS:=St.r f;?_
 unfold F.W5 at h
 let j1:=mkJ 6 (F.Ye a0) (fun g L w=>L=[(0,V a0),(5,V a0),(6,U g)]/\St [] f w []) [] []
 let j2:=mkJ 10 (F.YH a0) (fun g L w=>L=[(0,V a0),(5,V a0),(13,U g)]/\St [] f w []) [] []
 let j3:=mkJ 14 (F.Zx a0) (fun g L w=>L=[(0,V a0),(5,V a0),(20,U g)]/\St [] f w []) [] []
 exact wk
theorem Fc {D:World} {S T aa ab ac:L01} {f j p u A:Value} (a0 B C:Int) {r:Bool}
  (h:F.YJ a0 B C S T aa ab ac=some r) (ad:O [] D I f S) (ae:O [] D I j T) (af:O [] D I p aa) (ag:O [] D I u ab) (ah:O [] D I A ac):Calls Tryz.prog 24 #[V a0,.agg #[V B,V C,f,j,p,u,A]] D (N fun v w=>v=U r/\St [] D w []):=by
 refine ca2 48 Tryz.func24 Z Z Z<|have hS:=St.r D;?_
 unfold F.YJ at h
 let j1:=fun G (E:Int×Int×Int)=>mkJ 8 (F.aa7 B C E) (fun g L w=>L=[(3,Q G 0),(7,V E.2.2),(14,V E.1),(20,U g)]/\St [] D w [Y G [V B,V C,f,j,p,u,A]]) [(3,Q G 0),(7,V E.2.2),(14,V E.1)] [Y G [V B,V C,f,j,p,u,A]]
 exact wk
theorem C2 {f:World} {G S T aa ab a3:L01} {j p u A B ad:Value} (a0 D E:Int) (a2:L01) {r:Int}
  (h:F.Wn a0 D E G S T aa ab a2 a3=some r) (hT:TB [] f) (ae:O [] f I j G) (af:O [] f I p S) (ag:O [] f I u T) (ah:O [] f I A aa) (ai:O [] f I B ab) (aj:O [] f I ad a3):Calls Tryz.prog 13 #[V a0,.agg #[V D,V E,j,p,u,A,B],vS a2,ad] f (N fun v w=>v=V r/\St [] f w []):=by
 refine ca4 92 Tryz.func13 Z Z Z<|have hS:=St.r f;?_
 unfold F.Wn at h
 let j1:=fun ac (C:Int×Int×Int)=>mkJ 9 (F.Wa G S T aa ab a2 a3 C) (fun g L w=>L=[(2,vS a2),(3,ad),(5,Q ac 0),(9,V C.1),(10,V C.2.1),(11,V C.2.2),(28,U g)]/\St [] f w [Y ac [V D,V E,j,p,u,A,B]]) [(5,Q ac 0),(9,V C.1),(10,V C.2.1),(11,V C.2.2)] [Y ac [V D,V E,j,p,u,A,B]]
 let j2:=mkJ 23 (F.Uv) (fun g L w=>L=[(13,V g)]/\St [] f w []) [] []
 exact wk
end Go.Proofs
