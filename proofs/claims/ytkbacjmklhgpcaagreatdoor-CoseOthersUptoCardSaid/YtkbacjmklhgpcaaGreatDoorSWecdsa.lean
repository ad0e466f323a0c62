import Derived.Test.YtkbacjmklhgpcaaGreatDoorSW0
import Derived.Test.YtkbacjmklhgpcaaGreatDoorSAw
import Derived.Test.YtkbacjmklhgpcaaGreatDoorQGkFman
import Derived.Test.YtkbacjmklhgpcaaGreatDoorSWcurvec
import Derived.Test.YtkbacjmklhgpcaaGreatDoorSWmodn
import Derived.Test.YtkbacjmklhgpcaaGreatDoorSWnatb
import Derived.Test.YtkbacjmklhgpcaaGreatDoorSWshab
set_option linter.unusedVariables false
set_option linter.unusedSimpArgs false
set_option linter.unusedSectionVars false
set_option maxRecDepth 20000
set_option maxHeartbeats 20000000
namespace Go.Proofs
open Go Go.RowKit Go.Gk
open Go.Gk renaming RP -> O, Ret -> N, e32 -> X, e8 -> K, own -> W, pB -> Q, vB -> U, vI -> V
open Go.Gk.OE renaming bx -> Y
theorem wy {f:World} {a0 a1:L00} {j p:Value} {r:Bool}
  (h:F.Wx a0 a1=some r) (u:O [] f X j a0) (A:O [] f X p a1):Calls Tryz.prog 64 #[j,p] f (N fun v w=>v=U r/\St [] f w []):=by
 refine ca2 14 Tryz.func64 Z Z Z<|have hS:=St.r f;?_
 unfold F.Wx at h
 exact wk
theorem xA {f:World} {a2:L01} {j:Value} (a0 a1:Int) {r:L00}
  (h:F.Yn a0 a1 a2=some r) (hT:TB [] f) (p:O [] f K j a2):Calls Tryz.prog 67 #[V a0,V a1,j] f (N fun v w=>St [] f w [W X v r]):=by
 refine ca3 20 Tryz.func67 Z Z Z<|have hS:=St.r f;?_
 unfold F.Yn at h
 exact wk
theorem Cg {f:World} {u A a1 a2:L00} {j p C D:Value} (B:Bool) {r:Bool}
  (h:F.VP u A B a1 a2=some r) (E:O [] f X j u) (G:O [] f X p A) (S:O [] f X C a1) (T:O [] f X D a2):Calls Tryz.prog 69 #[.agg #[j,p,U B],C,D] f (N fun v w=>v=U r/\St [] f w []):=by
 refine ca3 24 Tryz.func69 Z Z Z<|have hS:=St.r f;?_
 unfold F.VP at h
 exact wk
theorem wD {j:World} {a2 a3 a4 a5:L01} {aa ab T ac:Value} (a0 a1:Int) {r:Int}
  (h:F.XX a0 a1 a2 a3 a4 a5=some r) (hT:TB [] j) (ad:O [] j K aa a2) (ae:O [] j K ab a3) (af:O [] j K T a4) (ag:O [] j K ac a5):Calls Tryz.prog 30 #[V a0,V a1,aa,ab,T,ac] j (N fun v w=>v=V r/\St [] j w []):=by
 refine ca6 114 Tryz.func30 Z Z Z<|have hS:=St.r j;?_
 unfold F.XX at h
 let j1:=fun E p u A G S B C D (f:L00×L00×Bool×Int)=>mkJ 13 (F.YR a0 a1 a4 f B C D) (fun g L w=>L=[(0,V a0),(1,V a1),(4,T),(13,Q E 0),(16,p),(19,u),(20,A),(73,U g)]/\St [] j w [Y E [G,S,U f.2.2.1],W X G f.1,W X S f.2.1,W X p B,W X u C,W X A D]) [(13,Q E 0),(16,p),(19,u),(20,A)] [Y E [G,S,U f.2.2.1],W X G f.1,W X S f.2.1,W X p B,W X u C,W X A D]
 let j2:=mkJ 19 (F.aak) (fun g L w=>L=[(113,U g)]/\St [] j w []) [] []
 exact wk
end Go.Proofs
