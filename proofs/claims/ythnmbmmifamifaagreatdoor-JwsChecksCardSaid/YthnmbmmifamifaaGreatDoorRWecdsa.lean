import Derived.Test.YthnmbmmifamifaaGreatDoorRW0
import Derived.Test.YthnmbmmifamifaaGreatDoorRAw
import Derived.Test.YthnmbmmifamifaaGreatDoorGkFman
import Derived.Test.YthnmbmmifamifaaGreatDoorRWcurvec
import Derived.Test.YthnmbmmifamifaaGreatDoorRWmodn
import Derived.Test.YthnmbmmifamifaaGreatDoorRWnata
set_option linter.unusedVariables false
set_option linter.unusedSimpArgs false
set_option linter.unusedSectionVars false
set_option maxRecDepth 20000
set_option maxHeartbeats 20000000
namespace Go.Proofs
open Go Go.RowKit Go.Gk
open Go.Gk renaming RP -> O, Ret -> K, e32 -> Y, e8 -> M, own -> W, pB -> Q, vB -> P, vI -> R
open Go.Gk.OE renaming bx -> X
theorem yo {f:World} {a0 a1:L8} {j p:Value} {r:Bool}
  (h:F.XQ a0 a1=some r) (u:O [] f Y j a0) (A:O [] f Y p a1):Calls Tryz.prog 45 #[j,p] f (K fun v w=>v=P r/\St [] f w []):=by
 refine ca2 14 Tryz.func45 Z Z Z<|have hS:=St.r f;?_
 unfold F.XQ at h
 exact wk
theorem zy {f:World} {a2:L00} {j:Value} (a0 a1:Int) {r:L8}
  (h:F.aav a0 a1 a2=some r) (hT:TB [] f) (p:O [] f M j a2):Calls Tryz.prog 48 #[R a0,R a1,j] f (K fun v w=>St [] f w [W Y v r]):=by
 refine ca3 20 Tryz.func48 Z Z Z<|have hS:=St.r f;?_
 unfold F.aav at h
 exact wk
theorem DC {f:World} {u A a1 a2:L8} {j p C D:Value} (B:Bool) {r:Bool}
  (h:F.WQ u A B a1 a2=some r) (E:O [] f Y j u) (G:O [] f Y p A) (S:O [] f Y C a1) (T:O [] f Y D a2):Calls Tryz.prog 50 #[.agg #[j,p,P B],C,D] f (K fun v w=>v=P r/\St [] f w []):=by
 refine ca3 24 Tryz.func50 Z Z Z<|have hS:=St.r f;?_
 unfold F.WQ at h
 exact wk
theorem yu {j:World} {a2 a3 a4 a5:L00} {aa ab T ac:Value} (a0 a1:Int) {r:Int}
  (h:F.ZS a0 a1 a2 a3 a4 a5=some r) (hT:TB [] j) (ad:O [] j M aa a2) (ae:O [] j M ab a3) (af:O [] j M T a4) (ag:O [] j M ac a5):Calls Tryz.prog 18 #[R a0,R a1,aa,ab,T,ac] j (K fun v w=>v=R r/\St [] j w []):=by
 refine ca6 114 Tryz.func18 Z Z Z<|have hS:=St.r j;?_
 unfold F.ZS at h
 let j1:=fun E p u A G S B C D (f:L8×L8×Bool×Int)=>mkJ 13 (F.abb a0 a1 a4 f B C D) (fun g L w=>L=[(0,R a0),(1,R a1),(4,T),(13,Q E 0),(16,p),(19,u),(20,A),(73,P g)]/\St [] j w [X E [G,S,P f.2.2.1],W Y G f.1,W Y S f.2.1,W Y p B,W Y u C,W Y A D]) [(13,Q E 0),(16,p),(19,u),(20,A)] [X E [G,S,P f.2.2.1],W Y G f.1,W Y S f.2.1,W Y p B,W Y u C,W Y A D]
 let j2:=mkJ 19 (F.acC) (fun g L w=>L=[(113,P g)]/\St [] j w []) [] []
 exact wk
end Go.Proofs
