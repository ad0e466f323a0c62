import Derived.Test.YtpndnjnogehdfaaGreatDoorRW0
import Derived.Test.YtpndnjnogehdfaaGreatDoorRAw
import Derived.Test.YtpndnjnogehdfaaGreatDoorGkFman
import Derived.Test.YtpndnjnogehdfaaGreatDoorRWnata
set_option linter.unusedVariables false
set_option linter.unusedSimpArgs false
set_option linter.unusedSectionVars false
set_option maxRecDepth 20000
set_option maxHeartbeats 20000000
namespace Go.Proofs
open Go Go.RowKit Go.Gk
open Go.Gk renaming RP -> N, Ret -> K, e32 -> X, own -> W, v64 -> M, vB -> V, vI -> U
theorem FJ {A:World} {a0 a1:Y0} {D E:Value} {r:Y0}
  (h:F.TN a0 a1=some r) (S:N [] A X D a0) (T:N [] A X E a1):Calls Tryz.prog 108 #[D,E] A (K fun v w=>St [] A w [W X v r]):=by
 refine ca2 64 Tryz.func108 Z Z Z<|have hS:=St.q A;?_
 unfold F.TN at h
 let i1:=fun j p f (B:Y0) G=>mkI (F.TG B G) (fun s L w=>L=[(5,f),(6,j),(7,p),(8,M s.1),(26,f),(27,U (B.length:Int)),(28,U s.2.1)]/\St [] A w [W X p s.2.2])
 let j1:=mkJ 5 (F.Wl) (fun g L w=>∃f j,L=[(5,f),(6,j)]/\N [] A X f g.1/\N [] A X j g.2/\St [] A w []) [] []
 let j2:=fun j p f u C (B:Y0)=>mkJ 13 (F.Wv u C) (fun g L w=>L=[(5,f),(6,j),(7,p),(8,M g),(9,U u),(26,f),(27,U (B.length:Int)),(28,U u)]/\St [] A w [W X p C]) [(5,f),(6,j),(7,p),(9,U u),(26,f),(27,U (B.length:Int)),(28,U u)] [W X p C]
 exact wk
theorem GS {f:World} {a0 a1:Y0} {j p:Value} {r:Y0×Bool}
  (h:F.R6 a0 a1=some r) (u:N [] f X j a0) (A:N [] f X p a1):Calls Tryz.prog 104 #[j,p] f (K fun v w=>∃u0:Value,v=.tuple #[u0,V r.2]/\St [] f w [W X u0 r.1]):=by
 refine ca2 28 Tryz.func104 Z Z Z<|have hS:=St.q f;?_
 unfold F.R6 at h
 exact wk
theorem E8 {A:World} {a0 a1:Y0} {B p:Value} {r:Y0}
  (h:F.Vj a0 a1=some r) (E:N [] A X B a0) (G:N [] A X p a1):Calls Tryz.prog 63 #[B,p] A (K fun v w=>St [] A w [W X v r]):=by
 refine ca2 73 Tryz.func63 Z Z Z<|have hS:=St.q A;?_
 unfold F.Vj at h
 let i1:=fun u j f=>mkI (F.UD a0 j a1 f) (fun s L w=>L=[(6,slV3 p X.sz 0 f f),(7,u),(23,slV3 B X.sz 0 j j),(24,U ((a0.take j).length:Int)),(25,U s.1)]/\St [] A w [W X u s.2])
 let i2:=fun u j C f D=>mkI (F.S9 a1 f D C) (fun s L w=>L=[(6,slV3 p X.sz 0 f f),(7,u),(8,U D),(9,v32 C),(10,M s.1),(23,slV3 B X.sz 0 j j),(24,U ((a0.take j).length:Int)),(25,U D),(30,slV3 p X.sz 0 f f),(31,U ((a1.take f).length:Int)),(32,U s.2.1)]/\St [] A w [W X u s.2.2])
 exact wk
end Go.Proofs
