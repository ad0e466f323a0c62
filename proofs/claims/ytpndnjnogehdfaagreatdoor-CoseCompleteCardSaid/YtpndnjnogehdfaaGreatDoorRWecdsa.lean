import Derived.Test.YtpndnjnogehdfaaGreatDoorRW0
import Derived.Test.YtpndnjnogehdfaaGreatDoorRAw
import Derived.Test.YtpndnjnogehdfaaGreatDoorGkFman
import Derived.Test.YtpndnjnogehdfaaGreatDoorRWcurved
import Derived.Test.YtpndnjnogehdfaaGreatDoorRWmodn
import Derived.Test.YtpndnjnogehdfaaGreatDoorRWnatb
import Derived.Test.YtpndnjnogehdfaaGreatDoorRWshab
set_option linter.unusedVariables false
set_option linter.unusedSimpArgs false
set_option linter.unusedSectionVars false
set_option maxRecDepth 20000
set_option maxHeartbeats 20000000
namespace Go.Proofs
open Go Go.RowKit Go.Gk
open Go.Gk renaming RP -> N, Ret -> K, e32 -> X, e8 -> H, own -> W, pB -> R, vB -> V, vI -> U
open Go.Gk.OE renaming bx -> Y
theorem vw {f:World} {a0 a1:Y0} {j p:Value} {r:Bool}
  (h:F.R8 a0 a1=some r) (u:N [] f X j a0) (A:N [] f X p a1):Calls Tryz.prog 26 #[j,p] f (K fun v w=>v=V r/\St [] f w []):=by
 refine ca2 14 Tryz.func26 Z Z Z<|have hS:=St.q f;?_
 unfold F.R8 at h
 exact wk
theorem Bg {f:World} {u A a1 a2:Y0} {j p C D:Value} (B:Bool) {r:Bool}
  (h:F.Sw u A B a1 a2=some r) (E:N [] f X j u) (G:N [] f X p A) (S:N [] f X C a1) (T:N [] f X D a2):Calls Tryz.prog 27 #[.agg #[j,p,V B],C,D] f (K fun v w=>v=V r/\St [] f w []):=by
 refine ca3 24 Tryz.func27 Z Z Z<|have hS:=St.q f;?_
 unfold F.Sw at h
 exact wk
theorem wF {f:World} {a2:Y3} {j:Value} (a0 a1:Int) {r:Y0}
  (h:F.T4 a0 a1 a2=some r) (hT:TB [] f) (p:N [] f H j a2):Calls Tryz.prog 30 #[U a0,U a1,j] f (K fun v w=>St [] f w [W X v r]):=by
 refine ca3 20 Tryz.func30 Z Z Z<|have hS:=St.q f;?_
 unfold F.T4 at h
 exact wk
theorem uN {A:World} {a2:Y3} {a3 a4 B C:Y0} {aa ab ac j p:Value} (a0 a1:Int) (ad:Bool) {r:Y3×Y3×Int}
  (h:F.Vi a0 a1 a2 a3 a4 B C ad=some r) (hT:TB [] A) (ah:N [] A H aa a2) (ai:N [] A X ab a3) (aj:N [] A X ac a4) (af:N [] A X j B) (ag:N [] A X p C):Calls Tryz.prog 10 #[U a0,U a1,aa,ab,ac,.agg #[j,p,V ad]] A (K fun v w=>∃u0 u1:Value,v=.tuple #[u0,u1,U r.2.2]/\St [] A w [W H u0 r.1,W H u1 r.2.1]):=by
 refine ca6 105 Tryz.func10 Z Z Z<|have hS:=St.q A;?_
 unfold F.Vi at h
 let j1:=fun u=>mkJ 7 (F.W6 a1 a3 a4 B C a0 a2) (fun g L w=>L=[(0,U a0),(1,U a1),(2,aa),(3,ab),(4,ac),(11,R u 0),(36,V g.1)]/\St [] A w [Y u [j,p,V g.2]]) [(11,R u 0)] []
 let j2:=fun u D T ae=>mkJ 10 (F.UA a0 a1 a2 a3 a4 B C ae T) (fun g L w=>L=[(0,U a0),(1,U a1),(2,aa),(3,ab),(4,ac),(11,R u 0),(15,D),(55,V g)]/\St [] A w [Y u [j,p,V ae],W X D T]) [(11,R u 0),(15,D)] [Y u [j,p,V ae],W X D T]
 let j3:=fun E G S (f:Y0×Y0×Bool×Int)=>mkJ 17 (F.Us a1 f) (fun g L w=>L=[(1,U a1),(22,R E 0),(98,V g)]/\St [] A w [Y E [G,S,V f.2.2.1],W X G f.1,W X S f.2.1]) [(22,R E 0)] [Y E [G,S,V f.2.2.1],W X G f.1,W X S f.2.1]
 exact wk
theorem vE {j:World} {a2 a3 a4 a5:Y3} {aa ab T ac:Value} (a0 a1:Int) {r:Int}
  (h:F.U8 a0 a1 a2 a3 a4 a5=some r) (hT:TB [] j) (ad:N [] j H aa a2) (ae:N [] j H ab a3) (af:N [] j H T a4) (ag:N [] j H ac a5):Calls Tryz.prog 83 #[U a0,U a1,aa,ab,T,ac] j (K fun v w=>v=U r/\St [] j w []):=by
 refine ca6 114 Tryz.func83 Z Z Z<|have hS:=St.q j;?_
 unfold F.U8 at h
 let j1:=fun E p u A G S B C D (f:Y0×Y0×Bool×Int)=>mkJ 13 (F.VR a0 a1 a4 f B C D) (fun g L w=>L=[(0,U a0),(1,U a1),(4,T),(13,R E 0),(16,p),(19,u),(20,A),(73,V g)]/\St [] j w [Y E [G,S,V f.2.2.1],W X G f.1,W X S f.2.1,W X p B,W X u C,W X A D]) [(13,R E 0),(16,p),(19,u),(20,A)] [Y E [G,S,V f.2.2.1],W X G f.1,W X S f.2.1,W X p B,W X u C,W X A D]
 let j2:=mkJ 19 (F.W9) (fun g L w=>L=[(113,V g)]/\St [] j w []) [] []
 exact wk
end Go.Proofs
