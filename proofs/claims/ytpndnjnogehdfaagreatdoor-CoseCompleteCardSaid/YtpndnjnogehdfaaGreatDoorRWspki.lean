import Derived.Test.YtpndnjnogehdfaaGreatDoorRW0
import Derived.Test.YtpndnjnogehdfaaGreatDoorRAw
import Derived.Test.YtpndnjnogehdfaaGreatDoorGkFman
import Derived.Test.YtpndnjnogehdfaaGreatDoorRWcurved
set_option linter.unusedVariables false
set_option linter.unusedSimpArgs false
set_option linter.unusedSectionVars false
set_option maxRecDepth 20000
set_option maxHeartbeats 20000000
namespace Go.Proofs
open Go Go.RowKit Go.Gk
open Go.Gk renaming RP -> N, Ret -> K, e8 -> H, pB -> R, vB -> V, vI -> U
open Go.Gk.OE renaming bx -> Y
theorem x8 {f:World} {a0:List Y3} {j:Value} {s0:List SV} {r:Bool}
  (h:F.Tc a0=some r) (p:N [] f eV j s0) (hl0:jo [] f H s0 a0):Calls Tryz.prog 165 #[j] f (K fun v w=>v=V r/\St [] f w []):=by
 refine ca1 19 Tryz.func165 Z Z Z<|have hS:=St.q f;?_
 unfold F.Tc at h
 let i1:=mkI (F.UW a0) (fun s L w=>L=[(3,U s.1),(6,j),(7,U (a0.length:Int)),(8,U s.2)]/\St [] f w [])
 exact wk
theorem BH {B:World} {G S T aa ab:Y3} {f j p u A:Value} (C D:Int) {r:Bool}
  (h:F.Xt C D G S T aa ab=some r) (ac:N [] B H f G) (ad:N [] B H j S) (ae:N [] B H p T) (af:N [] B H u aa) (ag:N [] B H A ab):Calls Tryz.prog 119 #[.agg #[U C,U D,f,j,p,u,A]] B (K fun v w=>v=V r/\St [] B w []):=by
 refine ca1 111 Tryz.func119 Z Z Z<|have hS:=St.q B;?_
 unfold F.Xt at h
 let j1:=fun E=>mkJ 12 (F.XZ) (fun g L w=>L=[(1,R E 0),(102,V g)]/\St [] B w [Y E [U C,U D,f,j,p,u,A]]) [(1,R E 0)] [Y E [U C,U D,f,j,p,u,A]]
 exact wk
theorem A4 {f:World} {C D E G S:Y3} {j p u A B:Value} (T aa:Int) {r:Int}
  (h:F.U3 T aa C D E G S=some r) (ab:N [] f H j C) (ac:N [] f H p D) (ad:N [] f H u E) (ae:N [] f H A G) (af:N [] f H B S):Calls Tryz.prog 79 #[.agg #[U T,U aa,j,p,u,A,B]] f (K fun v w=>v=U r/\St [] f w []):=by
 refine ca1 5 Tryz.func79 Z Z Z<|have hS:=St.q f;?_
 unfold F.U3 at h
 exact wk
end Go.Proofs
