import Derived.Test.YtpndnjnogehdfaaGreatDoorRW0
import Derived.Test.YtpndnjnogehdfaaGreatDoorRAw
import Derived.Test.YtpndnjnogehdfaaGreatDoorGkFman
import Derived.Test.YtpndnjnogehdfaaGreatDoorRWecdsa
import Derived.Test.YtpndnjnogehdfaaGreatDoorRWshab
import Derived.Test.YtpndnjnogehdfaaGreatDoorRWspki
set_option linter.unusedVariables false
set_option linter.unusedSimpArgs false
set_option linter.unusedSectionVars false
set_option maxRecDepth 20000
set_option maxHeartbeats 20000000
namespace Go.Proofs
open Go Go.RowKit Go.Gk
open Go.Gk renaming RP -> N, Ret -> K, e8 -> H, pB -> R, vB -> V, vI -> U
open Go.Gk.OE renaming bx -> Y
theorem EQ {f:World} (a0:Int) {r:Int×Int×Int}
  (h:F.VN a0=some r) :Calls Tryz.prog 77 #[U a0] f (K fun v w=>v=.tuple #[U r.1,U r.2.1,U r.2.2]/\St [] f w []):=by
 refine ca1 33 Tryz.func77 Z Z Z<|have hS:=St.q f;?_
 unfold F.VN at h
 let j1:=mkJ 6 (F.WP a0) (fun g L w=>L=[(0,U a0),(5,U a0),(6,V g)]/\St [] f w []) [] []
 let j2:=mkJ 10 (F.W2 a0) (fun g L w=>L=[(0,U a0),(5,U a0),(13,V g)]/\St [] f w []) [] []
 let j3:=mkJ 14 (F.Xs a0) (fun g L w=>L=[(0,U a0),(5,U a0),(20,V g)]/\St [] f w []) [] []
 exact wk
theorem D5 {D:World} {S T aa ab ac:Y3} {f j p u A:Value} (a0 B C:Int) {r:Bool}
  (h:F.W3 a0 B C S T aa ab ac=some r) (ad:N [] D H f S) (ae:N [] D H j T) (af:N [] D H p aa) (ag:N [] D H u ab) (ah:N [] D H A ac):Calls Tryz.prog 78 #[U a0,.agg #[U B,U C,f,j,p,u,A]] D (K fun v w=>v=V r/\St [] D w []):=by
 refine ca2 48 Tryz.func78 Z Z Z<|have hS:=St.q D;?_
 unfold F.W3 at h
 let j1:=fun G (E:Int×Int×Int)=>mkJ 8 (F.XU B C E) (fun g L w=>L=[(3,R G 0),(7,U E.2.2),(14,U E.1),(20,V g)]/\St [] D w [Y G [U B,U C,f,j,p,u,A]]) [(3,R G 0),(7,U E.2.2),(14,U E.1)] [Y G [U B,U C,f,j,p,u,A]]
 exact wk
theorem BT {B:World} {aa ab ac G S a3:Y3} {f j p u A ad:Value} (a0 D E:Int) (a2:Y3) {r:Int}
  (h:F.U7 a0 D E aa ab ac G S a2 a3=some r) (hT:TB [] B) (ae:N [] B H f aa) (af:N [] B H j ab) (ag:N [] B H p ac) (ah:N [] B H u G) (ai:N [] B H A S) (aj:N [] B H ad a3):Calls Tryz.prog 36 #[U a0,.agg #[U D,U E,f,j,p,u,A],vS a2,ad] B (K fun v w=>v=U r/\St [] B w []):=by
 refine ca4 92 Tryz.func36 Z Z Z<|have hS:=St.q B;?_
 unfold F.U7 at h
 let j1:=fun T (C:Int×Int×Int)=>mkJ 9 (F.UP G S a2 a3 C) (fun g L w=>L=[(2,vS a2),(3,ad),(5,R T 0),(9,U C.1),(10,U C.2.1),(11,U C.2.2),(28,V g)]/\St [] B w [Y T [U D,U E,f,j,p,u,A]]) [(5,R T 0),(9,U C.1),(10,U C.2.1),(11,U C.2.2)] [Y T [U D,U E,f,j,p,u,A]]
 exact wk
end Go.Proofs
