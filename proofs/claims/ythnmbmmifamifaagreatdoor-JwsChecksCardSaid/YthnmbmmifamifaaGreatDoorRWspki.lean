import Derived.Test.YthnmbmmifamifaaGreatDoorRW0
import Derived.Test.YthnmbmmifamifaaGreatDoorRAw
import Derived.Test.YthnmbmmifamifaaGreatDoorGkFman
import Derived.Test.YthnmbmmifamifaaGreatDoorRWcurvec
import Derived.Test.YthnmbmmifamifaaGreatDoorRWedb
import Derived.Test.YthnmbmmifamifaaGreatDoorRWhmac
import Derived.Test.YthnmbmmifamifaaGreatDoorRWecdsa
import Derived.Test.YthnmbmmifamifaaGreatDoorRWmodn
set_option linter.unusedVariables false
set_option linter.unusedSimpArgs false
set_option linter.unusedSectionVars false
section
set_option maxRecDepth 20000
set_option maxHeartbeats 20000000
namespace Go.Proofs
open Go Go.RowKit Go.Gk
open Go.Gk renaming RP -> O,Ret -> K,e8 -> M,pB -> Q,vB -> P,vI -> R
open Go.Gk.OE renaming bx -> X
theorem AI {f:World} {a0:List L00} {j:Value} {s0:List SV} {r:Bool}
  (h:F.U1 a0=some r) (p:O [] f eV j s0) (hl0:ki [] f M s0 a0):Calls Tryz.prog 96 #[j] f (K fun v w=>v=P r/\St [] f w []):=by
 refine ca1 19 Tryz.func96 Z Z Z<|have hS:=St.r f;?_
 unfold F.U1 at h
 let i1:=mkI (F.Zx a0) (fun s L w=>L=[(3,R s.1),(6,j),(7,R (a0.length:Int)),(8,R s.2)]/\St [] f w [])
 exact wk
theorem Ea {B:World} {S T aa E ab:L00} {f j p u A:Value} (C D:Int) {r:Bool}
  (h:F.abV C D S T aa E ab=some r) (hT:TB [] B) (ac:O [] B M f S) (ad:O [] B M j T) (ae:O [] B M p aa) (af:O [] B M u E) (ag:O [] B M A ab):Calls Tryz.prog 28 #[.agg #[R C,R D,f,j,p,u,A]] B (K fun v w=>v=P r/\St [] B w []):=by
 refine ca1 111 Tryz.func28 Z Z Z<|have hS:=St.r B;?_
 unfold F.abV at h
 let j1:=fun G=>mkJ 12 (F.acx E) (fun g L w=>L=[(1,Q G 0),(102,P g)]/\St [] B w [X G [R C,R D,f,j,p,u,A]]) [(1,Q G 0)] [X G [R C,R D,f,j,p,u,A]]
 exact wk
theorem Do {f:World} {C D E G S:L00} {j p u A B:Value} (T aa:Int) {r:Int}
  (h:F.ZL T aa C D E G S=some r) (hT:TB [] f) (ab:O [] f M j C) (ac:O [] f M p D) (ad:O [] f M u E) (ae:O [] f M A G) (af:O [] f M B S):Calls Tryz.prog 13 #[.agg #[R T,R aa,j,p,u,A,B]] f (K fun v w=>v=R r/\St [] f w []):=by
 refine ca1 5 Tryz.func13 Z Z Z<|have hS:=St.r f;?_
 unfold F.ZL at h
 exact wk
theorem HU {f:World} (a0:Int) {r:Int×Int×Int}
  (h:F.Yq a0=some r) :Calls Tryz.prog 12 #[R a0] f (K fun v w=>v=.tuple #[R r.1,R r.2.1,R r.2.2]/\St [] f w []):=by
 refine ca1 33 Tryz.func12 Z Z Z<|have hS:=St.r f;?_
 unfold F.Yq at h
 let j1:=mkJ 6 (F.aab a0) (fun g L w=>L=[(0,R a0),(5,R a0),(6,P g)]/\St [] f w []) [] []
 let j2:=mkJ 10 (F.aaX a0) (fun g L w=>L=[(0,R a0),(5,R a0),(13,P g)]/\St [] f w []) [] []
 let j3:=mkJ 14 (F.abU a0) (fun g L w=>L=[(0,R a0),(5,R a0),(20,P g)]/\St [] f w []) [] []
 exact wk
theorem si {D:World} {S T aa ab ac:L00} {f j p u A:Value} (a0 B C:Int) {r:Bool}
  (h:F.WE a0 B C S T aa ab ac=some r) (ad:O [] D M f S) (ae:O [] D M j T) (af:O [] D M p aa) (ag:O [] D M u ab) (ah:O [] D M A ac):Calls Tryz.prog 6 #[R a0,.agg #[R B,R C,f,j,p,u,A]] D (K fun v w=>v=P r/\St [] D w []):=by
 refine ca2 48 Tryz.func6 Z Z Z<|have hS:=St.r D;?_
 unfold F.WE at h
 let j1:=fun G (E:Int×Int×Int)=>mkJ 8 (F.acZ B C E) (fun g L w=>L=[(3,Q G 0),(7,R E.2.2),(14,R E.1),(20,P g)]/\St [] D w [X G [R B,R C,f,j,p,u,A]]) [(3,Q G 0),(7,R E.2.2),(14,R E.1)] [X G [R B,R C,f,j,p,u,A]]
 exact wk
theorem pA {f:World} {G S T aa ab a3:L00} {j p u A B ad:Value} (a0 D E:Int) (a2:L00) {r:Int}
  (h:F.Vy a0 D E G S T aa ab a2 a3=some r) (hT:TB [] f) (ae:O [] f M j G) (af:O [] f M p S) (ag:O [] f M u T) (ah:O [] f M A aa) (aj:O [] f M B ab) (ak:O [] f M ad a3):Calls Tryz.prog 7 #[R a0,.agg #[R D,R E,j,p,u,A,B],vS a2,ad] f (K fun v w=>v=R r/\St [] f w []):=by
 refine ca4 92 Tryz.func7 Z Z Z<|have hS:=St.r f;?_
 unfold F.Vy at h
 let j1:=fun ac (C:Int×Int×Int)=>mkJ 9 (F.Xd G S T aa ab a2 a3 C) (fun g L w=>L=[(2,vS a2),(3,ad),(5,Q ac 0),(9,R C.1),(10,R C.2.1),(11,R C.2.2),(28,P g)]/\St [] f w [X ac [R D,R E,j,p,u,A,B]]) [(5,Q ac 0),(9,R C.1),(10,R C.2.1),(11,R C.2.2)] [X ac [R D,R E,j,p,u,A,B]]
 let j2:=mkJ 23 (F.Vm) (fun g L w=>L=[(13,R g)]/\St [] f w []) [] []
 exact wk
end Go.Proofs
end
