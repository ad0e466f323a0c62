import Derived.Test.YtkbacjmklhgpcaaGreatDoorSW0
import Derived.Test.YtkbacjmklhgpcaaGreatDoorSAw
import Derived.Test.YtkbacjmklhgpcaaGreatDoorQGkFman
import Derived.Test.YtkbacjmklhgpcaaGreatDoorSWshab
set_option linter.unusedVariables false
set_option linter.unusedSimpArgs false
set_option linter.unusedSectionVars false
set_option maxRecDepth 20000
set_option maxHeartbeats 20000000
namespace Go.Proofs
open Go Go.RowKit Go.Gk
open Go.Gk renaming RP -> O, Ret -> N, e8 -> K, own -> W, vB -> U, vI -> V
theorem zh {f:World} {a1:L01} {B:Value} (a0:Int) (a2:UInt8) {r:L01}
  (h:F.W2 a0 a1 a2=some r) (hT:TB [] f) (C:O [] f K B a1):Calls Tryz.prog 91 #[V a0,B,v8 a2] f (N fun v w=>St [] f w [W K v r]):=by
 refine ca3 38 Tryz.func91 Z Z Z<|have hS:=St.r f;?_
 unfold F.W2 at h
 let i1:=fun j p=>mkI (F.abr a2 p) (fun s L w=>L=[(2,v8 a2),(7,j),(25,V p),(26,V s.1)]/\St [] f w [W K j s.2])
 let i2:=fun u A=>mkI (F.abm a2 A) (fun s L w=>L=[(2,v8 a2),(7,u),(25,V A),(26,V s.1)]/\St [] f w [W K u s.2])
 exact wk
theorem EH {f:World} {a1 a2:L01} {j p:Value} (a0:Int) {r:L01}
  (h:F.ZA a0 a1 a2=some r) (hT:TB [] f) (u:O [] f K j a1) (A:O [] f K p a2):Calls Tryz.prog 49 #[V a0,j,p] f (N fun v w=>St [] f w [W K v r]):=by
 refine ca3 23 Tryz.func49 Z Z Z<|have hS:=St.r f;?_
 unfold F.ZA at h
 exact wk
theorem zR {f:World} {a0 a1:L01} {j p:Value} {r:Bool}
  (h:F.YT a0 a1=some r) (u:O [] f K j a0) (A:O [] f K p a1):Calls Tryz.prog 48 #[j,p] f (N fun v w=>v=U r/\St [] f w []):=by
 refine ca2 31 Tryz.func48 Z Z Z<|have hS:=St.r f;?_
 unfold F.YT at h
 let i1:=mkI (F.Xk a0 a1) (fun s L w=>L=[(0,j),(1,p),(5,v8 s.1),(13,V (a0.length:Int)),(14,V s.2)]/\St [] f w [])
 exact wk
theorem Ci {f:World} {a1 a2 a3:L01} {j p u:Value} (a0:Int) {r:Bool}
  (h:F.YO a0 a1 a2 a3=some r) (hT:TB [] f) (A:O [] f K j a1) (B:O [] f K p a2) (C:O [] f K u a3):Calls Tryz.prog 27 #[V a0,j,p,u] f (N fun v w=>v=U r/\St [] f w []):=by
 refine ca4 20 Tryz.func27 Z Z Z<|have hS:=St.r f;?_
 unfold F.YO at h
 exact wk
end Go.Proofs
