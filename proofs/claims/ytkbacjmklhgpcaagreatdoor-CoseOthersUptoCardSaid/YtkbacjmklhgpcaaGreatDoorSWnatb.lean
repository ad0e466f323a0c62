import Derived.Test.YtkbacjmklhgpcaaGreatDoorSW0
import Derived.Test.YtkbacjmklhgpcaaGreatDoorSAw
import Derived.Test.YtkbacjmklhgpcaaGreatDoorQGkFman
import Derived.Test.YtkbacjmklhgpcaaGreatDoorSWnata
set_option linter.unusedVariables false
set_option linter.unusedSimpArgs false
set_option linter.unusedSectionVars false
set_option maxRecDepth 20000
set_option maxHeartbeats 20000000
namespace Go.Proofs
open Go Go.RowKit Go.Gk
open Go.Gk renaming RP -> O, Ret -> N, e32 -> X, e8 -> K, own -> W, vB -> U, vI -> V
theorem xK {f:World} {a0:L00} {j:Value} (a1:Int) {r:Bool}
  (h:F.Tz a0 a1=some r) (p:O [] f X j a0):Calls Tryz.prog 98 #[j,V a1] f (N fun v w=>v=U r/\St [] f w []):=by
 refine ca2 26 Tryz.func98 Z Z Z<|have hS:=St.r f;?_
 unfold F.Tz at h
 exact wk
theorem Gs {f:World} {a0:L00} {j:Value} (a1:Int) {r:L00}
  (h:F.TL a0 a1=some r) (p:O [] f X j a0):Calls Tryz.prog 154 #[j,V a1] f (N fun v w=>St [] f w [W X v r]):=by
 refine ca2 27 Tryz.func154 Z Z Z<|have hS:=St.r f;?_
 unfold F.TL at h
 exact wk
theorem ET {j:World} {a0:L01} {a1:L00} {f p:Value} {S:L02} {r:L01}
  (h:F.Wq a0 a1=some r) (hS:St S j j [W K f a0]) (A:O S j X p a1):Calls Tryz.prog 99 #[f,p] j (N fun v w=>v=.tuple #[]/\St S j w [W K f r]):=by
 refine ca2 38 Tryz.func99 Z Z Z ?_
 unfold F.Wq at h
 let i1:=mkI (F.Zw a0 a1) (fun s L w=>L=[(0,f),(1,p),(7,V (a0.length:Int)),(8,V s.1)]/\St S j w [W K f s.2])
 let j1:=fun u=>mkJ 8 (F.Zn u) (fun g L w=>L=[(0,f),(1,p),(7,V (a0.length:Int)),(8,V u)]/\St S j w [W K f g]) [(8,V u)] []
 exact wk
theorem C7 {f:World} {a0:L00} {j:Value} (a1:Int) {r:L01×Bool}
  (h:F.Um a0 a1=some r) (p:O [] f X j a0):Calls Tryz.prog 56 #[j,V a1] f (N fun v w=>∃u0:Value,v=.tuple #[u0,U r.2]/\St [] f w [W K u0 r.1]):=by
 refine ca2 28 Tryz.func56 Z Z Z<|have hS:=St.r f;?_
 unfold F.Um at h
 let j1:=mkJ 3 (F.Yh a0 a1) (fun g L w=>L=[(0,j),(1,V a1),(20,U g)]/\St [] f w []) [] []
 exact wk
theorem Db {f:World} {a0:L00} {j:Value} {r:L01}
  (h:F.Yw a0=some r) (p:O [] f X j a0):Calls Tryz.prog 188 #[j] f (N fun v w=>St [] f w [W K v r]):=by
 refine ca1 16 Tryz.func188 Z Z Z<|have hS:=St.r f;?_
 unfold F.Yw at h
 exact wk
end Go.Proofs
