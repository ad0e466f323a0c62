import Derived.Test.YtpndnjnogehdfaaGreatDoorRW0
import Derived.Test.YtpndnjnogehdfaaGreatDoorRAw
import Derived.Test.YtpndnjnogehdfaaGreatDoorGkFman
import Derived.Test.YtpndnjnogehdfaaGreatDoorRWcborb
set_option linter.unusedVariables false
set_option linter.unusedSimpArgs false
set_option linter.unusedSectionVars false
set_option maxRecDepth 20000
set_option maxHeartbeats 20000000
namespace Go.Proofs
open Go Go.RowKit Go.Gk
open Go.Gk renaming RP -> N, Ret -> K, e8 -> H, eP -> J, own -> W, vB -> V, vI -> U
theorem xO {f:World} {a0 a2:List (Int×UInt64×Y3×Int)} {j p:Value} (a1:Int) {r:Int}
  (h:F.Q9 a0 a1 a2=some r) (hT:TB [] f) (A:N [] f (J eI (J e64 (J eS eI))) j a0) (B:N [] f (J eI (J e64 (J eS eI))) p a2):Calls Tryz.prog 38 #[j,U a1,p] f (K fun v w=>v=U r/\St [] f w []):=by
 refine ca3 54 Tryz.func38 Z Z Z<|have hS:=St.q f;?_
 unfold F.Q9 at h
 let i1:=fun (u:(Int×UInt64×Y3×Int))=>mkI (F.Tj a0 a2 u) (fun s L w=>L=[(0,j),(2,p),(7,U s.1),(37,U (wI (Int.tdiv u.2.2.2 2))),(38,U s.2)]/\St [] f w [])
 let j1:=mkJ 3 (F.Rs a0 a1 a2) (fun g L w=>L=[(0,j),(1,U a1),(2,p),(29,V g)]/\St [] f w []) [] []
 exact wk
theorem Bp {j:World} {a0:List (Int×UInt64×Y3×Int)} {u:Value} {r:Y3×Int}
  (h:F.T8 a0=some r) (hT:TB [] j) (A:N [] j (J eI (J e64 (J eS eI))) u a0):Calls Tryz.prog 6 #[u] j (K fun v w=>∃u0:Value,v=.tuple #[u0,U r.2]/\St [] j w [W H u0 r.1]):=by
 refine ca1 23 Tryz.func6 Z Z Z<|have hS:=St.q j;?_
 unfold F.T8 at h
 let j1:=fun f (p:Y3×Int)=>mkJ 4 (F.Uq p) (fun g L w=>L=[(4,f),(18,V g)]/\St [] j w [W H f p.1]) [(4,f)] [W H f p.1]
 exact wk
end Go.Proofs
