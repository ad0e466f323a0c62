import Derived.Test.YtpndnjnogehdfaaGreatDoorRW0
import Derived.Test.YtpndnjnogehdfaaGreatDoorRAw
import Derived.Test.YtpndnjnogehdfaaGreatDoorGkFman
set_option linter.unusedVariables false
set_option linter.unusedSimpArgs false
set_option linter.unusedSectionVars false
set_option maxRecDepth 20000
set_option maxHeartbeats 20000000
namespace Go.Proofs
open Go Go.RowKit Go.Gk
open Go.Gk renaming RP -> N, Ret -> K, e8 -> H, own -> W, v64 -> M, vB -> V, vI -> U
theorem tL {f:World} (a0:UInt8) {r:Bool}
  (h:F.Uy a0=some r) :Calls Tryz.prog 139 #[v8 a0] f (K fun v w=>v=V r/\St [] f w []):=by
 refine ca1 6 Tryz.func139 Z Z Z<|have hS:=St.q f;?_
 unfold F.Uy at h
 exact wk
theorem rN {f:World} (a0 a1:UInt8) {r:Int}
  (h:F.Wa a0 a1=some r) :Calls Tryz.prog 91 #[v8 a0,v8 a1] f (K fun v w=>v=U r/\St [] f w []):=by
 refine ca2 20 Tryz.func91 Z Z Z<|have hS:=St.q f;?_
 unfold F.Wa at h
 exact wk
theorem kE {j:World} {a0 a1:Y3} {f p:Value} {r:Int}
  (h:F.Vd a0 a1=some r) (u:N [] j H f a0) (A:N [] j H p a1):Calls Tryz.prog 46 #[f,p] j (K fun v w=>v=U r/\St [] j w []):=by
 refine ca2 36 Tryz.func46 Z Z Z<|have hS:=St.q j;?_
 unfold F.Vd at h
 let i1:=mkI (F.Sp a0 a1) (fun s L w=>L=[(0,f),(1,p),(9,f),(10,U (a0.length:Int)),(11,U s)]/\St [] j w [])
 exact wk
theorem oF {f:World} {a0:Y3} {j:Value} {r:Y3}
  (h:F.Wh a0=some r) (p:N [] f H j a0):Calls Tryz.prog 47 #[j] f (K fun v w=>St [] f w [W H v r]):=by
 refine ca1 8 Tryz.func47 Z Z Z<|have hS:=St.q f;?_
 unfold F.Wh at h
 exact wk
theorem pH {f:World} {a0:List Int} {j:Value} (a1:Int) {r:Int}
  (h:F.Wb a0 a1=some r) (p:N [] f eI j a0):Calls Tryz.prog 88 #[j,U a1] f (K fun v w=>v=U r/\St [] f w []):=by
 refine ca2 19 Tryz.func88 Z Z Z<|have hS:=St.q f;?_
 unfold F.Wb at h
 let i1:=mkI (F.Q5 a0 a1) (fun s L w=>L=[(0,j),(1,U a1),(7,U (a0.length:Int)),(8,U s)]/\St [] f w [])
 exact wk
theorem nQ {f:World} {a0:List Int} {j:Value} (a1:Int) {r:Bool}
  (h:F.R1 a0 a1=some r) (p:N [] f eI j a0):Calls Tryz.prog 39 #[j,U a1] f (K fun v w=>v=V r/\St [] f w []):=by
 refine ca2 9 Tryz.func39 Z Z Z<|have hS:=St.q f;?_
 unfold F.R1 at h
 exact wk
theorem sI {f:World} (a0:UInt32) {r:Int}
  (h:F.UI a0=some r) :Calls Tryz.prog 42 #[v32 a0] f (K fun v w=>v=U r/\St [] f w []):=by
 refine ca1 19 Tryz.func42 Z Z Z<|have hS:=St.q f;?_
 unfold F.UI at h
 let j1:=mkJ 5 (F.VH) (fun g L w=>L=[(0,v32 g.1),(2,U g.2)]/\St [] f w []) [] []
 let j2:=mkJ 8 (F.VD) (fun g L w=>L=[(0,v32 g.1),(2,U g.2)]/\St [] f w []) [] []
 exact wk
theorem sJ {f:World} (a0 a1 a2:UInt32) {r:UInt32×UInt32}
  (h:F.VU a0 a1 a2=some r) :Calls Tryz.prog 143 #[v32 a0,v32 a1,v32 a2] f (K fun v w=>v=.tuple #[v32 r.1,v32 r.2]/\St [] f w []):=by
 refine ca3 33 Tryz.func143 Z Z Z<|have hS:=St.q f;?_
 unfold F.VU at h
 let j1:=mkJ 3 (F.WA a0 a1 a2) (fun g L w=>L=[(0,v32 a0),(1,v32 a1),(2,v32 a2),(15,V g)]/\St [] f w []) [] []
 exact wk
theorem nv {f:World} (a0:UInt32) {r:Int}
  (h:F.Vw a0=some r) :Calls Tryz.prog 144 #[v32 a0] f (K fun v w=>v=U r/\St [] f w []):=by
 refine ca1 6 Tryz.func144 Z Z Z<|have hS:=St.q f;?_
 unfold F.Vw at h
 exact wk
theorem sH {f:World} (a0 a1 a2:UInt32) {r:UInt32×UInt32}
  (h:F.Xw a0 a1 a2=some r) :Calls Tryz.prog 184 #[v32 a0,v32 a1,v32 a2] f (K fun v w=>v=.tuple #[v32 r.1,v32 r.2]/\St [] f w []):=by
 refine ca3 25 Tryz.func184 Z Z Z<|have hS:=St.q f;?_
 unfold F.Xw at h
 exact wk
theorem oG {f:World} (a0:UInt32) (a1:Int) {r:UInt32}
  (h:F.QO a0 a1=some r) :Calls Tryz.prog 201 #[v32 a0,U a1] f (K fun v w=>v=v32 r/\St [] f w []):=by
 refine ca2 17 Tryz.func201 Z Z Z<|have hS:=St.q f;?_
 unfold F.QO at h
 exact wk
theorem oJ {f:World} (a0:UInt64) (a1:Int) {r:UInt64}
  (h:F.QQ a0 a1=some r) :Calls Tryz.prog 202 #[M a0,U a1] f (K fun v w=>v=M r/\St [] f w []):=by
 refine ca2 17 Tryz.func202 Z Z Z<|have hS:=St.q f;?_
 unfold F.QQ at h
 exact wk
theorem mQ {f:World} {a0:List Y3} {j:Value} (a1:Y3) {r:Int}
  (h:F.Xc a0 a1=some r) (p:N [] f eS j a0):Calls Tryz.prog 76 #[j,vS a1] f (K fun v w=>v=U r/\St [] f w []):=by
 refine ca2 19 Tryz.func76 Z Z Z<|have hS:=St.q f;?_
 unfold F.Xc at h
 let i1:=mkI (F.Wn a0 a1) (fun s L w=>L=[(0,j),(1,vS a1),(7,U (a0.length:Int)),(8,U s)]/\St [] f w [])
 exact wk
theorem mf {f:World} {a0:List Y3} {j:Value} (a1:Y3) {r:Bool}
  (h:F.Wx a0 a1=some r) (p:N [] f eS j a0):Calls Tryz.prog 34 #[j,vS a1] f (K fun v w=>v=V r/\St [] f w []):=by
 refine ca2 9 Tryz.func34 Z Z Z<|have hS:=St.q f;?_
 unfold F.Wx at h
 exact wk
end Go.Proofs
