import Derived.Test.YtpndnjnogehdfaaGreatDoorRW0
import Derived.Test.YtpndnjnogehdfaaGreatDoorRAw
import Derived.Test.YtpndnjnogehdfaaGreatDoorGkFman
set_option linter.unusedVariables false
set_option linter.unusedSimpArgs false
set_option linter.unusedSectionVars false
set_option maxRecDepth 20000
set_option maxHeartbeats 20000000
namespace Go.Proofs
open Go Go.RowKit Go.Gk
open Go.Gk renaming RP -> N, Ret -> K, e32 -> X, e8 -> H, own -> W, pB -> R, v64 -> M, vB -> V, vI -> U
open Go.Gk.OE renaming bx -> Y
theorem xJ {j:World} {a0:Y0} {f:Value} {S:Y4} {r:Y0}
  (h:F.QS a0=some r) (hS:St S j j [W X f a0]):Calls Tryz.prog 160 #[f] j (K fun v w=>∃u0:Value,v=u0/\St S j w [W X u0 r]):=by
 refine ca1 21 Tryz.func160 Z Z Z ?_
 unfold F.QS at h
 let i1:=mkI (F.WQ a0) (fun s L w=>L=[(0,f),(3,U s)]/\St S j w [W X f a0])
 exact wk
theorem wG {f:World} (a0:UInt64) {r:Y0}
  (h:F.RI a0=some r) :Calls Tryz.prog 155 #[M a0] f (K fun v w=>St [] f w [W X v r]):=by
 refine ca1 10 Tryz.func155 Z Z Z<|have hS:=St.q f;?_
 unfold F.RI at h
 exact wk
theorem Ao {f:World} {a0 a1:Y0} {j p:Value} {r:Y0}
  (h:F.Ue a0 a1=some r) (B:N [] f X j a0) (C:N [] f X p a1):Calls Tryz.prog 189 #[j,p] f (K fun v w=>St [] f w [W X v r]):=by
 refine ca2 75 Tryz.func189 Z Z Z<|have hS:=St.q f;?_
 unfold F.Ue at h
 let i1:=fun u=>mkI (F.TL a0 a1) (fun s L w=>L=[(0,j),(1,p),(5,u),(6,U s.1)]/\St [] f w [W X u s.2])
 let i2:=fun u A=>mkI (F.TK a0 a1 A) (fun s L w=>L=[(0,j),(1,p),(5,u),(6,U A),(7,M s.1),(8,U s.2.1)]/\St [] f w [W X u s.2.2])
 let j1:=mkJ 3 (F.Ub a0 a1) (fun g L w=>L=[(0,j),(1,p),(16,V g)]/\St [] f w []) [] []
 exact wk
theorem Bi {u:World} {a0 a1:Y0} {C D:Value} {r:Y0}
  (h:F.S6 a0 a1=some r) (S:N [] u X C a0) (T:N [] u X D a1):Calls Tryz.prog 187 #[C,D] u (K fun v w=>St [] u w [W X v r]):=by
 refine ca2 58 Tryz.func187 Z Z Z<|have hS:=St.q u;?_
 unfold F.S6 at h
 let i1:=fun f j p E G=>mkI (F.T7 E G) (fun s L w=>L=[(0,j),(1,p),(5,f),(6,M s.1),(7,U s.2.1)]/\St [] u w [W X f s.2.2])
 let j1:=mkJ 4 (F.Vg) (fun g L w=>∃j p,L=[(0,j),(1,p)]/\N [] u X j g.1/\N [] u X p g.2/\St [] u w []) [] []
 let j2:=fun f j p A B=>mkJ 12 (F.Vb A B) (fun g L w=>L=[(0,j),(1,p),(5,f),(6,M g),(7,U A)]/\St [] u w [W X f B]) [(0,j),(1,p),(5,f),(7,U A)] [W X f B]
 exact wk
theorem lE {u:World} {A a2:Y0} {j p:Value} {f:Nat} {S:Y4} (B a1:Bool) {r:Bool×Y0}
  (h:F.QT B A a1 a2=some r) (hS:St S u u [Y f [V B,j],W X j A,W X p a2]):Calls Tryz.prog 154 #[R f 0,V a1,p] u (K fun v w=>∃C:Value,v=R f 0/\St S u w [Y f [V r.1,C],W X C r.2]):=by
 refine ca3 21 Tryz.func154 Z Z Z ?_
 unfold F.QT at h
 let j1:=mkJ 4 (F.WF a2) (fun g L w=>L=[(0,R f 0)]/\St S u w [Y f [V g,p],W X p a2]) [] []
 exact wk
theorem pp {w0:World} {p:Y0} {j:Value} {A:Nat} {S:Y4} (u:Bool) (a1:Y3) (a2:Int) {r:Bool×Bool×Y0}
  (h:F.U6 u p a1 a2=some r) (hS:St S w0 w0 [Y A [V u,j],W X j p]):Calls Tryz.prog 183 #[R A 0,vS a1,U a2] w0 (K fun v w=>∃ad:Value,v=.tuple #[R A 0,V r.1]/\St S w0 w [Y A [V r.2.1,ad],W X ad r.2.2]):=by
 refine ca3 124 Tryz.func183 Z Z Z ?_
 unfold F.U6 at h
 let i1:=fun f E B=>mkI (F.TP u p f E B) (fun s L w=>∃C,L=[(0,R A 0),(1,vS E),(2,U B),(8,V f),(9,C),(10,U s.2)]/\St S w0 w [Y A [V u,j],W X C s.1,W X j p])
 let j1:=mkJ 6 (F.Xd a2 u p) (fun g L w=>L=[(0,R A 0),(1,vS g.1),(2,U a2),(8,V g.2)]/\St S w0 w [Y A [V u,j],W X j p]) [] []
 let j2:=mkJ 4 (F.Wi a1 a2 u p) (fun g L w=>L=[(0,R A 0),(1,vS a1),(2,U a2),(8,V false),(25,V g)]/\St S w0 w [Y A [V u,j],W X j p]) [] []
 let j3:=fun f=>mkJ 21 (F.TS u p f) (fun g L w=>L=[(0,R A 0),(1,vS g.1),(2,U g.2),(8,V f)]/\St S w0 w [Y A [V u,j],W X j p]) [(8,V f)] []
 let j4:=fun D f=>mkJ 9 (F.Yf D u p f) (fun g L w=>L=[(0,R A 0),(1,vS D),(2,U 10),(8,V f),(40,V g)]/\St S w0 w [Y A [V u,j],W X j p]) [(1,vS D),(8,V f)] []
 let j5:=fun D f=>mkJ 19 (F.VS D u p f) (fun g L w=>L=[(0,R A 0),(1,vS D),(2,U g),(8,V f)]/\St S w0 w [Y A [V u,j],W X j p]) [(1,vS D),(8,V f)] []
 let j6:=fun D f ac=>mkJ 12 (F.Yj ac D u p f) (fun g L w=>L=[(0,R A 0),(1,vS D),(2,U 10),(8,V f),(42,v8 ac),(43,V g)]/\St S w0 w [Y A [V u,j],W X j p]) [(1,vS D),(8,V f),(42,v8 ac)] []
 let j7:=fun D f ac=>mkJ 15 (F.XN ac D u p f) (fun g L w=>L=[(0,R A 0),(1,vS D),(2,U 10),(8,V f),(42,v8 ac),(46,V g)]/\St S w0 w [Y A [V u,j],W X j p]) [(1,vS D),(8,V f),(42,v8 ac)] []
 let j8:=fun D f=>mkJ 18 (F.X8 D u p f) (fun g L w=>L=[(0,R A 0),(1,vS D),(2,U 10),(8,V f),(49,V g)]/\St S w0 w [Y A [V u,j],W X j p]) [(1,vS D),(8,V f)] []
 let j9:=fun f E B=>mkJ 22 (F.UR u p f E B) (fun g L w=>L=[(0,R A 0),(1,vS E),(2,U B),(8,V f),(66,V g)]/\St S w0 w [Y A [V u,j],W X j p]) [(1,vS E),(2,U B),(8,V f)] []
 let j10:=fun C f E B G T=>mkJ 35 (F.SU B G T) (fun g L w=>L=[(0,R A 0),(1,vS E),(2,U B),(8,V f),(9,C),(10,U T),(11,U g)]/\St S w0 w [Y A [V u,j],W X j p,W X C G]) [(1,vS E),(2,U B),(8,V f),(9,C),(10,U T)] [W X C G]
 let j11:=fun C f E B G T aa=>mkJ 30 (F.W1 aa B G T) (fun g L w=>L=[(0,R A 0),(1,vS E),(2,U B),(8,V f),(9,C),(10,U T),(11,U 99),(12,v8 aa),(76,V g)]/\St S w0 w [Y A [V u,j],W X j p,W X C G]) [(1,vS E),(2,U B),(8,V f),(9,C),(10,U T),(12,v8 aa)] [W X C G]
 let j12:=fun C f E B G T aa=>mkJ 32 (F.WU aa B G T) (fun g L w=>L=[(0,R A 0),(1,vS E),(2,U B),(8,V f),(9,C),(10,U T),(11,U 99),(12,v8 aa),(86,V g)]/\St S w0 w [Y A [V u,j],W X j p,W X C G]) [(1,vS E),(2,U B),(8,V f),(9,C),(10,U T),(12,v8 aa)] [W X C G]
 let j13:=fun C f E B G T aa=>mkJ 34 (F.XS aa B G T) (fun g L w=>L=[(0,R A 0),(1,vS E),(2,U B),(8,V f),(9,C),(10,U T),(11,U 99),(12,v8 aa),(97,V g)]/\St S w0 w [Y A [V u,j],W X j p,W X C G]) [(1,vS E),(2,U B),(8,V f),(9,C),(10,U T),(12,v8 aa)] [W X C G]
 exact wk
theorem xU {f:World} {a0:Y0} {j:Value} (a1:UInt64) {r:Y0}
  (h:F.Tm a0 a1=some r) (A:N [] f X j a0):Calls Tryz.prog 188 #[j,M a1] f (K fun v w=>St [] f w [W X v r]):=by
 refine ca2 61 Tryz.func188 Z Z Z<|have hS:=St.q f;?_
 unfold F.Tm at h
 let i1:=fun p u=>mkI (F.US a0 a1 u) (fun s L w=>L=[(0,j),(5,U u),(6,M (a1%32)),(7,p),(8,U s.1)]/\St [] f w [W X p s.2])
 exact wk
theorem qd {A:World} {p:Y0} {a1:Y3} {f B:Value} {j:Nat} {S:Y4} (u:Bool) {r:Bool×Y0}
  (h:F.SO u p a1=some r) (hS:St S A A [Y j [V u,f],W X f p]) (E:N S A H B a1):Calls Tryz.prog 152 #[R j 0,B] A (K fun v w=>∃C:Value,v=R j 0/\St S A w [Y j [V r.1,C],W X C r.2]):=by
 refine ca2 25 Tryz.func152 Z Z Z ?_
 unfold F.SO at h
 let i1:=mkI (F.Vn u p a1) (fun s L w=>∃D,L=[(0,R j 0),(1,B),(5,D),(6,U s.2)]/\St S A w [Y j [V u,f],W X D s.1,W X f p])
 exact wk
theorem nJ {j:World} {p:Y0} {f:Value} {A:Nat} (u:Bool) {r:Int}
  (h:F.Q4 u p=some r) (B:N [] j X f p) (hBa0:RB [] j A [V u,f]):Calls Tryz.prog 74 #[R A 0] j (K fun v w=>v=U r/\St [] j w []):=by
 refine ca1 13 Tryz.func74 Z Z Z<|have hS:=St.q j;?_
 unfold F.Q4 at h
 exact wk
theorem pT {A:World} {p:Y0} {f:Value} {j:Nat} {S:Y4} (u:Bool) (a1:Int) {r:Bool×Y0}
  (h:F.Tf u p a1=some r) (hS:St S A A [Y j [V u,f],W X f p]):Calls Tryz.prog 110 #[R j 0,U a1] A (K fun v w=>∃B:Value,v=R j 0/\St S A w [Y j [V r.1,B],W X B r.2]):=by
 refine ca2 18 Tryz.func110 Z Z Z ?_
 unfold F.Tf at h
 let j1:=mkJ 5 (F.We u p a1) (fun g L w=>L=[(0,R j 0),(1,U a1),(5,M g)]/\St S A w [Y j [V u,f],W X f p]) [] []
 exact wk
theorem jx {j:World} (a0:Int) {r:Bool×Y0}
  (h:F.Rb a0=some r) :Calls Tryz.prog 68 #[U a0] j (K fun v w=>∃f:Value,∃un0:Nat,v=R un0 0/\St [] j w [Y un0 [V r.1,f],W X f r.2]):=by
 refine ca1 6 Tryz.func68 Z Z Z<|have hS:=St.q j;?_
 unfold F.Rb at h
 exact wk
theorem tY {f:World} {B C D:Y0} {j p u:Value} {A ab ac:Nat} {S:Y4} (E G T:Bool) {r:Bool×Y0}
  (h:F.SW E B G C T D=some r) (hS:St S f f [Y A [V E,j],W X j B]) (ad:N S f X p C) (hBa1:RB S f ab [V G,p]) (ae:N S f X u D) (hBa2:RB S f ac [V T,u]):Calls Tryz.prog 157 #[R A 0,R ab 0,R ac 0] f (K fun v w=>∃aa:Value,v=R A 0/\St S f w [Y A [V r.1,aa],W X aa r.2]):=by
 refine ca3 27 Tryz.func157 Z Z Z ?_
 unfold F.SW at h
 have cf:Cf 0:=trivial
 exact wk
theorem ya {f:World} {a0:Y0} {j:Value} {r:Y0}
  (h:F.Sy a0=some r) (p:N [] f X j a0):Calls Tryz.prog 191 #[j] f (K fun v w=>St [] f w [W X v r]):=by
 refine ca1 5 Tryz.func191 Z Z Z<|have hS:=St.q f;?_
 unfold F.Sy at h
 exact wk
theorem tu {u:World} {A B:Y0} {f j:Value} {p G:Nat} {S:Y4} (C D:Bool) {r:Bool×Y0}
  (h:F.R0 C A D B=some r) (hS:St S u u [Y p [V C,f],W X f A]) (T:N S u X j B) (hBa1:RB S u G [V D,j]):Calls Tryz.prog 196 #[R p 0,R G 0] u (K fun v w=>∃E:Value,v=R p 0/\St S u w [Y p [V r.1,E],W X E r.2]):=by
 refine ca2 16 Tryz.func196 Z Z Z ?_
 unfold F.R0 at h
 have cf:Cf 0:=trivial
 exact wk
theorem AV {f:World} {a0 a1:Y0} {j p:Value} {r:Int}
  (h:F.SL a0 a1=some r) (u:N [] f X j a0) (A:N [] f X p a1):Calls Tryz.prog 197 #[j,p] f (K fun v w=>v=U r/\St [] f w []):=by
 refine ca2 41 Tryz.func197 Z Z Z<|have hS:=St.q f;?_
 unfold F.SL at h
 let i1:=mkI (F.Ti a0 a1) (fun s L w=>L=[(0,j),(1,p),(5,U s)]/\St [] f w [])
 exact wk
theorem vo {f:World} {a0:Y0} {j:Value} {r:UInt64}
  (h:F.Tu a0=some r) (p:N [] f X j a0):Calls Tryz.prog 204 #[j] f (K fun v w=>v=M r/\St [] f w []):=by
 refine ca1 22 Tryz.func204 Z Z Z<|have hS:=St.q f;?_
 unfold F.Tu at h
 let j1:=mkJ 5 (F.XQ a0) (fun g L w=>L=[(0,j),(3,M g)]/\St [] f w []) [] []
 let j2:=mkJ 7 (F.Yd) (fun g L w=>L=[(3,M g)]/\St [] f w []) [] []
 exact wk
theorem vH {f:World} {a0:Y0} {j:Value} (a1:UInt32) {r:Y0×UInt32}
  (h:F.Vx a0 a1=some r) (u:N [] f X j a0):Calls Tryz.prog 205 #[j,v32 a1] f (K fun v w=>∃u0:Value,v=.tuple #[u0,v32 r.2]/\St [] f w [W X u0 r.1]):=by
 refine ca2 43 Tryz.func205 Z Z Z<|have hS:=St.q f;?_
 unfold F.Vx at h
 let i1:=fun p=>mkI (F.Uv a0 a1) (fun s L w=>L=[(0,j),(1,v32 a1),(6,p),(7,M s.1),(8,U s.2.1)]/\St [] f w [W X p s.2.2])
 exact wk
theorem vc {f:World} {a0:Y0} {j:Value} {r:Int}
  (h:F.Tk a0=some r) (p:N [] f X j a0):Calls Tryz.prog 115 #[j] f (K fun v w=>v=U r/\St [] f w []):=by
 refine ca1 26 Tryz.func115 Z Z Z<|have hS:=St.q f;?_
 unfold F.Tk at h
 let i1:=mkI (F.TO a0) (fun s L w=>L=[(0,j),(3,U s.1),(4,v32 s.2)]/\St [] f w [])
 exact wk
theorem vR {u:World} {a0:Y0} {p:Value} (a1:UInt64) {r:Y0}
  (h:F.Wd a0 a1=some r) (C:N [] u X p a0):Calls Tryz.prog 206 #[p,M a1] u (K fun v w=>St [] u w [W X v r]):=by
 refine ca2 64 Tryz.func206 Z Z Z<|have hS:=St.q u;?_
 unfold F.Wd at h
 let i1:=fun f j=>mkI (F.U0 a0 j a1) (fun s L w=>L=[(0,p),(5,U j),(6,M (a1%32)),(7,f),(8,U s.1)]/\St [] u w [W X f s.2])
 let j1:=fun f j A B=>mkJ 12 (F.Vz a1 A B) (fun g L w=>L=[(0,p),(5,U j),(6,M (a1%32)),(7,f),(8,U A),(9,M g)]/\St [] u w [W X f B]) [(5,U j),(7,f),(8,U A)] [W X f B]
 exact wk
end Go.Proofs
