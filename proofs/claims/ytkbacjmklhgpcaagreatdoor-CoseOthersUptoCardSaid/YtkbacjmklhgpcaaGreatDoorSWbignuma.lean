import Derived.Test.YtkbacjmklhgpcaaGreatDoorSW0
import Derived.Test.YtkbacjmklhgpcaaGreatDoorSAw
import Derived.Test.YtkbacjmklhgpcaaGreatDoorQGkFman
set_option linter.unusedVariables false
set_option linter.unusedSimpArgs false
set_option linter.unusedSectionVars false
set_option maxRecDepth 20000
set_option maxHeartbeats 20000000
namespace Go.Proofs
open Go Go.RowKit Go.Gk
open Go.Gk renaming RP -> O, Ret -> N, e32 -> X, e8 -> K, own -> W, pB -> Q, v64 -> M, vB -> U, vI -> V
open Go.Gk.OE renaming bx -> Y
theorem yG {j:World} {a0:L00} {f:Value} {S:L02} {r:L00}
  (h:F.S8 a0=some r) (hS:St S j j [W X f a0]):Calls Tryz.prog 187 #[f] j (N fun v w=>∃u0:Value,v=u0/\St S j w [W X u0 r]):=by
 refine ca1 21 Tryz.func187 Z Z Z ?_
 unfold F.S8 at h
 let i1:=mkI (F.ZX a0) (fun s L w=>L=[(0,f),(3,V s)]/\St S j w [W X f a0])
 exact wk
theorem xD {f:World} (a0:UInt64) {r:L00}
  (h:F.Ug a0=some r) :Calls Tryz.prog 151 #[M a0] f (N fun v w=>St [] f w [W X v r]):=by
 refine ca1 10 Tryz.func151 Z Z Z<|have hS:=St.r f;?_
 unfold F.Ug at h
 exact wk
theorem Bf {f:World} {a0 a1:L00} {j p:Value} {r:L00}
  (h:F.WQ a0 a1=some r) (B:O [] f X j a0) (C:O [] f X p a1):Calls Tryz.prog 195 #[j,p] f (N fun v w=>St [] f w [W X v r]):=by
 refine ca2 75 Tryz.func195 Z Z Z<|have hS:=St.r f;?_
 unfold F.WQ at h
 let i1:=fun u=>mkI (F.Wp a0 a1) (fun s L w=>L=[(0,j),(1,p),(5,u),(6,V s.1)]/\St [] f w [W X u s.2])
 let i2:=fun u A=>mkI (F.Wo a0 a1 A) (fun s L w=>L=[(0,j),(1,p),(5,u),(6,V A),(7,M s.1),(8,V s.2.1)]/\St [] f w [W X u s.2.2])
 let j1:=mkJ 3 (F.WN a0 a1) (fun g L w=>L=[(0,j),(1,p),(16,U g)]/\St [] f w []) [] []
 exact wk
theorem Cp {u:World} {a0 a1:L00} {C D:Value} {r:L00}
  (h:F.Vz a0 a1=some r) (S:O [] u X C a0) (T:O [] u X D a1):Calls Tryz.prog 149 #[C,D] u (N fun v w=>St [] u w [W X v r]):=by
 refine ca2 58 Tryz.func149 Z Z Z<|have hS:=St.r u;?_
 unfold F.Vz at h
 let i1:=fun f j p E G=>mkI (F.WK E G) (fun s L w=>L=[(0,j),(1,p),(5,f),(6,M s.1),(7,V s.2.1)]/\St [] u w [W X f s.2.2])
 let j1:=mkJ 4 (F.X7) (fun g L w=>∃j p,L=[(0,j),(1,p)]/\O [] u X j g.1/\O [] u X p g.2/\St [] u w []) [] []
 let j2:=fun f j p A B=>mkJ 12 (F.XZ A B) (fun g L w=>L=[(0,j),(1,p),(5,f),(6,M g),(7,V A)]/\St [] u w [W X f B]) [(0,j),(1,p),(5,f),(7,V A)] [W X f B]
 exact wk
theorem mi {u:World} {A a2:L00} {j p:Value} {f:Nat} {S:L02} (B a1:Bool) {r:Bool×L00}
  (h:F.S9 B A a1 a2=some r) (hS:St S u u [Y f [U B,j],W X j A,W X p a2]):Calls Tryz.prog 152 #[Q f 0,U a1,p] u (N fun v w=>∃C:Value,v=Q f 0/\St S u w [Y f [U r.1,C],W X C r.2]):=by
 refine ca3 21 Tryz.func152 Z Z Z ?_
 unfold F.S9 at h
 let j1:=mkJ 4 (F.ZL a2) (fun g L w=>L=[(0,Q f 0)]/\St S u w [Y f [U g,p],W X p a2]) [] []
 exact wk
theorem pM {w0:World} {p:L00} {j:Value} {A:Nat} {S:L02} (u:Bool) (a1:L01) (a2:Int) {r:Bool×Bool×L00}
  (h:F.XW u p a1 a2=some r) (hS:St S w0 w0 [Y A [U u,j],W X j p]):Calls Tryz.prog 194 #[Q A 0,vS a1,V a2] w0 (N fun v w=>∃ad:Value,v=.tuple #[Q A 0,U r.1]/\St S w0 w [Y A [U r.2.1,ad],W X ad r.2.2]):=by
 refine ca3 124 Tryz.func194 Z Z Z ?_
 unfold F.XW at h
 let i1:=fun f E B=>mkI (F.Wu u p f E B) (fun s L w=>∃C,L=[(0,Q A 0),(1,vS E),(2,V B),(8,U f),(9,C),(10,V s.2)]/\St S w0 w [Y A [U u,j],W X C s.1,W X j p])
 let j1:=mkJ 6 (F.aao a2 u p) (fun g L w=>L=[(0,Q A 0),(1,vS g.1),(2,V a2),(8,U g.2)]/\St S w0 w [Y A [U u,j],W X j p]) [] []
 let j2:=mkJ 4 (F.Zi a1 a2 u p) (fun g L w=>L=[(0,Q A 0),(1,vS a1),(2,V a2),(8,U false),(25,U g)]/\St S w0 w [Y A [U u,j],W X j p]) [] []
 let j3:=fun f=>mkJ 21 (F.Ww u p f) (fun g L w=>L=[(0,Q A 0),(1,vS g.1),(2,V g.2),(8,U f)]/\St S w0 w [Y A [U u,j],W X j p]) [(8,U f)] []
 let j4:=fun D f=>mkJ 9 (F.abk D u p f) (fun g L w=>L=[(0,Q A 0),(1,vS D),(2,V 10),(8,U f),(40,U g)]/\St S w0 w [Y A [U u,j],W X j p]) [(1,vS D),(8,U f)] []
 let j5:=fun D f=>mkJ 19 (F.YS D u p f) (fun g L w=>L=[(0,Q A 0),(1,vS D),(2,V g),(8,U f)]/\St S w0 w [Y A [U u,j],W X j p]) [(1,vS D),(8,U f)] []
 let j6:=fun D f ac=>mkJ 12 (F.abv ac D u p f) (fun g L w=>L=[(0,Q A 0),(1,vS D),(2,V 10),(8,U f),(42,v8 ac),(43,U g)]/\St S w0 w [Y A [U u,j],W X j p]) [(1,vS D),(8,U f),(42,v8 ac)] []
 let j7:=fun D f ac=>mkJ 15 (F.aaT ac D u p f) (fun g L w=>L=[(0,Q A 0),(1,vS D),(2,V 10),(8,U f),(42,v8 ac),(46,U g)]/\St S w0 w [Y A [U u,j],W X j p]) [(1,vS D),(8,U f),(42,v8 ac)] []
 let j8:=fun D f=>mkJ 18 (F.abc D u p f) (fun g L w=>L=[(0,Q A 0),(1,vS D),(2,V 10),(8,U f),(49,U g)]/\St S w0 w [Y A [U u,j],W X j p]) [(1,vS D),(8,U f)] []
 let j9:=fun f E B=>mkJ 22 (F.XC u p f E B) (fun g L w=>L=[(0,Q A 0),(1,vS E),(2,V B),(8,U f),(66,U g)]/\St S w0 w [Y A [U u,j],W X j p]) [(1,vS E),(2,V B),(8,U f)] []
 let j10:=fun C f E B G T=>mkJ 35 (F.Vj B G T) (fun g L w=>L=[(0,Q A 0),(1,vS E),(2,V B),(8,U f),(9,C),(10,V T),(11,V g)]/\St S w0 w [Y A [U u,j],W X j p,W X C G]) [(1,vS E),(2,V B),(8,U f),(9,C),(10,V T)] [W X C G]
 let j11:=fun C f E B G T aa=>mkJ 30 (F.aab aa B G T) (fun g L w=>L=[(0,Q A 0),(1,vS E),(2,V B),(8,U f),(9,C),(10,V T),(11,V 99),(12,v8 aa),(76,U g)]/\St S w0 w [Y A [U u,j],W X j p,W X C G]) [(1,vS E),(2,V B),(8,U f),(9,C),(10,V T),(12,v8 aa)] [W X C G]
 let j12:=fun C f E B G T aa=>mkJ 32 (F.Z4 aa B G T) (fun g L w=>L=[(0,Q A 0),(1,vS E),(2,V B),(8,U f),(9,C),(10,V T),(11,V 99),(12,v8 aa),(86,U g)]/\St S w0 w [Y A [U u,j],W X j p,W X C G]) [(1,vS E),(2,V B),(8,U f),(9,C),(10,V T),(12,v8 aa)] [W X C G]
 let j13:=fun C f E B G T aa=>mkJ 34 (F.aaZ aa B G T) (fun g L w=>L=[(0,Q A 0),(1,vS E),(2,V B),(8,U f),(9,C),(10,V T),(11,V 99),(12,v8 aa),(97,U g)]/\St S w0 w [Y A [U u,j],W X j p,W X C G]) [(1,vS E),(2,V B),(8,U f),(9,C),(10,V T),(12,v8 aa)] [W X C G]
 exact wk
theorem yN {f:World} {a0:L00} {j:Value} (a1:UInt64) {r:L00}
  (h:F.VS a0 a1=some r) (A:O [] f X j a0):Calls Tryz.prog 150 #[j,M a1] f (N fun v w=>St [] f w [W X v r]):=by
 refine ca2 61 Tryz.func150 Z Z Z<|have hS:=St.r f;?_
 unfold F.VS at h
 let i1:=fun p u=>mkI (F.XD a0 a1 u) (fun s L w=>L=[(0,j),(5,V u),(6,M (a1%32)),(7,p),(8,V s.1)]/\St [] f w [W X p s.2])
 exact wk
theorem qu {A:World} {p:L00} {a1:L01} {f B:Value} {j:Nat} {S:L02} (u:Bool) {r:Bool×L00}
  (h:F.Vf u p a1=some r) (hS:St S A A [Y j [U u,f],W X f p]) (E:O S A K B a1):Calls Tryz.prog 110 #[Q j 0,B] A (N fun v w=>∃C:Value,v=Q j 0/\St S A w [Y j [U r.1,C],W X C r.2]):=by
 refine ca2 25 Tryz.func110 Z Z Z ?_
 unfold F.Vf at h
 let i1:=mkI (F.Ye u p a1) (fun s L w=>∃D,L=[(0,Q j 0),(1,B),(5,D),(6,V s.2)]/\St S A w [Y j [U u,f],W X D s.1,W X f p])
 exact wk
theorem uO {f:World} {B C D:L00} {j p u:Value} {A ab ac:Nat} {S:L02} (E G T:Bool) {r:Bool×L00}
  (h:F.Vk E B G C T D=some r) (hS:St S f f [Y A [U E,j],W X j B]) (ad:O S f X p C) (hBa1:RB S f ab [U G,p]) (ae:O S f X u D) (hBa2:RB S f ac [U T,u]):Calls Tryz.prog 182 #[Q A 0,Q ab 0,Q ac 0] f (N fun v w=>∃aa:Value,v=Q A 0/\St S f w [Y A [U r.1,aa],W X aa r.2]):=by
 refine ca3 27 Tryz.func182 Z Z Z ?_
 unfold F.Vk at h
 have cf:Cf 0:=trivial
 exact wk
theorem yZ {f:World} {a0:L00} {j:Value} {r:L00}
  (h:F.U0 a0=some r) (p:O [] f X j a0):Calls Tryz.prog 197 #[j] f (N fun v w=>St [] f w [W X v r]):=by
 refine ca1 5 Tryz.func197 Z Z Z<|have hS:=St.r f;?_
 unfold F.U0 at h
 exact wk
theorem ui {u:World} {A B:L00} {f j:Value} {p G:Nat} {S:L02} (C D:Bool) {r:Bool×L00}
  (h:F.UF C A D B=some r) (hS:St S u u [Y p [U C,f],W X f A]) (T:O S u X j B) (hBa1:RB S u G [U D,j]):Calls Tryz.prog 201 #[Q p 0,Q G 0] u (N fun v w=>∃E:Value,v=Q p 0/\St S u w [Y p [U r.1,E],W X E r.2]):=by
 refine ca2 16 Tryz.func201 Z Z Z ?_
 unfold F.UF at h
 have cf:Cf 0:=trivial
 exact wk
theorem BP {f:World} {a0 a1:L00} {j p:Value} {r:Int}
  (h:F.Va a0 a1=some r) (u:O [] f X j a0) (A:O [] f X p a1):Calls Tryz.prog 186 #[j,p] f (N fun v w=>v=V r/\St [] f w []):=by
 refine ca2 41 Tryz.func186 Z Z Z<|have hS:=St.r f;?_
 unfold F.Va at h
 let i1:=mkI (F.VO a0 a1) (fun s L w=>L=[(0,j),(1,p),(5,V s)]/\St [] f w [])
 exact wk
theorem wo {f:World} {a0:L00} {j:Value} {r:UInt64}
  (h:F.V9 a0=some r) (p:O [] f X j a0):Calls Tryz.prog 203 #[j] f (N fun v w=>v=M r/\St [] f w []):=by
 refine ca1 22 Tryz.func203 Z Z Z<|have hS:=St.r f;?_
 unfold F.V9 at h
 let j1:=mkJ 5 (F.aaX a0) (fun g L w=>L=[(0,j),(3,M g)]/\St [] f w []) [] []
 let j2:=mkJ 7 (F.abi) (fun g L w=>L=[(3,M g)]/\St [] f w []) [] []
 exact wk
theorem wF {f:World} {a0:L00} {j:Value} (a1:UInt32) {r:L00×UInt32}
  (h:F.Yo a0 a1=some r) (u:O [] f X j a0):Calls Tryz.prog 204 #[j,v32 a1] f (N fun v w=>∃u0:Value,v=.tuple #[u0,v32 r.2]/\St [] f w [W X u0 r.1]):=by
 refine ca2 43 Tryz.func204 Z Z Z<|have hS:=St.r f;?_
 unfold F.Yo at h
 let i1:=fun p=>mkI (F.W8 a0 a1) (fun s L w=>L=[(0,j),(1,v32 a1),(6,p),(7,M s.1),(8,V s.2.1)]/\St [] f w [W X p s.2.2])
 exact wk
theorem vY {f:World} {a0:L00} {j:Value} {r:Int}
  (h:F.VR a0=some r) (p:O [] f X j a0):Calls Tryz.prog 163 #[j] f (N fun v w=>v=V r/\St [] f w []):=by
 refine ca1 26 Tryz.func163 Z Z Z<|have hS:=St.r f;?_
 unfold F.VR at h
 let i1:=mkI (F.Wt a0) (fun s L w=>L=[(0,j),(3,V s.1),(4,v32 s.2)]/\St [] f w [])
 exact wk
theorem wP {u:World} {a0:L00} {p:Value} (a1:UInt64) {r:L00}
  (h:F.Zc a0 a1=some r) (C:O [] u X p a0):Calls Tryz.prog 205 #[p,M a1] u (N fun v w=>St [] u w [W X v r]):=by
 refine ca2 64 Tryz.func205 Z Z Z<|have hS:=St.r u;?_
 unfold F.Zc at h
 let i1:=fun f j=>mkI (F.XM a0 j a1) (fun s L w=>L=[(0,p),(5,V j),(6,M (a1%32)),(7,f),(8,V s.1)]/\St [] u w [W X f s.2])
 let j1:=fun f j A B=>mkJ 12 (F.Yr a1 A B) (fun g L w=>L=[(0,p),(5,V j),(6,M (a1%32)),(7,f),(8,V A),(9,M g)]/\St [] u w [W X f B]) [(5,V j),(7,f),(8,V A)] [W X f B]
 exact wk
end Go.Proofs
