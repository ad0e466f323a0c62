import Derived.Test.YthnmbmmifamifaaGreatDoorRW0
import Derived.Test.YthnmbmmifamifaaGreatDoorRAw
import Derived.Test.YthnmbmmifamifaaGreatDoorGkFman
set_option linter.unusedVariables false
set_option linter.unusedSimpArgs false
set_option linter.unusedSectionVars false
section
set_option maxRecDepth 20000
set_option maxHeartbeats 20000000
namespace Go.Proofs
open Go Go.RowKit Go.Gk
open Go.Gk renaming RP -> O,Ret -> K,ar -> J,e32 -> Y,e8 -> M,own -> W,pB -> Q,v64 -> H,vB -> P,vI -> R
open Go.Gk.OE renaming bx -> X
theorem u6 {f:World} (a0:UInt32) {r:Int}
  (h:F.Y9 a0=some r) :Calls Tryz.prog 106 #[v32 a0] f (K fun v w=>v=R r/\St [] f w []):=by
 refine ca1 19 Tryz.func106 Z Z Z<|have hS:=St.r f;?_
 unfold F.Y9 at h
 let j1:=mkJ 5 (F.aaN) (fun g L w=>L=[(0,v32 g.1),(2,R g.2)]/\St [] f w []) [] []
 let j2:=mkJ 8 (F.aaI) (fun g L w=>L=[(0,v32 g.1),(2,R g.2)]/\St [] f w []) [] []
 exact wk
theorem AP {f:World} {a0:L00} {j:Value} {r:L00}
  (h:F.Vf a0=some r) (p:O [] f M j a0):Calls Tryz.prog 108 #[j] f (K fun v w=>St [] f w [W M v r]):=by
 refine ca1 8 Tryz.func108 Z Z Z<|have hS:=St.r f;?_
 unfold F.Vf at h
 exact wk
theorem pT {g:World} {a0:L00} {a:Value} {S:L01} {r:L00}
  (h:F.YQ a0=some r) (hS:St S g g [W M a a0]):Calls Tryz.prog 130 #[a] g (K fun v w=>v=.tuple #[]/\St S g w [W M a r]):=by
 refine dP 28 Tryz.func130 Z Z Z<|eZ [(0,a)] Z ?_
 unfold F.YQ at h
 refine gl4<|J 1 Z<|aQ (dV u25 Z (hS.ro 0 Z)) Z<|J 2 Z<|jp h fun j n h=>aQ (fk (v:=R j) (by rw[<-n]; rfl)) Z<|gl3<|cn<|eZ [(0,a),(2,R 0),(3,R j)] Z ?_
 refine fN (F.YA) (fun (s:Int×Int×L00) L w=>L=[(0,a),(2,R s.1),(3,R s.2.1)]/\St S g w [W M a s.2.2]) ?_ (0,j,a0) ⟨Z,hS⟩ h
 rintro C ⟨y,z,T⟩ L w aa A o h k
 try dsimp only at A
 obtain⟨rfl,hS⟩:=A
 unfold F.YA at h
 refine cw<|gl4<|J 3 Z<|gl3 ?_
 apply gl9 Z h<;>intro h
 ·refine gl5<|cw<|cn<|have hsh0:=(hS.ro 0 Z).shp;gV (fun w'=>St S g w' []) (fun i=>!([1007,1011,13,15].contains i)) gC (fun _ _ _ p=>p.2) (fun _ _ p=>p) (by kernel_rfl)<|have hS:=hS.drew;show lxE _ _ _ _ _ _ _ [0,1,2,3,4,5,6,7,8,9,10,11,12,13,14,15] _ _ from bT 6 Z (hS.j [] Z Z)<|aK h fun B l h=>aN (hS.j [] Z Z) Z Z (fun w q=>HA (e:=M) u25 ti5 Z Z hsh0 l) Z<|G2 (hS.j [] Z Z) Z Z Z (iu Tryz.underlying5 Z Z (hS.ro 0 Z) l Z) Z<|bT 2 Z (hS.j [] Z Z)<|aK h fun u b h=>aN (hS.j [] Z Z) Z Z (fun w q=>HA (e:=M) u25 ti5 Z Z hsh0 b) Z<|G2 (hS.j [] Z Z) Z Z Z (iu Tryz.underlying5 Z Z (hS.ro 0 Z) b Z) Z<|aK h fun D c h=>aN (hS.j [] Z Z) Z Z (fun w q=>HA (e:=M) u25 ti5 Z Z hsh0 c) Z<|mD (hS.j [] Z Z) Z Z (nF (t:=B) ti5 Z Z hS (i:=0) Z c Z) fun w hS=>jp h fun E d h=>?_
  rw[d]at hS
  refine aK h fun G f h=>aN (hS.j [] Z Z) Z Z (fun w q=>HA (e:=M) u25 ti5 Z Z (by rw[<-d,bM]; exact hsh0) f) Z<|mD (hS.j [] Z Z) Z Z (nF (t:=u) ti5 Z Z hS (i:=0) Z f Z) fun w hS=>jp h fun x m h=>?_
  rw[m]at hS
  exact gf I<|eH<|bL<|bS<|J 6 Z<|d7<|iz (iM (o (wI (y+1),wI (z - 1),x) _ _ ⟨Z,hS⟩ (eG h k)) Z)
 refine fc<|cj<|cj<|have h:=ep h k;fe ?_
 cases h
 exact uQ Z ⟨Z,hS.j [0] Z Z⟩
theorem u9 {f:World} (a0 a1 a2:UInt32) {r:UInt32×UInt32}
  (h:F.abg a0 a1 a2=some r) :Calls Tryz.prog 210 #[v32 a0,v32 a1,v32 a2] f (K fun v w=>v=.tuple #[v32 r.1,v32 r.2]/\St [] f w []):=by
 refine ca3 33 Tryz.func210 Z Z Z<|have hS:=St.r f;?_
 unfold F.abg at h
 let j1:=mkJ 3 (F.acb a0 a1 a2) (fun g L w=>L=[(0,v32 a0),(1,v32 a1),(2,v32 a2),(15,P g)]/\St [] f w []) [] []
 exact wk
theorem pS {f:World} (a0:UInt32) {r:Int}
  (h:F.aaq a0=some r) :Calls Tryz.prog 211 #[v32 a0] f (K fun v w=>v=R r/\St [] f w []):=by
 refine ca1 6 Tryz.func211 Z Z Z<|have hS:=St.r f;?_
 unfold F.aaq at h
 exact wk
theorem u5 {f:World} (a0 a1 a2:UInt32) {r:UInt32×UInt32}
  (h:F.acO a0 a1 a2=some r) :Calls Tryz.prog 248 #[v32 a0,v32 a1,v32 a2] f (K fun v w=>v=.tuple #[v32 r.1,v32 r.2]/\St [] f w []):=by
 refine ca3 25 Tryz.func248 Z Z Z<|have hS:=St.r f;?_
 unfold F.acO at h
 exact wk
theorem qE {f:World} (a0:UInt32) (a1:Int) {r:UInt32}
  (h:F.T8 a0 a1=some r) :Calls Tryz.prog 256 #[v32 a0,R a1] f (K fun v w=>v=v32 r/\St [] f w []):=by
 refine ca2 17 Tryz.func256 Z Z Z<|have hS:=St.r f;?_
 unfold F.T8 at h
 exact wk
theorem qF {f:World} (a0:UInt64) (a1:Int) {r:UInt64}
  (h:F.Ub a0 a1=some r) :Calls Tryz.prog 257 #[H a0,R a1] f (K fun v w=>v=H r/\St [] f w []):=by
 refine ca2 17 Tryz.func257 Z Z Z<|have hS:=St.r f;?_
 unfold F.Ub at h
 exact wk
theorem AS {f:World} {a0 a1:L00} {j p:Value} {r:Bool}
  (h:F.WI a0 a1=some r) (u:O [] f M j a0) (A:O [] f M p a1):Calls Tryz.prog 38 #[j,p] f (K fun v w=>v=P r/\St [] f w []):=by
 refine ca2 10 Tryz.func38 Z Z Z<|have hS:=St.r f;?_
 unfold F.WI at h
 exact wk
theorem Ar {j:World} {a0:L8} {f:Value} {S:L01} {r:L8}
  (h:F.Ud a0=some r) (hS:St S j j [W Y f a0]):Calls Tryz.prog 244 #[f] j (K fun v w=>∃u0:Value,v=u0/\St S j w [W Y u0 r]):=by
 refine ca1 21 Tryz.func244 Z Z Z ?_
 unfold F.Ud at h
 let i1:=mkI (F.acn a0) (fun s L w=>L=[(0,f),(3,R s)]/\St S j w [W Y f a0])
 exact wk
theorem zC {f:World} (a0:UInt64) {r:L8}
  (h:F.Vb a0=some r) :Calls Tryz.prog 191 #[H a0] f (K fun v w=>St [] f w [W Y v r]):=by
 refine ca1 10 Tryz.func191 Z Z Z<|have hS:=St.r f;?_
 unfold F.Vb at h
 exact wk
theorem CF {f:World} {a0 a1:L8} {j p:Value} {r:L8}
  (h:F.Yf a0 a1=some r) (B:O [] f Y j a0) (C:O [] f Y p a1):Calls Tryz.prog 259 #[j,p] f (K fun v w=>St [] f w [W Y v r]):=by
 refine ca2 75 Tryz.func259 Z Z Z<|have hS:=St.r f;?_
 unfold F.Yf at h
 let i1:=fun u=>mkI (F.XA a0 a1) (fun s L w=>L=[(0,j),(1,p),(5,u),(6,R s.1)]/\St [] f w [W Y u s.2])
 let i2:=fun u A=>mkI (F.Xz a0 a1 A) (fun s L w=>L=[(0,j),(1,p),(5,u),(6,R A),(7,H s.1),(8,R s.2.1)]/\St [] f w [W Y u s.2.2])
 let j1:=mkJ 3 (F.Yc a0 a1) (fun g L w=>L=[(0,j),(1,p),(16,P g)]/\St [] f w []) [] []
 exact wk
theorem DI {u:World} {a0 a1:L8} {C D:Value} {r:L8}
  (h:F.Wv a0 a1=some r) (S:O [] u Y C a0) (T:O [] u Y D a1):Calls Tryz.prog 189 #[C,D] u (K fun v w=>St [] u w [W Y v r]):=by
 refine ca2 58 Tryz.func189 Z Z Z<|have hS:=St.r u;?_
 unfold F.Wv at h
 let i1:=fun f j p E G=>mkI (F.X9 E G) (fun s L w=>L=[(0,j),(1,p),(5,f),(6,H s.1),(7,R s.2.1)]/\St [] u w [W Y f s.2.2])
 let j1:=mkJ 4 (F.Z3) (fun g L w=>∃j p,L=[(0,j),(1,p)]/\O [] u Y j g.1/\O [] u Y p g.2/\St [] u w []) [] []
 let j2:=fun f j p A B=>mkJ 12 (F.ZW A B) (fun g L w=>L=[(0,j),(1,p),(5,f),(6,H g),(7,R A)]/\St [] u w [W Y f B]) [(0,j),(1,p),(5,f),(7,R A)] [W Y f B]
 exact wk
theorem u7 {u:World} {A a2:L8} {j p:Value} {f:Nat} {S:L01} (B a1:Bool) {r:Bool×L8}
  (h:F.Ue B A a1 a2=some r) (hS:St S u u [X f [P B,j],W Y j A,W Y p a2]):Calls Tryz.prog 192 #[Q f 0,P a1,p] u (K fun v w=>∃C:Value,v=Q f 0/\St S u w [X f [P r.1,C],W Y C r.2]):=by
 refine ca3 21 Tryz.func192 Z Z Z ?_
 unfold F.Ue at h
 let j1:=mkJ 4 (F.acf a2) (fun g L w=>L=[(0,Q f 0)]/\St S u w [X f [P g,p],W Y p a2]) [] []
 exact wk
theorem rt {w0:World} {p:L8} {j:Value} {A:Nat} {S:L01} (u:Bool) (a1:L00) (a2:Int) {r:Bool×Bool×L8}
  (h:F.ZR u p a1 a2=some r) (hS:St S w0 w0 [X A [P u,j],W Y j p]):Calls Tryz.prog 258 #[Q A 0,vS a1,R a2] w0 (K fun v w=>∃ad:Value,v=.tuple #[Q A 0,P r.1]/\St S w0 w [X A [P r.2.1,ad],W Y ad r.2.2]):=by
 refine ca3 124 Tryz.func258 Z Z Z ?_
 unfold F.ZR at h
 let i1:=fun f E B=>mkI (F.XJ u p f E B) (fun s L w=>∃C,L=[(0,Q A 0),(1,vS E),(2,R B),(8,P f),(9,C),(10,R s.2)]/\St S w0 w [X A [P u,j],W Y C s.1,W Y j p])
 let j1:=mkJ 6 (F.acF a2 u p) (fun g L w=>L=[(0,Q A 0),(1,vS g.1),(2,R a2),(8,P g.2)]/\St S w0 w [X A [P u,j],W Y j p]) [] []
 let j2:=mkJ 4 (F.abJ a1 a2 u p) (fun g L w=>L=[(0,Q A 0),(1,vS a1),(2,R a2),(8,P false),(25,P g)]/\St S w0 w [X A [P u,j],W Y j p]) [] []
 let j3:=fun f=>mkJ 21 (F.XP u p f) (fun g L w=>L=[(0,Q A 0),(1,vS g.1),(2,R g.2),(8,P f)]/\St S w0 w [X A [P u,j],W Y j p]) [(8,P f)] []
 let j4:=fun D f=>mkJ 9 (F.ada D u p f) (fun g L w=>L=[(0,Q A 0),(1,vS D),(2,R 10),(8,P f),(40,P g)]/\St S w0 w [X A [P u,j],W Y j p]) [(1,vS D),(8,P f)] []
 let j5:=fun D f=>mkJ 19 (F.abc D u p f) (fun g L w=>L=[(0,Q A 0),(1,vS D),(2,R g),(8,P f)]/\St S w0 w [X A [P u,j],W Y j p]) [(1,vS D),(8,P f)] []
 let j6:=fun D f ac=>mkJ 12 (F.adk ac D u p f) (fun g L w=>L=[(0,Q A 0),(1,vS D),(2,R 10),(8,P f),(42,v8 ac),(43,P g)]/\St S w0 w [X A [P u,j],W Y j p]) [(1,vS D),(8,P f),(42,v8 ac)] []
 let j7:=fun D f ac=>mkJ 15 (F.acS ac D u p f) (fun g L w=>L=[(0,Q A 0),(1,vS D),(2,R 10),(8,P f),(42,v8 ac),(46,P g)]/\St S w0 w [X A [P u,j],W Y j p]) [(1,vS D),(8,P f),(42,v8 ac)] []
 let j8:=fun D f=>mkJ 18 (F.ac4 D u p f) (fun g L w=>L=[(0,Q A 0),(1,vS D),(2,R 10),(8,P f),(49,P g)]/\St S w0 w [X A [P u,j],W Y j p]) [(1,vS D),(8,P f)] []
 let j9:=fun f E B=>mkJ 22 (F.Zs u p f E B) (fun g L w=>L=[(0,Q A 0),(1,vS E),(2,R B),(8,P f),(66,P g)]/\St S w0 w [X A [P u,j],W Y j p]) [(1,vS E),(2,R B),(8,P f)] []
 let j10:=fun C f E B G T=>mkJ 35 (F.We B G T) (fun g L w=>L=[(0,Q A 0),(1,vS E),(2,R B),(8,P f),(9,C),(10,R T),(11,R g)]/\St S w0 w [X A [P u,j],W Y j p,W Y C G]) [(1,vS E),(2,R B),(8,P f),(9,C),(10,R T)] [W Y C G]
 let j11:=fun C f E B G T aa=>mkJ 30 (F.acw aa B G T) (fun g L w=>L=[(0,Q A 0),(1,vS E),(2,R B),(8,P f),(9,C),(10,R T),(11,R 99),(12,v8 aa),(76,P g)]/\St S w0 w [X A [P u,j],W Y j p,W Y C G]) [(1,vS E),(2,R B),(8,P f),(9,C),(10,R T),(12,v8 aa)] [W Y C G]
 let j12:=fun C f E B G T aa=>mkJ 32 (F.acp aa B G T) (fun g L w=>L=[(0,Q A 0),(1,vS E),(2,R B),(8,P f),(9,C),(10,R T),(11,R 99),(12,v8 aa),(86,P g)]/\St S w0 w [X A [P u,j],W Y j p,W Y C G]) [(1,vS E),(2,R B),(8,P f),(9,C),(10,R T),(12,v8 aa)] [W Y C G]
 let j13:=fun C f E B G T aa=>mkJ 34 (F.acX aa B G T) (fun g L w=>L=[(0,Q A 0),(1,vS E),(2,R B),(8,P f),(9,C),(10,R T),(11,R 99),(12,v8 aa),(97,P g)]/\St S w0 w [X A [P u,j],W Y j p,W Y C G]) [(1,vS E),(2,R B),(8,P f),(9,C),(10,R T),(12,v8 aa)] [W Y C G]
 exact wk
theorem Au {f:World} {a0:L8} {j:Value} (a1:UInt64) {r:L8}
  (h:F.WV a0 a1=some r) (A:O [] f Y j a0):Calls Tryz.prog 190 #[j,H a1] f (K fun v w=>St [] f w [W Y v r]):=by
 refine ca2 61 Tryz.func190 Z Z Z<|have hS:=St.r f;?_
 unfold F.WV at h
 let i1:=fun p u=>mkI (F.Zt a0 a1 u) (fun s L w=>L=[(0,j),(5,R u),(6,H (a1%32)),(7,p),(8,R s.1)]/\St [] f w [W Y p s.2])
 exact wk
theorem rQ {A:World} {p:L8} {a1:L00} {f B:Value} {j:Nat} {S:L01} (u:Bool) {r:Bool×L8}
  (h:F.V7 u p a1=some r) (hS:St S A A [X j [P u,f],W Y f p]) (E:O S A M B a1):Calls Tryz.prog 116 #[Q j 0,B] A (K fun v w=>∃C:Value,v=Q j 0/\St S A w [X j [P r.1,C],W Y C r.2]):=by
 refine ca2 25 Tryz.func116 Z Z Z ?_
 unfold F.V7 at h
 let i1:=mkI (F.aad u p a1) (fun s L w=>∃D,L=[(0,Q j 0),(1,B),(5,D),(6,R s.2)]/\St S A w [X j [P u,f],W Y D s.1,W Y f p])
 exact wk
theorem wo {f:World} {B C D:L8} {j p u:Value} {A ab ac:Nat} {S:L01} (E G T:Bool) {r:Bool×L8}
  (h:F.Wf E B G C T D=some r) (hS:St S f f [X A [P E,j],W Y j B]) (ad:O S f Y p C) (hBa1:RB S f ab [P G,p]) (ae:O S f Y u D) (hBa2:RB S f ac [P T,u]):Calls Tryz.prog 239 #[Q A 0,Q ab 0,Q ac 0] f (K fun v w=>∃aa:Value,v=Q A 0/\St S f w [X A [P r.1,aa],W Y aa r.2]):=by
 refine ca3 27 Tryz.func239 Z Z Z ?_
 unfold F.Wf at h
 have cf:Cf 0:=I
 exact wk
theorem AN {f:World} {a0:L8} {j:Value} {r:L8}
  (h:F.VR a0=some r) (p:O [] f Y j a0):Calls Tryz.prog 261 #[j] f (K fun v w=>St [] f w [W Y v r]):=by
 refine ca1 5 Tryz.func261 Z Z Z<|have hS:=St.r f;?_
 unfold F.VR at h
 exact wk
theorem vK {u:World} {A B:L8} {f j:Value} {p G:Nat} {S:L01} (C D:Bool) {r:Bool×L8}
  (h:F.Vx C A D B=some r) (hS:St S u u [X p [P C,f],W Y f A]) (T:O S u Y j B) (hBa1:RB S u G [P D,j]):Calls Tryz.prog 265 #[Q p 0,Q G 0] u (K fun v w=>∃E:Value,v=Q p 0/\St S u w [X p [P r.1,E],W Y E r.2]):=by
 refine ca2 16 Tryz.func265 Z Z Z ?_
 unfold F.Vx at h
 have cf:Cf 0:=I
 exact wk
theorem De {f:World} {a0 a1:L8} {j p:Value} {r:Int}
  (h:F.V1 a0 a1=some r) (u:O [] f Y j a0) (A:O [] f Y p a1):Calls Tryz.prog 243 #[j,p] f (K fun v w=>v=R r/\St [] f w []):=by
 refine ca2 41 Tryz.func243 Z Z Z<|have hS:=St.r f;?_
 unfold F.V1 at h
 let i1:=mkI (F.WP a0 a1) (fun s L w=>L=[(0,j),(1,p),(5,R s)]/\St [] f w [])
 exact wk
theorem ym {f:World} {a0:L8} {j:Value} {r:UInt64}
  (h:F.Xf a0=some r) (p:O [] f Y j a0):Calls Tryz.prog 269 #[j] f (K fun v w=>v=H r/\St [] f w []):=by
 refine ca1 22 Tryz.func269 Z Z Z<|have hS:=St.r f;?_
 unfold F.Xf at h
 let j1:=mkJ 5 (F.acU a0) (fun g L w=>L=[(0,j),(3,H g)]/\St [] f w []) [] []
 let j2:=mkJ 7 (F.ac7) (fun g L w=>L=[(3,H g)]/\St [] f w []) [] []
 exact wk
theorem yw {f:World} {a0:L8} {j:Value} (a1:UInt32) {r:L8×UInt32}
  (h:F.aaA a0 a1=some r) (u:O [] f Y j a0):Calls Tryz.prog 270 #[j,v32 a1] f (K fun v w=>∃u0:Value,v=.tuple #[u0,v32 r.2]/\St [] f w [W Y u0 r.1]):=by
 refine ca2 43 Tryz.func270 Z Z Z<|have hS:=St.r f;?_
 unfold F.aaA at h
 let i1:=fun p=>mkI (F.Yv a0 a1) (fun s L w=>L=[(0,j),(1,v32 a1),(6,p),(7,H s.1),(8,R s.2.1)]/\St [] f w [W Y p s.2.2])
 exact wk
theorem yb {f:World} {a0:L8} {j:Value} {r:Int}
  (h:F.WT a0=some r) (p:O [] f Y j a0):Calls Tryz.prog 203 #[j] f (K fun v w=>v=R r/\St [] f w []):=by
 refine ca1 26 Tryz.func203 Z Z Z<|have hS:=St.r f;?_
 unfold F.WT at h
 let i1:=mkI (F.XG a0) (fun s L w=>L=[(0,j),(3,R s.1),(4,v32 s.2)]/\St [] f w [])
 exact wk
theorem yH {u:World} {a0:L8} {p:Value} (a1:UInt64) {r:L8}
  (h:F.abA a0 a1=some r) (C:O [] u Y p a0):Calls Tryz.prog 271 #[p,H a1] u (K fun v w=>St [] u w [W Y v r]):=by
 refine ca2 64 Tryz.func271 Z Z Z<|have hS:=St.r u;?_
 unfold F.abA at h
 let i1:=fun f j=>mkI (F.ZF a0 j a1) (fun s L w=>L=[(0,p),(5,R j),(6,H (a1%32)),(7,f),(8,R s.1)]/\St [] u w [W Y f s.2])
 let j1:=fun f j A B=>mkJ 12 (F.aaE a1 A B) (fun g L w=>L=[(0,p),(5,R j),(6,H (a1%32)),(7,f),(8,R A),(9,H g)]/\St [] u w [W Y f B]) [(5,R j),(7,f),(8,R A)] [W Y f B]
 exact wk
end Go.Proofs
end
