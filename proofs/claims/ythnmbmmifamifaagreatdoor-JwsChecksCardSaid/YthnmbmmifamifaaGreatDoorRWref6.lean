import Derived.Test.YthnmbmmifamifaaGreatDoorRW0
import Derived.Test.YthnmbmmifamifaaGreatDoorRAw
import Derived.Test.YthnmbmmifamifaaGreatDoorGkFman
set_option linter.unusedVariables false
set_option linter.unusedSimpArgs false
set_option linter.unusedSectionVars false
section
set_option maxRecDepth 20000
set_option maxHeartbeats 20000000
namespace Go.Proofs
open Go Go.RowKit Go.Gk
open Go.Gk renaming RP -> O,Rds -> N,Ret -> K,e32 -> Y,e8 -> M,own -> W,red -> U,v64 -> H,vB -> P,vI -> R
open Go.Gk.Rds renaming cons -> V
theorem AU {j:World} {a0:L8} {f:Value} {r:L8}
  (h:F.Zi a0=some r) (A:O [] j Y f a0):Calls Tryz.prog 147 #[f] j (K fun v w=>St [] j w [W Y v r]):=by
 refine ca1 33 Tryz.func147 Z Z Z<|have hS:=St.r j;?_
 unfold F.Zi at h
 let i1:=mkI (F.ado a0) (fun s L w=>L=[(0,f),(3,R s)]/\St [] j w [])
 let i2:=fun u=>mkI (F.adp a0 u) (fun s L w=>∃p,L=[(0,f),(3,R u),(4,p),(5,R s.2)]/\St [] j w [W Y p s.1])
 exact wk
theorem wm {A:World} {a0:L00} {j:Value} {r:L8}
  (h:F.Ux a0=some r) (C:O [] A M j a0):Calls Tryz.prog 68 #[j] A (K fun v w=>St [] A w [W Y v r]):=by
 refine ca1 37 Tryz.func68 Z Z Z<|have hS:=St.r A;?_
 unfold F.Ux at h
 let i1:=mkI (F.UV a0) (fun s L w=>∃f,L=[(0,j),(3,f),(4,R s.2)]/\St [] A w [W Y f s.1])
 let i2:=fun f p u=>mkI (F.UC a0 p u) (fun s L w=>L=[(0,j),(3,f),(4,R u),(5,v32 s.1),(6,R s.2)]/\St [] A w [W Y f p])
 let j1:=fun f p u B=>mkJ 9 (F.XO B) (fun g L w=>L=[(0,j),(3,f),(4,R u),(5,v32 g),(6,R B)]/\St [] A w [W Y f p]) [(3,f),(4,R u),(6,R B)] [W Y f p]
 exact wk
theorem Ep {f:World} {a0:L8} {j:Value} (a1:Int) {r:UInt64}
  (h:F.Zq a0 a1=some r) (p:O [] f Y j a0):Calls Tryz.prog 148 #[j,R a1] f (K fun v w=>v=H r/\St [] f w []):=by
 refine ca2 14 Tryz.func148 Z Z Z<|have hS:=St.r f;?_
 unfold F.Zq at h
 exact wk
theorem G9 {f:World} {a0 a1:L8} {j p:Value} {r:Int}
  (h:F.U8 a0 a1=some r) (u:O [] f Y j a0) (A:O [] f Y p a1):Calls Tryz.prog 69 #[j,p] f (K fun v w=>v=R r/\St [] f w []):=by
 refine ca2 35 Tryz.func69 Z Z Z<|have hS:=St.r f;?_
 unfold F.U8 at h
 let i1:=mkI (F.W4 a0 a1) (fun s L w=>L=[(0,j),(1,p),(6,R s)]/\St [] f w [])
 let j1:=mkJ 5 (F.acs a0 a1) (fun g L w=>L=[(0,j),(1,p),(5,R g)]/\St [] f w []) [] []
 exact wk
theorem ES {f:World} {a0:L8} {j:Value} {r:Int}
  (h:F.YO a0=some r) (p:O [] f Y j a0):Calls Tryz.prog 145 #[j] f (K fun v w=>v=R r/\St [] f w []):=by
 refine ca1 28 Tryz.func145 Z Z Z<|have hS:=St.r f;?_
 unfold F.YO at h
 let i1:=mkI (F.XR) (fun s L w=>L=[(4,R s.1),(5,v32 s.2)]/\St [] f w [])
 exact wk
theorem Gi {f:World} {a0:L8} {j:Value} (a1:Int) {r:Bool}
  (h:F.Ya a0 a1=some r) (p:O [] f Y j a0):Calls Tryz.prog 146 #[j,R a1] f (K fun v w=>v=P r/\St [] f w []):=by
 refine ca2 32 Tryz.func146 Z Z Z<|have hS:=St.r f;?_
 unfold F.Ya at h
 let i1:=mkI (F.adc a1) (fun s L w=>L=[(1,R a1),(5,v32 s.1),(6,R s.2)]/\St [] f w [])
 let j1:=mkJ 3 (F.acu a0 a1) (fun g L w=>L=[(0,j),(1,R a1),(15,P g)]/\St [] f w []) [] []
 exact wk
theorem kB {f:World} {a0:L8} {j:Value} {r:L8}
  (h:F.T4 a0=some r) (p:O [] f Y j a0):Calls Tryz.prog 151 #[j] f (K fun v w=>St [] f w [W Y v r]):=by
 refine ca1 24 Tryz.func151 Z Z Z<|have hS:=St.r f;?_
 unfold F.T4 at h
 let i1:=mkI (F.acM a0) (fun s L w=>L=[(0,j),(3,R s)]/\St [] f w [])
 exact wk
theorem Hc {f:World}  {r:L8}
  (h:F.U4 =some r) :Calls Tryz.prog 153 #[] f (K fun v w=>St [] f w [W Y v r]):=by
 refine dP 2 Tryz.func153 Z Z Z<|have hS:=St.r f;jy [] I ?_
 unfold F.U4 at h
 exact wk
theorem DT {f:World} {a0:L8} {j:Value} (a1:Int) {r:UInt64}
  (h:F.UD a0 a1=some r) (p:O [] f Y j a0):Calls Tryz.prog 156 #[j,R a1] f (K fun v w=>v=H r/\St [] f w []):=by
 refine ca2 14 Tryz.func156 Z Z Z<|have hS:=St.r f;?_
 unfold F.UD at h
 exact wk
theorem GL {f:World} {a0 a1:L8} {j p:Value} {r:Int}
  (h:F.T6 a0 a1=some r) (u:O [] f Y j a0) (A:O [] f Y p a1):Calls Tryz.prog 73 #[j,p] f (K fun v w=>v=R r/\St [] f w []):=by
 refine ca2 30 Tryz.func73 Z Z Z<|have hS:=St.r f;?_
 unfold F.T6 at h
 let i1:=mkI (F.Xw a0 a1) (fun s L w=>L=[(0,j),(1,p),(5,R s)]/\St [] f w [])
 exact wk
theorem Bo {f:World} {a0:L8} {a1:List L8} {j p:Value} {s1:List SV} {r:Int}
  (h:F.U3 a0 a1=some r) (u:O [] f Y j a0) (A:O [] f eV p s1) (hl1:ki [] f Y s1 a1):Calls Tryz.prog 150 #[j,p] f (K fun v w=>v=R r/\St [] f w []):=by
 refine ca2 27 Tryz.func150 Z Z Z<|have hS:=St.r f;?_
 unfold F.U3 at h
 let i1:=mkI (F.UP a0 a1) (fun s L w=>L=[(0,j),(1,p),(5,R s)]/\St [] f w [])
 exact wk
theorem jV {j:World} {a0 a1:L8} {p u:Value} {r:L8}
  (h:F.UG a0 a1=some r) (B:O [] j Y p a0) (C:O [] j Y u a1):Calls Tryz.prog 154 #[p,u] j (K fun v w=>St [] j w [W Y v r]):=by
 refine ca2 69 Tryz.func154 Z Z Z<|have hS:=St.r j;?_
 unfold F.UG at h
 let i1:=fun f=>mkI (F.Y6 a0 a1) (fun s L w=>L=[(0,p),(1,u),(5,f),(6,R s.1)]/\St [] j w [W Y f s.2])
 let i2:=fun f A=>mkI (F.XT a0 a1 A) (fun s L w=>L=[(0,p),(1,u),(5,f),(6,R A),(7,H s.1),(8,R s.2.1)]/\St [] j w [W Y f s.2.2])
 exact wk
theorem xF {f:World} {a0:L8} {j:Value} (a1:Int) {r:Bool}
  (h:F.Ur a0 a1=some r) (p:O [] f Y j a0):Calls Tryz.prog 155 #[j,R a1] f (K fun v w=>v=P r/\St [] f w []):=by
 refine ca2 15 Tryz.func155 Z Z Z<|have hS:=St.r f;?_
 unfold F.Ur at h
 exact wk
theorem AH {E:World} {a0 a1:L8} {ac ad:Value} {r:L8×L8}
  (h:F.U7 a0 a1=some r) (ae:O [] E Y ac a0) (af:O [] E Y ad a1):Calls Tryz.prog 86 #[ac,ad] E (K fun v w=>∃u0 u1:Value,v=.tuple #[u0,u1]/\St [] E w [W Y u0 r.1,W Y u1 r.2]):=by
 refine ca2 110 Tryz.func86 Z Z Z<|have hS:=St.r E;?_
 unfold F.U7 at h
 let i1:=fun f j p u D B=>mkI (F.Xg D B) (fun s L w=>L=[(0,j),(1,p),(6,u),(7,f),(8,R s.1)]/\St [] E w [W Y j D,W Y p B,W Y u s.2.1,W Y f s.2.2])
 let i2:=fun f j p u D A C B=>mkI (F.aas B C A) (fun s L w=>L=[(0,j),(1,p),(6,u),(7,f),(8,R A),(9,v32 s.1),(10,R s.2.1)]/\St [] E w [W Y j D,W Y p B,W Y u C,W Y f s.2.2])
 let i3:=fun f j p u D A C B=>mkI (F.V0 B A C) (fun s L w=>L=[(0,j),(1,p),(6,u),(7,f),(8,R A),(12,H s.1),(13,R s.2.1)]/\St [] E w [W Y j D,W Y p B,W Y u C,W Y f s.2.2])
 let j1:=fun f j p u D A B=>mkJ 8 (F.Wc A) (fun g L w=>L=[(0,j),(1,p),(6,u),(7,f),(8,R A)]/\St [] E w [W Y j D,W Y p B,W Y u g.1,W Y f g.2]) [(0,j),(1,p),(6,u),(7,f),(8,R A)] [W Y j D,W Y p B]
 let j2:=fun f j p u D A C G B=>mkJ 12 (F.ZT G B C A) (fun g L w=>L=[(0,j),(1,p),(6,u),(7,f),(8,R A),(9,v32 g)]/\St [] E w [W Y j D,W Y p B,W Y u C,W Y f G]) [(0,j),(1,p),(6,u),(7,f),(8,R A)] [W Y j D,W Y p B,W Y u C,W Y f G]
 let j3:=fun f j p u D A C S T aa B ab=>mkJ 29 (F.aaW S T aa ab) (fun g L w=>L=[(0,j),(1,p),(6,u),(7,f),(8,R A),(12,H g.1),(13,R T),(14,H (ab+S)),(15,H g.2)]/\St [] E w [W Y j D,W Y p B,W Y u C,W Y f aa]) [(0,j),(1,p),(6,u),(7,f),(8,R A),(13,R T),(14,H (ab+S))] [W Y j D,W Y p B,W Y u C,W Y f aa]
 exact wk
theorem ER {f:World} {a0 a1:L8} {j p:Value} {r:L8}
  (h:F.Ul a0 a1=some r) (u:O [] f Y j a0) (A:O [] f Y p a1):Calls Tryz.prog 152 #[j,p] f (K fun v w=>St [] f w [W Y v r]):=by
 refine ca2 14 Tryz.func152 Z Z Z<|have hS:=St.r f;?_
 unfold F.Ul at h
 exact wk
theorem F7 {f:World} {a0 a1 a2:L8} {j p u:Value} {r:L8×Int}
  (h:F.Vd a0 a1 a2=some r) (A:O [] f Y j a0) (B:O [] f Y p a1) (C:O [] f Y u a2):Calls Tryz.prog 165 #[j,p,u] f (K fun v w=>∃u0:Value,v=.tuple #[u0,R r.2]/\St [] f w [W Y u0 r.1]):=by
 refine ca3 22 Tryz.func165 Z Z Z<|have hS:=St.r f;?_
 unfold F.Vd at h
 exact wk
theorem EV {f:World} {a0 a1:L8} {j p:Value} {r:L8}
  (h:F.UE a0 a1=some r) (A:O [] f Y j a0) (B:O [] f Y p a1):Calls Tryz.prog 174 #[j,p] f (K fun v w=>St [] f w [W Y v r]):=by
 refine ca2 37 Tryz.func174 Z Z Z<|have hS:=St.r f;?_
 unfold F.UE at h
 let i1:=mkI (F.Zr a0 a1) (fun s L w=>∃u,L=[(0,j),(1,p),(5,u),(6,H s.2.1),(7,R s.2.2)]/\St [] f w [W Y u s.1])
 exact wk
theorem jP {j:World} {a0 a1:L8} {u A:Value} {r:L8}
  (h:F.Ui a0 a1=some r) (E:O [] j Y u a0) (G:O [] j Y A a1):Calls Tryz.prog 88 #[u,A] j (K fun v w=>St [] j w [W Y v r]):=by
 refine ca2 38 Tryz.func88 Z Z Z<|have hS:=St.r j;?_
 unfold F.Ui at h
 let i1:=mkI (F.aa4 a0 a1) (fun s L w=>∃f,L=[(0,u),(1,A),(5,f),(6,H s.2.1),(7,R s.2.2)]/\St [] j w [W Y f s.1])
 let j1:=fun f B p C D=>mkJ 13 (F.aag B C D p) (fun g L w=>L=[(0,u),(1,A),(5,f),(6,H g.1),(7,R D),(8,H g.2),(9,H (p+C))]/\St [] j w [W Y f B]) [(5,f),(7,R D),(9,H (p+C))] [W Y f B]
 exact wk
theorem GD {f:World} {a0 a1 a2:L8} {j p u:Value} {r:L8×Int}
  (h:F.Z4 a0 a1 a2=some r) (A:O [] f Y j a0) (B:O [] f Y p a1) (C:O [] f Y u a2):Calls Tryz.prog 250 #[j,p,u] f (K fun v w=>∃u0:Value,v=.tuple #[u0,R r.2]/\St [] f w [W Y u0 r.1]):=by
 refine ca3 28 Tryz.func250 Z Z Z<|have hS:=St.r f;?_
 unfold F.Z4 at h
 exact wk
theorem GK {f:World} {a0 a1 a2:L8} {j p u:Value} {r:L8×Int}
  (h:F.aao a0 a1 a2=some r) (A:O [] f Y j a0) (B:O [] f Y p a1) (C:O [] f Y u a2):Calls Tryz.prog 249 #[j,p,u] f (K fun v w=>∃u0:Value,v=.tuple #[u0,R r.2]/\St [] f w [W Y u0 r.1]):=by
 refine ca3 22 Tryz.func249 Z Z Z<|have hS:=St.r f;?_
 unfold F.aao at h
 exact wk
theorem Hh {p:World} {a0 a1 a2:L8} {G S C:Value} {r:L8×Int}
  (h:F.X6 a0 a1 a2=some r) (T:O [] p Y G a0) (aa:O [] p Y S a1) (ab:O [] p Y C a2):Calls Tryz.prog 71 #[G,S,C] p (K fun v w=>∃u0:Value,v=.tuple #[u0,R r.2]/\St [] p w [W Y u0 r.1]):=by
 refine ca3 49 Tryz.func71 Z Z Z<|have hS:=St.r p;?_
 unfold F.X6 at h
 let i1:=fun f j u A=>mkI (F.aaG a2 u A) (fun s L w=>∃D,L=[(0,j),(1,f),(2,C),(9,D),(10,R s.2)]/\St [] p w [W Y D s.1,W Y j A,W Y f u])
 let j1:=fun f j B u A=>mkJ 10 (F.abm B) (fun g L w=>∃E,L=[(0,j),(1,f),(2,C),(9,E),(10,R B)]/\St [] p w [W Y E g,W Y j A,W Y f u]) [(0,j),(1,f),(10,R B)] [W Y j A,W Y f u]
 exact wk
theorem GW {f:World} {a0 a1:L8} {j p:Value} {r:L8×Int}
  (h:F.XS a0 a1=some r) (G:O [] f Y j a0) (T:O [] f Y p a1):Calls Tryz.prog 164 #[j,p] f (K fun v w=>∃u0:Value,v=.tuple #[u0,R r.2]/\St [] f w [W Y u0 r.1]):=by
 refine ca2 59 Tryz.func164 Z Z Z<|have hS:=St.r f;have hZ:=Fz.r (S:=[]) (w0:=f);?_
 have hTT:TOk [] [] f:=TOk.nil
 have hA:N [] f [U Y p a1,U Y j a0]:=V (O.q (ai Z) T) (V (O.q (ai Z) G) (N.nil))
 have hP:Off [] [U Y p a1,U Y j a0]:=Off.emp
 unfold F.XS at h
 let i1:=fun D E=>mkI (F.ZB E) (fun s L w=>∃u A B C,L=[(1,D),(7,u),(8,A),(9,B),(10,C)]/\SfT [] [] f w [U Y C s.2.2.2,U Y B s.2.2.1,U Y A s.2.1,U Y u s.1,U Y D E] [])
 exact wk
end Go.Proofs
end
