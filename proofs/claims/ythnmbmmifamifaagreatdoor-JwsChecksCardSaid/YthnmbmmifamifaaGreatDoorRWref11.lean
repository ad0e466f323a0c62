import Derived.Test.YthnmbmmifamifaaGreatDoorRW0
import Derived.Test.YthnmbmmifamifaaGreatDoorRAw
import Derived.Test.YthnmbmmifamifaaGreatDoorGkFman
import Derived.Test.YthnmbmmifamifaaGreatDoorRWref6
set_option linter.unusedVariables false
set_option linter.unusedSimpArgs false
set_option linter.unusedSectionVars false
section
set_option maxRecDepth 20000
set_option maxHeartbeats 20000000
namespace Go.Proofs
open Go Go.RowKit Go.Gk
open Go.Gk renaming RP -> O,Rds -> N,Ret -> K,e32 -> Y,e8 -> M,own -> W,pB -> Q,red -> U,vB -> P,vI -> R
open Go.Gk.OE renaming bx -> X
open Go.Gk.Rds renaming cons -> V
theorem DE {f:World} (a0:Int) {r:Int}
  (h:F.UY a0=some r) :Calls Tryz.prog 78 #[R a0] f (K fun v w=>v=R r/\St [] f w []):=by
 refine ca1 8 Tryz.func78 Z Z Z<|have hS:=St.r f;?_
 unfold F.UY at h
 exact wk
theorem yL {j:World} {a0:L8} {f:Value} {r:L8}
  (h:F.Wp a0=some r) (A:O [] j Y f a0):Calls Tryz.prog 223 #[f] j (K fun v w=>St [] j w [W Y v r]):=by
 refine ca1 33 Tryz.func223 Z Z Z<|have hS:=St.r j;?_
 unfold F.Wp at h
 let i1:=mkI (F.acN a0) (fun s L w=>L=[(0,f),(3,.slice none 0 0),(4,R s)]/\St [] j w [])
 let i2:=fun u=>mkI (F.Ww a0 u) (fun s L w=>∃p,L=[(0,f),(3,p),(4,R u),(5,R s.2)]/\St [] j w [W Y p s.1])
 exact wk
theorem AO {f:World} (a0:UInt8) {r:UInt32}
  (h:F.aar a0=some r) :Calls Tryz.prog 251 #[v8 a0] f (K fun v w=>v=v32 r/\St [] f w []):=by
 refine ca1 12 Tryz.func251 Z Z Z<|have hS:=St.r f;?_
 unfold F.aar at h
 exact wk
theorem zd {j:World} (a0:L00) {r:L8}
  (h:F.Ua a0=some r) :Calls Tryz.prog 229 #[vS a0] j (K fun v w=>St [] j w [W Y v r]):=by
 refine ca1 32 Tryz.func229 Z Z Z<|have hS:=St.r j;?_
 unfold F.Ua at h
 let i1:=mkI (F.X5 a0) (fun s L w=>∃f,L=[(0,vS a0),(3,f),(4,R s.2)]/\St [] j w [W Y f s.1])
 let i2:=fun f p u=>mkI (F.WZ a0 p u) (fun s L w=>L=[(0,vS a0),(3,f),(4,R u),(5,v32 s.1),(6,R s.2)]/\St [] j w [W Y f p])
 exact wk
theorem AQ {f:World} (a0:Int) {r:L8}
  (h:F.U9 a0=some r) :Calls Tryz.prog 224 #[R a0] f (K fun v w=>St [] f w [W Y v r]):=by
 refine ca1 10 Tryz.func224 Z Z Z<|have hS:=St.r f;?_
 unfold F.U9 at h
 exact wk
theorem Eu {f:World} {a1 a2:L8} {j p:Value} (a0:Int) {r:L8}
  (h:F.VP a0 a1 a2=some r) (u:O [] f Y j a1) (A:O [] f Y p a2):Calls Tryz.prog 227 #[R a0,j,p] f (K fun v w=>St [] f w [W Y v r]):=by
 refine ca3 18 Tryz.func227 Z Z Z<|have hS:=St.r f;?_
 unfold F.VP at h
 exact wk
theorem Et {f:World} {a1 a2:L8} {j p:Value} (a0:Int) {r:L8}
  (h:F.Zw a0 a1 a2=some r) (u:O [] f Y j a1) (A:O [] f Y p a2):Calls Tryz.prog 226 #[R a0,j,p] f (K fun v w=>St [] f w [W Y v r]):=by
 refine ca3 18 Tryz.func226 Z Z Z<|have hS:=St.r f;?_
 unfold F.Zw at h
 exact wk
theorem Kt {f:World} (a0:Int) {r:L8}
  (h:F.aal a0=some r) :Calls Tryz.prog 228 #[R a0] f (K fun v w=>St [] f w [W Y v r]):=by
 refine ca1 7 Tryz.func228 Z Z Z<|have hS:=St.r f;?_
 unfold F.aal at h
 exact wk
theorem En {f:World} {a1 a2:L8} {j p:Value} (a0:Int) {r:L8}
  (h:F.abF a0 a1 a2=some r) (u:O [] f Y j a1) (A:O [] f Y p a2):Calls Tryz.prog 225 #[R a0,j,p] f (K fun v w=>St [] f w [W Y v r]):=by
 refine ca3 18 Tryz.func225 Z Z Z<|have hS:=St.r f;?_
 unfold F.abF at h
 exact wk
theorem Gs {A:World} {B C:L8} {f j:Value} (a0:Int) (D:Bool) {r:Bool}
  (h:F.aa5 a0 B C D=some r) (S:O [] A Y f B) (T:O [] A Y j C):Calls Tryz.prog 161 #[R a0,.agg #[f,j,P D]] A (K fun v w=>v=P r/\St [] A w []):=by
 refine ca2 63 Tryz.func161 Z Z Z<|have hS:=St.r A;?_
 unfold F.aa5 at h
 let j1:=fun p u E G=>mkJ 9 (F.ab8 a0 E G) (fun g L w=>L=[(0,R a0),(5,p),(6,u),(38,P g)]/\St [] A w [W Y p E,W Y u G]) [(5,p),(6,u)] [W Y p E,W Y u G]
 exact wk
theorem zo {j:World} {a1 a2:L00} {p u:Value} (a0:Int) {r:L8×L8×Bool×Int}
  (h:F.Zj a0 a1 a2=some r) (C:O [] j M p a1) (D:O [] j M u a2):Calls Tryz.prog 79 #[R a0,p,u] j (K fun v w=>∃A B:Value,v=.tuple #[.agg #[A,B,P r.2.2.1],R r.2.2.2]/\St [] j w [W Y A r.1,W Y B r.2.1]):=by
 refine ca3 38 Tryz.func79 Z Z Z<|have hS:=St.r j;?_
 unfold F.Zj at h
 let j1:=fun f=>mkJ 3 (F.Y5 a0 a1 a2) (fun g L w=>L=[(0,R a0),(1,p),(2,u),(6,Q f 0),(25,P g)]/\St [] j w [X f [L02,L02,P false]]) [(6,Q f 0)] [X f [L02,L02,P false]]
 exact wk
theorem At {f:World} (a0:Int) {r:L8}
  (h:F.ZM a0=some r) :Calls Tryz.prog 162 #[R a0] f (K fun v w=>St [] f w [W Y v r]):=by
 refine ca1 10 Tryz.func162 Z Z Z<|have hS:=St.r f;?_
 unfold F.ZM at h
 exact wk
theorem jI {p:World} (a0:Int) {r:L8×L8×Bool}
  (h:F.ab6 a0=some r) :Calls Tryz.prog 167 #[R a0] p (K fun v w=>∃f j:Value,v=.agg #[f,j,P r.2.2]/\St [] p w [W Y f r.1,W Y j r.2.1]):=by
 refine ca1 15 Tryz.func167 Z Z Z<|have hS:=St.r p;?_
 unfold F.ab6 at h
 exact wk
theorem yx {f:World} {a0:L00} {j:Value} {r:L8}
  (h:F.Wr a0=some r) (u:O [] f M j a0):Calls Tryz.prog 84 #[j] f (K fun v w=>St [] f w [W Y v r]):=by
 refine ca1 38 Tryz.func84 Z Z Z<|have hS:=St.r f;?_
 unfold F.Wr at h
 let i1:=fun p=>mkI (F.Zo a0) (fun s L w=>L=[(0,j),(3,p),(4,R s.1)]/\St [] f w [W Y p s.2])
 exact wk
theorem mw {f:World}  {r:L8}
  (h:F.Uy =some r) :Calls Tryz.prog 89 #[] f (K fun v w=>St [] f w [W Y v r]):=by
 refine dP 2 Tryz.func89 Z Z Z<|have hS:=St.r f;jy [] I ?_
 unfold F.Uy at h
 exact wk
theorem lj {f:World} {a0:L8} {j:Value} {T:L01} {r:L8}
  (h:F.Vv a0=some r) (hTT:TOk [] T f) (A:O T f Y j a0):Calls Tryz.prog 87 #[j] f (K fun v w=>∃u0:Value,v=u0/\St [] f w []/\N T w [U Y u0 r]):=by
 refine ca1 22 Tryz.func87 Z Z Z<|have hS:=St.r f;have hZ:=Fz.r (S:=[]) (w0:=f);?_
 have hA0:N T f [U Y j a0]:=V (O.q (ai Z) A) (N.nil)
 have hA:=hA0.all
 have hP:=hA0.off Z
 unfold F.Vv at h
 let i1:=mkI (F.W0) (fun s L w=>∃u,L=[(0,u)]/\SfT [] T f w [U Y u s] [])
 let i2:=mkI (F.Wi) (fun s L w=>∃p,L=[(0,p)]/\SfT [] T f w [U Y p s] [])
 exact wk
theorem lL {f:World} {a0 a1:L8} {j p:Value} {T:L01} {r:L8}
  (h:F.T5 a0 a1=some r) (hTT:TOk [] T f) (u:O T f Y j a0) (A:O T f Y p a1):Calls Tryz.prog 169 #[j,p] f (K fun v w=>∃u0:Value,v=u0/\St [] f w []/\N T w [U Y u0 r]):=by
 refine ca2 9 Tryz.func169 Z Z Z<|have hS:=St.r f;have hZ:=Fz.r (S:=[]) (w0:=f);?_
 have hA0:N T f [U Y p a1,U Y j a0]:=V (O.q (ai Z) A) (V (O.q (ai Z) u) (N.nil))
 have hA:=hA0.all
 have hP:=hA0.off Z
 unfold F.T5 at h
 exact wk
theorem lN {f:World} {a0 a1:L8} {j p:Value} {T:L01} {r:L8}
  (h:F.U6 a0 a1=some r) (hTT:TOk [] T f) (u:O T f Y j a0) (A:O T f Y p a1):Calls Tryz.prog 170 #[j,p] f (K fun v w=>∃u0:Value,v=u0/\St [] f w []/\N T w [U Y u0 r]):=by
 refine ca2 11 Tryz.func170 Z Z Z<|have hS:=St.r f;have hZ:=Fz.r (S:=[]) (w0:=f);?_
 have hA0:N T f [U Y p a1,U Y j a0]:=V (O.q (ai Z) A) (V (O.q (ai Z) u) (N.nil))
 have hA:=hA0.all
 have hP:=hA0.off Z
 unfold F.U6 at h
 exact wk
theorem Av {f:World}  {r:L8}
  (h:F.VG =some r) :Calls Tryz.prog 173 #[] f (K fun v w=>St [] f w [W Y v r]):=by
 refine dP 2 Tryz.func173 Z Z Z<|have hS:=St.r f;jy [] I ?_
 unfold F.VG at h
 exact wk
theorem lE {f:World} {a0 a1:L8} {j p:Value} {T:L01} {r:L8}
  (h:F.UL a0 a1=some r) (hTT:TOk [] T f) (u:O T f Y j a0) (A:O T f Y p a1):Calls Tryz.prog 172 #[j,p] f (K fun v w=>∃u0:Value,v=u0/\St [] f w []/\N T w [U Y u0 r]):=by
 refine ca2 9 Tryz.func172 Z Z Z<|have hS:=St.r f;have hZ:=Fz.r (S:=[]) (w0:=f);?_
 have hA0:N T f [U Y p a1,U Y j a0]:=V (O.q (ai Z) A) (V (O.q (ai Z) u) (N.nil))
 have hA:=hA0.all
 have hP:=hA0.off Z
 unfold F.UL at h
 exact wk
theorem AX {f:World} {a0 a1:L8} {j p:Value} {T:L01} {r:L8}
  (h:F.Y8 a0 a1=some r) (hTT:TOk [] T f) (C:O T f Y j a0) (D:O T f Y p a1):Calls Tryz.prog 175 #[j,p] f (K fun v w=>∃u0:Value,v=u0/\St [] f w []/\N T w [U Y u0 r]):=by
 refine ca2 26 Tryz.func175 Z Z Z<|have hS:=St.r f;have hZ:=Fz.r (S:=[]) (w0:=f);?_
 have hA0:N T f [U Y p a1,U Y j a0]:=V (O.q (ai Z) D) (V (O.q (ai Z) C) (N.nil))
 have hA:=hA0.all
 have hP:=hA0.off Z
 unfold F.Y8 at h
 let i1:=mkI (F.aa7 a0 a1) (fun s L w=>∃B,L=[(0,j),(1,p),(5,B),(6,R s.2)]/\SfT [] T f w [U Y B s.1,U Y p a1,U Y j a0] [])
 let z1:=fun u=>mkZ 5 (F.ZV u) (fun g L w=>∃A,L=[(0,j),(1,p),(5,A),(6,R u)]/\SfT [] T f w [U Y A g,U Y p a1,U Y j a0] []) [(6,R u)] [] []
 exact wk
theorem xj {f:World} {a0:L8} {j:Value} {T:L01} {r:L8}
  (h:F.Zl a0=some r) (hTT:TOk [] T f) (p:O T f Y j a0):Calls Tryz.prog 171 #[j] f (K fun v w=>∃u0:Value,v=u0/\St [] f w []/\N T w [U Y u0 r]):=by
 refine ca1 8 Tryz.func171 Z Z Z<|have hS:=St.r f;have hZ:=Fz.r (S:=[]) (w0:=f);?_
 have hA0:N T f [U Y j a0]:=V (O.q (ai Z) p) (N.nil)
 have hA:=hA0.all
 have hP:=hA0.off Z
 unfold F.Zl at h
 exact wk
theorem Ch {f:World}  {r:L8}
  (h:F.ZQ =some r) :Calls Tryz.prog 176 #[] f (K fun v w=>St [] f w [W Y v r]):=by
 refine dP 2 Tryz.func176 Z Z Z<|have hS:=St.r f;jy [] I ?_
 unfold F.ZQ at h
 exact wk
theorem yK {B:World} {a0:L00} {aa:Value} {T:L01} {r:L8×L8×Bool×Int}
  (h:F.Yz a0=some r) (hTT:TOk [] T B) (ad:O T B M aa a0):Calls Tryz.prog 83 #[aa] B (K fun v w=>∃ab:Value,∃ac:Value,v=.tuple #[.agg #[ab,ac,P r.2.2.1],R r.2.2.2]/\St [] B w []/\N T w [U Y ac r.2.1,U Y ab r.1]):=by
 refine ca1 95 Tryz.func83 Z Z Z<|have hS:=St.r B;have hZ:=Fz.r (S:=[]) (w0:=B);?_
 have hA0:N T B [U M aa a0]:=V (O.q (ai Z) ad) (N.nil)
 have hA:=hA0.all
 have hP:=hA0.off Z
 unfold F.Yz at h
 let z1:=fun p A f j E C=>mkZ 17 (F.YW C E j) (fun g L w=>∃u,L=[(2,Q p 0),(5,P ((nB C 7) == 1)),(6,f),(8,A),(11,u)]/\SfT [] T B w [U Y u g,U Y A E,U Y f j] [X p [L02,L02,P false]]) [(2,Q p 0),(5,P ((nB C 7) == 1)),(6,f),(8,A)] [X p [L02,L02,P false]] [U Y A E,U Y f j]
 let z2:=fun p u f j D C=>mkZ 18 (F.W6 C D j) (fun g L w=>L=[(2,Q p 0),(5,P ((nB C 7) == 1)),(6,f),(11,u),(83,P g)]/\SfT [] T B w [U Y u D,U Y f j] [X p [L02,L02,P false]]) [(2,Q p 0),(5,P ((nB C 7) == 1)),(6,f),(11,u)] [X p [L02,L02,P false]] [U Y u D,U Y f j]
 let z3:=fun p f j=>mkZ 21 (F.ac3 j) (fun g L w=>∃G,L=[(2,Q p 0),(6,f),(11,G)]/\SfT [] T B w [U Y G g,U Y f j] [X p [L02,L02,P false]]) [(2,Q p 0),(6,f)] [X p [L02,L02,P false]] [U Y f j]
 exact wk
theorem IQ {f:World}  {r:L8}
  (h:F.Ze =some r) :Calls Tryz.prog 85 #[] f (K fun v w=>St [] f w [W Y v r]):=by
 refine dP 2 Tryz.func85 Z Z Z<|have hS:=St.r f;jy [] I ?_
 unfold F.Ze at h
 exact wk
theorem jM {p:World}  {r:L8×L8×Bool}
  (h:F.abf =some r) :Calls Tryz.prog 95 #[] p (K fun v w=>∃f j:Value,v=.agg #[f,j,P r.2.2]/\St [] p w [W Y f r.1,W Y j r.2.1]):=by
 refine dP 4 Tryz.func95 Z Z Z<|have hS:=St.r p;jy [] I ?_
 unfold F.abf at h
 exact wk
theorem kD {f:World} {u A:L8} {j p:Value} {T:L01} (B:Bool) {r:L8×L8×L8×L8}
  (h:F.VO u A B=some r) (hTT:TOk [] T f) (aa:O T f Y j u) (ab:O T f Y p A):Calls Tryz.prog 94 #[.agg #[j,p,P B]] f (K fun v w=>∃C:Value,∃D:Value,∃E:Value,∃G:Value,v=.agg #[C,D,E,G]/\St [] f w []/\N T w [U Y G r.2.2.2,U Y E r.2.2.1,U Y D r.2.1,U Y C r.1]):=by
 refine ca1 18 Tryz.func94 Z Z Z<|have hS:=St.r f;have hZ:=Fz.r (S:=[]) (w0:=f);?_
 have hA0:N T f [U Y p A,U Y j u]:=V (O.q (ai Z) ab) (V (O.q (ai Z) aa) (N.nil))
 have hA:=hA0.all
 have hP:=hA0.off Z
 unfold F.VO at h
 exact wk
end Go.Proofs
end
