import Derived.Test.YthnmbmmifamifaaGreatDoorRW0
import Derived.Test.YthnmbmmifamifaaGreatDoorRAw
import Derived.Test.YthnmbmmifamifaaGreatDoorGkFman
import Derived.Test.YthnmbmmifamifaaGreatDoorRWbignumb
set_option linter.unusedVariables false
set_option linter.unusedSimpArgs false
set_option linter.unusedSectionVars false
set_option maxRecDepth 20000
set_option maxHeartbeats 20000000
namespace Go.Proofs
open Go Go.RowKit Go.Gk
open Go.Gk renaming RP -> O, Rds -> N, Ret -> K, ar -> J, e32 -> Y, e8 -> M, own -> W, pB -> Q, red -> U, v64 -> H, vB -> P, vI -> R
open Go.Gk.OE renaming bx -> X
open Go.Gk.Rds renaming cons -> V
theorem vw {f:World} {u A:L8} {j p:Value} {D E:Nat} (B C:Bool) {r:Int}
  (h:F.VB B u C A=some r) (G:O [] f Y j u) (hBa0:RB [] f D [P B,j]) (S:O [] f Y p A) (hBa1:RB [] f E [P C,p]):Calls Tryz.prog 188 #[Q D 0,Q E 0] f (K fun v w=>v=R r/\St [] f w []):=by
 refine ca2 35 Tryz.func188 Z Z Z<|have hS:=St.r f;?_
 unfold F.VB at h
 exact wk
theorem tI {p:World} {f:L8} {j:Value} {u:Nat} (A:Bool) {r:L00}
  (h:F.ZZ A f=some r) (D:O [] p Y j f) (hBa0:RB [] p u [P A,j]):Calls Tryz.prog 193 #[Q u 0] p (K fun v w=>St [] p w [W M v r]):=by
 refine ca1 41 Tryz.func193 Z Z Z<|have hS:=St.r p;?_
 unfold F.ZZ at h
 let i1:=fun B C=>mkI (F.ab9 f C) (fun s L w=>L=[(0,Q u 0),(3,R C),(4,B),(5,R s.1)]/\St [] p w [W M B s.2])
 exact wk
theorem uX {j:World} {p:L8} {f:Value} {A:Nat} (u:Bool) {r:Int}
  (h:F.UJ u p=some r) (B:O [] j Y f p) (hBa0:RB [] j A [P u,f]):Calls Tryz.prog 201 #[Q A 0] j (K fun v w=>v=R r/\St [] j w []):=by
 refine ca1 13 Tryz.func201 Z Z Z<|have hS:=St.r j;?_
 unfold F.UJ at h
 exact wk
theorem th {j:World} {p:L8} {f:Value} {A:Nat} (u:Bool) {r:Int}
  (h:F.Yo u p=some r) (B:O [] j Y f p) (hBa0:RB [] j A [P u,f]):Calls Tryz.prog 125 #[Q A 0] j (K fun v w=>v=R r/\St [] j w []):=by
 refine ca1 8 Tryz.func125 Z Z Z<|have hS:=St.r j;?_
 unfold F.Yo at h
 exact wk
theorem CE {f:World} {a0:L8} {j:Value} (a1:Int) {r:UInt64}
  (h:F.YX a0 a1=some r) (p:O [] f Y j a0):Calls Tryz.prog 204 #[j,R a1] f (K fun v w=>v=H r/\St [] f w []):=by
 refine ca2 25 Tryz.func204 Z Z Z<|have hS:=St.r f;?_
 unfold F.YX at h
 let j1:=mkJ 3 (F.acv a0 a1) (fun g L w=>L=[(0,j),(1,R a1),(13,P g)]/\St [] f w []) [] []
 exact wk
theorem vv {j:World} {p:L8} {f:Value} {A:Nat} (u:Bool) (a1:Int) {r:UInt64}
  (h:F.Yb u p a1=some r) (B:O [] j Y f p) (hBa0:RB [] j A [P u,f]):Calls Tryz.prog 126 #[Q A 0,R a1] j (K fun v w=>v=H r/\St [] j w []):=by
 refine ca2 27 Tryz.func126 Z Z Z<|have hS:=St.r j;?_
 unfold F.Yb at h
 exact wk
theorem vU {u:World} {A B:L8} {f j:Value} {p G:Nat} {S:L01} (C D:Bool) {r:Bool×L8}
  (h:F.Vn C A D B=some r) (hS:St S u u [X p [P C,f],W Y f A]) (T:O S u Y j B) (hBa1:RB S u G [P D,j]):Calls Tryz.prog 246 #[Q p 0,Q G 0] u (K fun v w=>∃E:Value,v=Q p 0/\St S u w [X p [P r.1,E],W Y E r.2]):=by
 refine ca2 12 Tryz.func246 Z Z Z ?_
 unfold F.Vn at h
 exact wk
theorem rW {u:World} {A B:L8} {j p:Value} {f G:Nat} {S:L01} (C D:Bool) {r:Bool×L8}
  (h:F.aaK C A D B=some r) (hS:St S u u [X f [P C,j],W Y j A]) (T:O S u Y p B) (hBa2:RB S u G [P D,p]):Calls Tryz.prog 264 #[Q f 0,Q f 0,Q G 0] u (K fun v w=>∃E:Value,v=Q f 0/\St S u w [X f [P r.1,E],W Y E r.2]):=by
 refine ca3 13 Tryz.func264 Z Z Z ?_
 unfold F.aaK at h
 exact wk
theorem vT {w0:World} {ad E p A:L8} {T u f j:Value} {D ab af ag:Nat} {S:L01} (ae G B C:Bool) {r:Bool×L8×Bool×L8}
  (h:F.aca ae ad G E B p C A=some r) (hS:St S w0 w0 [X D [P ae,T],W Y T ad,X ab [P G,u],W Y u E]) (ay:O S w0 Y f p) (hBa3:RB S w0 af [P B,f]) (az:O S w0 Y j A) (hBa4:RB S w0 ag [P C,j]):Calls Tryz.prog 247 #[Q D 0,Q ab 0,.pointer none,Q af 0,Q ag 0] w0 (K fun v w=>∃ak al:Value,v=Q D 0/\St S w0 w [X D [P r.1,ak],W Y ak r.2.1,X ab [P r.2.2.1,al],W Y al r.2.2.2]):=by
 refine ca5 161 Tryz.func247 Z Z Z<|have hZ:=Fz.r (S:=S) (w0:=w0);?_
 have hTT:TOk S [] w0:=TOk.nil
 have hA:N S w0 [X ag [P C,j],U Y j A,X af [P B,f],U Y f p]:=V hBa4.q (V (O.q (ai Z) az) (V hBa3.q (V (O.q (ai Z) ay) (N.nil))))
 have hP:Off [] [X ag [P C,j],U Y j A,X af [P B,f],U Y f p]:=Off.emp
 unfold F.aca at h
 let i1:=mkI (F.ZJ ae ad G E B p C A) (fun s L w=>∃am an ao ap J au av aw,L=[(0,Q D 0),(1,Q ab 0),(2,.pointer none),(3,Q af 0),(4,Q ag 0),(15,Q am 0),(16,Q ao 0),(17,Q J 0),(18,Q av 0)]/\SfT S [] w0 w [X av [P s.2.2.2.2.2.2.1,aw],U Y aw s.2.2.2.2.2.2.2,X J [P s.2.2.2.2.1,au],U Y au s.2.2.2.2.2.1,X ao [P s.2.2.1,ap],U Y ap s.2.2.2.1,X am [P s.1,an],U Y an s.2.1,X ag [P C,j],U Y j A,X af [P B,f],U Y f p] [X D [P ae,T],W Y T ad,X ab [P G,u],W Y u E])
 let z1:=mkZ 3 (F.acD ae ad B p C A G E) (fun g L w=>L=[(0,Q D 0),(1,Q ab 0),(2,.pointer none),(3,Q af 0),(4,Q ag 0),(35,P g)]/\SfT S [] w0 w [X ag [P C,j],U Y j A,X af [P B,f],U Y f p] [X D [P ae,T],W Y T ad,X ab [P G,u],W Y u E]) [] [] []
 let z2:=mkZ 8 (F.ac2 G E B p) (fun g L w=>∃ac,L=[(0,Q D 0),(1,Q ab 0),(2,.pointer none),(11,R (p.length:Int)),(12,R (A.length:Int)),(13,P B),(14,P C)]/\SfT S [] w0 w [] [W Y ac g.2,X D [P g.1,ac],X ab [P G,u],W Y u E]) [] [] []
 let z3:=fun ac ah aj=>mkZ 13 (F.acR ah aj) (fun g L w=>∃ax,L=[(0,Q D 0),(2,.pointer none),(11,R (p.length:Int)),(12,R (A.length:Int)),(14,P C)]/\SfT S [] w0 w [] [X D [P ah,ac],W Y ac aj,W Y ax g.2,X ab [P g.1,ax]]) [] [X D [P ah,ac],W Y ac aj] []
 exact wk
theorem qO {f:World} {B C D:L8} {j p u:Value} {A ab ac:Nat} {S:L01} (E G T:Bool) {r:Bool×L8}
  (h:F.Xr E B G C T D=some r) (hS:St S f f [X A [P E,j],W Y j B]) (ad:O S f Y p C) (hBa1:RB S f ab [P G,p]) (ae:O S f Y u D) (hBa2:RB S f ac [P T,u]):Calls Tryz.prog 206 #[Q A 0,Q ab 0,Q ac 0] f (K fun v w=>∃aa:Value,v=Q A 0/\St S f w [X A [P r.1,aa],W Y aa r.2]):=by
 refine ca3 32 Tryz.func206 Z Z Z ?_
 unfold F.Xr at h
 exact wk
end Go.Proofs
