import Derived.Test.YthnmbmmifamifaaGreatDoorRW0
import Derived.Test.YthnmbmmifamifaaGreatDoorRAw
import Derived.Test.YthnmbmmifamifaaGreatDoorGkFman
import Derived.Test.YthnmbmmifamifaaGreatDoorRWlib
set_option linter.unusedVariables false
set_option linter.unusedSimpArgs false
set_option linter.unusedSectionVars false
set_option maxRecDepth 20000
set_option maxHeartbeats 20000000
namespace Go.Proofs
open Go Go.RowKit Go.Gk
open Go.Gk renaming RP -> O, Ret -> K, e32 -> Y, own -> W, pB -> Q, v64 -> H, vB -> P, vI -> R
open Go.Gk.OE renaming bx -> X
theorem Db {S:World} {a0 a1:L8} {aa ab:Value} {r:L8×L8}
  (h:F.V4 a0 a1=some r) (ac:O [] S Y aa a0) (ad:O [] S Y ab a1):Calls Tryz.prog 267 #[aa,ab] S (K fun v w=>∃u0 u1:Value,v=.tuple #[u0,u1]/\St [] S w [W Y u0 r.1,W Y u1 r.2]):=by
 refine ca2 273 Tryz.func267 Z Z Z<|have hS:=St.r S;?_
 unfold F.V4 at h
 let i1:=fun j u p E (f:L8) (C:UInt32) (D:UInt32)=>mkI (F.Ye E f C D) (fun s L w=>L=[(10,H E),(11,j),(12,u),(13,R (f.length:Int)),(15,p),(16,H C.toUInt64),(17,H D.toUInt64),(18,R s.1)]/\St [] S w [W Y j f,W Y u s.2.1,W Y p s.2.2])
 let i2:=fun j u p E (f:L8) (C:UInt32) (D:UInt32) A G B=>mkI (F.YL f D A G C B) (fun s L w=>L=[(10,H E),(11,j),(12,u),(13,R (f.length:Int)),(15,p),(16,H C.toUInt64),(17,H D.toUInt64),(18,R A),(20,H s.1),(21,H s.2)]/\St [] S w [W Y j f,W Y u G,W Y p B])
 let i3:=fun j u p E (f:L8) (C:UInt32) (D:UInt32) A B T=>mkI (F.Xk f A T B) (fun s L w=>L=[(10,H E),(11,j),(12,u),(13,R (f.length:Int)),(15,p),(16,H C.toUInt64),(17,H D.toUInt64),(18,R A),(20,H T),(22,H s.1),(23,H s.2.1),(24,R s.2.2.1)]/\St [] S w [W Y j f,W Y u s.2.2.2,W Y p B])
 let i4:=fun j u p E (f:L8) (C:UInt32) (D:UInt32) A B T=>mkI (F.Wa f A T B) (fun s L w=>L=[(10,H E),(11,j),(12,u),(13,R (f.length:Int)),(15,p),(16,H C.toUInt64),(17,H D.toUInt64),(18,R A),(20,H (T - 1)),(22,H s.1),(27,R s.2.1)]/\St [] S w [W Y j f,W Y u s.2.2,W Y p B])
 let j1:=fun j u p E (f:L8) (C:UInt32) (D:UInt32) A G B=>mkJ 29 (F.XX G f A B) (fun g L w=>L=[(10,H E),(11,j),(12,u),(13,R (f.length:Int)),(15,p),(16,H C.toUInt64),(17,H D.toUInt64),(18,R A),(20,H g)]/\St [] S w [W Y j f,W Y u G,W Y p B]) [(10,H E),(11,j),(12,u),(13,R (f.length:Int)),(15,p),(16,H C.toUInt64),(17,H D.toUInt64),(18,R A)] [W Y j f,W Y u G,W Y p B]
 let j2:=fun j u p E (f:L8) (C:UInt32) (D:UInt32) A B=>mkJ 50 (F.W3 A B) (fun g L w=>L=[(10,H E),(11,j),(12,u),(13,R (f.length:Int)),(15,p),(16,H C.toUInt64),(17,H D.toUInt64),(18,R A),(20,H g.1)]/\St [] S w [W Y j f,W Y u g.2,W Y p B]) [(10,H E),(11,j),(12,u),(13,R (f.length:Int)),(15,p),(16,H C.toUInt64),(17,H D.toUInt64),(18,R A)] [W Y j f,W Y p B]
 exact wk
theorem te {f:World} {D E G T:L8} {j p u A:Value} {B ag ah C:Nat} {S:L01} (aa ab ac ad:Bool) {r:Bool×L8×Bool×L8}
  (h:F.W9 aa D ab E ac G ad T=some r) (hS:St S f f [X B [P aa,j],W Y j D,X C [P ad,A],W Y A T]) (aj:O S f Y p E) (hBa1:RB S f ag [P ab,p]) (ak:O S f Y u G) (hBa2:RB S f ah [P ac,u]):Calls Tryz.prog 262 #[Q B 0,Q ag 0,Q ah 0,Q C 0] f (K fun v w=>∃ae af:Value,v=.tuple #[Q B 0,Q C 0]/\St S f w [X B [P r.1,ae],W Y ae r.2.1,X C [P r.2.2.1,af],W Y af r.2.2.2]):=by
 refine ca4 46 Tryz.func262 Z Z Z ?_
 unfold F.W9 at h
 exact wk
theorem qN {B:World} {C D E:L8} {j p u:Value} {A ad f:Nat} {S:L01} (G T aa:Bool) {r:Bool×L8×Bool×L8}
  (h:F.ac0 G C T D aa E=some r) (hS:St S B B [X A [P G,j],W Y j C,X f [P aa,u],W Y u E]) (ae:O S B Y p D) (hBa2:RB S B ad [P T,p]):Calls Tryz.prog 262 #[Q A 0,Q f 0,Q ad 0,Q f 0] B (K fun v w=>∃ab ac:Value,v=.tuple #[Q A 0,Q f 0]/\St S B w [X A [P r.1,ab],W Y ab r.2.1,X f [P r.2.2.1,ac],W Y ac r.2.2.2]):=by
 refine ca4 46 Tryz.func262 Z Z Z ?_
 unfold F.ac0 at h
 exact wk
theorem qM {B:World} {C D E:L8} {j p u:Value} {f ad A:Nat} {S:L01} (G T aa:Bool) {r:Bool×L8×Bool×L8}
  (h:F.ac6 G C T D aa E=some r) (hS:St S B B [X f [P G,j],W Y j C,X A [P aa,u],W Y u E]) (ae:O S B Y p D) (hBa2:RB S B ad [P T,p]):Calls Tryz.prog 262 #[Q f 0,Q f 0,Q ad 0,Q A 0] B (K fun v w=>∃ab ac:Value,v=.tuple #[Q f 0,Q A 0]/\St S B w [X f [P r.1,ab],W Y ab r.2.1,X A [P r.2.2.1,ac],W Y ac r.2.2.2]):=by
 refine ca4 46 Tryz.func262 Z Z Z ?_
 unfold F.ac6 at h
 exact wk
theorem rB {A:World} {p:L8} {f:Value} {j:Nat} {S:L01} (u:Bool) (a1:Int) {r:Bool×L8}
  (h:F.WO u p a1=some r) (hS:St S A A [X j [P u,f],W Y f p]):Calls Tryz.prog 200 #[Q j 0,R a1] A (K fun v w=>∃B:Value,v=Q j 0/\St S A w [X j [P r.1,B],W Y B r.2]):=by
 refine ca2 18 Tryz.func200 Z Z Z ?_
 unfold F.WO at h
 let j1:=mkJ 5 (F.abB u p a1) (fun g L w=>L=[(0,Q j 0),(1,R a1),(5,H g)]/\St S A w [X j [P u,f],W Y f p]) [] []
 exact wk
theorem iO {j:World} (a0:Int) {r:Bool×L8}
  (h:F.Uw a0=some r) :Calls Tryz.prog 122 #[R a0] j (K fun v w=>∃f:Value,∃un0:Nat,v=Q un0 0/\St [] j w [X un0 [P r.1,f],W Y f r.2]):=by
 refine ca1 6 Tryz.func122 Z Z Z<|have hS:=St.r j;?_
 unfold F.Uw at h
 exact wk
theorem Bf {j:World} {a0 a1:L8} {p u:Value} {r:L8}
  (h:F.Ws a0 a1=some r) (C:O [] j Y p a0) (D:O [] j Y u a1):Calls Tryz.prog 205 #[p,u] j (K fun v w=>St [] j w [W Y v r]):=by
 refine ca2 45 Tryz.func205 Z Z Z<|have hS:=St.r j;?_
 unfold F.Ws at h
 let i1:=fun f=>mkI (F.abQ a0 a1) (fun s L w=>L=[(0,p),(1,u),(5,f),(6,H s.1),(7,R s.2.1)]/\St [] j w [W Y f s.2.2])
 let j1:=fun f A B=>mkJ 10 (F.Zy A B) (fun g L w=>L=[(0,p),(1,u),(5,f),(7,R A),(8,H g)]/\St [] j w [W Y f B]) [(5,f),(7,R A)] [W Y f B]
 exact wk
theorem Cn {f:World} {a1 a3:L8} {j p:Value} (a0 a2:Bool) {r:Bool×L8}
  (h:F.U2 a0 a1 a2 a3=some r) (u:O [] f Y j a1) (A:O [] f Y p a3):Calls Tryz.prog 242 #[P a0,j,P a2,p] f (K fun v w=>∃u1:Value,v=.tuple #[P r.1,u1]/\St [] f w [W Y u1 r.2]):=by
 refine ca4 29 Tryz.func242 Z Z Z<|have hS:=St.r f;?_
 unfold F.U2 at h
 exact wk
theorem oy {f:World} {B C D:L8} {j p u:Value} {A ab ac:Nat} {S:L01} (E G T:Bool) {r:Bool×L8}
  (h:F.X7 E B G C T D=some r) (hS:St S f f [X A [P E,j],W Y j B]) (ad:O S f Y p C) (hBa1:RB S f ab [P G,p]) (ae:O S f Y u D) (hBa2:RB S f ac [P T,u]):Calls Tryz.prog 187 #[Q A 0,Q ab 0,Q ac 0] f (K fun v w=>∃aa:Value,v=Q A 0/\St S f w [X A [P r.1,aa],W Y aa r.2]):=by
 refine ca3 28 Tryz.func187 Z Z Z ?_
 unfold F.X7 at h
 have cf:Cf 0:=I
 exact wk
theorem rZ {u:World} {A B:L8} {j p:Value} {f G:Nat} {S:L01} (C D:Bool) {r:Bool×L8}
  (h:F.Vr C A D B=some r) (hS:St S u u [X f [P C,j],W Y j A]) (T:O S u Y p B) (hBa2:RB S u G [P D,p]):Calls Tryz.prog 187 #[Q f 0,Q f 0,Q G 0] u (K fun v w=>∃E:Value,v=Q f 0/\St S u w [X f [P r.1,E],W Y E r.2]):=by
 refine ca3 28 Tryz.func187 Z Z Z ?_
 unfold F.Vr at h
 have cf:Cf 3:=I
 exact wk
theorem vZ {f:World} {B C D:L8} {j p u:Value} {A ab ac:Nat} {S:L01} (E G T:Bool) {r:Bool×L8}
  (h:F.Xj E B G C T D=some r) (hS:St S f f [X A [P E,j],W Y j B]) (ad:O S f Y p C) (hBa1:RB S f ab [P G,p]) (ae:O S f Y u D) (hBa2:RB S f ac [P T,u]):Calls Tryz.prog 240 #[Q A 0,Q ab 0,Q ac 0] f (K fun v w=>∃aa:Value,v=Q A 0/\St S f w [X A [P r.1,aa],W Y aa r.2]):=by
 refine ca3 29 Tryz.func240 Z Z Z ?_
 unfold F.Xj at h
 have cf:Cf 0:=I
 exact wk
theorem sM {u:World} {A B:L8} {j p:Value} {f G:Nat} {S:L01} (C D:Bool) {r:Bool×L8}
  (h:F.VH C A D B=some r) (hS:St S u u [X f [P C,j],W Y j A]) (T:O S u Y p B) (hBa2:RB S u G [P D,p]):Calls Tryz.prog 240 #[Q f 0,Q f 0,Q G 0] u (K fun v w=>∃E:Value,v=Q f 0/\St S u w [X f [P r.1,E],W Y E r.2]):=by
 refine ca3 29 Tryz.func240 Z Z Z ?_
 unfold F.VH at h
 have cf:Cf 3:=I
 exact wk
theorem sD {u:World} {A B:L8} {j p:Value} {f G:Nat} {S:L01} (C D:Bool) {r:Bool×L8}
  (h:F.ZE C A D B=some r) (hS:St S u u [X f [P C,j],W Y j A]) (T:O S u Y p B) (hBa1:RB S u G [P D,p]):Calls Tryz.prog 240 #[Q f 0,Q G 0,Q f 0] u (K fun v w=>∃E:Value,v=Q f 0/\St S u w [X f [P r.1,E],W Y E r.2]):=by
 refine ca3 29 Tryz.func240 Z Z Z ?_
 unfold F.ZE at h
 have cf:Cf 3:=I
 exact wk
theorem tc {p:World} {D E G T:L8} {u A B C:Value} {f aj ak j:Nat} {S:L01} (aa ab ac ad:Bool) {r:Bool×L8×Bool×L8}
  (h:F.Xh aa D ab E ac G ad T=some r) (hS:St S p p [X f [P aa,u],W Y u D,X j [P ad,C],W Y C T]) (al:O S p Y A E) (hBa1:RB S p aj [P ab,A]) (am:O S p Y B G) (hBa2:RB S p ak [P ac,B]):Calls Tryz.prog 260 #[Q f 0,Q aj 0,Q ak 0,Q j 0] p (K fun v w=>∃ae af:Value,v=.tuple #[Q f 0,Q j 0]/\St S p w [X f [P r.1,ae],W Y ae r.2.1,X j [P r.2.2.1,af],W Y af r.2.2.2]):=by
 refine ca4 45 Tryz.func260 Z Z Z ?_
 unfold F.Xh at h
 let j1:=mkJ 10 (F.acB) (fun g L w=>∃ag ah,L=[(0,Q f 0),(3,Q j 0)]/\St S p w [X f [P g.1,ag],X j [P g.2.2.1,ah],W Y ag g.2.1,W Y ah g.2.2.2]) [] []
 exact wk
theorem qL {p:World} {C D E:L8} {u A B:Value} {j af f:Nat} {S:L01} (G T aa:Bool) {r:Bool×L8×Bool×L8}
  (h:F.ace G C T D aa E=some r) (hS:St S p p [X j [P G,u],W Y u C,X f [P aa,B],W Y B E]) (ag:O S p Y A D) (hBa2:RB S p af [P T,A]):Calls Tryz.prog 260 #[Q j 0,Q f 0,Q af 0,Q f 0] p (K fun v w=>∃ab ac:Value,v=.tuple #[Q j 0,Q f 0]/\St S p w [X j [P r.1,ab],W Y ab r.2.1,X f [P r.2.2.1,ac],W Y ac r.2.2.2]):=by
 refine ca4 45 Tryz.func260 Z Z Z ?_
 unfold F.ace at h
 let j1:=mkJ 10 (F.acI) (fun g L w=>∃ad ae,L=[(0,Q j 0),(3,Q f 0)]/\St S p w [X j [P g.1,ad],X f [P g.2.2.1,ae],W Y ad g.2.1,W Y ae g.2.2.2]) [] []
 exact wk
theorem vu {f:World} {B C D:L8} {j p u:Value} {A ab ac:Nat} {S:L01} (E G T:Bool) {r:Bool×L8}
  (h:F.Za E B G C T D=some r) (hS:St S f f [X A [P E,j],W Y j B]) (ad:O S f Y p C) (hBa1:RB S f ab [P G,p]) (ae:O S f Y u D) (hBa2:RB S f ac [P T,u]):Calls Tryz.prog 241 #[Q A 0,Q ab 0,Q ac 0] f (K fun v w=>∃aa:Value,v=Q A 0/\St S f w [X A [P r.1,aa],W Y aa r.2]):=by
 refine ca3 13 Tryz.func241 Z Z Z ?_
 unfold F.Za at h
 exact wk
theorem sh {u:World} {A B:L8} {j p:Value} {f G:Nat} {S:L01} (C D:Bool) {r:Bool×L8}
  (h:F.abE C A D B=some r) (hS:St S u u [X f [P C,j],W Y j A]) (T:O S u Y p B) (hBa2:RB S u G [P D,p]):Calls Tryz.prog 241 #[Q f 0,Q f 0,Q G 0] u (K fun v w=>∃E:Value,v=Q f 0/\St S u w [X f [P r.1,E],W Y E r.2]):=by
 refine ca3 13 Tryz.func241 Z Z Z ?_
 unfold F.abE at h
 exact wk
end Go.Proofs
