import Derived.Test.YtpndnjnogehdfaaGreatDoorRW0
import Derived.Test.YtpndnjnogehdfaaGreatDoorRAw
import Derived.Test.YtpndnjnogehdfaaGreatDoorGkFman
import Derived.Test.YtpndnjnogehdfaaGreatDoorRWbignumb
set_option linter.unusedVariables false
set_option linter.unusedSimpArgs false
set_option linter.unusedSectionVars false
set_option maxRecDepth 20000
set_option maxHeartbeats 20000000
namespace Go.Proofs
open Go Go.RowKit Go.Gk
open Go.Gk renaming RP -> N, Rds -> I, Ret -> K, al -> O, e32 -> X, e8 -> H, own -> W, pB -> R, red -> P, v64 -> M, vB -> V, vI -> U
open Go.Gk.OE renaming bx -> Y
open Go.Gk.Rds renaming cons -> Q
theorem nh {p:World} {f:Y0} {j:Value} {u:Nat} (A:Bool) {r:Y3}
  (h:F.TQ A f=some r) (D:N [] p X j f) (hBa0:RB [] p u [V A,j]):Calls Tryz.prog 97 #[R u 0] p (K fun v w=>St [] p w [W H v r]):=by
 refine ca1 41 Tryz.func97 Z Z Z<|have hS:=St.q p;?_
 unfold F.TQ at h
 let i1:=fun B C=>mkI (F.Wy f C) (fun s L w=>L=[(0,R u 0),(3,U C),(4,B),(5,U s.1)]/\St [] p w [W H B s.2])
 exact wk
theorem qZ {j:World} {p:Y0} {f:Value} {A:Nat} (u:Bool) {r:Int}
  (h:F.Un u p=some r) (B:N [] j X f p) (hBa0:RB [] j A [V u,f]):Calls Tryz.prog 71 #[R A 0] j (K fun v w=>v=U r/\St [] j w []):=by
 refine ca1 8 Tryz.func71 Z Z Z<|have hS:=St.q j;?_
 unfold F.Un at h
 exact wk
theorem An {f:World} {a0:Y0} {j:Value} (a1:Int) {r:UInt64}
  (h:F.UC a0 a1=some r) (p:N [] f X j a0):Calls Tryz.prog 116 #[j,U a1] f (K fun v w=>v=M r/\St [] f w []):=by
 refine ca2 25 Tryz.func116 Z Z Z<|have hS:=St.q f;?_
 unfold F.UC at h
 let j1:=mkJ 3 (F.W0 a0 a1) (fun g L w=>L=[(0,j),(1,U a1),(13,V g)]/\St [] f w []) [] []
 exact wk
theorem th {j:World} {p:Y0} {f:Value} {A:Nat} (u:Bool) (a1:Int) {r:UInt64}
  (h:F.Ua u p a1=some r) (B:N [] j X f p) (hBa0:RB [] j A [V u,f]):Calls Tryz.prog 72 #[R A 0,U a1] j (K fun v w=>v=M r/\St [] j w []):=by
 refine ca2 27 Tryz.func72 Z Z Z<|have hS:=St.q j;?_
 unfold F.Ua at h
 exact wk
theorem tF {u:World} {A B:Y0} {f j:Value} {p G:Nat} {S:Y4} (C D:Bool) {r:Bool×Y0}
  (h:F.RS C A D B=some r) (hS:St S u u [Y p [V C,f],W X f A]) (T:N S u X j B) (hBa1:RB S u G [V D,j]):Calls Tryz.prog 161 #[R p 0,R G 0] u (K fun v w=>∃E:Value,v=R p 0/\St S u w [Y p [V r.1,E],W X E r.2]):=by
 refine ca2 12 Tryz.func161 Z Z Z ?_
 unfold F.RS at h
 exact wk
theorem qg {u:World} {A B:Y0} {j p:Value} {f G:Nat} {S:Y4} (C D:Bool) {r:Bool×Y0}
  (h:F.VF C A D B=some r) (hS:St S u u [Y f [V C,j],W X j A]) (T:N S u X p B) (hBa2:RB S u G [V D,p]):Calls Tryz.prog 195 #[R f 0,R f 0,R G 0] u (K fun v w=>∃E:Value,v=R f 0/\St S u w [Y f [V r.1,E],W X E r.2]):=by
 refine ca3 13 Tryz.func195 Z Z Z ?_
 unfold F.VF at h
 exact wk
theorem tE {w0:World} {ad E p A:Y0} {T u f j:Value} {D ab af ag:Nat} {S:Y4} (ae G B C:Bool) {r:Bool×Y0×Bool×Y0}
  (h:F.Wz ae ad G E B p C A=some r) (hS:St S w0 w0 [Y D [V ae,T],W X T ad,Y ab [V G,u],W X u E]) (ay:N S w0 X f p) (hBa3:RB S w0 af [V B,f]) (az:N S w0 X j A) (hBa4:RB S w0 ag [V C,j]):Calls Tryz.prog 163 #[R D 0,R ab 0,.pointer none,R af 0,R ag 0] w0 (K fun v w=>∃aj ak:Value,v=R D 0/\St S w0 w [Y D [V r.1,aj],W X aj r.2.1,Y ab [V r.2.2.1,ak],W X ak r.2.2.2]):=by
 refine ca5 161 Tryz.func163 Z Z Z<|have hZ:=Fz.q (S:=S) (w0:=w0);?_
 have hTT:TOk S [] w0:=TOk.nil
 have hA:I S w0 [Y ag [V C,j],P X j A,Y af [V B,f],P X f p]:=Q hBa4.p (Q (N.p (an Z) az) (Q hBa3.p (Q (N.p (an Z) ay) (I.nil))))
 have hP:Off [] [Y ag [V C,j],P X j A,Y af [V B,f],P X f p]:=Off.emp
 unfold F.Wz at h
 let i1:=mkI (F.U1 ae ad G E B p C A) (fun s L w=>∃O am ao ap aq ar au aw,L=[(0,R D 0),(1,R ab 0),(2,.pointer none),(3,R af 0),(4,R ag 0),(15,R O 0),(16,R ao 0),(17,R aq 0),(18,R au 0)]/\SfT S [] w0 w [Y au [V s.2.2.2.2.2.2.1,aw],P X aw s.2.2.2.2.2.2.2,Y aq [V s.2.2.2.2.1,ar],P X ar s.2.2.2.2.2.1,Y ao [V s.2.2.1,ap],P X ap s.2.2.2.1,Y O [V s.1,am],P X am s.2.1,Y ag [V C,j],P X j A,Y af [V B,f],P X f p] [Y D [V ae,T],W X T ad,Y ab [V G,u],W X u E])
 let z1:=mkZ 3 (F.Xb ae ad B p C A G E) (fun g L w=>L=[(0,R D 0),(1,R ab 0),(2,.pointer none),(3,R af 0),(4,R ag 0),(35,V g)]/\SfT S [] w0 w [Y ag [V C,j],P X j A,Y af [V B,f],P X f p] [Y D [V ae,T],W X T ad,Y ab [V G,u],W X u E]) [] [] []
 let z2:=mkZ 8 (F.X3 G E B p) (fun g L w=>∃ac,L=[(0,R D 0),(1,R ab 0),(2,.pointer none),(11,U (p.length:Int)),(12,U (A.length:Int)),(13,V B),(14,V C)]/\SfT S [] w0 w [] [W X ac g.2,Y D [V g.1,ac],Y ab [V G,u],W X u E]) [] [] []
 let z3:=fun ac ah ai=>mkZ 13 (F.XB ah ai) (fun g L w=>∃ax,L=[(0,R D 0),(2,.pointer none),(11,U (p.length:Int)),(12,U (A.length:Int)),(14,V C)]/\SfT S [] w0 w [] [Y D [V ah,ac],W X ac ai,W X ax g.2,Y ab [V g.1,ax]]) [] [Y D [V ah,ac],W X ac ai] []
 exact wk
theorem oS {f:World} {B C D:Y0} {j p u:Value} {A ab ac:Nat} {S:Y4} (E G T:Bool) {r:Bool×Y0}
  (h:F.TE E B G C T D=some r) (hS:St S f f [Y A [V E,j],W X j B]) (ad:N S f X p C) (hBa1:RB S f ab [V G,p]) (ae:N S f X u D) (hBa2:RB S f ac [V T,u]):Calls Tryz.prog 118 #[R A 0,R ab 0,R ac 0] f (K fun v w=>∃aa:Value,v=R A 0/\St S f w [Y A [V r.1,aa],W X aa r.2]):=by
 refine ca3 32 Tryz.func118 Z Z Z ?_
 unfold F.TE at h
 exact wk
end Go.Proofs
