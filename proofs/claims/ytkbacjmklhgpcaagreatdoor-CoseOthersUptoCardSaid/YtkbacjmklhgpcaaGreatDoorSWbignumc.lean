import Derived.Test.YtkbacjmklhgpcaaGreatDoorSW0
import Derived.Test.YtkbacjmklhgpcaaGreatDoorSAw
import Derived.Test.YtkbacjmklhgpcaaGreatDoorQGkFman
import Derived.Test.YtkbacjmklhgpcaaGreatDoorSWbignumb
set_option linter.unusedVariables false
set_option linter.unusedSimpArgs false
set_option linter.unusedSectionVars false
set_option maxRecDepth 20000
set_option maxHeartbeats 20000000
namespace Go.Proofs
open Go Go.RowKit Go.Gk
open Go.Gk renaming RP -> O, Ret -> N, ar -> J, e32 -> X, e8 -> K, own -> W, pB -> Q, red -> P, v64 -> M, vB -> U, vI -> V
open Go.Gk.OE renaming bx -> Y
open Go.Gk.Rds renaming cons -> R
theorem tZ {f:World} {u A:L00} {j p:Value} {D E:Nat} (B C:Bool) {r:Int}
  (h:F.UK B u C A=some r) (G:O [] f X j u) (hBa0:RB [] f D [U B,j]) (S:O [] f X p A) (hBa1:RB [] f E [U C,p]):Calls Tryz.prog 148 #[Q D 0,Q E 0] f (N fun v w=>v=V r/\St [] f w []):=by
 refine ca2 35 Tryz.func148 Z Z Z<|have hS:=St.r f;?_
 unfold F.UK at h
 exact wk
theorem rW {p:World} {f:L00} {j:Value} {u:Nat} (A:Bool) {r:L01}
  (h:F.X6 A f=some r) (D:O [] p X j f) (hBa0:RB [] p u [U A,j]):Calls Tryz.prog 153 #[Q u 0] p (N fun v w=>St [] p w [W K v r]):=by
 refine ca1 41 Tryz.func153 Z Z Z<|have hS:=St.r p;?_
 unfold F.X6 at h
 let i1:=fun B C=>mkI (F.ZE f C) (fun s L w=>L=[(0,Q u 0),(3,V C),(4,B),(5,V s.1)]/\St [] p w [W K B s.2])
 exact wk
theorem tq {j:World} {p:L00} {f:Value} {A:Nat} (u:Bool) {r:Int}
  (h:F.TK u p=some r) (B:O [] j X f p) (hBa0:RB [] j A [U u,f]):Calls Tryz.prog 161 #[Q A 0] j (N fun v w=>v=V r/\St [] j w []):=by
 refine ca1 13 Tryz.func161 Z Z Z<|have hS:=St.r j;?_
 unfold F.TK at h
 exact wk
theorem rC {j:World} {p:L00} {f:Value} {A:Nat} (u:Bool) {r:Int}
  (h:F.W1 u p=some r) (B:O [] j X f p) (hBa0:RB [] j A [U u,f]):Calls Tryz.prog 119 #[Q A 0] j (N fun v w=>v=V r/\St [] j w []):=by
 refine ca1 8 Tryz.func119 Z Z Z<|have hS:=St.r j;?_
 unfold F.W1 at h
 exact wk
theorem Be {f:World} {a0:L00} {j:Value} (a1:Int) {r:UInt64}
  (h:F.Xm a0 a1=some r) (p:O [] f X j a0):Calls Tryz.prog 164 #[j,V a1] f (N fun v w=>v=M r/\St [] f w []):=by
 refine ca2 25 Tryz.func164 Z Z Z<|have hS:=St.r f;?_
 unfold F.Xm at h
 let j1:=mkJ 3 (F.aaa a0 a1) (fun g L w=>L=[(0,j),(1,V a1),(13,U g)]/\St [] f w []) [] []
 exact wk
theorem tY {j:World} {p:L00} {f:Value} {A:Nat} (u:Bool) (a1:Int) {r:UInt64}
  (h:F.WM u p a1=some r) (B:O [] j X f p) (hBa0:RB [] j A [U u,f]):Calls Tryz.prog 120 #[Q A 0,V a1] j (N fun v w=>v=M r/\St [] j w []):=by
 refine ca2 27 Tryz.func120 Z Z Z<|have hS:=St.r j;?_
 unfold F.WM at h
 exact wk
theorem uu {u:World} {A B:L00} {f j:Value} {p G:Nat} {S:L02} (C D:Bool) {r:Bool×L00}
  (h:F.Us C A D B=some r) (hS:St S u u [Y p [U C,f],W X f A]) (T:O S u X j B) (hBa1:RB S u G [U D,j]):Calls Tryz.prog 189 #[Q p 0,Q G 0] u (N fun v w=>∃E:Value,v=Q p 0/\St S u w [Y p [U r.1,E],W X E r.2]):=by
 refine ca2 12 Tryz.func189 Z Z Z ?_
 unfold F.Us at h
 exact wk
theorem qx {u:World} {A B:L00} {j p:Value} {f G:Nat} {S:L02} (C D:Bool) {r:Bool×L00}
  (h:F.Yv C A D B=some r) (hS:St S u u [Y f [U C,j],W X j A]) (T:O S u X p B) (hBa2:RB S u G [U D,p]):Calls Tryz.prog 200 #[Q f 0,Q f 0,Q G 0] u (N fun v w=>∃E:Value,v=Q f 0/\St S u w [Y f [U r.1,E],W X E r.2]):=by
 refine ca3 13 Tryz.func200 Z Z Z ?_
 unfold F.Yv at h
 exact wk
theorem ut {w0:World} {ad E p A:L00} {T u f j:Value} {D ab af ag:Nat} {S:L02} (ae G B C:Bool) {r:Bool×L00×Bool×L00}
  (h:F.ZF ae ad G E B p C A=some r) (hS:St S w0 w0 [Y D [U ae,T],W X T ad,Y ab [U G,u],W X u E]) (ay:O S w0 X f p) (hBa3:RB S w0 af [U B,f]) (az:O S w0 X j A) (hBa4:RB S w0 ag [U C,j]):Calls Tryz.prog 190 #[Q D 0,Q ab 0,.pointer none,Q af 0,Q ag 0] w0 (N fun v w=>∃aj ak:Value,v=Q D 0/\St S w0 w [Y D [U r.1,aj],W X aj r.2.1,Y ab [U r.2.2.1,ak],W X ak r.2.2.2]):=by
 refine ca5 161 Tryz.func190 Z Z Z<|have hZ:=Fz.r (S:=S) (w0:=w0);?_
 have hTT:TOk S [] w0:=TOk.nil
 have hA:Rds S w0 [Y ag [U C,j],P X j A,Y af [U B,f],P X f p]:=R hBa4.q (R (O.q (ao Z) az) (R hBa3.q (R (O.q (ao Z) ay) (Rds.nil))))
 have hP:Off [] [Y ag [U C,j],P X j A,Y af [U B,f],P X f p]:=Off.emp
 unfold F.ZF at h
 let i1:=mkI (F.XP ae ad G E B p C A) (fun s L w=>∃al am an ap aq J au av,L=[(0,Q D 0),(1,Q ab 0),(2,.pointer none),(3,Q af 0),(4,Q ag 0),(15,Q al 0),(16,Q an 0),(17,Q aq 0),(18,Q au 0)]/\SfT S [] w0 w [Y au [U s.2.2.2.2.2.2.1,av],P X av s.2.2.2.2.2.2.2,Y aq [U s.2.2.2.2.1,J],P X J s.2.2.2.2.2.1,Y an [U s.2.2.1,ap],P X ap s.2.2.2.1,Y al [U s.1,am],P X am s.2.1,Y ag [U C,j],P X j A,Y af [U B,f],P X f p] [Y D [U ae,T],W X T ad,Y ab [U G,u],W X u E])
 let z1:=mkZ 3 (F.aam ae ad B p C A G E) (fun g L w=>L=[(0,Q D 0),(1,Q ab 0),(2,.pointer none),(3,Q af 0),(4,Q ag 0),(35,U g)]/\SfT S [] w0 w [Y ag [U C,j],P X j A,Y af [U B,f],P X f p] [Y D [U ae,T],W X T ad,Y ab [U G,u],W X u E]) [] [] []
 let z2:=mkZ 8 (F.aa8 G E B p) (fun g L w=>∃ac,L=[(0,Q D 0),(1,Q ab 0),(2,.pointer none),(11,V (p.length:Int)),(12,V (A.length:Int)),(13,U B),(14,U C)]/\SfT S [] w0 w [] [W X ac g.2,Y D [U g.1,ac],Y ab [U G,u],W X u E]) [] [] []
 let z3:=fun ac ah ai=>mkZ 13 (F.aaK ah ai) (fun g L w=>∃ax,L=[(0,Q D 0),(2,.pointer none),(11,V (p.length:Int)),(12,V (A.length:Int)),(14,U C)]/\SfT S [] w0 w [] [Y D [U ah,ac],W X ac ai,W X ax g.2,Y ab [U g.1,ax]]) [] [Y D [U ah,ac],W X ac ai] []
 exact wk
theorem pi {f:World} {B C D:L00} {j p u:Value} {A ab ac:Nat} {S:L02} (E G T:Bool) {r:Bool×L00}
  (h:F.Wh E B G C T D=some r) (hS:St S f f [Y A [U E,j],W X j B]) (ad:O S f X p C) (hBa1:RB S f ab [U G,p]) (ae:O S f X u D) (hBa2:RB S f ac [U T,u]):Calls Tryz.prog 166 #[Q A 0,Q ab 0,Q ac 0] f (N fun v w=>∃aa:Value,v=Q A 0/\St S f w [Y A [U r.1,aa],W X aa r.2]):=by
 refine ca3 32 Tryz.func166 Z Z Z ?_
 unfold F.Wh at h
 exact wk
end Go.Proofs
