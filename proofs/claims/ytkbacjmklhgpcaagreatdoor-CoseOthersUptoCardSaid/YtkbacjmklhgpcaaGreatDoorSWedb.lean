import Derived.Test.YtkbacjmklhgpcaaGreatDoorSW0
import Derived.Test.YtkbacjmklhgpcaaGreatDoorSAw
import Derived.Test.YtkbacjmklhgpcaaGreatDoorQGkFman
import Derived.Test.YtkbacjmklhgpcaaGreatDoorSWeda
import Derived.Test.YtkbacjmklhgpcaaGreatDoorSWlib
import Derived.Test.YtkbacjmklhgpcaaGreatDoorSWnatb
import Derived.Test.YtkbacjmklhgpcaaGreatDoorSWshab
set_option linter.unusedVariables false
set_option linter.unusedSimpArgs false
set_option linter.unusedSectionVars false
set_option maxRecDepth 20000
set_option maxHeartbeats 20000000
namespace Go.Proofs
open Go Go.RowKit Go.Gk
open Go.Gk renaming RP -> O, Ret -> N, ar -> J, e32 -> X, e8 -> K, own -> W, pB -> Q, red -> P, vB -> U, vI -> V
open Go.Gk.OE renaming bx -> Y
open Go.Gk.Rds renaming cons -> R
theorem C5 {C:World} {a0 a1 a2:L01} {ad ae af:Value} {r:Int}
  (h:F.YY a0 a1 a2=some r) (hT:TB [] C) (aK:O [] C K ad a0) (aL:O [] C K ae a1) (aM:O [] C K af a2):Calls Tryz.prog 31 #[ad,ae,af] C (N fun v w=>v=V r/\St [] C w []):=by
 refine ca3 76 Tryz.func31 Z Z Z<|have hS:=St.r C;have hZ:=Fz.r (S:=[]) (w0:=C);?_
 have hTT:TOk [] [] C:=TOk.nil
 have hA:Rds [] C [P K af a2,P K ae a1,P K ad a0]:=R (O.q (ao Z) aM) (R (O.q (ao Z) aL) (R (O.q (ao Z) aK) (Rds.nil)))
 have hP:Off [] [P K af a2,P K ae a1,P K ad a0]:=Off.emp
 unfold F.YY at h
 let z1:=mkZ 15 (F.ZS) (fun g L w=>L=[(75,U g)]/\SfT [] [] C w [] []) [] [] []
 let m1c1:=fun (D:L00) (aJ:Value) (rid:Nat)=>mkM rid [(2,[],[],[],[]),(5,[2],[2],[],[]),(6,[],[],[],[]),(7,[2,6],[5,6],[],[])] [2,5,6,7] [7] [] [] [(2,fun h v x y=>∃f:Value,v=f/\x=[W X f D]/\y=[]),(5,fun h v x y=>∃f:Value,h=[(f,[W X f D],[])]/\v=.agg #[f,aJ,U false]/\x=[W X f D]/\y=[]),(6,fun h v x y=>∃A:Nat,v=Q A 0/\x=[Y A [L03,L03,U false]]/\y=[]),(7,fun h v x y=>∃f:Value,∃A:Nat,h=[(f,[W X f D],[]),(Q A 0,[Y A [L03,L03,U false]],[])]/\v=undef/\x=[W X f D,Y A [f,aJ,U false]]/\y=[])] []
 let m2c7:=fun (ac:L00×L00×Bool) (E:L00×L00×L00×L00) (G:L00×L00×L00×L00) (T:L00×L00×L00×L00) (aa:L00×L00×L00×L00) (ab:L00×L00×L00×L00) (j:L00×L00×Bool) (rid:Nat)=>mkM rid [(0,[],[],[],[]),(1,[],[0],[],[]),(3,[],[1],[],[]),(5,[],[],[],[]),(7,[],[5],[],[]),(8,[],[3,7],[],[]),(9,[],[8],[],[]),(10,[],[],[],[]),(11,[9,10],[9,10],[],[])] [0,1,3,5,7,8,9,10,11] [11] [] [] [(0,fun h v x y=>∃ag:Value,∃ah:Value,v=.agg #[ag,ah,U ac.2.2]/\x=[W X ag ac.1,W X ah ac.2.1]/\y=[]),(1,fun h v x y=>∃ai:Value,∃aj:Value,∃ak:Value,∃al:Value,v=.agg #[ai,aj,ak,al]/\x=[W X ai E.1,W X aj E.2.1,W X ak E.2.2.1,W X al E.2.2.2]/\y=[]),(3,fun h v x y=>∃am:Value,∃an:Value,∃ap:Value,∃aq:Value,v=.agg #[am,an,ap,aq]/\x=[W X am G.1,W X an G.2.1,W X ap G.2.2.1,W X aq G.2.2.2]/\y=[]),(5,fun h v x y=>∃J:Value,∃au:Value,∃av:Value,∃ax:Value,v=.agg #[J,au,av,ax]/\x=[W X J T.1,W X au T.2.1,W X av T.2.2.1,W X ax T.2.2.2]/\y=[]),(7,fun h v x y=>∃ay:Value,∃az:Value,∃aA:Value,∃aC:Value,v=.agg #[ay,az,aA,aC]/\x=[W X ay aa.1,W X az aa.2.1,W X aA aa.2.2.1,W X aC aa.2.2.2]/\y=[]),(8,fun h v x y=>∃aD:Value,∃aE:Value,∃aF:Value,∃aG:Value,v=.agg #[aD,aE,aF,aG]/\x=[W X aD ab.1,W X aE ab.2.1,W X aF ab.2.2.1,W X aG ab.2.2.2]/\y=[]),(9,fun h v x y=>∃p:Value,∃u:Value,v=.agg #[p,u,U j.2.2]/\x=[W X p j.1,W X u j.2.1]/\y=[]),(10,fun h v x y=>∃B:Nat,v=Q B 0/\x=[Y B [L03,L03,U false]]/\y=[]),(11,fun h v x y=>∃p:Value,∃u:Value,∃B:Nat,h=[(.agg #[p,u,U j.2.2],[W X p j.1,W X u j.2.1],[]),(Q B 0,[Y B [L03,L03,U false]],[])]/\v=undef/\x=[W X p j.1,W X u j.2.1,Y B [p,u,U j.2.2]]/\y=[])] []
 exact wk
end Go.Proofs
