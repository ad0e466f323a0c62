import Derived.Test.YthnmbmmifamifaaGreatDoorRW0
import Derived.Test.YthnmbmmifamifaaGreatDoorRAw
import Derived.Test.YthnmbmmifamifaaGreatDoorGkFman
import Derived.Test.YthnmbmmifamifaaGreatDoorRWeda
import Derived.Test.YthnmbmmifamifaaGreatDoorRWlib
import Derived.Test.YthnmbmmifamifaaGreatDoorRWnata
import Derived.Test.YthnmbmmifamifaaGreatDoorRWmodn
set_option linter.unusedVariables false
set_option linter.unusedSimpArgs false
set_option linter.unusedSectionVars false
set_option maxRecDepth 20000
set_option maxHeartbeats 20000000
namespace Go.Proofs
open Go Go.RowKit Go.Gk
open Go.Gk renaming RP -> O, Rds -> N, Ret -> K, ar -> J, e32 -> Y, e8 -> M, own -> W, pB -> Q, red -> U, vB -> P, vI -> R
open Go.Gk.OE renaming bx -> X
open Go.Gk.Rds renaming cons -> V
theorem Ew {C:World} {a0 a1 a2:L00} {ad ae af:Value} {r:Int}
  (h:F.abl a0 a1 a2=some r) (hT:TB [] C) (aK:O [] C M ad a0) (aL:O [] C M ae a1) (aM:O [] C M af a2):Calls Tryz.prog 19 #[ad,ae,af] C (K fun v w=>v=R r/\St [] C w []):=by
 refine ca3 76 Tryz.func19 Z Z Z<|have hS:=St.r C;have hZ:=Fz.r (S:=[]) (w0:=C);?_
 have hTT:TOk [] [] C:=TOk.nil
 have hA:N [] C [U M af a2,U M ae a1,U M ad a0]:=V (O.q (ai Z) aM) (V (O.q (ai Z) aL) (V (O.q (ai Z) aK) (N.nil)))
 have hP:Off [] [U M af a2,U M ae a1,U M ad a0]:=Off.emp
 unfold F.abl at h
 let z1:=mkZ 15 (F.acj) (fun g L w=>L=[(75,P g)]/\SfT [] [] C w [] []) [] [] []
 let m1c1:=fun (D:L8) (aJ:Value)=>mkM 10 [(2,[],[],[],[]),(5,[2],[2],[],[]),(6,[],[],[],[]),(7,[2,6],[5,6],[],[])] [2,5,6,7] [7] [] [] [(2,fun h v x y=>∃f:Value,v=f/\x=[W Y f D]/\y=[]),(5,fun h v x y=>∃f:Value,h=[(f,[W Y f D],[])]/\v=.agg #[f,aJ,P false]/\x=[W Y f D]/\y=[]),(6,fun h v x y=>∃A:Nat,v=Q A 0/\x=[X A [L02,L02,P false]]/\y=[]),(7,fun h v x y=>∃f:Value,∃A:Nat,h=[(f,[W Y f D],[]),(Q A 0,[X A [L02,L02,P false]],[])]/\v=undef/\x=[W Y f D,X A [f,aJ,P false]]/\y=[])] []
 let m2c7:=fun (ac:L8×L8×Bool) (E:L8×L8×L8×L8) (G:L8×L8×L8×L8) (T:L8×L8×L8×L8) (aa:L8×L8×L8×L8) (ab:L8×L8×L8×L8) (j:L8×L8×Bool)=>mkM 11 [(0,[],[],[],[]),(1,[],[0],[],[]),(3,[],[1],[],[]),(5,[],[],[],[]),(7,[],[5],[],[]),(8,[],[3,7],[],[]),(9,[],[8],[],[]),(10,[],[],[],[]),(11,[9,10],[9,10],[],[])] [0,1,3,5,7,8,9,10,11] [11] [] [] [(0,fun h v x y=>∃ag:Value,∃ah:Value,v=.agg #[ag,ah,P ac.2.2]/\x=[W Y ag ac.1,W Y ah ac.2.1]/\y=[]),(1,fun h v x y=>∃aj:Value,∃ak:Value,∃al:Value,∃am:Value,v=.agg #[aj,ak,al,am]/\x=[W Y aj E.1,W Y ak E.2.1,W Y al E.2.2.1,W Y am E.2.2.2]/\y=[]),(3,fun h v x y=>∃an:Value,∃ao:Value,∃ap:Value,∃J:Value,v=.agg #[an,ao,ap,J]/\x=[W Y an G.1,W Y ao G.2.1,W Y ap G.2.2.1,W Y J G.2.2.2]/\y=[]),(5,fun h v x y=>∃au:Value,∃av:Value,∃aw:Value,∃ax:Value,v=.agg #[au,av,aw,ax]/\x=[W Y au T.1,W Y av T.2.1,W Y aw T.2.2.1,W Y ax T.2.2.2]/\y=[]),(7,fun h v x y=>∃ay:Value,∃az:Value,∃aA:Value,∃aC:Value,v=.agg #[ay,az,aA,aC]/\x=[W Y ay aa.1,W Y az aa.2.1,W Y aA aa.2.2.1,W Y aC aa.2.2.2]/\y=[]),(8,fun h v x y=>∃aD:Value,∃aE:Value,∃aF:Value,∃aG:Value,v=.agg #[aD,aE,aF,aG]/\x=[W Y aD ab.1,W Y aE ab.2.1,W Y aF ab.2.2.1,W Y aG ab.2.2.2]/\y=[]),(9,fun h v x y=>∃p:Value,∃u:Value,v=.agg #[p,u,P j.2.2]/\x=[W Y p j.1,W Y u j.2.1]/\y=[]),(10,fun h v x y=>∃B:Nat,v=Q B 0/\x=[X B [L02,L02,P false]]/\y=[]),(11,fun h v x y=>∃p:Value,∃u:Value,∃B:Nat,h=[(.agg #[p,u,P j.2.2],[W Y p j.1,W Y u j.2.1],[]),(Q B 0,[X B [L02,L02,P false]],[])]/\v=undef/\x=[W Y p j.1,W Y u j.2.1,X B [p,u,P j.2.2]]/\y=[])] []
 exact wk
end Go.Proofs
