import Derived.Test.YthnmbmmifamifaaGreatDoorRW0
import Derived.Test.YthnmbmmifamifaaGreatDoorRAw
import Derived.Test.YthnmbmmifamifaaGreatDoorGkFman
import Derived.Test.YthnmbmmifamifaaGreatDoorRWref13b
import Derived.Test.YthnmbmmifamifaaGreatDoorRWref4
import Derived.Test.YthnmbmmifamifaaGreatDoorRWref6
set_option linter.unusedVariables false
set_option linter.unusedSimpArgs false
set_option linter.unusedSectionVars false
set_option maxRecDepth 20000
set_option maxHeartbeats 20000000
namespace Go.Proofs
open Go Go.RowKit Go.Gk
open Go.Gk renaming RP -> O, Rds -> N, Ret -> K, ar -> J, e32 -> Y, e8 -> M, own -> W, pB -> Q, red -> U, vB -> P, vI -> R
open Go.Gk.OE renaming bx -> X
open Go.Gk.Rds renaming cons -> V
theorem jc {u:World} {A C:L8} {j p:Value} (B:Bool) {r:L00×Int}
  (h:F.Yw A C B=some r) (S:O [] u Y j A) (T:O [] u Y p C):Calls Tryz.prog 90 #[.agg #[j,p,P B]] u (K fun v w=>∃u0:Value,v=.tuple #[u0,R r.2]/\St [] u w [W M u0 r.1]):=by
 refine ca1 48 Tryz.func90 Z Z Z<|have hS:=St.r u;?_
 unfold F.Yw at h
 let i1:=fun D E f G=>mkI (F.YF A G) (fun s L w=>L=[(1,Q D 0),(5,E),(6,f),(7,R s.1)]/\St [] u w [X D [j,p,P B],W Y E G,W M f s.2])
 let j1:=fun f=>mkJ 13 (F.ab3) (fun g L w=>L=[(6,f)]/\St [] u w [W M f g]) [(6,f)] []
 exact wk
theorem yW {A:World} {a0 a1 a2:L00} {aF aG B:Value} {r:Int}
  (h:F.aaF a0 a1 a2=some r) (hT:TB [] A) (aR:O [] A M aF a0) (aS:O [] A M aG a1) (aT:O [] A M B a2):Calls Tryz.prog 27 #[aF,aG,B] A (K fun v w=>v=R r/\St [] A w []):=by
 refine ca3 89 Tryz.func27 Z Z Z<|have hS:=St.r A;have hZ:=Fz.r (S:=[]) (w0:=A);?_
 have hTT:TOk [] [] A:=TOk.nil
 have hA:N [] A [U M B a2,U M aG a1,U M aF a0]:=V (O.q (ai Z) aT) (V (O.q (ai Z) aS) (V (O.q (ai Z) aR) (N.nil)))
 have hP:Off [] [U M B a2,U M aG a1,U M aF a0]:=Off.emp
 unfold F.aaF at h
 let i1:=fun j (p:L00×Int)=>mkI (F.Wd a2 p) (fun s L w=>L=[(2,B),(14,j),(16,R s)]/\SfT [] [] A w [U M j p.1,U M B a2] [])
 let m1c3:=fun (aO:L8) (aP:L8) (av:L8) (aC:Value)=>mkM 14 [(0,[],[],[],[]),(3,[],[0],[],[]),(4,[],[3],[],[]),(7,[4],[],[4],[]),(8,[],[],[],[]),(9,[4,8],[8],[4],[])] [0,3,4,7,8,9] [4,7,9] [] [] [(0,fun h v x y=>∃aJ:Value,v=aJ/\x=[W Y aJ aO]/\y=[]),(3,fun h v x y=>∃aK:Value,v=aK/\x=[W Y aK aP]/\y=[]),(4,fun h v x y=>∃f:Value,v=f/\x=[]/\y=[U Y f av]),(7,fun h v x y=>∃f:Value,h=[(f,[],[U Y f av])]/\v=.agg #[f,aC,P false]/\x=[]/\y=[]),(8,fun h v x y=>∃u:Nat,v=Q u 0/\x=[X u [L02,L02,P false]]/\y=[]),(9,fun h v x y=>∃u:Nat,∃f:Value,h=[(f,[],[U Y f av]),(Q u 0,[X u [L02,L02,P false]],[])]/\v=undef/\x=[X u [f,aC,P false]]/\y=[U Y f av])] []
 let m2c8:=fun (aD:L8×L8×Bool) (aw:L8×L8×L8×L8) (ax:L8×L8×L8×L8) (ay:L8×L8×L8×L8) (az:L8×L8×L8×L8) (aA:L8×L8×L8×L8) (aE:L8×L8×Bool) (p:L00×Int)=>mkM 15 [(1,[],[],[],[]),(2,[],[1],[],[]),(3,[],[],[2],[]),(6,[],[],[],[]),(7,[],[],[6],[]),(8,[],[],[3,7],[]),(9,[],[],[8],[]),(10,[],[],[9],[])] [1,2,3,6,7,8,9,10] [2,3,6,7,8,9,10] [] [] [(1,fun h v x y=>∃aL:Value,∃aM:Value,v=.agg #[aL,aM,P aD.2.2]/\x=[W Y aL aD.1,W Y aM aD.2.1]/\y=[]),(2,fun h v x y=>∃C:Value,∃D:Value,∃E:Value,∃G:Value,v=.agg #[C,D,E,G]/\x=[]/\y=[U Y C aw.1,U Y D aw.2.1,U Y E aw.2.2.1,U Y G aw.2.2.2]),(3,fun h v x y=>∃T:Value,∃aa:Value,∃ab:Value,∃ac:Value,v=.agg #[T,aa,ab,ac]/\x=[]/\y=[U Y T ax.1,U Y aa ax.2.1,U Y ab ax.2.2.1,U Y ac ax.2.2.2]),(6,fun h v x y=>∃ad:Value,∃ae:Value,∃af:Value,∃ag:Value,v=.agg #[ad,ae,af,ag]/\x=[]/\y=[U Y ad ay.1,U Y ae ay.2.1,U Y af ay.2.2.1,U Y ag ay.2.2.2]),(7,fun h v x y=>∃ah:Value,∃aj:Value,∃ak:Value,∃al:Value,v=.agg #[ah,aj,ak,al]/\x=[]/\y=[U Y ah az.1,U Y aj az.2.1,U Y ak az.2.2.1,U Y al az.2.2.2]),(8,fun h v x y=>∃am:Value,∃an:Value,∃ao:Value,∃ap:Value,v=.agg #[am,an,ao,ap]/\x=[]/\y=[U Y am aA.1,U Y an aA.2.1,U Y ao aA.2.2.1,U Y ap aA.2.2.2]),(9,fun h v x y=>∃J:Value,∃au:Value,v=.agg #[J,au,P aE.2.2]/\x=[]/\y=[U Y J aE.1,U Y au aE.2.1]),(10,fun h v x y=>∃j:Value,v=.tuple #[j,R p.2]/\x=[W M j p.1]/\y=[])] []
 have fr2:=I
 exact wk
end Go.Proofs
