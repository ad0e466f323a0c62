import Derived.Test.YthnmbmmifamifaaGreatDoorRW0
import Derived.Test.YthnmbmmifamifaaGreatDoorRAw
import Derived.Test.YthnmbmmifamifaaGreatDoorGkFman
import Derived.Test.YthnmbmmifamifaaGreatDoorRWref11
import Derived.Test.YthnmbmmifamifaaGreatDoorRWref12b
import Derived.Test.YthnmbmmifamifaaGreatDoorRWref4
import Derived.Test.YthnmbmmifamifaaGreatDoorRWref6
set_option linter.unusedVariables false
set_option linter.unusedSimpArgs false
set_option linter.unusedSectionVars false
set_option maxRecDepth 20000
set_option maxHeartbeats 20000000
namespace Go.Proofs
open Go Go.RowKit Go.Gk
open Go.Gk renaming RP -> O, Rds -> N, Ret -> K, ar -> J, e32 -> Y, e8 -> M, own -> W, pB -> Q, red -> U, vB -> P, vI -> R
open Go.Gk.OE renaming bx -> X
open Go.Gk.Rds renaming cons -> V
theorem tf {p:World} {aa ab ac ad ae:L8} {u A B C D:Value} {T:L01} (ag:Int) {r:L8×L8×Bool}
  (h:F.aaC aa ab ag ac ad ae=some r) (hTT:TOk [] T p) (al:O T p Y u aa) (am:O T p Y A ab) (an:O T p Y B ac) (ao:O T p Y C ad) (ap:O T p Y D ae):Calls Tryz.prog 234 #[.agg #[u,A,R ag],.agg #[B,C,D]] p (K fun v w=>∃ah:Value,∃aj:Value,v=.agg #[ah,aj,P r.2.2]/\St [] p w []/\N T w [U Y aj r.2.1,U Y ah r.1]):=by
 refine ca2 34 Tryz.func234 Z Z Z<|have hS:=St.r p;have hZ:=Fz.r (S:=[]) (w0:=p);?_
 have hA0:N T p [U Y D ae,U Y C ad,U Y B ac,U Y A ab,U Y u aa]:=V (O.q (ai Z) ap) (V (O.q (ai Z) ao) (V (O.q (ai Z) an) (V (O.q (ai Z) am) (V (O.q (ai Z) al) (N.nil)))))
 have hA:=hA0.all
 have hP:=hA0.off Z
 unfold F.aaC at h
 let m1c3:=fun (E:L8) (J:L8) (G:L8) (ak:Nat)=>mkM 5 [(4,[],[],[],[]),(11,[],[],[],[]),(12,[],[],[11],[]),(13,[4,12],[],[4,12],[]),(14,[4,12],[],[4,12],[])] [4,11,12,13,14] [4,11,12,13,14] [(14,[X ak [L02,L02,P false]])] [X ak [L02,L02,P false]] [(4,fun h v x y=>∃f:Value,v=f/\x=[]/\y=[U Y f E]),(11,fun h v x y=>∃af:Value,v=af/\x=[]/\y=[U Y af J]),(12,fun h v x y=>∃j:Value,v=j/\x=[]/\y=[U Y j G]),(13,fun h v x y=>∃f:Value,∃j:Value,h=[(f,[],[U Y f E]),(j,[],[U Y j G])]/\v=.agg #[f,j,P false]/\x=[]/\y=[]),(14,fun h v x y=>∃f:Value,∃j:Value,h=[(f,[],[U Y f E]),(j,[],[U Y j G])]/\v=undef/\x=[X ak [f,j,P false]]/\y=[U Y f E,U Y j G])] []
 exact wk
theorem j0 {w0:World} {a1 a2 aC aD aE aF:L8} {av aw ax ay az aA:Value} {T:L01} (a0:Int) (aJ aK:Bool) {r:L8×L8×Bool}
  (h:F.aaB a0 a1 a2 aC aD aJ aE aF aK=some r) (hTT:TOk [] T w0) (bd:O T w0 Y av a1) (be:O T w0 Y aw a2) (aW:O T w0 Y ax aC) (ba:O T w0 Y ay aD) (bb:O T w0 Y az aE) (bc:O T w0 Y aA aF):Calls Tryz.prog 166 #[R a0,av,aw,.agg #[ax,ay,P aJ],.agg #[az,aA,P aK]] w0 (K fun v w=>∃aL:Value,∃aM:Value,v=.agg #[aL,aM,P r.2.2]/\St [] w0 w []/\N T w [U Y aM r.2.1,U Y aL r.1]):=by
 refine ca5 73 Tryz.func166 Z Z Z<|have hS:=St.r w0;have hZ:=Fz.r (S:=[]) (w0:=w0);?_
 have hA0:N T w0 [U Y aA aF,U Y az aE,U Y ay aD,U Y ax aC,U Y aw a2,U Y av a1]:=V (O.q (ai Z) bc) (V (O.q (ai Z) bb) (V (O.q (ai Z) ba) (V (O.q (ai Z) aW) (V (O.q (ai Z) be) (V (O.q (ai Z) bd) (N.nil))))))
 have hA:=hA0.all
 have hP:=hA0.off Z
 unfold F.aaB at h
 let i1:=fun ad ae af ag aj ak f j p u A B C D E ah al (G:L8×L8×L8) (aa:L8×L8×L8) (ab:L8×L8×L8) (ac:L8×L8×Int)=>mkI (F.Yl a1 a2 ac G aa ab) (fun s L w=>∃aO aP aR,L=[(1,av),(2,aw),(10,Q ak 0),(11,Q ad 0),(12,Q ae 0),(13,Q af 0),(14,Q ag 0),(15,Q aj 0),(16,R s.1)]/\SfT [] T w0 w [U Y aR s.2.2.2,U Y aP s.2.2.1,U Y aO s.2.1,U Y E ab.2.2,U Y D ab.2.1,U Y C ab.1,U Y B aa.2.2,U Y A aa.2.1,U Y u aa.1,U Y p G.2.2,U Y j G.2.1,U Y f G.1,U Y ah ac.2.1,U Y al ac.1,U Y aw a2,U Y av a1] [X ak [L02,L02,P false],X ad [al,ah,R ac.2.2],X ae [f,j,p],X af [u,A,B],X ag [C,D,E],X aj [aO,aP,aR]])
 let z1:=fun ad ae af ag aj ak f j p u A B C D E ah al (G:L8×L8×L8) (aa:L8×L8×L8) (ab:L8×L8×L8) J (ac:L8×L8×Int)=>mkZ 9 (F.XW J) (fun g L w=>∃aS aT aU,L=[(1,av),(2,aw),(10,Q ak 0),(11,Q ad 0),(12,Q ae 0),(13,Q af 0),(14,Q ag 0),(15,Q aj 0),(16,R J)]/\SfT [] T w0 w [U Y aU g.2.2,U Y aT g.2.1,U Y aS g.1,U Y E ab.2.2,U Y D ab.2.1,U Y C ab.1,U Y B aa.2.2,U Y A aa.2.1,U Y u aa.1,U Y p G.2.2,U Y j G.2.1,U Y f G.1,U Y ah ac.2.1,U Y al ac.1,U Y aw a2,U Y av a1] [X ak [L02,L02,P false],X ad [al,ah,R ac.2.2],X ae [f,j,p],X af [u,A,B],X ag [C,D,E],X aj [aS,aT,aU]]) [(10,Q ak 0),(11,Q ad 0),(12,Q ae 0),(13,Q af 0),(14,Q ag 0),(15,Q aj 0),(16,R J)] [X ak [L02,L02,P false],X ad [al,ah,R ac.2.2],X ae [f,j,p],X af [u,A,B],X ag [C,D,E]] [U Y E ab.2.2,U Y D ab.2.1,U Y C ab.1,U Y B aa.2.2,U Y A aa.2.1,U Y u aa.1,U Y p G.2.2,U Y j G.2.1,U Y f G.1,U Y ah ac.2.1,U Y al ac.1]
 let z2:=fun ad ae af ag aj ak f j p u A B C D E am an ao ah al (G:L8×L8×L8) (aa:L8×L8×L8) (ab:L8×L8×L8) J (au:L8×L8×L8) aG (ac:L8×L8×Int)=>mkZ 14 (F.acz ac G aa ab au aG J) (fun g L w=>L=[(1,av),(2,aw),(10,Q ak 0),(11,Q ad 0),(12,Q ae 0),(13,Q af 0),(14,Q ag 0),(15,Q aj 0),(16,R J),(17,P g.1),(18,P aG),(49,P g.2)]/\SfT [] T w0 w [U Y ao au.2.2,U Y an au.2.1,U Y am au.1,U Y E ab.2.2,U Y D ab.2.1,U Y C ab.1,U Y B aa.2.2,U Y A aa.2.1,U Y u aa.1,U Y p G.2.2,U Y j G.2.1,U Y f G.1,U Y ah ac.2.1,U Y al ac.1,U Y aw a2,U Y av a1] [X ak [L02,L02,P false],X ad [al,ah,R ac.2.2],X ae [f,j,p],X af [u,A,B],X ag [C,D,E],X aj [am,an,ao]]) [(10,Q ak 0),(11,Q ad 0),(12,Q ae 0),(13,Q af 0),(14,Q ag 0),(15,Q aj 0),(16,R J),(18,P aG)] [X ak [L02,L02,P false],X ad [al,ah,R ac.2.2],X ae [f,j,p],X af [u,A,B],X ag [C,D,E],X aj [am,an,ao]] [U Y ao au.2.2,U Y an au.2.1,U Y am au.1,U Y E ab.2.2,U Y D ab.2.1,U Y C ab.1,U Y B aa.2.2,U Y A aa.2.1,U Y u aa.1,U Y p G.2.2,U Y j G.2.1,U Y f G.1,U Y ah ac.2.1,U Y al ac.1]
 exact wk
theorem DB {f:World} {u A a1 a2:L8} {j p C D:Value} (B:Bool) {r:Bool}
  (h:F.YH u A B a1 a2=some r) (E:O [] f Y j u) (G:O [] f Y p A) (S:O [] f Y C a1) (T:O [] f Y D a2):Calls Tryz.prog 168 #[.agg #[j,p,P B],C,D] f (K fun v w=>v=P r/\St [] f w []):=by
 refine ca3 22 Tryz.func168 Z Z Z<|have hS:=St.r f;?_
 unfold F.YH at h
 exact wk
theorem AL {E:World} {a1 a2 a3 B C:L8} {ad ab ae p u:Value} (a0:Int) (D:Bool) {r:Bool}
  (h:F.abx a0 a1 a2 a3 B C D=some r) (ap:O [] E Y ad a1) (J:O [] E Y ab a2) (au:O [] E Y ae a3) (an:O [] E Y p B) (ao:O [] E Y u C):Calls Tryz.prog 80 #[R a0,ad,ab,ae,.agg #[p,u,P D]] E (K fun v w=>v=P r/\St [] E w []):=by
 refine ca5 72 Tryz.func80 Z Z Z<|have hS:=St.r E;have hZ:=Fz.r (S:=[]) (w0:=E);?_
 have hTT:TOk [] [] E:=TOk.nil
 have hA:N [] E [U Y u C,U Y p B,U Y ae a3,U Y ab a2,U Y ad a1]:=V (O.q (ai Z) ao) (V (O.q (ai Z) an) (V (O.q (ai Z) au) (V (O.q (ai Z) J) (V (O.q (ai Z) ap) (N.nil)))))
 have hP:Off [] [U Y u C,U Y p B,U Y ae a3,U Y ab a2,U Y ad a1]:=Off.emp
 unfold F.abx at h
 let z1:=fun G T ac=>mkZ 4 (F.abz a1 a2 a3 ac a0 B C D) (fun g L w=>L=[(0,R a0),(1,ad),(2,ab),(3,ae),(9,Q G 0),(11,T),(30,P g)]/\SfT [] [] E w [U Y u C,U Y p B,U Y T ac,U Y ae a3,U Y ab a2,U Y ad a1] [X G [p,u,P D]]) [(9,Q G 0),(11,T)] [X G [p,u,P D]] [U Y T ac]
 let z2:=fun G af ag T (ah:L8×Int) (aj:L8×Int) ac=>mkZ 9 (F.Xs a0 a2 B C D ac ah aj) (fun g L w=>L=[(0,R a0),(2,ab),(9,Q G 0),(11,T),(14,af),(16,ag),(60,P g)]/\SfT [] [] E w [U Y u C,U Y p B,U Y ag aj.1,U Y af ah.1,U Y T ac,U Y ab a2] [X G [p,u,P D]]) [(9,Q G 0),(11,T),(14,af),(16,ag)] [X G [p,u,P D]] [U Y ag aj.1,U Y af ah.1,U Y T ac]
 let m1c2:=fun (ak:L8×L8×Bool) (A:L8×L8×Bool)=>mkM 9 [(4,[],[],[],[]),(6,[],[4],[],[]),(7,[],[],[],[]),(8,[6,7],[7],[6],[])] [4,6,7,8] [6,8] [] [] [(4,fun h v x y=>∃al:Value,∃am:Value,v=.agg #[al,am,P ak.2.2]/\x=[W Y al ak.1,W Y am ak.2.1]/\y=[]),(6,fun h v x y=>∃f:Value,∃j:Value,v=.agg #[f,j,P A.2.2]/\x=[]/\y=[U Y f A.1,U Y j A.2.1]),(7,fun h v x y=>∃aa:Nat,v=Q aa 0/\x=[X aa [L02,L02,P false]]/\y=[]),(8,fun h v x y=>∃aa:Nat,∃f:Value,∃j:Value,h=[(.agg #[f,j,P A.2.2],[],[U Y f A.1,U Y j A.2.1]),(Q aa 0,[X aa [L02,L02,P false]],[])]/\v=undef/\x=[X aa [f,j,P A.2.2]]/\y=[U Y f A.1,U Y j A.2.1])] []
 exact wk
theorem yZ {f:World} {a2 a3 a4 a5:L00} {A B p u:Value} (a0 a1:Int) {r:Int}
  (h:F.abC a0 a1 a2 a3 a4 a5=some r) (hT:TB [] f) (T:O [] f M A a2) (aa:O [] f M B a3) (ab:O [] f M p a4) (ac:O [] f M u a5):Calls Tryz.prog 26 #[R a0,R a1,A,B,p,u] f (K fun v w=>v=R r/\St [] f w []):=by
 refine ca6 57 Tryz.func26 Z Z Z<|have hS:=St.r f;have hZ:=Fz.r (S:=[]) (w0:=f);?_
 have hTT:TOk [] [] f:=TOk.nil
 have hA:N [] f [U M u a5,U M p a4,U M B a3,U M A a2]:=V (O.q (ai Z) ac) (V (O.q (ai Z) ab) (V (O.q (ai Z) aa) (V (O.q (ai Z) T) (N.nil))))
 have hP:Off [] [U M u a5,U M p a4,U M B a3,U M A a2]:=Off.emp
 unfold F.abC at h
 let z1:=fun C D E G (j:L8×L8×Bool×Int)=>mkZ 7 (F.aai a0 a1 a4 a5 G j) (fun g L w=>L=[(0,R a0),(1,R a1),(4,p),(5,u),(13,R G),(14,Q C 0),(33,P g)]/\SfT [] [] f w [U Y E j.2.1,U Y D j.1,U M u a5,U M p a4] [X C [D,E,P j.2.2.1]]) [(13,R G),(14,Q C 0)] [X C [D,E,P j.2.2.1]] [U Y E j.2.1,U Y D j.1]
 let z2:=mkZ 9 (F.adf) (fun g L w=>L=[(56,P g)]/\SfT [] [] f w [] []) [] [] []
 exact wk
end Go.Proofs
