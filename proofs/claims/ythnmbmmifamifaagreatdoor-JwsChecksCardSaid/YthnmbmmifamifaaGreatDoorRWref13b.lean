import Derived.Test.YthnmbmmifamifaaGreatDoorRW0
import Derived.Test.YthnmbmmifamifaaGreatDoorRAw
import Derived.Test.YthnmbmmifamifaaGreatDoorGkFman
import Derived.Test.YthnmbmmifamifaaGreatDoorRWref11
import Derived.Test.YthnmbmmifamifaaGreatDoorRWref6
set_option linter.unusedVariables false
set_option linter.unusedSimpArgs false
set_option linter.unusedSectionVars false
set_option maxRecDepth 20000
set_option maxHeartbeats 20000000
namespace Go.Proofs
open Go Go.RowKit Go.Gk
open Go.Gk renaming RP -> O, Rds -> N, Ret -> K, ar -> J, e32 -> Y, pB -> Q, red -> U, vB -> P, vI -> R
open Go.Gk.OE renaming bx -> X
open Go.Gk.Rds renaming cons -> V
theorem lJ {f:World} {G aa ab ac ad ae af ag:L8} {j p u A B C D E:Value} {T:L01} {r:L8×L8×L8×L8}
  (h:F.VT G aa ab ac ad ae af ag=some r) (hTT:TOk [] T f) (ax:O T f Y j G) (ay:O T f Y p aa) (az:O T f Y u ab) (aA:O T f Y A ac) (aC:O T f Y B ad) (aD:O T f Y C ae) (aE:O T f Y D af) (aF:O T f Y E ag):Calls Tryz.prog 92 #[.agg #[j,p,u,A],.agg #[B,C,D,E]] f (K fun v w=>∃ap:Value,∃J:Value,∃au:Value,∃av:Value,v=.agg #[ap,J,au,av]/\St [] f w []/\N T w [U Y av r.2.2.2,U Y au r.2.2.1,U Y J r.2.1,U Y ap r.1]):=by
 refine ca2 77 Tryz.func92 Z Z Z<|have hS:=St.r f;have hZ:=Fz.r (S:=[]) (w0:=f);?_
 have hA0:N T f [U Y E ag,U Y D af,U Y C ae,U Y B ad,U Y A ac,U Y u ab,U Y p aa,U Y j G]:=V (O.q (ai Z) aF) (V (O.q (ai Z) aE) (V (O.q (ai Z) aD) (V (O.q (ai Z) aC) (V (O.q (ai Z) aA) (V (O.q (ai Z) az) (V (O.q (ai Z) ay) (V (O.q (ai Z) ax) (N.nil))))))))
 have hA:=hA0.all
 have hP:=hA0.off Z
 unfold F.VT at h
 let m1c3:=fun (aR:L8) (aG:L8) (aJ:L8)=>mkM 1 [(4,[],[],[],[]),(9,[],[],[],[]),(10,[],[],[4,9],[])] [4,9,10] [4,9,10] [] [] [(4,fun h v x y=>∃aw:Value,v=aw/\x=[]/\y=[U Y aw aR]),(9,fun h v x y=>∃ah:Value,v=ah/\x=[]/\y=[U Y ah aG]),(10,fun h v x y=>∃aj:Value,v=aj/\x=[]/\y=[U Y aj aJ])] []
 let m2c3:=fun (aK:L8) (aL:L8) (aM:L8)=>mkM 2 [(4,[],[],[],[]),(9,[],[],[],[]),(10,[],[],[4,9],[])] [4,9,10] [4,9,10] [] [] [(4,fun h v x y=>∃ak:Value,v=ak/\x=[]/\y=[U Y ak aK]),(9,fun h v x y=>∃al:Value,v=al/\x=[]/\y=[U Y al aL]),(10,fun h v x y=>∃am:Value,v=am/\x=[]/\y=[U Y am aM])] []
 let m3c2:=fun (aO:L8) (aP:L8)=>mkM 4 [(6,[],[],[],[]),(7,[],[],[6],[])] [6,7] [6,7] [] [] [(6,fun h v x y=>∃an:Value,v=an/\x=[]/\y=[U Y an aO]),(7,fun h v x y=>∃ao:Value,v=ao/\x=[]/\y=[U Y ao aP])] []
 exact wk
theorem ka {A:World} {a0 B C D E:L8} {G f j p u:Value} {T:L01} {r:L8×L8×L8×L8}
  (h:F.VJ a0 B C D E=some r) (hTT:TOk [] T A) (ay:O T A Y G a0) (au:O T A Y f B) (av:O T A Y j C) (aw:O T A Y p D) (ax:O T A Y u E):Calls Tryz.prog 93 #[G,.agg #[f,j,p,u]] A (K fun v w=>∃ae:Value,∃af:Value,∃ag:Value,∃ah:Value,v=.agg #[ae,af,ag,ah]/\St [] A w []/\N T w [U Y ah r.2.2.2,U Y ag r.2.2.1,U Y af r.2.1,U Y ae r.1]):=by
 refine ca2 28 Tryz.func93 Z Z Z<|have hS:=St.r A;have hZ:=Fz.r (S:=[]) (w0:=A);?_
 have hA0:N T A [U Y u E,U Y p D,U Y j C,U Y f B,U Y G a0]:=V (O.q (ai Z) ax) (V (O.q (ai Z) aw) (V (O.q (ai Z) av) (V (O.q (ai Z) au) (V (O.q (ai Z) ay) (N.nil)))))
 have hA:=hA0.all
 have hP:=hA0.off Z
 unfold F.VJ at h
 let i1:=fun aa ab ac=>mkI (F.Z8 a0 B C D E) (fun s L w=>∃aj ak al am,L=[(0,G),(3,Q aa 0),(4,Q ab 0),(5,Q ac 0),(6,R s.1)]/\SfT [] T A w [U Y am s.2.2.2.2,U Y al s.2.2.2.1,U Y ak s.2.2.1,U Y aj s.2.1,U Y u E,U Y p D,U Y j C,U Y f B,U Y G a0] [X aa [f,j,p,u],X ab [L02,L02,L02,L02],X ac [aj,ak,al,am]])
 let z1:=fun aa ab ac ad=>mkZ 5 (F.aan ad) (fun g L w=>∃an ao ap J,L=[(0,G),(3,Q aa 0),(4,Q ab 0),(5,Q ac 0),(6,R ad)]/\SfT [] T A w [U Y J g.2.2.2,U Y ap g.2.2.1,U Y ao g.2.1,U Y an g.1,U Y u E,U Y p D,U Y j C,U Y f B,U Y G a0] [X aa [f,j,p,u],X ab [L02,L02,L02,L02],X ac [an,ao,ap,J]]) [(3,Q aa 0),(4,Q ab 0),(5,Q ac 0),(6,R ad)] [X aa [f,j,p,u],X ab [L02,L02,L02,L02]] []
 exact wk
theorem kf {p:World} {G aa ab ac:L8} {u A B C:Value} {T:L01} {r:L8×L8×Bool}
  (h:F.XF G aa ab ac=some r) (hTT:TOk [] T p) (ag:O T p Y u G) (ah:O T p Y A aa) (aj:O T p Y B ab) (ak:O T p Y C ac):Calls Tryz.prog 91 #[.agg #[u,A,B,C]] p (K fun v w=>∃ad:Value,∃ae:Value,v=.agg #[ad,ae,P r.2.2]/\St [] p w []/\N T w [U Y ae r.2.1,U Y ad r.1]):=by
 refine ca1 16 Tryz.func91 Z Z Z<|have hS:=St.r p;have hZ:=Fz.r (S:=[]) (w0:=p);?_
 have hA0:N T p [U Y C ac,U Y B ab,U Y A aa,U Y u G]:=V (O.q (ai Z) ak) (V (O.q (ai Z) aj) (V (O.q (ai Z) ah) (V (O.q (ai Z) ag) (N.nil))))
 have hA:=hA0.all
 have hP:=hA0.off Z
 unfold F.XF at h
 let m1c2:=fun (D:L8) (E:L8) (af:Nat)=>mkM 2 [(3,[],[],[],[]),(7,[],[],[],[]),(8,[3,7],[],[3,7],[]),(9,[3,7],[],[3,7],[])] [3,7,8,9] [3,7,8,9] [(9,[X af [L02,L02,P false]])] [X af [L02,L02,P false]] [(3,fun h v x y=>∃f:Value,v=f/\x=[]/\y=[U Y f D]),(7,fun h v x y=>∃j:Value,v=j/\x=[]/\y=[U Y j E]),(8,fun h v x y=>∃f:Value,∃j:Value,h=[(f,[],[U Y f D]),(j,[],[U Y j E])]/\v=.agg #[f,j,P false]/\x=[]/\y=[]),(9,fun h v x y=>∃f:Value,∃j:Value,h=[(f,[],[U Y f D]),(j,[],[U Y j E])]/\v=undef/\x=[X af [f,j,P false]]/\y=[U Y f D,U Y j E])] []
 exact wk
theorem Hu {p:World} {u A:L8} {f j:Value} (B:Bool) {r:Bool}
  (h:F.aat u A B=some r) (G:O [] p Y f u) (T:O [] p Y j A):Calls Tryz.prog 177 #[.agg #[f,j,P B]] p (K fun v w=>v=P r/\St [] p w []):=by
 refine ca1 47 Tryz.func177 Z Z Z<|have hS:=St.r p;have hZ:=Fz.r (S:=[]) (w0:=p);?_
 have hTT:TOk [] [] p:=TOk.nil
 have hA:N [] p [U Y j A,U Y f u]:=V (O.q (ai Z) T) (V (O.q (ai Z) G) (N.nil))
 have hP:Off [] [U Y j A,U Y f u]:=Off.emp
 unfold F.aat at h
 let z1:=mkZ 3 (F.Z9) (fun g L w=>∃C D E,L=[(1,Q C 0),(22,P g.2.2.2)]/\SfT [] [] p w [X C [D,E,P g.2.2.1],U Y E g.2.1,U Y D g.1] []) [] [] []
 exact wk
end Go.Proofs
