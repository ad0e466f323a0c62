import Derived.Test.YthnmbmmifamifaaGreatDoorRW0
import Derived.Test.YthnmbmmifamifaaGreatDoorRAw
import Derived.Test.YthnmbmmifamifaaGreatDoorGkFman
import Derived.Test.YthnmbmmifamifaaGreatDoorRWref11
import Derived.Test.YthnmbmmifamifaaGreatDoorRWref4
import Derived.Test.YthnmbmmifamifaaGreatDoorRWref6
set_option linter.unusedVariables false
set_option linter.unusedSimpArgs false
set_option linter.unusedSectionVars false
set_option maxRecDepth 20000
set_option maxHeartbeats 20000000
namespace Go.Proofs
open Go Go.RowKit Go.Gk
open Go.Gk renaming RP -> O, Rds -> N, Ret -> K, ar -> J, e32 -> Y, e8 -> M, own -> W, pB -> Q, red -> U, vB -> P, vI -> R
open Go.Gk.OE renaming bx -> X
open Go.Gk.Rds renaming cons -> V
theorem yJ {f:World} {a0:L00} {j:Value} {r:L8}
  (h:F.Wk a0=some r) (u:O [] f M j a0):Calls Tryz.prog 82 #[j] f (K fun v w=>St [] f w [W Y v r]):=by
 refine ca1 42 Tryz.func82 Z Z Z<|have hS:=St.r f;?_
 unfold F.Wk at h
 let i1:=fun p=>mkI (F.X3 a0) (fun s L w=>L=[(0,j),(3,p),(4,R s.1)]/\St [] f w [W Y p s.2])
 exact wk
theorem wV {f:World} {a2:L00} {j:Value} (a0 a1:Int) {r:L8}
  (h:F.aak a0 a1 a2=some r) (hT:TB [] f) (u:O [] f M j a2):Calls Tryz.prog 81 #[R a0,R a1,j] f (K fun v w=>St [] f w [W Y v r]):=by
 refine ca3 22 Tryz.func81 Z Z Z<|have hS:=St.r f;?_
 unfold F.aak at h
 let j1:=mkJ 5 (F.aaw) (fun g L w=>∃p,L=[(7,p)]/\St [] f w [W M p g]) [] []
 exact wk
theorem ze {f:World} {a0 a1:L8} {j p:Value} {r:Bool}
  (h:F.XH a0 a1=some r) (u:O [] f Y j a0) (A:O [] f Y p a1):Calls Tryz.prog 163 #[j,p] f (K fun v w=>v=P r/\St [] f w []):=by
 refine ca2 15 Tryz.func163 Z Z Z<|have hS:=St.r f;?_
 unfold F.XH at h
 exact wk
theorem AD {f:World} (a0:Int) {r:L8×L8×Int}
  (h:F.aaH a0=some r) :Calls Tryz.prog 230 #[R a0] f (K fun v w=>∃j p:Value,v=.agg #[j,p,R r.2.2]/\St [] f w [W Y j r.1,W Y p r.2.1]):=by
 refine ca1 30 Tryz.func230 Z Z Z<|have hS:=St.r f;have hZ:=Fz.r (S:=[]) (w0:=f);?_
 have hTT:TOk [] [] f:=TOk.nil
 have hA:N [] f []:=N.nil
 have hP:Off [] []:=Off.emp
 unfold F.aaH at h
 exact wk
theorem CD {u:World} {E G:L8} {A B:Value} {T:L01} (aa:Bool) {r:L8×L8×L8}
  (h:F.YY E G aa=some r) (hTT:TOk [] T u) (af:O T u Y A E) (ag:O T u Y B G):Calls Tryz.prog 231 #[.agg #[A,B,P aa]] u (K fun v w=>∃ab:Value,∃ac:Value,∃ad:Value,v=.agg #[ab,ac,ad]/\St [] u w []/\N T w [U Y ad r.2.2,U Y ac r.2.1,U Y ab r.1]):=by
 refine ca1 14 Tryz.func231 Z Z Z<|have hS:=St.r u;have hZ:=Fz.r (S:=[]) (w0:=u);?_
 have hA0:N T u [U Y B G,U Y A E]:=V (O.q (ai Z) ag) (V (O.q (ai Z) af) (N.nil))
 have hA:=hA0.all
 have hP:=hA0.off Z
 unfold F.YY at h
 let m1c2:=fun (C:L8) (D:L8) (ae:Nat)=>mkM 3 [(2,[],[],[],[]),(5,[],[],[],[]),(6,[],[],[],[]),(7,[2,5,6],[2,5,6],[],[]),(8,[2,5,6],[7],[],[])] [2,5,6,7,8] [8] [(8,[X ae [L02,L02,L02]])] [X ae [L02,L02,L02]] [(2,fun h v x y=>∃j:Value,v=j/\x=[W Y j C]/\y=[]),(5,fun h v x y=>∃p:Value,v=p/\x=[W Y p D]/\y=[]),(6,fun h v x y=>∃f:Value,v=f/\x=[W Y f ([1]:L8)]/\y=[]),(7,fun h v x y=>∃j:Value,∃p:Value,∃f:Value,h=[(j,[W Y j C],[]),(p,[W Y p D],[]),(f,[W Y f ([1]:L8)],[])]/\v=.agg #[j,p,f]/\x=[W Y j C,W Y p D,W Y f ([1]:L8)]/\y=[]),(8,fun h v x y=>∃j:Value,∃p:Value,∃f:Value,h=[(j,[W Y j C],[]),(p,[W Y p D],[]),(f,[W Y f ([1]:L8)],[])]/\v=undef/\x=[W Y j C,W Y p D,W Y f ([1]:L8),X ae [j,p,f]]/\y=[])] []
 exact wk
theorem kb {f:World} {a0:L8} {j:Value} {T:L01} (a1:Int) {r:L8}
  (h:F.Yu a0 a1=some r) (hTT:TOk [] T f) (p:O T f Y j a0):Calls Tryz.prog 268 #[j,R a1] f (K fun v w=>∃u0:Value,v=u0/\St [] f w []/\N T w [U Y u0 r]):=by
 refine ca2 12 Tryz.func268 Z Z Z<|have hS:=St.r f;have hZ:=Fz.r (S:=[]) (w0:=f);?_
 have hA0:N T f [U Y j a0]:=V (O.q (ai Z) p) (N.nil)
 have hA:=hA0.all
 have hP:=hA0.off Z
 unfold F.Yu at h
 exact wk
theorem iB {p:World} {u A a1:L8} {f j D:Value} {T:L01} (B:Int) {r:L8}
  (h:F.Z7 u A B a1=some r) (hTT:TOk [] T p) (ab:O T p Y f u) (ac:O T p Y j A) (af:O T p Y D a1):Calls Tryz.prog 266 #[.agg #[f,j,R B],D] p (K fun v w=>∃u0:Value,v=u0/\St [] p w []/\N T w [U Y u0 r]):=by
 refine ca2 35 Tryz.func266 Z Z Z<|have hS:=St.r p;have hZ:=Fz.r (S:=[]) (w0:=p);?_
 have hA0:N T p [U Y D a1,U Y j A,U Y f u]:=V (O.q (ai Z) af) (V (O.q (ai Z) ac) (V (O.q (ai Z) ab) (N.nil)))
 have hA:=hA0.all
 have hP:=hA0.off Z
 unfold F.Z7 at h
 let i1:=fun ad=>mkI (F.ab2 u) (fun s L w=>∃E,L=[(2,Q ad 0),(6,E)]/\SfT [] T p w [U Y E s,X ad [f,j,R B],U Y j A,U Y f u] [])
 let m1c3:=fun (ag:L8) (ah:L8) (ae:L8)=>mkM 1 [(4,[],[],[],[]),(7,[],[],[4],[]),(11,[],[7],[],[])] [4,7,11] [4,11] [] [] [(4,fun h v x y=>∃G:Value,v=G/\x=[]/\y=[U Y G ag]),(7,fun h v x y=>∃aa:Value,v=aa/\x=[W Y aa ah]/\y=[]),(11,fun h v x y=>∃C:Value,v=C/\x=[]/\y=[U Y C ae])] []
 exact wk
theorem iC {f:World} {u A a1 a2:L8} {j p B C:Value} {T:L01} (D:Int) {r:L8}
  (h:F.T0 u A D a1 a2=some r) (hTT:TOk [] T f) (G:O T f Y j u) (aa:O T f Y p A) (ac:O T f Y B a1) (ad:O T f Y C a2):Calls Tryz.prog 252 #[.agg #[j,p,R D],B,C] f (K fun v w=>∃u0:Value,v=u0/\St [] f w []/\N T w [U Y u0 r]):=by
 refine ca3 12 Tryz.func252 Z Z Z<|have hS:=St.r f;have hZ:=Fz.r (S:=[]) (w0:=f);?_
 have hA0:N T f [U Y C a2,U Y B a1,U Y p A,U Y j u]:=V (O.q (ai Z) ad) (V (O.q (ai Z) ac) (V (O.q (ai Z) aa) (V (O.q (ai Z) G) (N.nil))))
 have hA:=hA0.all
 have hP:=hA0.off Z
 unfold F.T0 at h
 let m1c2:=fun (ae:L8) (af:L8)=>mkM 1 [(3,[],[],[],[]),(4,[],[3],[],[])] [3,4] [4] [] [] [(3,fun h v x y=>∃ab:Value,v=ab/\x=[W Y ab ae]/\y=[]),(4,fun h v x y=>∃E:Value,v=E/\x=[]/\y=[U Y E af])] []
 exact wk
theorem gE {f:World} {u A a1 a2:L8} {j p C D:Value} (B:Int) {r:L8}
  (h:F.Uv u A B a1 a2=some r) (E:O [] f Y j u) (G:O [] f Y p A) (S:O [] f Y C a1) (T:O [] f Y D a2):Calls Tryz.prog 253 #[.agg #[j,p,R B],C,D] f (K fun v w=>St [] f w [W Y v r]):=by
 refine ca3 20 Tryz.func253 Z Z Z<|have hS:=St.r f;?_
 unfold F.Uv at h
 exact wk
theorem gF {f:World} {u A a1 a2:L8} {j p C D:Value} (B:Int) {r:L8}
  (h:F.Uu u A B a1 a2=some r) (E:O [] f Y j u) (G:O [] f Y p A) (S:O [] f Y C a1) (T:O [] f Y D a2):Calls Tryz.prog 254 #[.agg #[j,p,R B],C,D] f (K fun v w=>St [] f w [W Y v r]):=by
 refine ca3 21 Tryz.func254 Z Z Z<|have hS:=St.r f;?_
 unfold F.Uu at h
 exact wk
theorem ti {B:World} {C D E G aa:L8} {f j p u A:Value} {T:L01} (ab:Int) {r:L8×L8×L8}
  (h:F.YC C D ab E G aa=some r) (hTT:TOk [] T B) (av:O T B Y f C) (aw:O T B Y j D) (ax:O T B Y p E) (ay:O T B Y u G) (az:O T B Y A aa):Calls Tryz.prog 233 #[.agg #[f,j,R ab],.agg #[p,u,A]] B (K fun v w=>∃aj:Value,∃ak:Value,∃al:Value,v=.agg #[aj,ak,al]/\St [] B w []/\N T w [U Y al r.2.2,U Y ak r.2.1,U Y aj r.1]):=by
 refine ca2 117 Tryz.func233 Z Z Z<|have hS:=St.r B;have hZ:=Fz.r (S:=[]) (w0:=B);?_
 have hA0:N T B [U Y A aa,U Y u G,U Y p E,U Y j D,U Y f C]:=V (O.q (ai Z) az) (V (O.q (ai Z) ay) (V (O.q (ai Z) ax) (V (O.q (ai Z) aw) (V (O.q (ai Z) av) (N.nil)))))
 have hA:=hA0.all
 have hP:=hA0.off Z
 unfold F.YC at h
 let z1:=fun ac ad ae=>mkZ 3 (F.acE C D ab E G aa) (fun g L w=>L=[(2,Q ac 0),(3,Q ad 0),(4,Q ae 0),(22,P g)]/\SfT [] T B w [U Y j D,U Y f C,X ad [p,u,A],U Y A aa,U Y u G,U Y p E] [X ac [f,j,R ab],X ae [L02,L02,L02]]) [(2,Q ac 0),(3,Q ad 0),(4,Q ae 0)] [X ac [f,j,R ab],X ae [L02,L02,L02]] [X ad [p,u,A]]
 let m1c3:=fun (aA:L8) (aC:L8) (aD:L8)=>mkM 4 [(5,[],[],[],[]),(10,[],[],[],[]),(11,[],[5,10],[],[])] [5,10,11] [11] [] [] [(5,fun h v x y=>∃am:Value,v=am/\x=[W Y am aA]/\y=[]),(10,fun h v x y=>∃an:Value,v=an/\x=[W Y an aC]/\y=[]),(11,fun h v x y=>∃af:Value,v=af/\x=[]/\y=[U Y af aD])] []
 let m2c3:=fun (aE:L8) (aF:L8) (aG:L8)=>mkM 10 [(4,[],[],[],[]),(8,[],[],[],[]),(9,[],[8],[4],[])] [4,8,9] [4,9] [] [] [(4,fun h v x y=>∃ag:Value,v=ag/\x=[]/\y=[U Y ag aE]),(8,fun h v x y=>∃ao:Value,v=ao/\x=[W Y ao aF]/\y=[]),(9,fun h v x y=>∃ap:Value,v=ap/\x=[W Y ap aG]/\y=[])] []
 let m3c3:=fun (aJ:L8) (aK:L8) (aL:L8)=>mkM 15 [(6,[],[],[],[]),(7,[],[6],[],[]),(9,[],[],[7],[])] [6,7,9] [7,9] [] [] [(6,fun h v x y=>∃J:Value,v=J/\x=[W Y J aJ]/\y=[]),(7,fun h v x y=>∃ah:Value,v=ah/\x=[]/\y=[U Y ah aK]),(9,fun h v x y=>∃au:Value,v=au/\x=[W Y au aL]/\y=[])] []
 exact wk
end Go.Proofs
