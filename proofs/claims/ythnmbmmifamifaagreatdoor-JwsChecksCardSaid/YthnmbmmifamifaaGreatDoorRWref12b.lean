import Derived.Test.YthnmbmmifamifaaGreatDoorRW0
import Derived.Test.YthnmbmmifamifaaGreatDoorRAw
import Derived.Test.YthnmbmmifamifaaGreatDoorGkFman
import Derived.Test.YthnmbmmifamifaaGreatDoorRWref12a
import Derived.Test.YthnmbmmifamifaaGreatDoorRWref6
set_option linter.unusedVariables false
set_option linter.unusedSimpArgs false
set_option linter.unusedSectionVars false
set_option maxRecDepth 20000
set_option maxHeartbeats 20000000
namespace Go.Proofs
open Go Go.RowKit Go.Gk
open Go.Gk renaming RP -> O, Rds -> N, Ret -> K, ar -> J, e32 -> Y, own -> W, pB -> Q, red -> U, vI -> R
open Go.Gk.OE renaming bx -> X
open Go.Gk.Rds renaming cons -> V
theorem uf {j:World} {ag ah aj ak al am an ao:L8} {B C D E G aa ab ac:Value} {T:L01} (aC:Int) {r:L8×L8×L8}
  (h:F.Ve ag ah aC aj ak al am an ao=some r) (hTT:TOk [] T j) (aL:O T j Y B ag) (aM:O T j Y C ah) (aO:O T j Y D aj) (aP:O T j Y E ak) (aR:O T j Y G al) (aS:O T j Y aa am) (aT:O T j Y ab an) (aU:O T j Y ac ao):Calls Tryz.prog 232 #[.agg #[B,C,R aC],.agg #[D,E,G],.agg #[aa,ab,ac]] j (K fun v w=>∃aD:Value,∃aE:Value,∃aF:Value,v=.agg #[aD,aE,aF]/\St [] j w []/\N T w [U Y aF r.2.2,U Y aE r.2.1,U Y aD r.1]):=by
 refine ca3 134 Tryz.func232 Z Z Z<|have hS:=St.r j;have hZ:=Fz.r (S:=[]) (w0:=j);?_
 have hA0:N T j [U Y ac ao,U Y ab an,U Y aa am,U Y G al,U Y E ak,U Y D aj,U Y C ah,U Y B ag]:=V (O.q (ai Z) aU) (V (O.q (ai Z) aT) (V (O.q (ai Z) aS) (V (O.q (ai Z) aR) (V (O.q (ai Z) aP) (V (O.q (ai Z) aO) (V (O.q (ai Z) aM) (V (O.q (ai Z) aL) (N.nil))))))))
 have hA:=hA0.all
 have hP:=hA0.off Z
 unfold F.Ve at h
 let m1c2:=fun (bh:L8) (bi:L8)=>mkM 8 [(5,[],[],[],[]),(7,[],[],[5],[])] [5,7] [5,7] [] [] [(5,fun h v x y=>∃ap:Value,v=ap/\x=[]/\y=[U Y ap bh]),(7,fun h v x y=>∃aG:Value,v=aG/\x=[W Y aG bi]/\y=[])] []
 let m2c2:=fun (bj:L8) (bl:L8)=>mkM 9 [(7,[],[],[],[]),(8,[],[],[7],[])] [7,8] [7,8] [] [] [(7,fun h v x y=>∃J:Value,v=J/\x=[]/\y=[U Y J bj]),(8,fun h v x y=>∃au:Value,v=au/\x=[]/\y=[U Y au bl])] []
 let m3c3:=fun (bm:L8) (bn:L8) (bo:L8)=>mkM 10 [(8,[],[],[],[]),(9,[],[],[8],[]),(11,[],[],[9],[])] [8,9,11] [8,9,11] [] [] [(8,fun h v x y=>∃av:Value,v=av/\x=[]/\y=[U Y av bm]),(9,fun h v x y=>∃aw:Value,v=aw/\x=[]/\y=[U Y aw bn]),(11,fun h v x y=>∃aJ:Value,v=aJ/\x=[W Y aJ bo]/\y=[])] []
 let m4c4:=fun (bp:L8) (aW:L8) (ba:L8) (bb:L8)=>mkM 18 [(5,[],[],[],[]),(7,[],[],[5],[]),(11,[],[],[],[]),(12,[],[7,11],[],[])] [5,7,11,12] [5,12] [] [] [(5,fun h v x y=>∃ax:Value,v=ax/\x=[]/\y=[U Y ax bp]),(7,fun h v x y=>∃ay:Value,v=ay/\x=[W Y ay aW]/\y=[]),(11,fun h v x y=>∃az:Value,v=az/\x=[W Y az ba]/\y=[]),(12,fun h v x y=>∃p:Value,v=p/\x=[W Y p bb]/\y=[])] []
 let m5c4:=fun (bc:L8) (bd:L8) (be:L8) (bf:L8)=>mkM 19 [(6,[],[],[],[]),(7,[],[6],[],[]),(11,[],[],[],[]),(12,[],[],[7,11],[])] [6,7,11,12] [7,11,12] [] [] [(6,fun h v x y=>∃aA:Value,v=aA/\x=[W Y aA bc]/\y=[]),(7,fun h v x y=>∃ad:Value,v=ad/\x=[]/\y=[U Y ad bd]),(11,fun h v x y=>∃ae:Value,v=ae/\x=[]/\y=[U Y ae be]),(12,fun h v x y=>∃u:Value,v=u/\x=[W Y u bf]/\y=[])] []
 let m6c2:=fun (bg:L8) (A:L8) (aK:Nat) (p:Value) (u:Value)=>mkM 20 [(9,[],[],[],[]),(10,[],[],[9],[]),(11,[10],[],[10],[]),(12,[10],[],[10],[])] [9,10,11,12] [9,10,11,12] [(12,[X aK [L02,L02,L02]])] [X aK [L02,L02,L02]] [(9,fun h v x y=>∃af:Value,v=af/\x=[]/\y=[U Y af bg]),(10,fun h v x y=>∃f:Value,v=f/\x=[]/\y=[U Y f A]),(11,fun h v x y=>∃f:Value,h=[(f,[],[U Y f A])]/\v=.agg #[p,u,f]/\x=[]/\y=[]),(12,fun h v x y=>∃f:Value,h=[(f,[],[U Y f A])]/\v=undef/\x=[X aK [p,u,f]]/\y=[U Y f A])] []
 exact wk
theorem rD {B:World} {p u a1:L8} {f j C:Value} {T:L01} (A:Int) {r:L8}
  (h:F.ZC p u A a1=some r) (hTT:TOk [] T B) (ad:O T B Y f p) (ae:O T B Y j u) (af:O T B Y C a1):Calls Tryz.prog 255 #[.agg #[f,j,R A],C] B (K fun v w=>∃u0:Value,v=u0/\St [] B w []/\N T w [U Y u0 r]):=by
 refine ca2 33 Tryz.func255 Z Z Z<|have hS:=St.r B;have hZ:=Fz.r (S:=[]) (w0:=B);?_
 have hA0:N T B [U Y C a1,U Y j u,U Y f p]:=V (O.q (ai Z) af) (V (O.q (ai Z) ae) (V (O.q (ai Z) ad) (N.nil)))
 have hA:=hA0.all
 have hP:=hA0.off Z
 unfold F.ZC at h
 let i1:=fun D E G=>mkI (F.abo p u A a1 G) (fun s L w=>∃ab,L=[(1,C),(2,Q D 0),(5,E),(6,ab),(7,R s.2)]/\SfT [] T B w [U Y j u,U Y f p,U Y ab s.1,U Y E G,U Y C a1] [X D [f,j,R A]])
 let z1:=fun D E aa G=>mkZ 6 (F.aaR aa) (fun g L w=>∃ac,L=[(1,C),(2,Q D 0),(5,E),(6,ac),(7,R aa)]/\SfT [] T B w [U Y j u,U Y f p,U Y ac g,U Y E G,U Y C a1] [X D [f,j,R A]]) [(2,Q D 0),(5,E),(7,R aa)] [X D [f,j,R A]] [U Y E G]
 exact wk
end Go.Proofs
