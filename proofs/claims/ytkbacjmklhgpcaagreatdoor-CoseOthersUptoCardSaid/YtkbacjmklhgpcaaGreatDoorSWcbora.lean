import Derived.Test.YtkbacjmklhgpcaaGreatDoorSW0
import Derived.Test.YtkbacjmklhgpcaaGreatDoorSAw
import Derived.Test.YtkbacjmklhgpcaaGreatDoorQGkFman
import Derived.Test.YtkbacjmklhgpcaaGreatDoorSWlib
set_option linter.unusedVariables false
set_option linter.unusedSimpArgs false
set_option linter.unusedSectionVars false
set_option maxRecDepth 20000
set_option maxHeartbeats 20000000
namespace Go.Proofs
open Go Go.RowKit Go.Gk
open Go.Gk renaming RP -> O, Ret -> N, e64 -> H, e8 -> K, eP -> I, own -> W, pB -> Q, v64 -> M, vB -> U, vI -> V
open Go.Gk.OE renaming bx -> Y
theorem sH {f:World} (a0:UInt64) {r:Int}
  (h:F.Y4 a0=some r) :Calls Tryz.prog 88 #[M a0] f (N fun v w=>v=V r/\St [] f w []):=by
 refine ca1 15 Tryz.func88 Z Z Z<|have hS:=St.r f;?_
 unfold F.Y4 at h
 exact wk
theorem pY {E:World} {G:L01} {A:List (Int×UInt64×L01×Int)} {B:List (Int×Int×UInt64×Bool×Int×Option (Nat×Nat))} {f p u:Value} {C:Nat} {S:L02} (j:Int) {r:Int×UInt64×Option (Int×Int)×Int×List (Int×UInt64×L01×Int)×List (Int×Int×UInt64×Bool×Int×Option (Nat×Nat))}
  (h:F.X9 G j A B=some r) (hS:St S E E [Y C [f,V j,p,u],W (I eI (I H (I eS eI))) p A,W (I eI (I eI (I H (I eB (I eI (eW f)))))) u B]) (ae:O S E K f G):Calls Tryz.prog 85 #[Q C 0] E (N fun v w=>∃u2 aa ab:Value,v=.tuple #[V r.1,M r.2.1,u2]/\sA u2 (r.2.2.1.map (fun c=>[V c.1,V c.2]))/\St S E w (o7 u2 (r.2.2.1.map (fun c=>[V c.1,V c.2]))++[Y C [f,V r.2.2.2.1,aa,ab],W (I eI (I H (I eS eI))) aa r.2.2.2.2.1,W (I eI (I eI (I H (I eB (I eI (eW f)))))) ab r.2.2.2.2.2])):=by
 refine ca1 132 Tryz.func85 Z Z Z ?_
 unfold F.X9 at h
 let i1:=fun T (ac:L01) D=>mkI (F.Vu j A B D T ac) (fun s L w=>L=[(0,Q C 0),(2,V D),(3,M s.1),(5,V j),(8,V T),(103,eWv f (some ((wI (j+1):Int).toNat,(wI ((wI (j+1))+T):Int).toNat))),(104,V (ac.length:Int)),(105,V s.2)]/\St S E w [Y C [f,V (wI (j+1)),p,u],W (I eI (I H (I eS eI))) p A,W (I eI (I eI (I H (I eB (I eI (eW f)))))) u B])
 let j1:=fun D ad=>mkJ 8 (F.UY G j A B D ad) (fun g L w=>L=[(0,Q C 0),(2,V D),(3,M 0),(5,V j),(7,V ad),(51,U g)]/\St S E w [Y C [f,V j,p,u],W (I eI (I H (I eS eI))) p A,W (I eI (I eI (I H (I eB (I eI (eW f)))))) u B]) [(2,V D),(7,V ad)] []
 have e0:=trivial
 exact wk
theorem rJ {D:World} {E:L01} {G:List (Int×UInt64×L01×Int)} {A:List (Int×Int×UInt64×Bool×Int×Option (Nat×Nat))} {f j p:Value} {C:Nat} {S:L02} (u:Int) {r:Option (Int×Int)×Int×List (Int×UInt64×L01×Int)×List (Int×Int×UInt64×Bool×Int×Option (Nat×Nat))}
  (h:F.T1 E u G A=some r) (hS:St S D D [Y C [f,V u,j,p],W (I eI (I H (I eS eI))) j G,W (I eI (I eI (I H (I eB (I eI (eW f)))))) p A]) (ac:O S D K f E):Calls Tryz.prog 38 #[Q C 0] D (N fun v w=>∃u0 T aa:Value,v=u0/\sA u0 (r.1.map (fun c=>[V c.1,V c.2]))/\St S D w (o7 u0 (r.1.map (fun c=>[V c.1,V c.2]))++[Y C [f,V r.2.1,T,aa],W (I eI (I H (I eS eI))) T r.2.2.1,W (I eI (I eI (I H (I eB (I eI (eW f)))))) aa r.2.2.2])):=by
 refine ca1 111 Tryz.func38 Z Z Z ?_
 unfold F.T1 at h
 let j1:=fun B=>mkJ 15 (F.Vn u B) (fun (g:(List (Int×Int×UInt64×Bool×Int×Option (Nat×Nat)))) L w=>L=[]/\St S D w [Y C [f,V u,j,p],W (I eI (I H (I eS eI))) j B,W (I eI (I eI (I H (I eB (I eI (eW f)))))) p g]) [] [W (I eI (I H (I eS eI))) j B]
 let j2:=fun (ab:(Int×Int×UInt64×Bool×Int×Option (Nat×Nat))) B=>mkJ 8 (F.WG u A ab B) (fun g L w=>L=[(3,pP (ixA p (I eI (I eI (I H (I eB (I eI (eW f)))))).sz (wI ((A.length:Int) - 1)).toNat)),(4,eWv f (some ((ab.2.2.2.2.1:Int).toNat,(u:Int).toNat))),(62,U g)]/\St S D w [Y C [f,V u,j,p],W (I eI (I eI (I H (I eB (I eI (eW f)))))) p A,W (I eI (I H (I eS eI))) j B]) [(4,eWv f (some ((ab.2.2.2.2.1:Int).toNat,(u:Int).toNat)))] [W (I eI (I H (I eS eI))) j B]
 have e0:=trivial
 exact wk
theorem sB {E:World} {D:L01} {ac:List (Int×UInt64×L01×Int)} {ad:List (Int×Int×UInt64×Bool×Int×Option (Nat×Nat))} {j aa ab:Value} {B:Nat} {S:L02} (C:Int) {r:Option (Int×Int)×Int×List (Int×UInt64×L01×Int)×List (Int×Int×UInt64×Bool×Int×Option (Nat×Nat))}
  (h:F.aaC D C ac ad=some r) (hS:St S E E [Y B [j,V C,aa,ab],W (I eI (I H (I eS eI))) aa ac,W (I eI (I eI (I H (I eB (I eI (eW j)))))) ab ad]) (hT:TB S E) (ag:O S E K j D):Calls Tryz.prog 37 #[Q B 0] E (N fun v w=>∃u0 ae af:Value,v=u0/\sA u0 (r.1.map (fun c=>[V c.1,V c.2]))/\St S E w (o7 u0 (r.1.map (fun c=>[V c.1,V c.2]))++[Y B [j,V r.2.1,ae,af],W (I eI (I H (I eS eI))) ae r.2.2.1,W (I eI (I eI (I H (I eB (I eI (eW j)))))) af r.2.2.2])):=by
 refine ca1 150 Tryz.func37 Z Z Z ?_
 unfold F.aaC at h
 let j1:=fun p u A (f:Int×UInt64×Option (Int×Int)×Int×List (Int×UInt64×L01×Int)×List (Int×Int×UInt64×Bool×Int×Option (Nat×Nat)))=>mkJ 28 (F.W5 D f) (fun g L w=>L=[(0,Q B 0),(7,Q p 0)]/\St S E w [Y B [j,V g.1,u,A],Y p [V f.1,M g.2.1,vS g.2.2,V 0],W (I eI (I H (I eS eI))) u f.2.2.2.2.1,W (I eI (I eI (I H (I eB (I eI (eW j)))))) A f.2.2.2.2.2]) [(7,Q p 0)] [W (I eI (I H (I eS eI))) u f.2.2.2.2.1,W (I eI (I eI (I H (I eB (I eI (eW j)))))) A f.2.2.2.2.2]
 let j2:=fun p u A (f:Int×UInt64×Option (Int×Int)×Int×List (Int×UInt64×L01×Int)×List (Int×Int×UInt64×Bool×Int×Option (Nat×Nat)))=>mkJ 19 (F.T6 f D C) (fun g L w=>L=[(0,Q B 0),(3,V C),(4,V f.1),(5,M f.2.1),(7,Q p 0),(24,V f.1),(71,U g)]/\St S E w [Y B [j,V f.2.2.2.1,u,A],Y p [V f.1,M 0,vS [],V 0],W (I eI (I H (I eS eI))) u f.2.2.2.2.1,W (I eI (I eI (I H (I eB (I eI (eW j)))))) A f.2.2.2.2.2]) [(4,V f.1),(5,M f.2.1),(7,Q p 0),(24,V f.1)] [Y B [j,V f.2.2.2.1,u,A],Y p [V f.1,M 0,vS [],V 0],W (I eI (I H (I eS eI))) u f.2.2.2.2.1,W (I eI (I eI (I H (I eB (I eI (eW j)))))) A f.2.2.2.2.2]
 let j3:=fun p u A (f:Int×UInt64×Option (Int×Int)×Int×List (Int×UInt64×L01×Int)×List (Int×Int×UInt64×Bool×Int×Option (Nat×Nat)))=>mkJ 22 (F.UH D C f) (fun g L w=>L=[(0,Q B 0),(3,V C),(4,V f.1),(5,M f.2.1),(7,Q p 0),(77,U g)]/\St S E w [Y B [j,V f.2.2.2.1,u,A],Y p [V f.1,M 0,vS [],V 0],W (I eI (I H (I eS eI))) u f.2.2.2.2.1,W (I eI (I eI (I H (I eB (I eI (eW j)))))) A f.2.2.2.2.2]) [(4,V f.1),(5,M f.2.1),(7,Q p 0)] [Y B [j,V f.2.2.2.1,u,A],Y p [V f.1,M 0,vS [],V 0],W (I eI (I H (I eS eI))) u f.2.2.2.2.1,W (I eI (I eI (I H (I eB (I eI (eW j)))))) A f.2.2.2.2.2]
 let j4:=fun p u A G (f:Int×UInt64×Option (Int×Int)×Int×List (Int×UInt64×L01×Int)×List (Int×Int×UInt64×Bool×Int×Option (Nat×Nat)))=>mkJ 27 (F.WV C f G D) (fun g L w=>L=[(0,Q B 0),(3,V C),(7,Q p 0),(134,U g)]/\St S E w [Y B [j,V (wI (f.2.2.2.1+(wI (f.2.1.toNat:Int)))),u,A],Y p [V f.1,M 0,vS G,V 0],W (I eI (I H (I eS eI))) u f.2.2.2.2.1,W (I eI (I eI (I H (I eB (I eI (eW j)))))) A f.2.2.2.2.2]) [(7,Q p 0)] [Y B [j,V (wI (f.2.2.2.1+(wI (f.2.1.toNat:Int)))),u,A],Y p [V f.1,M 0,vS G,V 0],W (I eI (I H (I eS eI))) u f.2.2.2.2.1,W (I eI (I eI (I H (I eB (I eI (eW j)))))) A f.2.2.2.2.2]
 let j5:=fun p T u A (f:Int×UInt64×Option (Int×Int)×Int×List (Int×UInt64×L01×Int)×List (Int×Int×UInt64×Bool×Int×Option (Nat×Nat)))=>mkJ 13 (F.WL f) (fun g L w=>L=[(0,Q B 0),(7,Q p 0),(8,Q T 0)]/\St S E w [Y B [j,V f.2.2.2.1,u,A],Y p [V f.1,M g.1,vS [],V 0],Y T [V (f.2.2.2.2.1.length:Int),V f.1,M g.2,U false,V f.2.2.2.1,L03],W (I eI (I H (I eS eI))) u f.2.2.2.2.1,W (I eI (I eI (I H (I eB (I eI (eW j)))))) A f.2.2.2.2.2]) [(7,Q p 0),(8,Q T 0)] [Y B [j,V f.2.2.2.1,u,A],W (I eI (I H (I eS eI))) u f.2.2.2.2.1,W (I eI (I eI (I H (I eB (I eI (eW j)))))) A f.2.2.2.2.2]
 have cf:Cf 4:=trivial
 have e0:=trivial
 exact wk
theorem rS {p:World} {a0:L01} {f:Value} {r:List (Int×UInt64×L01×Int)×Int×Int}
  (h:F.T9 a0=some r) (hT:TB [] p) (D:O [] p K f a0):Calls Tryz.prog 18 #[f] p (N fun v w=>∃u0:Value,v=.tuple #[u0,V r.2.1,V r.2.2]/\St [] p w [W (I eI (I H (I eS eI))) u0 r.1]):=by
 refine ca1 95 Tryz.func18 Z Z Z<|have hS:=St.r p;?_
 unfold F.T9 at h
 let i1:=fun j=>mkI (F.Uc a0) (fun (s:Int×(List (Int×UInt64×L01×Int))×(List (Int×Int×UInt64×Bool×Int×Option (Nat×Nat)))) L w=>∃B C,L=[(0,f),(5,Q j 0)]/\St [] p w [Y j [f,V s.1,B,C],W (I eI (I H (I eS eI))) B s.2.1,W (I eI (I eI (I H (I eB (I eI (eW f)))))) C s.2.2])
 let i2:=fun j=>mkI (F.Tc a0) (fun (s:Int×(List (Int×UInt64×L01×Int))×(List (Int×Int×UInt64×Bool×Int×Option (Nat×Nat)))) L w=>∃u A,L=[(0,f),(5,Q j 0)]/\St [] p w [Y j [f,V s.1,u,A],W (I eI (I H (I eS eI))) u s.2.1,W (I eI (I eI (I H (I eB (I eI (eW f)))))) A s.2.2])
 exact wk
end Go.Proofs
