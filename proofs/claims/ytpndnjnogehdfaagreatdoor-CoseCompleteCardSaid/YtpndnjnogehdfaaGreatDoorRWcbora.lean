import Derived.Test.YtpndnjnogehdfaaGreatDoorRW0
import Derived.Test.YtpndnjnogehdfaaGreatDoorRAw
import Derived.Test.YtpndnjnogehdfaaGreatDoorGkFman
import Derived.Test.YtpndnjnogehdfaaGreatDoorRWlib
set_option linter.unusedVariables false
set_option linter.unusedSimpArgs false
set_option linter.unusedSectionVars false
set_option maxRecDepth 20000
set_option maxHeartbeats 20000000
namespace Go.Proofs
open Go Go.RowKit Go.Gk
open Go.Gk renaming RP -> N, Ret -> K, e8 -> H, eP -> J, own -> W, pB -> R, v64 -> M, vB -> V, vI -> U
open Go.Gk.OE renaming bx -> Y
theorem rT {f:World} (a0:UInt64) {r:Int}
  (h:F.V0 a0=some r) :Calls Tryz.prog 90 #[M a0] f (K fun v w=>v=U r/\St [] f w []):=by
 refine ca1 15 Tryz.func90 Z Z Z<|have hS:=St.q f;?_
 unfold F.V0 at h
 exact wk
theorem pF {E:World} {G:Y3} {A:List (Int×UInt64×Y3×Int)} {B:List (Int×Int×UInt64×Bool×Int×Option (Nat×Nat))} {f p u:Value} {C:Nat} {S:Y4} (j:Int) {r:Int×UInt64×Option (Int×Int)×Int×List (Int×UInt64×Y3×Int)×List (Int×Int×UInt64×Bool×Int×Option (Nat×Nat))}
  (h:F.Vk G j A B=some r) (hS:St S E E [Y C [f,U j,p,u],W (J eI (J e64 (J eS eI))) p A,W (J eI (J eI (J e64 (J eB (J eI (eW f)))))) u B]) (ae:N S E H f G):Calls Tryz.prog 92 #[R C 0] E (K fun v w=>∃u2 aa ab:Value,v=.tuple #[U r.1,M r.2.1,u2]/\rO u2 (r.2.2.1.map (fun c=>[U c.1,U c.2]))/\St S E w (oH u2 (r.2.2.1.map (fun c=>[U c.1,U c.2]))++[Y C [f,U r.2.2.2.1,aa,ab],W (J eI (J e64 (J eS eI))) aa r.2.2.2.2.1,W (J eI (J eI (J e64 (J eB (J eI (eW f)))))) ab r.2.2.2.2.2])):=by
 refine ca1 132 Tryz.func92 Z Z Z ?_
 unfold F.Vk at h
 let i1:=fun T (ac:Y3) D=>mkI (F.S1 j A B D T ac) (fun s L w=>L=[(0,R C 0),(2,U D),(3,M s.1),(5,U j),(8,U T),(103,eWv f (some ((wI (j+1):Int).toNat,(wI ((wI (j+1))+T):Int).toNat))),(104,U (ac.length:Int)),(105,U s.2)]/\St S E w [Y C [f,U (wI (j+1)),p,u],W (J eI (J e64 (J eS eI))) p A,W (J eI (J eI (J e64 (J eB (J eI (eW f)))))) u B])
 let j1:=fun D ad=>mkJ 8 (F.Sq G j A B D ad) (fun g L w=>L=[(0,R C 0),(2,U D),(3,M 0),(5,U j),(7,U ad),(51,V g)]/\St S E w [Y C [f,U j,p,u],W (J eI (J e64 (J eS eI))) p A,W (J eI (J eI (J e64 (J eB (J eI (eW f)))))) u B]) [(2,U D),(7,U ad)] []
 have e0:=trivial
 exact wk
theorem q9 {D:World} {E:Y3} {G:List (Int×UInt64×Y3×Int)} {A:List (Int×Int×UInt64×Bool×Int×Option (Nat×Nat))} {f j p:Value} {C:Nat} {S:Y4} (u:Int) {r:Option (Int×Int)×Int×List (Int×UInt64×Y3×Int)×List (Int×Int×UInt64×Bool×Int×Option (Nat×Nat))}
  (h:F.Rr E u G A=some r) (hS:St S D D [Y C [f,U u,j,p],W (J eI (J e64 (J eS eI))) j G,W (J eI (J eI (J e64 (J eB (J eI (eW f)))))) p A]) (ac:N S D H f E):Calls Tryz.prog 49 #[R C 0] D (K fun v w=>∃u0 T aa:Value,v=u0/\rO u0 (r.1.map (fun c=>[U c.1,U c.2]))/\St S D w (oH u0 (r.1.map (fun c=>[U c.1,U c.2]))++[Y C [f,U r.2.1,T,aa],W (J eI (J e64 (J eS eI))) T r.2.2.1,W (J eI (J eI (J e64 (J eB (J eI (eW f)))))) aa r.2.2.2])):=by
 refine ca1 111 Tryz.func49 Z Z Z ?_
 unfold F.Rr at h
 let j1:=fun B=>mkJ 15 (F.SY u B) (fun (g:(List (Int×Int×UInt64×Bool×Int×Option (Nat×Nat)))) L w=>L=[]/\St S D w [Y C [f,U u,j,p],W (J eI (J e64 (J eS eI))) j B,W (J eI (J eI (J e64 (J eB (J eI (eW f)))))) p g]) [] [W (J eI (J e64 (J eS eI))) j B]
 let j2:=fun (ab:(Int×Int×UInt64×Bool×Int×Option (Nat×Nat))) B=>mkJ 8 (F.T0 u A ab B) (fun g L w=>L=[(3,pP (ixA p (J eI (J eI (J e64 (J eB (J eI (eW f)))))).sz (wI ((A.length:Int) - 1)).toNat)),(4,eWv f (some ((ab.2.2.2.2.1:Int).toNat,(u:Int).toNat))),(62,V g)]/\St S D w [Y C [f,U u,j,p],W (J eI (J eI (J e64 (J eB (J eI (eW f)))))) p A,W (J eI (J e64 (J eS eI))) j B]) [(4,eWv f (some ((ab.2.2.2.2.1:Int).toNat,(u:Int).toNat)))] [W (J eI (J e64 (J eS eI))) j B]
 have e0:=trivial
 exact wk
theorem rP {E:World} {D:Y3} {ac:List (Int×UInt64×Y3×Int)} {ad:List (Int×Int×UInt64×Bool×Int×Option (Nat×Nat))} {j aa ab:Value} {B:Nat} {S:Y4} (C:Int) {r:Option (Int×Int)×Int×List (Int×UInt64×Y3×Int)×List (Int×Int×UInt64×Bool×Int×Option (Nat×Nat))}
  (h:F.Xq D C ac ad=some r) (hS:St S E E [Y B [j,U C,aa,ab],W (J eI (J e64 (J eS eI))) aa ac,W (J eI (J eI (J e64 (J eB (J eI (eW j)))))) ab ad]) (hT:TB S E) (ag:N S E H j D):Calls Tryz.prog 48 #[R B 0] E (K fun v w=>∃u0 ae af:Value,v=u0/\rO u0 (r.1.map (fun c=>[U c.1,U c.2]))/\St S E w (oH u0 (r.1.map (fun c=>[U c.1,U c.2]))++[Y B [j,U r.2.1,ae,af],W (J eI (J e64 (J eS eI))) ae r.2.2.1,W (J eI (J eI (J e64 (J eB (J eI (eW j)))))) af r.2.2.2])):=by
 refine ca1 150 Tryz.func48 Z Z Z ?_
 unfold F.Xq at h
 let j1:=fun p u A (f:Int×UInt64×Option (Int×Int)×Int×List (Int×UInt64×Y3×Int)×List (Int×Int×UInt64×Bool×Int×Option (Nat×Nat)))=>mkJ 28 (F.Ur D f) (fun g L w=>L=[(0,R B 0),(7,R p 0)]/\St S E w [Y B [j,U g.1,u,A],Y p [U f.1,M g.2.1,vS g.2.2,U 0],W (J eI (J e64 (J eS eI))) u f.2.2.2.2.1,W (J eI (J eI (J e64 (J eB (J eI (eW j)))))) A f.2.2.2.2.2]) [(7,R p 0)] [W (J eI (J e64 (J eS eI))) u f.2.2.2.2.1,W (J eI (J eI (J e64 (J eB (J eI (eW j)))))) A f.2.2.2.2.2]
 let j2:=fun p u A (f:Int×UInt64×Option (Int×Int)×Int×List (Int×UInt64×Y3×Int)×List (Int×Int×UInt64×Bool×Int×Option (Nat×Nat)))=>mkJ 19 (F.Rw f D C) (fun g L w=>L=[(0,R B 0),(3,U C),(4,U f.1),(5,M f.2.1),(7,R p 0),(24,U f.1),(71,V g)]/\St S E w [Y B [j,U f.2.2.2.1,u,A],Y p [U f.1,M 0,vS [],U 0],W (J eI (J e64 (J eS eI))) u f.2.2.2.2.1,W (J eI (J eI (J e64 (J eB (J eI (eW j)))))) A f.2.2.2.2.2]) [(4,U f.1),(5,M f.2.1),(7,R p 0),(24,U f.1)] [Y B [j,U f.2.2.2.1,u,A],Y p [U f.1,M 0,vS [],U 0],W (J eI (J e64 (J eS eI))) u f.2.2.2.2.1,W (J eI (J eI (J e64 (J eB (J eI (eW j)))))) A f.2.2.2.2.2]
 let j3:=fun p u A (f:Int×UInt64×Option (Int×Int)×Int×List (Int×UInt64×Y3×Int)×List (Int×Int×UInt64×Bool×Int×Option (Nat×Nat)))=>mkJ 22 (F.R3 D C f) (fun g L w=>L=[(0,R B 0),(3,U C),(4,U f.1),(5,M f.2.1),(7,R p 0),(77,V g)]/\St S E w [Y B [j,U f.2.2.2.1,u,A],Y p [U f.1,M 0,vS [],U 0],W (J eI (J e64 (J eS eI))) u f.2.2.2.2.1,W (J eI (J eI (J e64 (J eB (J eI (eW j)))))) A f.2.2.2.2.2]) [(4,U f.1),(5,M f.2.1),(7,R p 0)] [Y B [j,U f.2.2.2.1,u,A],Y p [U f.1,M 0,vS [],U 0],W (J eI (J e64 (J eS eI))) u f.2.2.2.2.1,W (J eI (J eI (J e64 (J eB (J eI (eW j)))))) A f.2.2.2.2.2]
 let j4:=fun p u A G (f:Int×UInt64×Option (Int×Int)×Int×List (Int×UInt64×Y3×Int)×List (Int×Int×UInt64×Bool×Int×Option (Nat×Nat)))=>mkJ 27 (F.Ui C f G D) (fun g L w=>L=[(0,R B 0),(3,U C),(7,R p 0),(134,V g)]/\St S E w [Y B [j,U (wI (f.2.2.2.1+(wI (f.2.1.toNat:Int)))),u,A],Y p [U f.1,M 0,vS G,U 0],W (J eI (J e64 (J eS eI))) u f.2.2.2.2.1,W (J eI (J eI (J e64 (J eB (J eI (eW j)))))) A f.2.2.2.2.2]) [(7,R p 0)] [Y B [j,U (wI (f.2.2.2.1+(wI (f.2.1.toNat:Int)))),u,A],Y p [U f.1,M 0,vS G,U 0],W (J eI (J e64 (J eS eI))) u f.2.2.2.2.1,W (J eI (J eI (J e64 (J eB (J eI (eW j)))))) A f.2.2.2.2.2]
 let j5:=fun p T u A (f:Int×UInt64×Option (Int×Int)×Int×List (Int×UInt64×Y3×Int)×List (Int×Int×UInt64×Bool×Int×Option (Nat×Nat)))=>mkJ 13 (F.T9 f) (fun g L w=>L=[(0,R B 0),(7,R p 0),(8,R T 0)]/\St S E w [Y B [j,U f.2.2.2.1,u,A],Y p [U f.1,M g.1,vS [],U 0],Y T [U (f.2.2.2.2.1.length:Int),U f.1,M g.2,V false,U f.2.2.2.1,Y5],W (J eI (J e64 (J eS eI))) u f.2.2.2.2.1,W (J eI (J eI (J e64 (J eB (J eI (eW j)))))) A f.2.2.2.2.2]) [(7,R p 0),(8,R T 0)] [Y B [j,U f.2.2.2.1,u,A],W (J eI (J e64 (J eS eI))) u f.2.2.2.2.1,W (J eI (J eI (J e64 (J eB (J eI (eW j)))))) A f.2.2.2.2.2]
 have cf:Cf 4:=trivial
 have e0:=trivial
 exact wk
theorem rn {p:World} {a0:Y3} {f:Value} {r:List (Int×UInt64×Y3×Int)×Int×Int}
  (h:F.RL a0=some r) (hT:TB [] p) (D:N [] p H f a0):Calls Tryz.prog 19 #[f] p (K fun v w=>∃u0:Value,v=.tuple #[u0,U r.2.1,U r.2.2]/\St [] p w [W (J eI (J e64 (J eS eI))) u0 r.1]):=by
 refine ca1 95 Tryz.func19 Z Z Z<|have hS:=St.q p;?_
 unfold F.RL at h
 let i1:=fun j=>mkI (F.RF a0) (fun (s:Int×(List (Int×UInt64×Y3×Int))×(List (Int×Int×UInt64×Bool×Int×Option (Nat×Nat)))) L w=>∃B C,L=[(0,f),(5,R j 0)]/\St [] p w [Y j [f,U s.1,B,C],W (J eI (J e64 (J eS eI))) B s.2.1,W (J eI (J eI (J e64 (J eB (J eI (eW f)))))) C s.2.2])
 let i2:=fun j=>mkI (F.QV a0) (fun (s:Int×(List (Int×UInt64×Y3×Int))×(List (Int×Int×UInt64×Bool×Int×Option (Nat×Nat)))) L w=>∃u A,L=[(0,f),(5,R j 0)]/\St [] p w [Y j [f,U s.1,u,A],W (J eI (J e64 (J eS eI))) u s.2.1,W (J eI (J eI (J e64 (J eB (J eI (eW f)))))) A s.2.2])
 exact wk
end Go.Proofs
