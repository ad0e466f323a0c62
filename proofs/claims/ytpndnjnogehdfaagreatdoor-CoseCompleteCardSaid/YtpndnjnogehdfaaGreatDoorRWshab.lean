import Derived.Test.YtpndnjnogehdfaaGreatDoorRW0
import Derived.Test.YtpndnjnogehdfaaGreatDoorRAw
import Derived.Test.YtpndnjnogehdfaaGreatDoorGkFman
import Derived.Test.YtpndnjnogehdfaaGreatDoorRWshaa
set_option linter.unusedVariables false
set_option linter.unusedSimpArgs false
set_option linter.unusedSectionVars false
set_option maxRecDepth 20000
set_option maxHeartbeats 20000000
namespace Go.Proofs
open Go Go.RowKit Go.Gk
open Go.Gk renaming RP -> N, Ret -> K, al -> O, e32 -> X, e8 -> H, own -> W, pB -> R, v64 -> M, vI -> U
open Go.Gk.OE renaming bx -> Y
theorem oT {G:World} {E:Nat} {S:Y4} (B:Int) (j:Y0) (p:List UInt64) (u:Y3) (f:UInt64) {r:Y3×Int×Y0×List UInt64×Y3×UInt64}
  (h:F.VQ B j p u f=some r) (hS:St S G G [Y E ([U B]++(X.fl j++(e64.fl p++(H.fl u++[M f]))))]) (hT:TB S G) (ai:j.length=8) (aj:p.length=8) (ak:u.length=128):Calls Tryz.prog 107 #[R E 0] G (K fun v w=>∃u0:Value,v=u0/\r.2.2.1.length=8/\r.2.2.2.1.length=8/\r.2.2.2.2.1.length=128/\St S G w [W H u0 r.1,Y E ([U r.2.1]++(X.fl r.2.2.1++(e64.fl r.2.2.2.1++(H.fl r.2.2.2.2.1++[M r.2.2.2.2.2]))))]):=by
 refine ca1 120 Tryz.func107 Z Z Z ?_
 unfold F.VQ at h
 let i1:=fun C ab=>mkI (F.VV f ab B j p u) (fun s L w=>∃ah,L=[(3,R C 0),(4,U ab),(5,M f),(6,U (wI (Int.tdiv ab 8))),(7,ah)]/\St S G w [Y C ([U B]++(X.fl j++(e64.fl p++(H.fl u++[M f])))),Y E ([U B]++(X.fl j++(e64.fl p++(H.fl u++[M f])))),W H ah s])
 let i2:=fun C=>mkI (F.SZ B j p u f) (fun s L w=>∃D,L=[(3,R C 0),(5,M f),(7,D),(8,U s.2)]/\St S G w [Y C ([U B]++(X.fl j++(e64.fl p++(H.fl u++[M f])))),Y E ([U B]++(X.fl j++(e64.fl p++(H.fl u++[M f])))),W H D s.1])
 let i3:=fun (A:Int×Y0×List UInt64×Y3×UInt64)=>mkI (F.UF B j p u f A) (fun s L w=>∃ac,L=[(10,ac),(75,.agg (X.fl A.2.1).toArray),(76,U s.2)]/\St S G w [Y E ([U B]++(X.fl j++(e64.fl p++(H.fl u++[M f])))),W H ac s.1])
 let i4:=fun C (A:Int×Y0×List UInt64×Y3×UInt64)=>mkI (F.S4 B j p u f A) (fun s L w=>∃ad,L=[(3,R C 0),(10,ad),(96,.agg (e64.fl A.2.2.1).toArray),(97,U s.2)]/\St S G w [Y C ([U A.1]++(X.fl A.2.1++(e64.fl A.2.2.1++(H.fl A.2.2.2.1++[M A.2.2.2.2])))),Y E ([U B]++(X.fl j++(e64.fl p++(H.fl u++[M f])))),W H ad s.1])
 let i5:=fun C (A:Int×Y0×List UInt64×Y3×UInt64) ae af=>mkI (F.VI ae af) (fun s L w=>∃ag,L=[(3,R C 0),(10,ag),(14,M af),(15,U s.2),(96,.agg (e64.fl A.2.2.1).toArray),(97,U ae)]/\St S G w [Y C ([U A.1]++(X.fl A.2.1++(e64.fl A.2.2.1++(H.fl A.2.2.2.1++[M A.2.2.2.2])))),Y E ([U B]++(X.fl j++(e64.fl p++(H.fl u++[M f])))),W H ag s.1])
 let j1:=fun C D T aa=>mkJ 16 (F.TX T aa) (fun g L w=>L=[(3,R C 0),(5,M f),(7,D),(8,U aa),(9,v8 g)]/\St S G w [Y C ([U B]++(X.fl j++(e64.fl p++(H.fl u++[M f])))),Y E ([U B]++(X.fl j++(e64.fl p++(H.fl u++[M f])))),W H D T]) [(3,R C 0),(7,D),(8,U aa)] [Y C ([U B]++(X.fl j++(e64.fl p++(H.fl u++[M f])))),W H D T]
 exact wk
theorem GE {t:World} {a1:List Y3} {o:Value} {s1:List SV} (a0:Int) {r:Y3}
  (h:F.TR a0 a1=some r) (hT:TB [] t) (B:N [] t eV o s1) (hl1:jo [] t H s1 a1):Calls Tryz.prog 64 #[U a0,o] t (K fun v w=>St [] t w [W H v r]):=by
 refine eZ 24 Tryz.func64 Z Z Z<|have a:=St.q t;gl [(0,U a0),(1,o)] Z ?_
 unfold F.TR at h
 refine gl4<|O 1 Z<|gl2<|O 1 Z<|bZ h fun aj ae h=>kx Z (xx a0 ae (hT.now a.fr)) Z ?_
 rintro _ w ⟨az,rfl,c,af,b⟩
 cases d:aj with
 | none=>
  have h:=pL h d
  rw[d]at c b
  simp only[ij,rO]at c
  subst c
  simp only[ij,oH,bJ]at b
  have a:=a.call b
  refine O 1 Z<|gl1<|gl4<|O 1 Z<|aT (bE Z Z (GK Tryz.underlying189)) Z<|gl3<|ja Z<|gl4<|O 1 Z<|gl8 ?_
  cases h
  exact gC Z Z ((a.nil H).f [0] Z Z)
 | some g=>
  have h:=p8 h d
  rw[d]at c b
  simp only[bQ,rO]at c
  obtain⟨i,rfl⟩:=c
  simp only[bQ,oH,gy,di,bJ]at b
  have a:=a.call b
  obtain⟨ag,ah,D⟩:=af g d
  refine O 1 Z<|gl1<|gl4<|O 1 Z<|aT (bE Z Z (FE Tryz.underlying189 i 0)) Z<|gl3<|rE Z<|gl5<|cb<|gl4<|O 1 Z<|aT (JC Tryz.underlying188 Z (B.now a.fr) hl1.len) Z<|O 1 Z<|gl3<|cx<|gl [(5,R i 0),(12,o),(13,U (a1.length:Int)),(14,U 0)] Z ?_
  refine ji (F.SF a1) (fun (s:Int×Int×Y0×List UInt64×Y3×UInt64) L w=>L=[(5,R i 0),(12,o),(13,U (a1.length:Int)),(14,U s.1)]/\s.2.2.1.length=8/\s.2.2.2.1.length=8/\s.2.2.2.2.1.length=128/\St [] t w [Y i ([U s.2.1]++(X.fl s.2.2.1++(e64.fl s.2.2.2.1++(H.fl s.2.2.2.2.1++[M s.2.2.2.2.2]))))]) ?_ (0,g.1,g.2.1,g.2.2.1,g.2.2.2.1,g.2.2.2.2) ⟨Z,ag,ah,D,a⟩ h
  rintro au ⟨ai,j,k,l,m,n⟩ L w av hI E h u
  try dsimp only at hI
  obtain⟨rfl,x,y,z,a⟩:=hI
  unfold F.SF at h
  refine gl4<|O 1 Z<|gl1 ?_
  apply gl9 Z h<;>intro h
  ·refine gl5<|cb<|cx<|gl4<|bZ h fun aw G h=>?_
   obtain⟨am,p,A⟩:=hl1.get G
   refine aT (kP Tryz.underlying188 MB Z Z (B.now a.fr) p) Z<|aT (kW u22 Z Z (B.now a.fr) p Z) Z<|O 1 Z<|gl3<|bC<|O 2 Z<|have q:=a.pick (os':=[Y i ([U j]++(X.fl k++(e64.fl l++(H.fl m++[M n]))))]++[]) [0] (by decide) Z;bZ h fun f S h=>kx Z (nK j k l m n S q.give (hT.give q) x y z (A.give (an Z) q)) Z ?_
   rintro _ w ⟨rfl,T,aa,ab,b⟩
   have a:=q.j b
   exact c6<|ef<|bp<|bC<|O 2 Z<|c6<|gZ (ko (E (wI (ai+1),f.1,f.2.1,f.2.2.1,f.2.2.2.1,f.2.2.2.2) _ _ ⟨Z,T,aa,ab,a⟩ (ia h u)) Z)
  refine eE<|bu<|bu<|have h:=fV h u;eF<|bp<|gl4<|O 1 Z<|have q:=a.pick (os':=[Y i ([U j]++(X.fl k++(e64.fl l++(H.fl m++[M n]))))]++[]) [0] (by decide) Z;bZ h fun ax ac h=>kx Z (oT j k l m n ac q.give (hT.give q) x y z) Z ?_
  rintro ay w ⟨ao,C,ap,aq,ar,b⟩
  rw[<-C]at b
  have a:=q.j b
  refine O 1 Z<|gl3<|f5 ?_
  cases h
  exact gC Z Z (a.f [0] Z Z)
end Go.Proofs
