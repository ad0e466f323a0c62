import Derived.Test.YtkbacjmklhgpcaaGreatDoorSW0
import Derived.Test.YtkbacjmklhgpcaaGreatDoorSAw
import Derived.Test.YtkbacjmklhgpcaaGreatDoorQGkFman
import Derived.Test.YtkbacjmklhgpcaaGreatDoorSWshaa
set_option linter.unusedVariables false
set_option linter.unusedSimpArgs false
set_option linter.unusedSectionVars false
set_option maxRecDepth 20000
set_option maxHeartbeats 20000000
namespace Go.Proofs
open Go Go.RowKit Go.Gk
open Go.Gk renaming RP -> O, Ret -> N, ar -> J, e32 -> X, e64 -> H, e8 -> K, own -> W, pB -> Q, v64 -> M, vI -> V
open Go.Gk.OE renaming bx -> Y
theorem pj {G:World} {E:Nat} {S:L02} (B:Int) (j:L00) (p:List UInt64) (u:L01) (f:UInt64) {r:L01×Int×L00×List UInt64×L01×UInt64}
  (h:F.YQ B j p u f=some r) (hS:St S G G [Y E ([V B]++(X.fl j++(H.fl p++(K.fl u++[M f]))))]) (hT:TB S G) (ai:j.length=8) (aj:p.length=8) (ak:u.length=128):Calls Tryz.prog 107 #[Q E 0] G (N fun v w=>∃u0:Value,v=u0/\r.2.2.1.length=8/\r.2.2.2.1.length=8/\r.2.2.2.2.1.length=128/\St S G w [W K u0 r.1,Y E ([V r.2.1]++(X.fl r.2.2.1++(H.fl r.2.2.2.1++(K.fl r.2.2.2.2.1++[M r.2.2.2.2.2]))))]):=by
 refine ca1 120 Tryz.func107 Z Z Z ?_
 unfold F.YQ at h
 let i1:=fun C ab=>mkI (F.YW f ab B j p u) (fun s L w=>∃ah,L=[(3,Q C 0),(4,V ab),(5,M f),(6,V (wI (Int.tdiv ab 8))),(7,ah)]/\St S G w [Y C ([V B]++(X.fl j++(H.fl p++(K.fl u++[M f])))),Y E ([V B]++(X.fl j++(H.fl p++(K.fl u++[M f])))),W K ah s])
 let i2:=fun C=>mkI (F.Vp B j p u f) (fun s L w=>∃D,L=[(3,Q C 0),(5,M f),(7,D),(8,V s.2)]/\St S G w [Y C ([V B]++(X.fl j++(H.fl p++(K.fl u++[M f])))),Y E ([V B]++(X.fl j++(H.fl p++(K.fl u++[M f])))),W K D s.1])
 let i3:=fun (A:Int×L00×List UInt64×L01×UInt64)=>mkI (F.Xq B j p u f A) (fun s L w=>∃ac,L=[(10,ac),(75,.agg (X.fl A.2.1).toArray),(76,V s.2)]/\St S G w [Y E ([V B]++(X.fl j++(H.fl p++(K.fl u++[M f])))),W K ac s.1])
 let i4:=fun C (A:Int×L00×List UInt64×L01×UInt64)=>mkI (F.Vx B j p u f A) (fun s L w=>∃ad,L=[(3,Q C 0),(10,ad),(96,.agg (H.fl A.2.2.1).toArray),(97,V s.2)]/\St S G w [Y C ([V A.1]++(X.fl A.2.1++(H.fl A.2.2.1++(K.fl A.2.2.2.1++[M A.2.2.2.2])))),Y E ([V B]++(X.fl j++(H.fl p++(K.fl u++[M f])))),W K ad s.1])
 let i5:=fun C (A:Int×L00×List UInt64×L01×UInt64) ae af=>mkI (F.Yz ae af) (fun s L w=>∃ag,L=[(3,Q C 0),(10,ag),(14,M af),(15,V s.2),(96,.agg (H.fl A.2.2.1).toArray),(97,V ae)]/\St S G w [Y C ([V A.1]++(X.fl A.2.1++(H.fl A.2.2.1++(K.fl A.2.2.2.1++[M A.2.2.2.2])))),Y E ([V B]++(X.fl j++(H.fl p++(K.fl u++[M f])))),W K ag s.1])
 let j1:=fun C D T aa=>mkJ 16 (F.WC T aa) (fun g L w=>L=[(3,Q C 0),(5,M f),(7,D),(8,V aa),(9,v8 g)]/\St S G w [Y C ([V B]++(X.fl j++(H.fl p++(K.fl u++[M f])))),Y E ([V B]++(X.fl j++(H.fl p++(K.fl u++[M f])))),W K D T]) [(3,Q C 0),(7,D),(8,V aa)] [Y C ([V B]++(X.fl j++(H.fl p++(K.fl u++[M f])))),W K D T]
 exact wk
theorem yn {t:World} {a1:List L01} {o:Value} {s1:List SV} (a0:Int) {r:L01}
  (h:F.To a0 a1=some r) (hT:TB [] t) (B:O [] t eV o s1) (hl1:jE [] t K s1 a1):Calls Tryz.prog 60 #[V a0,o] t (N fun v w=>St [] t w [W K v r]):=by
 refine dN 24 Tryz.func60 Z Z Z<|have a:=St.r t;ig [(0,V a0),(1,o)] Z ?_
 unfold F.To at h
 refine gl4<|J 1 Z<|gl2<|J 1 Z<|cq h fun aj ae h=>lU Z (yq a0 ae (hT.now a.fr)) Z ?_
 rintro _ w ⟨az,rfl,c,af,b⟩
 cases d:aj with
 | none=>
  have h:=sO h d
  rw[d]at c b
  simp only[iy,sA]at c
  subst c
  simp only[iy,o7,bT]at b
  have a:=a.j b
  refine J 1 Z<|gl1<|gl4<|J 1 Z<|aQ (bH Z Z (Ia Tryz.underlying174)) Z<|gl3<|jF Z<|gl4<|J 1 Z<|gl8 ?_
  cases h
  exact jl Z Z ((a.nil K).f [0] Z Z)
 | some g=>
  have h:=s9 h d
  rw[d]at c b
  simp only[bL,sA]at c
  obtain⟨i,rfl⟩:=c
  simp only[bL,o7,fZ,dA,bT]at b
  have a:=a.j b
  obtain⟨ag,ah,D⟩:=af g d
  refine J 1 Z<|gl1<|gl4<|J 1 Z<|aQ (bH Z Z (G4 Tryz.underlying174 i 0)) Z<|gl3<|sh Z<|gl5<|cI<|gl4<|J 1 Z<|aQ (LD u173 Z (B.now a.fr) hl1.len) Z<|J 1 Z<|gl3<|cR<|ig [(5,Q i 0),(12,o),(13,V (a1.length:Int)),(14,V 0)] Z ?_
  refine kJ (F.U5 a1) (fun (s:Int×Int×L00×List UInt64×L01×UInt64) L w=>L=[(5,Q i 0),(12,o),(13,V (a1.length:Int)),(14,V s.1)]/\s.2.2.1.length=8/\s.2.2.2.1.length=8/\s.2.2.2.2.1.length=128/\St [] t w [Y i ([V s.2.1]++(X.fl s.2.2.1++(H.fl s.2.2.2.1++(K.fl s.2.2.2.2.1++[M s.2.2.2.2.2]))))]) ?_ (0,g.1,g.2.1,g.2.2.1,g.2.2.2.1,g.2.2.2.2) ⟨Z,ag,ah,D,a⟩ h
  rintro au ⟨ai,j,k,l,m,n⟩ L w av hI E h u
  try dsimp only at hI
  obtain⟨rfl,x,y,z,a⟩:=hI
  unfold F.U5 at h
  refine gl4<|J 1 Z<|gl1 ?_
  apply gl9 Z h<;>intro h
  ·refine gl5<|cI<|cR<|gl4<|cq h fun aw G h=>?_
   obtain⟨al,p,A⟩:=hl1.get G
   refine aQ (oY u173 Jx Z Z (B.now a.fr) p) Z<|aQ (oX u22 Z Z (B.now a.fr) p Z) Z<|J 1 Z<|gl3<|bV<|J 2 Z<|have q:=a.pick (os':=[Y i ([V j]++(X.fl k++(H.fl l++(K.fl m++[M n]))))]++[]) [0] (by decide) Z;cq h fun f S h=>lU Z (ol j k l m n S q.give (hT.give q) x y z (A.give (ao Z) q)) Z ?_
   rintro _ w ⟨rfl,T,aa,ab,b⟩
   have a:=q.p b
   exact dy<|fk<|bA<|bV<|J 2 Z<|dy<|jk (mr (E (wI (ai+1),f.1,f.2.1,f.2.2.1,f.2.2.2.1,f.2.2.2.2) _ _ ⟨Z,T,aa,ab,a⟩ (jH h u)) Z)
  refine fw<|bB<|bB<|have h:=iR h u;fx<|bA<|gl4<|J 1 Z<|have q:=a.pick (os':=[Y i ([V j]++(X.fl k++(H.fl l++(K.fl m++[M n]))))]++[]) [0] (by decide) Z;cq h fun ax ac h=>lU Z (pj j k l m n ac q.give (hT.give q) x y z) Z ?_
  rintro ay w ⟨am,C,an,ap,aq,b⟩
  rw[<-C]at b
  have a:=q.p b
  refine J 1 Z<|gl3<|gM ?_
  cases h
  exact jl Z Z (a.f [0] Z Z)
end Go.Proofs
