import Derived.Test.YtkbacjmklhgpcaaGreatDoorRW0
import Derived.Test.YtkbacjmklhgpcaaGreatDoorRAw
import Derived.Test.YtkbacjmklhgpcaaGreatDoorGkFman
import Derived.Test.YtkbacjmklhgpcaaGreatDoorRWshaa
set_option linter.unusedVariables false
set_option linter.unusedSimpArgs false
set_option linter.unusedSectionVars false
set_option maxRecDepth 20000
set_option maxHeartbeats 20000000
namespace Go.Proofs
open Go Go.RowKit Go.Gk
open Go.Gk renaming RP -> O, Ret -> N, aq -> K, e32 -> X, e64 -> H, e8 -> I, own -> W, pB -> Q, v64 -> M, vI -> V
open Go.Gk.OE renaming bx -> Y
theorem pq {G:World} {E:Nat} {S:L02} (B:Int) (j:L00) (p:List UInt64) (u:L01) (f:UInt64) {r:L01×Int×L00×List UInt64×L01×UInt64}
  (h:F.YT B j p u f=some r) (hS:St S G G [Y E ([V B]++(X.fl j++(H.fl p++(I.fl u++[M f]))))]) (hT:TB S G) (ai:j.length=8) (aj:p.length=8) (ak:u.length=128):Calls Tryz.prog 107 #[Q E 0] G (N fun v w=>∃u0:Value,v=u0/\r.2.2.1.length=8/\r.2.2.2.1.length=8/\r.2.2.2.2.1.length=128/\St S G w [W I u0 r.1,Y E ([V r.2.1]++(X.fl r.2.2.1++(H.fl r.2.2.2.1++(I.fl r.2.2.2.2.1++[M r.2.2.2.2.2]))))]):=by
 refine ca1 120 Tryz.func107 Z Z Z ?_
 unfold F.YT at h
 let i1:=fun C ab=>mkI (F.YZ f ab B j p u) (fun s L w=>∃ah,L=[(3,Q C 0),(4,V ab),(5,M f),(6,V (wI (Int.tdiv ab 8))),(7,ah)]/\St S G w [Y C ([V B]++(X.fl j++(H.fl p++(I.fl u++[M f])))),Y E ([V B]++(X.fl j++(H.fl p++(I.fl u++[M f])))),W I ah s])
 let i2:=fun C=>mkI (F.Vs B j p u f) (fun s L w=>∃D,L=[(3,Q C 0),(5,M f),(7,D),(8,V s.2)]/\St S G w [Y C ([V B]++(X.fl j++(H.fl p++(I.fl u++[M f])))),Y E ([V B]++(X.fl j++(H.fl p++(I.fl u++[M f])))),W I D s.1])
 let i3:=fun (A:Int×L00×List UInt64×L01×UInt64)=>mkI (F.Xr B j p u f A) (fun s L w=>∃ac,L=[(10,ac),(75,.agg (X.fl A.2.1).toArray),(76,V s.2)]/\St S G w [Y E ([V B]++(X.fl j++(H.fl p++(I.fl u++[M f])))),W I ac s.1])
 let i4:=fun C (A:Int×L00×List UInt64×L01×UInt64)=>mkI (F.Vz B j p u f A) (fun s L w=>∃ad,L=[(3,Q C 0),(10,ad),(96,.agg (H.fl A.2.2.1).toArray),(97,V s.2)]/\St S G w [Y C ([V A.1]++(X.fl A.2.1++(H.fl A.2.2.1++(I.fl A.2.2.2.1++[M A.2.2.2.2])))),Y E ([V B]++(X.fl j++(H.fl p++(I.fl u++[M f])))),W I ad s.1])
 let i5:=fun C (A:Int×L00×List UInt64×L01×UInt64) ae af=>mkI (F.YB ae af) (fun s L w=>∃ag,L=[(3,Q C 0),(10,ag),(14,M af),(15,V s.2),(96,.agg (H.fl A.2.2.1).toArray),(97,V ae)]/\St S G w [Y C ([V A.1]++(X.fl A.2.1++(H.fl A.2.2.1++(I.fl A.2.2.2.1++[M A.2.2.2.2])))),Y E ([V B]++(X.fl j++(H.fl p++(I.fl u++[M f])))),W I ag s.1])
 let j1:=fun C D T aa=>mkJ 16 (F.WC T aa) (fun g L w=>L=[(3,Q C 0),(5,M f),(7,D),(8,V aa),(9,v8 g)]/\St S G w [Y C ([V B]++(X.fl j++(H.fl p++(I.fl u++[M f])))),Y E ([V B]++(X.fl j++(H.fl p++(I.fl u++[M f])))),W I D T]) [(3,Q C 0),(7,D),(8,V aa)] [Y C ([V B]++(X.fl j++(H.fl p++(I.fl u++[M f])))),W I D T]
 exact wk
theorem yv {t:World} {a1:List L01} {o:Value} {s1:List SV} (a0:Int) {r:L01}
  (h:F.Tq a0 a1=some r) (hT:TB [] t) (B:O [] t eV o s1) (hl1:jD [] t I s1 a1):Calls Tryz.prog 60 #[V a0,o] t (N fun v w=>St [] t w [W I v r]):=by
 refine dY 24 Tryz.func60 Z Z Z<|have a:=St.r t;il [(0,V a0),(1,o)] Z ?_
 unfold F.Tq at h
 refine gl4<|K 1 Z<|gl2<|K 1 Z<|cr h fun aj ae h=>lV Z (yA a0 ae (hT.now a.fr)) Z ?_
 rintro _ w ⟨az,rfl,c,af,b⟩
 cases d:aj with
 | none=>
  have h:=sU h d
  rw[d]at c b
  simp only[iD,sG]at c
  subst c
  simp only[iD,pa,bN]at b
  have a:=a.j b
  refine K 1 Z<|gl1<|gl4<|K 1 Z<|aO (bI Z Z (H8 Tryz.underlying174)) Z<|gl3<|jF Z<|gl4<|K 1 Z<|gl8 ?_
  cases h
  exact jm Z Z ((a.nil I).f [0] Z Z)
 | some g=>
  have h:=th h d
  rw[d]at c b
  simp only[bO,sG]at c
  obtain⟨i,rfl⟩:=c
  simp only[bO,pa,ge,cW,bN]at b
  have a:=a.j b
  obtain⟨ag,ah,D⟩:=af g d
  refine K 1 Z<|gl1<|gl4<|K 1 Z<|aO (bI Z Z (G6 Tryz.underlying174 i 0)) Z<|gl3<|sm Z<|gl5<|cJ<|gl4<|K 1 Z<|aO (LD u173 Z (B.now a.fr) hl1.len) Z<|K 1 Z<|gl3<|cU<|il [(5,Q i 0),(12,o),(13,V (a1.length:Int)),(14,V 0)] Z ?_
  refine kJ (F.U9 a1) (fun (s:Int×Int×L00×List UInt64×L01×UInt64) L w=>L=[(5,Q i 0),(12,o),(13,V (a1.length:Int)),(14,V s.1)]/\s.2.2.1.length=8/\s.2.2.2.1.length=8/\s.2.2.2.2.1.length=128/\St [] t w [Y i ([V s.2.1]++(X.fl s.2.2.1++(H.fl s.2.2.2.1++(I.fl s.2.2.2.2.1++[M s.2.2.2.2.2]))))]) ?_ (0,g.1,g.2.1,g.2.2.1,g.2.2.2.1,g.2.2.2.2) ⟨Z,ag,ah,D,a⟩ h
  rintro au ⟨ai,j,k,l,m,n⟩ L w av hI E h u
  try dsimp only at hI
  obtain⟨rfl,x,y,z,a⟩:=hI
  unfold F.U9 at h
  refine gl4<|K 1 Z<|gl1 ?_
  apply gl9 Z h<;>intro h
  ·refine gl5<|cJ<|cU<|gl4<|cr h fun aw G h=>?_
   obtain⟨al,p,A⟩:=hl1.get G
   refine aO (o8 u173 JB Z Z (B.now a.fr) p) Z<|aO (o7 u22 Z Z (B.now a.fr) p Z) Z<|K 1 Z<|gl3<|bV<|K 2 Z<|have q:=a.pick (os':=[Y i ([V j]++(X.fl k++(H.fl l++(I.fl m++[M n]))))]++[]) [0] (by decide) Z;cr h fun f S h=>lV Z (ou j k l m n S q.give (hT.give q) x y z (A.give (ao Z) q)) Z ?_
   rintro _ w ⟨rfl,T,aa,ab,b⟩
   have a:=q.p b
   exact dB<|fg<|bA<|bV<|K 2 Z<|dB<|jl (mx (E (wI (ai+1),f.1,f.2.1,f.2.2.1,f.2.2.2.1,f.2.2.2.2) _ _ ⟨Z,T,aa,ab,a⟩ (jH h u)) Z)
  refine fv<|bB<|bB<|have h:=iV h u;fw<|bA<|gl4<|K 1 Z<|have q:=a.pick (os':=[Y i ([V j]++(X.fl k++(H.fl l++(I.fl m++[M n]))))]++[]) [0] (by decide) Z;cr h fun ax ac h=>lV Z (pq j k l m n ac q.give (hT.give q) x y z) Z ?_
  rintro ay w ⟨am,C,an,ap,ar,b⟩
  rw[<-C]at b
  have a:=q.p b
  refine K 1 Z<|gl3<|gV ?_
  cases h
  exact jm Z Z (a.f [0] Z Z)
end Go.Proofs
