import Derived.Test.YthnmbmmifamifaaGreatDoorRW0
import Derived.Test.YthnmbmmifamifaaGreatDoorRAw
import Derived.Test.YthnmbmmifamifaaGreatDoorGkFman
import Derived.Test.YthnmbmmifamifaaGreatDoorRWnata
import Derived.Test.YthnmbmmifamifaaGreatDoorRWshaa
set_option linter.unusedVariables false
set_option linter.unusedSimpArgs false
set_option linter.unusedSectionVars false
section
set_option maxRecDepth 20000
set_option maxHeartbeats 20000000
namespace Go.Proofs
open Go Go.RowKit Go.Gk
open Go.Gk renaming RP -> O,Rds -> N,Ret -> K,ar -> J,e32 -> Y,e8 -> M,own -> W,pB -> Q,red -> U,v64 -> H,vI -> R
open Go.Gk.OE renaming bx -> X
open Go.Gk.Rds renaming cons -> V
theorem ED {f:World} {a0:L8} {j:Value} {r:Int}
  (h:F.aaa a0=some r) (p:O [] f Y j a0):Calls Tryz.prog 179 #[j] f (K fun v w=>v=R r/\St [] f w []):=by
 refine ca1 7 Tryz.func179 Z Z Z<|have hS:=St.r f;?_
 unfold F.aaa at h
 exact wk
theorem tX {j:World} {a0:List L8} {f:Value} {s0:List SV} {r:Int}
  (h:F.UZ a0=some r) (p:O [] j eV f s0) (hl0:ki [] j Y s0 a0):Calls Tryz.prog 101 #[f] j (K fun v w=>v=R r/\St [] j w []):=by
 refine ca1 23 Tryz.func101 Z Z Z<|have hS:=St.r j;?_
 unfold F.UZ at h
 let i1:=mkI (F.Wn a0) (fun s L w=>L=[(0,f),(5,f),(6,R (a0.length:Int)),(7,R s)]/\St [] j w [])
 exact wk
theorem rn {f:World} {a0 a1:L8} {j p:Value} {r:L8}
  (h:F.Uq a0 a1=some r) (u:O [] f Y j a0) (A:O [] f Y p a1):Calls Tryz.prog 102 #[j,p] f (K fun v w=>St [] f w [W Y v r]):=by
 refine ca2 16 Tryz.func102 Z Z Z<|have hS:=St.r f;?_
 unfold F.Uq at h
 exact wk
theorem GJ {f:World} {a0 a1 a2:L8} {j p u:Value} {r:L8×Int}
  (h:F.Xb a0 a1 a2=some r) (A:O [] f Y j a0) (B:O [] f Y p a1) (C:O [] f Y u a2):Calls Tryz.prog 47 #[j,p,u] f (K fun v w=>∃u0:Value,v=.tuple #[u0,R r.2]/\St [] f w [W Y u0 r.1]):=by
 refine ca3 22 Tryz.func47 Z Z Z<|have hS:=St.r f;?_
 unfold F.Xb at h
 exact wk
theorem B6 {f:World} {a0 a1 a2:L8} {p u A:Value} {r:L8}
  (h:F.WX a0 a1 a2=some r) (B:O [] f Y p a0) (C:O [] f Y u a1) (D:O [] f Y A a2):Calls Tryz.prog 197 #[p,u,A] f (K fun v w=>St [] f w [W Y v r]):=by
 refine ca3 26 Tryz.func197 Z Z Z<|have hS:=St.r f;?_
 unfold F.WX at h
 let j1:=mkJ 5 (F.acJ) (fun g L w=>∃j,L=[(7,j)]/\St [] f w [W Y j g]) [] []
 exact wk
theorem GH {f:World} {a0 a1 a2:L8} {j p u:Value} {r:L8×Int}
  (h:F.abt a0 a1 a2=some r) (A:O [] f Y j a0) (B:O [] f Y p a1) (C:O [] f Y u a2):Calls Tryz.prog 135 #[j,p,u] f (K fun v w=>∃u0:Value,v=.tuple #[u0,R r.2]/\St [] f w [W Y u0 r.1]):=by
 refine ca3 25 Tryz.func135 Z Z Z<|have hS:=St.r f;?_
 unfold F.abt at h
 exact wk
theorem F5 {f:World} {a0 a1 a2:L8} {j p u:Value} {r:L8×Int}
  (h:F.aaU a0 a1 a2=some r) (A:O [] f Y j a0) (B:O [] f Y p a1) (C:O [] f Y u a2):Calls Tryz.prog 217 #[j,p,u] f (K fun v w=>∃u0:Value,v=.tuple #[u0,R r.2]/\St [] f w [W Y u0 r.1]):=by
 refine ca3 22 Tryz.func217 Z Z Z<|have hS:=St.r f;?_
 unfold F.aaU at h
 exact wk
theorem Ei {f:World} {a0 a1:L8} {j p:Value} {r:L8}
  (h:F.Ym a0 a1=some r) (u:O [] f Y j a0) (A:O [] f Y p a1):Calls Tryz.prog 195 #[j,p] f (K fun v w=>St [] f w [W Y v r]):=by
 refine ca2 12 Tryz.func195 Z Z Z<|have hS:=St.r f;?_
 unfold F.Ym at h
 exact wk
theorem xD {j:World} {a0 a1:L8} {C f:Value} {T:L01} {r:L8×L8}
  (h:F.V2 a0 a1=some r) (hTT:TOk [] T j) (af:O T j Y C a0) (ag:O T j Y f a1):Calls Tryz.prog 118 #[C,f] j (K fun v w=>∃u0:Value,∃u1:Value,v=.tuple #[u0,u1]/\St [] j w []/\N T w [U Y u1 r.2,U Y u0 r.1]):=by
 refine ca2 59 Tryz.func118 Z Z Z<|have hS:=St.r j;have hZ:=Fz.r (S:=[]) (w0:=j);?_
 have hA0:N T j [U Y f a1,U Y C a0]:=V (O.q (ai Z) ag) (V (O.q (ai Z) af) (N.nil))
 have hA:=hA0.all
 have hP:=hA0.off Z
 unfold F.V2 at h
 let i1:=mkI (F.Yt a1) (fun s L w=>∃D p E u,L=[(1,f),(6,D),(7,p),(8,E),(9,u)]/\SfT [] T j w [U Y u s.2.2.2,U Y E s.2.2.1,U Y p s.2.1,U Y D s.1,U Y f a1] [])
 let i2:=fun p u G aa=>mkI (F.abG a1 G aa) (fun s L w=>∃A B,L=[(1,f),(6,A),(7,p),(8,B),(9,u)]/\SfT [] T j w [U Y u aa,U Y B s.2,U Y p G,U Y A s.1,U Y f a1] [])
 let i3:=fun A B ab ac=>mkI (F.ZU a1 ab ac) (fun s L w=>∃ad ae,L=[(1,f),(6,A),(7,ad),(8,B),(9,ae)]/\SfT [] T j w [U Y ae s.2,U Y B ac,U Y ad s.1,U Y A ab,U Y f a1] [])
 exact wk
theorem Gh {f:World} {a0 a1:L8} {c d:Value} {r:L8×Int}
  (h:F.Vp a0 a1=some r) (s:O [] f Y c a0) (t:O [] f Y d a1):Calls Tryz.prog 46 #[c,d] f (K fun v w=>∃u0:Value,v=.tuple #[u0,R r.2]/\St [] f w [W Y u0 r.1]):=by
 refine dP 40 Tryz.func46 Z Z Z<|have a:=St.r f;have g:=Fz.r (S:=[]) (w0:=f);?_
 have hTT:TOk [] [] f:=TOk.nil
 have b:N [] f [U Y d a1,U Y c a0]:=V (O.q (ai Z) t) (V (O.q (ai Z) s) (N.nil))
 have i:Off [] [U Y d a1,U Y c a0]:=Off.emp
 refine eZ [(0,c),(1,d)] Z ?_
 unfold F.Vp at h
 refine gl4<|J 2 Z<|gl3<|GQ 0 Z<|gl4<|J 2 Z<|gl1<|gl4<|J 2 Z<|mg (lR (e:=eV) (l:=([SV.of c,SV.of d]:List SV)) (vs:=[c,d]) Tryz.underlying162 Tt Z Z Z (ul ((b.rp 0 Z).f a.fr).sv (ul ((b.rp 1 Z).f a.fr).sv Z)) q11 q11 a) Z fun u w a=>aK h fun aa m h=>my a Z (tX  m (a.ro 0 Z).rp ⟨((b.rp 0 Z).f a.fr).svrp,((b.rp 1 Z).f a.fr).svrp,I⟩) Z fun w a=>J 1 Z<|gl2<|J 2 Z<|gl3 ?_
 apply gl9 Z h<;>intro h
 ·refine gl4<|J 3 Z<|gl8<|K4 ?_
  cases h
  replace a:=g.st a
  exact uT Z Z Z ⟨L02,Z,(a.nil Y).j [0] Z Z⟩
 refine gl6<|J 2 Z<|aK h fun x n h=>rJ a Z (rn  n ((b.rp 0 Z).f a.fr).rp ((b.rp 1 Z).f a.fr).rp) Z fun y w a=>J 1 Z<|gl1<|gl4<|J 1 Z<|aK h fun ab o h=>my a Z (zI 0 o ((b.rp 1 Z).f a.fr).rp) Z fun w a=>gl3 ?_
 apply gl9 Z h<;>intro h
 ·refine gl4<|J 2 Z ?_
  replace a:=a.pick (os':=[W Y y x,W eV u ([SV.of c,SV.of d]:List SV)]++[]) [0,1] q11 rfl
  obtain⟨g,b,i,a⟩:=g.frzK hTT b i a
  refine aK h fun ac p h=>nI Z (xD  p (g.okT hTT a) (b.rpT i 3 Z) (b.rpT i 1 Z)) Z ?_
  rintro _ w ⟨C,D,rfl,z,A⟩
  obtain⟨E,B,g,b,i,a⟩:=g.callK b i a z A rfl
  refine J 5 Z<|gl3<|L7<|H5<|LH<|cw<|gl5<|cw<|gl4<|J 1 Z<|mg (lR (e:=Y) (l:=([1]:L8)) (vs:=[v32 1]) Tryz.underlying55 xb Z Z Z Z q11 q11 a) Z fun G w a=>aK h fun L j h=>my a Z (zJ  j ((b.rp 4 Z).f a.fr).rp (a.ro 0 Z).rp) Z fun w a=>J 1 Z<|gl3 ?_
  apply gl9 Z h<;>intro h
  ·refine gl4<|J 2 Z<|gl8<|Dv ?_
   cases h
   replace a:=g.st a
   exact uT Z Z Z ⟨L02,Z,(a.nil Y).j [0] Z Z⟩
  refine gl6<|J 2 Z<|aK h fun T k h=>rJ a Z (rn  k ((b.rp 5 Z).f a.fr).rp ((b.rp 1 Z).f a.fr).rp) Z fun q w a=>J 2 Z<|gl3<|iY<|Dv ?_
  cases h
  replace a:=g.st a
  exact uT Z Z Z ⟨q,Z,a.j [0] Z Z⟩
 refine gl6<|J 2 Z ?_
 cases h
theorem F6 {j:World} {a0 a1 a2:L8} {E A B:Value} {r:L8×Int}
  (h:F.WF a0 a1 a2=some r) (G:O [] j Y E a0) (S:O [] j Y A a1) (T:O [] j Y B a2):Calls Tryz.prog 36 #[E,A,B] j (K fun v w=>∃u0:Value,v=.tuple #[u0,R r.2]/\St [] j w [W Y u0 r.1]):=by
 refine ca3 46 Tryz.func36 Z Z Z<|have hS:=St.r j;?_
 unfold F.WF at h
 let i1:=fun f p=>mkI (F.Z6 a1 a2 p) (fun s L w=>∃C,L=[(0,f),(1,A),(2,B),(9,C),(10,R s.2)]/\St [] j w [W Y C s.1,W Y f p])
 let j1:=fun f u p=>mkJ 9 (F.ZO u) (fun g L w=>∃D,L=[(0,f),(1,A),(2,B),(9,D),(10,R u)]/\St [] j w [W Y D g,W Y f p]) [(0,f),(10,R u)] [W Y f p]
 exact wk
theorem qQ {G:World} {E:Nat} {S:L01} (B:Int) (j:L8) (p:List UInt64) (u:L00) (f:UInt64) {r:L00×Int×L8×List UInt64×L00×UInt64}
  (h:F.aba B j p u f=some r) (hS:St S G G [X E ([R B]++(Y.fl j++(e64.fl p++(M.fl u++[H f]))))]) (hT:TB S G) (aj:j.length=8) (ak:p.length=8) (al:u.length=128):Calls Tryz.prog 113 #[Q E 0] G (K fun v w=>∃u0:Value,v=u0/\r.2.2.1.length=8/\r.2.2.2.1.length=8/\r.2.2.2.2.1.length=128/\St S G w [W M u0 r.1,X E ([R r.2.1]++(Y.fl r.2.2.1++(e64.fl r.2.2.2.1++(M.fl r.2.2.2.2.1++[H r.2.2.2.2.2]))))]):=by
 refine ca1 120 Tryz.func113 Z Z Z ?_
 unfold F.aba at h
 let i1:=fun C ab=>mkI (F.abh f ab B j p u) (fun s L w=>∃ah,L=[(3,Q C 0),(4,R ab),(5,H f),(6,R (wI (Int.tdiv ab 8))),(7,ah)]/\St S G w [X C ([R B]++(Y.fl j++(e64.fl p++(M.fl u++[H f])))),X E ([R B]++(Y.fl j++(e64.fl p++(M.fl u++[H f])))),W M ah s])
 let i2:=fun C=>mkI (F.Wl B j p u f) (fun s L w=>∃D,L=[(3,Q C 0),(5,H f),(7,D),(8,R s.2)]/\St S G w [X C ([R B]++(Y.fl j++(e64.fl p++(M.fl u++[H f])))),X E ([R B]++(Y.fl j++(e64.fl p++(M.fl u++[H f])))),W M D s.1])
 let i3:=fun (A:Int×L8×List UInt64×L00×UInt64)=>mkI (F.Y7 B j p u f A) (fun s L w=>∃ac,L=[(10,ac),(75,.agg (Y.fl A.2.1).toArray),(76,R s.2)]/\St S G w [X E ([R B]++(Y.fl j++(e64.fl p++(M.fl u++[H f])))),W M ac s.1])
 let i4:=fun C (A:Int×L8×List UInt64×L00×UInt64)=>mkI (F.Wt B j p u f A) (fun s L w=>∃ad,L=[(3,Q C 0),(10,ad),(96,.agg (e64.fl A.2.2.1).toArray),(97,R s.2)]/\St S G w [X C ([R A.1]++(Y.fl A.2.1++(e64.fl A.2.2.1++(M.fl A.2.2.2.1++[H A.2.2.2.2])))),X E ([R B]++(Y.fl j++(e64.fl p++(M.fl u++[H f])))),W M ad s.1])
 let i5:=fun C (A:Int×L8×List UInt64×L00×UInt64) ae af=>mkI (F.aaQ ae af) (fun s L w=>∃ag,L=[(3,Q C 0),(10,ag),(14,H af),(15,R s.2),(96,.agg (e64.fl A.2.2.1).toArray),(97,R ae)]/\St S G w [X C ([R A.1]++(Y.fl A.2.1++(e64.fl A.2.2.1++(M.fl A.2.2.2.1++[H A.2.2.2.2])))),X E ([R B]++(Y.fl j++(e64.fl p++(M.fl u++[H f])))),W M ag s.1])
 let j1:=fun C D T aa=>mkJ 16 (F.XY T aa) (fun g L w=>L=[(3,Q C 0),(5,H f),(7,D),(8,R aa),(9,v8 g)]/\St S G w [X C ([R B]++(Y.fl j++(e64.fl p++(M.fl u++[H f])))),X E ([R B]++(Y.fl j++(e64.fl p++(M.fl u++[H f])))),W M D T]) [(3,Q C 0),(7,D),(8,R aa)] [X C ([R B]++(Y.fl j++(e64.fl p++(M.fl u++[H f])))),W M D T]
 exact wk
theorem Af {t:World} {a1:List L00} {o:Value} {s1:List SV} (a0:Int) {r:L00}
  (h:F.Uj a0 a1=some r) (hT:TB [] t) (B:O [] t eV o s1) (hl1:ki [] t M s1 a1):Calls Tryz.prog 41 #[R a0,o] t (K fun v w=>St [] t w [W M v r]):=by
 refine dP 24 Tryz.func41 Z Z Z<|have a:=St.r t;eZ [(0,R a0),(1,o)] Z ?_
 unfold F.Uj at h
 refine gl4<|J 1 Z<|gl2<|J 1 Z<|aK h fun ak ae h=>nI Z (Ah a0 ae (hT.f a.fr)) Z ?_
 rintro _ w ⟨az,rfl,c,af,b⟩
 cases d:ak with
 | none=>
  have h:=EX h d
  rw[d]at c b
  simp only[Option.map_none,Hn]at c
  subst c
  simp only[Option.map_none,Hk,cZ]at b
  have a:=a.p b
  refine J 1 Z<|gl1<|gl4<|J 1 Z<|aQ (bk Z Z (J5 Tryz.underlying120)) Z<|gl3<|tu Z<|gl4<|J 1 Z<|gl8 ?_
  cases h
  exact gc Z Z ((a.nil M).j [0] Z Z)
 | some g=>
  have h:=FJ h d
  rw[d]at c b
  simp only[eN,Hn]at c
  obtain⟨i,rfl⟩:=c
  simp only[eN,Hk,jC,i9,cZ]at b
  have a:=a.p b
  obtain⟨ag,ah,D⟩:=af g d
  refine J 1 Z<|gl1<|gl4<|J 1 Z<|aQ (bk Z Z (IW Tryz.underlying120 i 0)) Z<|gl3<|zZ Z<|gl5<|cw<|gl4<|J 1 Z<|aQ (Nz u119 Z (B.f a.fr) hl1.len) Z<|J 1 Z<|gl3<|cn<|eZ [(5,Q i 0),(12,o),(13,R (a1.length:Int)),(14,R 0)] Z ?_
  refine fN (F.VW a1) (fun (s:Int×Int×L8×List UInt64×L00×UInt64) L w=>L=[(5,Q i 0),(12,o),(13,R (a1.length:Int)),(14,R s.1)]/\s.2.2.1.length=8/\s.2.2.2.1.length=8/\s.2.2.2.2.1.length=128/\St [] t w [X i ([R s.2.1]++(Y.fl s.2.2.1++(e64.fl s.2.2.2.1++(M.fl s.2.2.2.2.1++[H s.2.2.2.2.2]))))]) ?_ (0,g.1,g.2.1,g.2.2.1,g.2.2.2.1,g.2.2.2.2) ⟨Z,ag,ah,D,a⟩ h
  rintro au ⟨aj,j,k,l,m,n⟩ L w av hI E h u
  try dsimp only at hI
  obtain⟨rfl,x,y,z,a⟩:=hI
  unfold F.VW at h
  refine gl4<|J 1 Z<|gl1 ?_
  apply gl9 Z h<;>intro h
  ·refine gl5<|cw<|cn<|gl4<|aK h fun aw G h=>?_
   obtain⟨am,p,A⟩:=hl1.get G
   refine aQ (mz u119 MR Z Z (B.f a.fr) p) Z<|aQ (iu u25 Z Z (B.f a.fr) p Z) Z<|J 1 Z<|gl3<|bS<|J 2 Z<|have q:=a.pick (os':=[X i ([R j]++(Y.fl k++(e64.fl l++(M.fl m++[H n]))))]++[]) [0] q11 Z;aK h fun f S h=>nI Z (p9 j k l m n S q.give (hT.give q) x y z (A.give (ai Z) q)) Z ?_
   rintro _ w ⟨rfl,T,aa,ab,b⟩
   have a:=q.back b
   exact d7<|eH<|bL<|bS<|J 2 Z<|d7<|iz (iM (E (wI (aj+1),f.1,f.2.1,f.2.2.1,f.2.2.2.1,f.2.2.2.2) _ _ ⟨Z,T,aa,ab,a⟩ (eG h u)) Z)
  refine fc<|cj<|cj<|have h:=ep h u;fe<|bL<|gl4<|J 1 Z<|have q:=a.pick (os':=[X i ([R j]++(Y.fl k++(e64.fl l++(M.fl m++[H n]))))]++[]) [0] q11 Z;aK h fun ax ac h=>nI Z (qQ j k l m n ac q.give (hT.give q) x y z) Z ?_
  rintro ay w ⟨an,C,ao,ap,aq,b⟩
  rw[<-C]at b
  have a:=q.back b
  refine J 1 Z<|gl3<|iY ?_
  cases h
  exact gc Z Z (a.j [0] Z Z)
end Go.Proofs
end
