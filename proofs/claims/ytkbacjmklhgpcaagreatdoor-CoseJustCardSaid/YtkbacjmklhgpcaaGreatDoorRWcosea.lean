import Derived.Test.YtkbacjmklhgpcaaGreatDoorRW0
import Derived.Test.YtkbacjmklhgpcaaGreatDoorRAw
import Derived.Test.YtkbacjmklhgpcaaGreatDoorGkFman
import Derived.Test.YtkbacjmklhgpcaaGreatDoorRWcborc
import Derived.Test.YtkbacjmklhgpcaaGreatDoorRWlib
set_option linter.unusedVariables false
set_option linter.unusedSimpArgs false
set_option linter.unusedSectionVars false
set_option maxRecDepth 20000
set_option maxHeartbeats 20000000
namespace Go.Proofs
open Go Go.RowKit Go.Gk
open Go.Gk renaming RP -> O, Ret -> N, aq -> K, e64 -> H, e8 -> I, eP -> J, own -> W, pB -> Q, v64 -> M, vB -> U, vI -> V
open Go.Gk.OE renaming bx -> Y
theorem jM {f:World} (a0:Int) {r:Int×L01×L01×L01×L01×Int}
  (h:F.Xb a0=some r) :Calls Tryz.prog 17 #[V a0] f (N fun v w=>∃u1 u2 u3 u4:Value,v=.tuple #[V r.1,u1,u2,u3,u4,V r.2.2.2.2.2]/\St [] f w [W I u1 r.2.1,W I u2 r.2.2.1,W I u3 r.2.2.2.1,W I u4 r.2.2.2.2.1]):=by
 refine ca1 9 Tryz.func17 Z Z Z<|have hS:=St.r f;?_
 unfold F.Xb at h
 exact wk
theorem p7 {p:World} {C:List (Int×UInt64×L01×Int)} {f:Value} {u A B:Nat} {S:L02} (a0:UInt64) (j D:Int) {r:Int×Int×Int}
  (h:F.S3 a0 C j D=some r) (hS:St S p p [Y u [f],Y A [V j],Y B [V D]]) (hT:TB S p) (G:O S p (J eI (J H (J eS eI))) f C):Calls Tryz.prog 86 #[M a0,Q u 0,Q A 0,Q B 0] p (N fun v w=>v=V r.1/\St S p w [Y u [f],Y A [V r.2.1],Y B [V r.2.2]]):=by
 refine ca4 18 Tryz.func86 Z Z Z ?_
 unfold F.S3 at h
 let j1:=fun E=>mkJ 5 (F.UV j E) (fun g L w=>L=[(6,V E)]/\St S p w [Y u [f],Y A [V j],Y B [V g]]) [(6,V E)] []
 exact wk
theorem yV {f:World} {a0:List (Int×UInt64×L01×Int)} {j:Value} (a1:Int) {r:Int×Int×Bool}
  (h:F.Tj a0 a1=some r) (hT:TB [] f) (p:O [] f (J eI (J H (J eS eI))) j a0):Calls Tryz.prog 40 #[j,V a1] f (N fun v w=>v=.tuple #[V r.1,V r.2.1,U r.2.2]/\St [] f w []):=by
 refine ca2 36 Tryz.func40 Z Z Z<|have hS:=St.r f;?_
 unfold F.Tj at h
 exact wk
theorem ub {E:World} {a0:List (Int×UInt64×L01×Int)} {G:Value} {r:Int×L01×L01×L01×L01×Int}
  (h:F.TK a0=some r) (hT:TB [] E) (ac:O [] E (J eI (J H (J eS eI))) G a0):Calls Tryz.prog 19 #[G] E (N fun v w=>v=.tuple #[.agg #[V r.1,vS r.2.1,vS r.2.2.1,vS r.2.2.2.1,vS r.2.2.2.2.1],V r.2.2.2.2.2]/\St [] E w []):=by
 refine ca1 190 Tryz.func19 Z Z Z<|have hS:=St.r E;?_
 unfold F.TK at h
 let j1:=fun f=>mkJ 5 (F.T9 a0) (fun g L w=>L=[(0,G),(2,Q f 0),(4,V g)]/\St [] E w [Y f [V 0,vS [],vS [],vS [],vS []]]) [(2,Q f 0)] [Y f [V 0,vS [],vS [],vS [],vS []]]
 let j2:=fun f=>mkJ 4 (F.WV a0) (fun g L w=>L=[(0,G),(2,Q f 0),(4,V 0),(27,U g)]/\St [] E w [Y f [V 0,vS [],vS [],vS [],vS []]]) [(2,Q f 0)] [Y f [V 0,vS [],vS [],vS [],vS []]]
 let j3:=fun f S=>mkJ 6 (F.TJ a0 S) (fun g L w=>L=[(0,G),(2,Q f 0),(4,V S),(59,U g)]/\St [] E w [Y f [V 0,vS [],vS [],vS [],vS []]]) [(2,Q f 0),(4,V S)] [Y f [V 0,vS [],vS [],vS [],vS []]]
 let j4:=fun f T S=>mkJ 9 (F.TO a0 S T) (fun g L w=>L=[(0,G),(2,Q f 0),(4,V S),(5,V T),(79,U g)]/\St [] E w [Y f [V 0,vS [],vS [],vS [],vS []]]) [(2,Q f 0),(4,V S),(5,V T)] [Y f [V 0,vS [],vS [],vS [],vS []]]
 let j5:=fun f j p (u:(Int×UInt64×L01×Int)) (A:(Int×UInt64×L01×Int)) (B:(Int×UInt64×L01×Int)) (D:List (Int×UInt64×L01×Int)×Int×Int) (C:Int×Int×Bool) (aa:Int×Int×Bool)=>mkJ 19 (F.TV a0 D C aa u A B) (fun g L w=>L=[(0,G),(2,Q f 0),(6,Q j 0),(7,p),(10,V C.1),(11,V C.2.1),(14,V aa.2.1),(152,U g)]/\St [] E w [Y f [V 0,vS [],vS [],vS [],vS []],Y j [V 0,vS u.2.2.1,vS [],vS A.2.2.1,vS B.2.2.1],W (J eI (J H (J eS eI))) p D.1]) [(2,Q f 0),(6,Q j 0),(7,p),(10,V C.1),(11,V C.2.1),(14,V aa.2.1)] [Y f [V 0,vS [],vS [],vS [],vS []],Y j [V 0,vS u.2.2.1,vS [],vS A.2.2.1,vS B.2.2.1],W (J eI (J H (J eS eI))) p D.1]
 let j6:=fun f j p (u:(Int×UInt64×L01×Int)) (A:(Int×UInt64×L01×Int)) (B:(Int×UInt64×L01×Int)) (D:List (Int×UInt64×L01×Int)×Int×Int) (C:Int×Int×Bool)=>mkJ 24 (F.UW D C u A B) (fun g L w=>L=[(2,Q f 0),(6,Q j 0),(7,p),(10,V C.1)]/\St [] E w [Y f [V 0,vS [],vS [],vS [],vS []],Y j [V 0,vS u.2.2.1,vS g,vS A.2.2.1,vS B.2.2.1],W (J eI (J H (J eS eI))) p D.1]) [(2,Q f 0),(6,Q j 0),(7,p),(10,V C.1)] [Y f [V 0,vS [],vS [],vS [],vS []],W (J eI (J H (J eS eI))) p D.1]
 let j7:=fun f j (u:(Int×UInt64×L01×Int)) (A:(Int×UInt64×L01×Int)) (B:(Int×UInt64×L01×Int)) ab=>mkJ 26 (F.VZ u A B ab) (fun g L w=>L=[(2,Q f 0),(6,Q j 0)]/\St [] E w [Y f [V 0,vS [],vS [],vS [],vS []],Y j [V g,vS u.2.2.1,vS ab,vS A.2.2.1,vS B.2.2.1]]) [(2,Q f 0),(6,Q j 0)] [Y f [V 0,vS [],vS [],vS [],vS []]]
 exact wk
theorem mB {f:World} {a0:L01} {p:Value} {S:L02} (a1:UInt8) (a2:L01) {r:L01}
  (h:F.TY a0 a1 a2=some r) (hS:St S f f [W I p a0]):Calls Tryz.prog 20 #[p,v8 a1,vS a2] f (N fun v w=>∃u0:Value,v=u0/\St S f w [W I u0 r]):=by
 refine ca3 65 Tryz.func20 Z Z Z ?_
 unfold F.TY at h
 let j1:=mkJ 11 (F.Xt a2) (fun g L w=>∃j,L=[(0,j),(2,vS a2)]/\St S f w [W I j g]) [] []
 exact wk
theorem z6 {o:World} {a0 a1:L01} {z A:Value} {r:Int×L01×L01×L01×L01×Int}
  (h:F.Tu a0 a1=some r) (hT:TB [] o) (aj:O [] o I z a0) (ak:O [] o I A a1):Calls Tryz.prog 6 #[z,A] o (N fun v w=>∃u1 u2 u3 u4:Value,v=.tuple #[V r.1,u1,u2,u3,u4,V r.2.2.2.2.2]/\St [] o w [W I u1 r.2.1,W I u2 r.2.2.1,W I u3 r.2.2.2.1,W I u4 r.2.2.2.2.1]):=by
 refine dY 89 Tryz.func6 Z Z Z<|have b:=St.r o;il [(0,z),(1,A)] Z ?_
 unfold F.Tu at h
 refine gl4<|K 6 Z<|gl2<|K 1 Z<|gl1 ?_
 refine jd (r:=r) (fun (g:Bool) L w=>L=[(0,z),(1,A),(10,.func (.func 17) #[] #[]),(23,U g)]/\St [] o w []) (F.T0 a0 a1) ?_ ?_
 rotate_left
 ·intro B
  refine bV<|K 1 Z<|aO (gx u22 Z (aj.now b.fr)) Z<|K 2 Z ?_
  cases p:(decide ((65536:Int)<(a0.length:Int)))
  case true=>
   have h:=iq h p
   try simp only[p]
   exact K 4 Z<|gl3<|dm (B true _ _ ⟨Z,b⟩ h) Z
  case false=>
   have h:=ir h p
   try simp only[p]
   exact K 1 Z<|dM (t:=19) Z Z (gx u22 Z (ak.now b.fr)) Z<|K 2 Z<|gl3<|dm (B (decide ((65536:Int)<(a1.length:Int))) _ _ ⟨Z,b⟩ h) Z
 rintro aS L w hJ h
 try dsimp only at hJ
 obtain⟨rfl,b⟩:=hJ
 unfold F.T0 at h
 apply gl9 Z h<;>intro h
 ·refine gl4<|K 1 Z<|cr h fun aT al h=>pI Z (by kernel_rfl) Z (jM 10 al ) Z ?_
  rintro _ w ⟨aI,aJ,aK,am,rfl,c⟩
  have b:=b.j c
  refine K 12 Z<|gl8 ?_
  cases h
  exact qo Z Z Z Z Z Z Z ⟨aI,aJ,aK,am,Z,b.f [0,1,2,3] Z Z⟩
 refine gl6<|K 1 Z<|cr h fun f S h=>O2 b Z (rX  S (hT.now b.fr) (aj.now b.fr).rp) Z fun j w b=>K 7 Z<|gl1<|gl4<|K 2 Z<|gl3 ?_
 apply gl9 Z h<;>intro h
 ·refine gl4<|K 2 Z<|cr h fun aQ T h=>pI Z (by kernel_rfl) Z (jM f.2.1 T ) Z ?_
  rintro _ w ⟨an,ao,ap,ar,rfl,c⟩
  have b:=b.j c
  refine K 12 Z<|gl8 ?_
  cases h
  exact qo Z Z Z Z Z Z Z ⟨an,ao,ap,ar,Z,b.f [0,1,2,3] Z Z⟩
 refine gl6<|K 1 Z<|cr h fun a aa h=>pi b Z (ub  aa (hT.now b.fr) (b.ro 0 Z).rp) Z fun w b=>K 3 Z<|qh (m0 (cs:=[V 0,vS [],vS [],vS [],vS []]) OX Z b) Z fun m w b=>ii (jN (i:=0) (us:=[V a.1,vS a.2.1,vS a.2.2.1,vS a.2.2.2.1,vS a.2.2.2.2.1]) Z OB Z Z Z ⟨Z,Z,Z,Z,Z,trivial⟩ Z b) fun w b=>K 1 Z<|gl1<|cJ ?_
 refine bV<|K 2 Z<|gl3 ?_
 apply gl9 Z h<;>intro h
 ·refine gl4<|K 2 Z<|cr h fun aR ab h=>pI Z (by kernel_rfl) Z (jM a.2.2.2.2.2 ab ) Z ?_
  rintro _ w ⟨au,av,aw,ax,rfl,c⟩
  have b:=b.j c
  refine K 12 Z<|gl8 ?_
  cases h
  exact qo Z Z Z Z Z Z Z ⟨au,av,aw,ax,Z,b.f [0,1,2,3] Z Z⟩
 refine gl6<|kP (kw (e:=I) (l:=[132]) (vs:=[v8 132]) u22 ti5 Z Z Z Z (by decide) (by decide) b) Z fun ay w b=>have n:=b.pick (os':=[W I ay [132]]++[Y m [V a.1,vS a.2.1,vS a.2.2.1,vS a.2.2.2.1,vS a.2.2.2.2.1],W (J eI (J H (J eS eI))) j f.1]) [0,1,2] (by decide) Z;cr h fun az ac h=>lV Z (mB 3 [83,105,103,110,97,116,117,114,101,49] ac n.give ) Z ?_
 rintro aA w ⟨aL,C,c⟩
 rw[<-C]at c
 have b:=n.p c
 refine K 1 Z<|gl1<|have hsh0:=(b.ro 0 Z).shp;kL (fun w'=>St [] o w' [Y m [V a.1,vS a.2.1,vS a.2.2.1,vS a.2.2.2.1,vS a.2.2.2.2.1],W (J eI (J H (J eS eI))) j f.1]) (fun i=>!([3,6,9].contains i)) kr (fun _ _ _ hf=>hf.2) (fun _ _ hf=>hf) (by kernel_rfl)<|have b:=b.drew;show lxE _ _ _ _ _ _ _ [0,1,2,3,4,5,6,7,8,9,10] _ _ from cH 1 Z (b.f [1,2] Z Z)<|cC (b.f [1,2] Z Z) Z Z (fun w d=>br (k:=1) u61 Z Z nz9 Z) Z<|cC (b.f [1,2] Z Z) Z Z (fun w d=>cc Tryz.underlying9 Z Z (d.u 0 Z 1)) Z<|have n:=b.pick (os':=[W I aA az]++[Y m [V a.1,vS a.2.1,vS a.2.2.1,vS a.2.2.2.1,vS a.2.2.2.2.1],W (J eI (J H (J eS eI))) j f.1]) [0,1,2] (by decide) Z;cr h fun aC ad h=>jQ (b.f [1,2] Z Z) Z Z (by kernel_rfl) Z (mB 2 a.2.1 ad n.give ) Z ?_
 rintro aD w ⟨aM,D,c⟩
 rw[<-D]at c
 have b:=n.p c
 refine cH 1 Z (b.f [1,2] Z Z)<|cC (b.f [1,2] Z Z) Z Z (fun w d=>DO u22 Tryz.underlying5 Tryz.underlying9 Z (ak.now d.fr)) Z<|have n:=b.pick (os':=[W I aD aC]++[Y m [V a.1,vS a.2.1,vS a.2.2.1,vS a.2.2.2.1,vS a.2.2.2.2.1],W (J eI (J H (J eS eI))) j f.1]) [0,1,2] (by decide) Z;cr h fun aE ae h=>jQ (b.f [1,2] Z Z) Z Z (by kernel_rfl) Z (mB 2 a1 ae n.give ) Z ?_
 rintro aF w ⟨aN,E,c⟩
 rw[<-E]at c
 have b:=n.p c
 refine cC (b.f [1,2] Z Z) Z Z (fun w d=>br (k:=3) u61 Z Z nz9 Z) Z<|cC (b.f [1,2] Z Z) Z Z (fun w d=>cc Tryz.underlying9 Z Z (d.u 0 Z 3)) Z<|have n:=b.pick (os':=[W I aF aE]++[Y m [V a.1,vS a.2.1,vS a.2.2.1,vS a.2.2.2.1,vS a.2.2.2.2.1],W (J eI (J H (J eS eI))) j f.1]) [0,1,2] (by decide) Z;cr h fun s af h=>jQ (b.f [1,2] Z Z) Z Z (by kernel_rfl) Z (mB 2 a.2.2.2.1 af n.give ) Z ?_
 rintro q w ⟨aP,G,c⟩
 rw[<-G]at c
 have b:=n.p c
 refine cH 1 Z (b.f [1,2] Z Z)<|iG (b.f [1,2] Z Z)<|bA<|cJ<|C3 (os:=[W I q s,Y m [V a.1,vS a.2.1,vS a.2.2.1,vS a.2.2.2.1,vS a.2.2.2.2.1],W (J eI (J H (J eS eI))) j f.1]) (fun i=>[4,7,10].contains i) (fun i v=>if i=4 then W I v a.2.2.1 else if i=7 then W I v a.2.2.2.1 else W I v a.2.2.2.2.1) b kr (by kernel_rfl)<|show un _ _ _ _ _ _ _ _ _ _ [0,1,2,3,4,5,6,7,8,9,10,11,12,13,14,15,16,17] _ _ from kf Z Z (fun w d=>br (k:=0) u61 Z Z Sx Z) Z<|kf Z Z (fun w d=>cc Tryz.underlying29 Z Z (d.u 1 Z 0)) Z<|kf Z Z (fun w d=>br (k:=2) u61 Z Z nz9 Z) Z<|kf Z Z (fun w d=>cc Tryz.underlying9 Z Z (d.u 1 Z 2)) Z<|sY h fun ag h=>ud (fun v=>W I v a.2.2.1) Z Z (fun v=>Z) (fun w os' b=>(qX Tryz.underlying9 u22 Tryz.underlying5 Z b ag)) Z fun u=>kf Z Z (fun w d=>br (k:=3) u61 Z Z nz9 Z) Z<|kf Z Z (fun w d=>cc Tryz.underlying9 Z Z (d.u 1 Z 3)) Z<|sY h fun ah h=>ud (fun v=>W I v a.2.2.2.1) Z Z (fun v=>Z) (fun w os' b=>(qX Tryz.underlying9 u22 Tryz.underlying5 Z b ah)) Z fun x=>kf Z Z (fun w d=>br (k:=4) u61 Z Z nz9 Z) Z<|kf Z Z (fun w d=>cc Tryz.underlying9 Z Z (d.u 1 Z 4)) Z ?_
 refine sY h fun ai h=>ud (fun v=>W I v a.2.2.2.2.1) Z Z (fun v=>Z) (fun w os' b=>(qX Tryz.underlying9 u22 Tryz.underlying5 Z b ai)) Z fun y=>kf Z Z (fun w d=>oR Z) Z<|kf Z Z (fun w d=>du Z) Z<|kf Z Z (fun w d=>du Z) Z<|kf Z Z (fun w d=>du Z) Z<|kf Z Z (fun w d=>du Z) Z<|kf Z Z (fun w d=>du Z) Z<|kf Z Z (fun w d=>du Z) Z<|J1 fun w b=>?_
 replace b:St [] o w [W I u a.2.2.1,W I x a.2.2.2.1,W I y a.2.2.2.2.1,W I q s,Y m [V a.1,vS a.2.1,vS a.2.2.1,vS a.2.2.2.1,vS a.2.2.2.2.1],W (J eI (J H (J eS eI))) j f.1]:=b
 replace b:St [] o w [W I y a.2.2.2.2.1,W I x a.2.2.2.1,W I u a.2.2.1,W I q s,Y m [V a.1,vS a.2.1,vS a.2.2.1,vS a.2.2.2.1,vS a.2.2.2.2.1],W (J eI (J H (J eS eI))) j f.1]:=b.f [2,1,0,3,4,5] rfl rfl
 refine bA<|gV ?_
 cases h
 exact qo Z Z Z Z Z Z Z ⟨u,x,y,q,Z,b.f [2,1,0,3] Z Z⟩
theorem pW {j:World} {a1:List Int} {A:List (Int×UInt64×L01×Int)} {D f:Value} {p u:Nat} {S:L02} (a0:UInt64) (B:Bool) {r:Int×Bool}
  (h:F.Uy a0 a1 A B=some r) (hS:St S j j [Y p [f],Y u [U B]]) (hT:TB S j) (G:O S j eI D a1) (E:O S j (J eI (J H (J eS eI))) f A):Calls Tryz.prog 32 #[M a0,D,Q p 0,Q u 0] j (N fun v w=>v=V r.1/\St S j w [Y p [f],Y u [U r.2]]):=by
 refine ca4 29 Tryz.func32 Z Z Z ?_
 unfold F.Uy at h
 let j1:=fun C=>mkJ 4 (F.VY C) (fun g L w=>L=[(7,V C)]/\St S j w [Y p [f],Y u [U g]]) [(7,V C)] []
 exact wk
theorem pU {u:World} {A:List (Int×UInt64×L01×Int)} {f:Value} {B j p:Nat} {S:L02} (a0:UInt64) (a1:Int) (C:Bool) {r:L01×Bool×Bool}
  (h:F.TR a0 a1 A C=some r) (hS:St S u u [Y B [.func (.func 32) #[] #[Q j 0,Q p 0]],Y j [f],Y p [U C]]) (hT:TB S u) (D:O S u (J eI (J H (J eS eI))) f A):Calls Tryz.prog 35 #[M a0,V a1,Q B 0,Q j 0] u (N fun v w=>v=.tuple #[vS r.1,U r.2.1]/\St S u w [Y B [.func (.func 32) #[] #[Q j 0,Q p 0]],Y j [f],Y p [U r.2.2]]):=by
 refine ca4 21 Tryz.func35 Z Z Z ?_
 unfold F.TR at h
 exact wk
theorem pQ {A:World} {C:List (Int×UInt64×L01×Int)} {p:Value} {B f j:Nat} {S:L02} (a0:UInt64) (E:Bool) {r:Bool×Int×Bool}
  (h:F.TS a0 E C=some r) (hS:St S A A [Y B [.func (.func 32) #[] #[Q j 0,Q f 0]],Y f [U E],Y j [p]]) (hT:TB S A) (T:O S A (J eI (J H (J eS eI))) p C):Calls Tryz.prog 36 #[M a0,Q B 0,Q f 0,Q j 0] A (N fun v w=>v=.agg #[U r.1,V r.2.1]/\St S A w [Y B [.func (.func 32) #[] #[Q j 0,Q f 0]],Y f [U r.2.2],Y j [p]]):=by
 refine ca4 40 Tryz.func36 Z Z Z ?_
 unfold F.TS at h
 let j1:=fun u (G:Int×Bool)=>mkJ 6 (F.aaX C G) (fun g L w=>L=[(3,Q j 0),(5,Q u 0),(6,V G.1)]/\St S A w [Y j [p],Y u [U false,V 0],Y B [.func (.func 32) #[] #[Q j 0,Q f 0]],Y f [U g]]) [(5,Q u 0),(6,V G.1)] [Y u [U false,V 0]]
 let j2:=fun u D=>mkJ 9 (F.abf D) (fun g L w=>L=[(5,Q u 0),(7,V g)]/\St S A w [Y u [U false,V 0],Y B [.func (.func 32) #[] #[Q j 0,Q f 0]],Y j [p],Y f [U D]]) [(5,Q u 0)] [Y u [U false,V 0],Y f [U D]]
 exact wk
end Go.Proofs
