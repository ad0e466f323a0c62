import Derived.Test.YtkbacjmklhgpcaaGreatDoorSW0
import Derived.Test.YtkbacjmklhgpcaaGreatDoorSAw
import Derived.Test.YtkbacjmklhgpcaaGreatDoorQGkFman
import Derived.Test.YtkbacjmklhgpcaaGreatDoorSWcborc
import Derived.Test.YtkbacjmklhgpcaaGreatDoorSWlib
set_option linter.unusedVariables false
set_option linter.unusedSimpArgs false
set_option linter.unusedSectionVars false
set_option maxRecDepth 20000
set_option maxHeartbeats 20000000
namespace Go.Proofs
open Go Go.RowKit Go.Gk
open Go.Gk renaming RP -> O, Ret -> N, ar -> J, e64 -> H, e8 -> K, eP -> I, own -> W, pB -> Q, v64 -> M, vB -> U, vI -> V
open Go.Gk.OE renaming bx -> Y
theorem jM {f:World} (a0:Int) {r:Int×L01×L01×L01×L01×Int}
  (h:F.Xa a0=some r) :Calls Tryz.prog 17 #[V a0] f (N fun v w=>∃u1 u2 u3 u4:Value,v=.tuple #[V r.1,u1,u2,u3,u4,V r.2.2.2.2.2]/\St [] f w [W K u1 r.2.1,W K u2 r.2.2.1,W K u3 r.2.2.2.1,W K u4 r.2.2.2.2.1]):=by
 refine ca1 9 Tryz.func17 Z Z Z<|have hS:=St.r f;?_
 unfold F.Xa at h
 exact wk
theorem pW {p:World} {C:List (Int×UInt64×L01×Int)} {f:Value} {u A B:Nat} {S:L02} (a0:UInt64) (j D:Int) {r:Int×Int×Int}
  (h:F.S1 a0 C j D=some r) (hS:St S p p [Y u [f],Y A [V j],Y B [V D]]) (hT:TB S p) (G:O S p (I eI (I H (I eS eI))) f C):Calls Tryz.prog 86 #[M a0,Q u 0,Q A 0,Q B 0] p (N fun v w=>v=V r.1/\St S p w [Y u [f],Y A [V r.2.1],Y B [V r.2.2]]):=by
 refine ca4 18 Tryz.func86 Z Z Z ?_
 unfold F.S1 at h
 let j1:=fun E=>mkJ 5 (F.aaV j E) (fun g L w=>L=[(6,V E)]/\St S p w [Y u [f],Y A [V j],Y B [V g]]) [(6,V E)] []
 exact wk
theorem yJ {f:World} {a0:List (Int×UInt64×L01×Int)} {j:Value} (a1:Int) {r:Int×Int×Bool}
  (h:F.Tg a0 a1=some r) (hT:TB [] f) (p:O [] f (I eI (I H (I eS eI))) j a0):Calls Tryz.prog 40 #[j,V a1] f (N fun v w=>v=.tuple #[V r.1,V r.2.1,U r.2.2]/\St [] f w []):=by
 refine ca2 36 Tryz.func40 Z Z Z<|have hS:=St.r f;?_
 unfold F.Tg at h
 exact wk
theorem tS {E:World} {a0:List (Int×UInt64×L01×Int)} {G:Value} {r:Int×L01×L01×L01×L01×Int}
  (h:F.TE a0=some r) (hT:TB [] E) (ac:O [] E (I eI (I H (I eS eI))) G a0):Calls Tryz.prog 19 #[G] E (N fun v w=>v=.tuple #[.agg #[V r.1,vS r.2.1,vS r.2.2.1,vS r.2.2.2.1,vS r.2.2.2.2.1],V r.2.2.2.2.2]/\St [] E w []):=by
 refine ca1 190 Tryz.func19 Z Z Z<|have hS:=St.r E;?_
 unfold F.TE at h
 let j1:=fun f=>mkJ 5 (F.Ue a0) (fun g L w=>L=[(0,G),(2,Q f 0),(4,V g)]/\St [] E w [Y f [V 0,vS [],vS [],vS [],vS []]]) [(2,Q f 0)] [Y f [V 0,vS [],vS [],vS [],vS []]]
 let j2:=fun f=>mkJ 4 (F.aa5 a0) (fun g L w=>L=[(0,G),(2,Q f 0),(4,V 0),(27,U g)]/\St [] E w [Y f [V 0,vS [],vS [],vS [],vS []]]) [(2,Q f 0)] [Y f [V 0,vS [],vS [],vS [],vS []]]
 let j3:=fun f S=>mkJ 6 (F.TM a0 S) (fun g L w=>L=[(0,G),(2,Q f 0),(4,V S),(59,U g)]/\St [] E w [Y f [V 0,vS [],vS [],vS [],vS []]]) [(2,Q f 0),(4,V S)] [Y f [V 0,vS [],vS [],vS [],vS []]]
 let j4:=fun f T S=>mkJ 9 (F.T7 a0 S T) (fun g L w=>L=[(0,G),(2,Q f 0),(4,V S),(5,V T),(79,U g)]/\St [] E w [Y f [V 0,vS [],vS [],vS [],vS []]]) [(2,Q f 0),(4,V S),(5,V T)] [Y f [V 0,vS [],vS [],vS [],vS []]]
 let j5:=fun f j p (u:(Int×UInt64×L01×Int)) (A:(Int×UInt64×L01×Int)) (B:(Int×UInt64×L01×Int)) (D:List (Int×UInt64×L01×Int)×Int×Int) (C:Int×Int×Bool) (aa:Int×Int×Bool)=>mkJ 19 (F.TH a0 D C aa u A B) (fun g L w=>L=[(0,G),(2,Q f 0),(6,Q j 0),(7,p),(10,V C.1),(11,V C.2.1),(14,V aa.2.1),(152,U g)]/\St [] E w [Y f [V 0,vS [],vS [],vS [],vS []],Y j [V 0,vS u.2.2.1,vS [],vS A.2.2.1,vS B.2.2.1],W (I eI (I H (I eS eI))) p D.1]) [(2,Q f 0),(6,Q j 0),(7,p),(10,V C.1),(11,V C.2.1),(14,V aa.2.1)] [Y f [V 0,vS [],vS [],vS [],vS []],Y j [V 0,vS u.2.2.1,vS [],vS A.2.2.1,vS B.2.2.1],W (I eI (I H (I eS eI))) p D.1]
 let j6:=fun f j p (u:(Int×UInt64×L01×Int)) (A:(Int×UInt64×L01×Int)) (B:(Int×UInt64×L01×Int)) (D:List (Int×UInt64×L01×Int)×Int×Int) (C:Int×Int×Bool)=>mkJ 24 (F.TN D C u A B) (fun g L w=>L=[(2,Q f 0),(6,Q j 0),(7,p),(10,V C.1)]/\St [] E w [Y f [V 0,vS [],vS [],vS [],vS []],Y j [V 0,vS u.2.2.1,vS g,vS A.2.2.1,vS B.2.2.1],W (I eI (I H (I eS eI))) p D.1]) [(2,Q f 0),(6,Q j 0),(7,p),(10,V C.1)] [Y f [V 0,vS [],vS [],vS [],vS []],W (I eI (I H (I eS eI))) p D.1]
 let j7:=fun f j (u:(Int×UInt64×L01×Int)) (A:(Int×UInt64×L01×Int)) (B:(Int×UInt64×L01×Int)) ab=>mkJ 26 (F.Uw u A B ab) (fun g L w=>L=[(2,Q f 0),(6,Q j 0)]/\St [] E w [Y f [V 0,vS [],vS [],vS [],vS []],Y j [V g,vS u.2.2.1,vS ab,vS A.2.2.1,vS B.2.2.1]]) [(2,Q f 0),(6,Q j 0)] [Y f [V 0,vS [],vS [],vS [],vS []]]
 exact wk
theorem mx {f:World} {a0:L01} {p:Value} {S:L02} (a1:UInt8) (a2:L01) {r:L01}
  (h:F.TV a0 a1 a2=some r) (hS:St S f f [W K p a0]):Calls Tryz.prog 20 #[p,v8 a1,vS a2] f (N fun v w=>∃u0:Value,v=u0/\St S f w [W K u0 r]):=by
 refine ca3 65 Tryz.func20 Z Z Z ?_
 unfold F.TV at h
 let j1:=mkJ 11 (F.Xs a2) (fun g L w=>∃j,L=[(0,j),(2,vS a2)]/\St S f w [W K j g]) [] []
 exact wk
theorem zY {o:World} {a0 a1:L01} {z A:Value} {r:Int×L01×L01×L01×L01×Int}
  (h:F.Tf a0 a1=some r) (hT:TB [] o) (aj:O [] o K z a0) (ak:O [] o K A a1):Calls Tryz.prog 6 #[z,A] o (N fun v w=>∃u1 u2 u3 u4:Value,v=.tuple #[V r.1,u1,u2,u3,u4,V r.2.2.2.2.2]/\St [] o w [W K u1 r.2.1,W K u2 r.2.2.1,W K u3 r.2.2.2.1,W K u4 r.2.2.2.2.1]):=by
 refine dN 89 Tryz.func6 Z Z Z<|have b:=St.r o;ig [(0,z),(1,A)] Z ?_
 unfold F.Tf at h
 refine gl4<|J 6 Z<|gl2<|J 1 Z<|gl1 ?_
 refine ja (r:=r) (fun (g:Bool) L w=>L=[(0,z),(1,A),(10,.func (.func 17) #[] #[]),(23,U g)]/\St [] o w []) (F.Ua a0 a1) ?_ ?_
 rotate_left
 ·intro B
  refine bV<|J 1 Z<|aQ (gt u22 Z (aj.now b.fr)) Z<|J 2 Z ?_
  cases p:(decide ((65536:Int)<(a0.length:Int)))
  case true=>
   have h:=ik h p
   try simp only[p]
   exact J 4 Z<|gl3<|de (B true _ _ ⟨Z,b⟩ h) Z
  case false=>
   have h:=il h p
   try simp only[p]
   exact J 1 Z<|dJ (t:=19) Z Z (gt u22 Z (ak.now b.fr)) Z<|J 2 Z<|gl3<|de (B (decide ((65536:Int)<(a1.length:Int))) _ _ ⟨Z,b⟩ h) Z
 rintro aS L w hJ h
 try dsimp only at hJ
 obtain⟨rfl,b⟩:=hJ
 unfold F.Ua at h
 apply gl9 Z h<;>intro h
 ·refine gl4<|J 1 Z<|cq h fun aT al h=>pD Z (by kernel_rfl) Z (jM 10 al ) Z ?_
  rintro _ w ⟨aI,aJ,aK,am,rfl,c⟩
  have b:=b.j c
  refine J 12 Z<|gl8 ?_
  cases h
  exact ql Z Z Z Z Z Z Z ⟨aI,aJ,aK,am,Z,b.f [0,1,2,3] Z Z⟩
 refine gl6<|J 1 Z<|cq h fun f S h=>O1 b Z (rS  S (hT.now b.fr) (aj.now b.fr).rp) Z fun j w b=>J 7 Z<|gl1<|gl4<|J 2 Z<|gl3 ?_
 apply gl9 Z h<;>intro h
 ·refine gl4<|J 2 Z<|cq h fun aP T h=>pD Z (by kernel_rfl) Z (jM f.2.1 T ) Z ?_
  rintro _ w ⟨an,ao,ap,aq,rfl,c⟩
  have b:=b.j c
  refine J 12 Z<|gl8 ?_
  cases h
  exact ql Z Z Z Z Z Z Z ⟨an,ao,ap,aq,Z,b.f [0,1,2,3] Z Z⟩
 refine gl6<|J 1 Z<|cq h fun a aa h=>pe b Z (tS  aa (hT.now b.fr) (b.ro 0 Z).rp) Z fun w b=>J 3 Z<|qd (mU (cs:=[V 0,vS [],vS [],vS [],vS []]) OW Z b) Z fun m w b=>ia (jN (i:=0) (us:=[V a.1,vS a.2.1,vS a.2.2.1,vS a.2.2.2.1,vS a.2.2.2.2.1]) Z Oz Z Z Z ⟨Z,Z,Z,Z,Z,trivial⟩ Z b) fun w b=>J 1 Z<|gl1<|cI ?_
 refine bV<|J 2 Z<|gl3 ?_
 apply gl9 Z h<;>intro h
 ·refine gl4<|J 2 Z<|cq h fun aR ab h=>pD Z (by kernel_rfl) Z (jM a.2.2.2.2.2 ab ) Z ?_
  rintro _ w ⟨au,av,aw,ax,rfl,c⟩
  have b:=b.j c
  refine J 12 Z<|gl8 ?_
  cases h
  exact ql Z Z Z Z Z Z Z ⟨au,av,aw,ax,Z,b.f [0,1,2,3] Z Z⟩
 refine gl6<|kQ (kx (e:=K) (l:=[132]) (vs:=[v8 132]) u22 ti5 Z Z Z Z (by decide) (by decide) b) Z fun ay w b=>have n:=b.pick (os':=[W K ay [132]]++[Y m [V a.1,vS a.2.1,vS a.2.2.1,vS a.2.2.2.1,vS a.2.2.2.2.1],W (I eI (I H (I eS eI))) j f.1]) [0,1,2] (by decide) Z;cq h fun az ac h=>lU Z (mx 3 [83,105,103,110,97,116,117,114,101,49] ac n.give ) Z ?_
 rintro aA w ⟨aL,C,c⟩
 rw[<-C]at c
 have b:=n.p c
 refine J 1 Z<|gl1<|have hsh0:=(b.ro 0 Z).shp;kL (fun w'=>St [] o w' [Y m [V a.1,vS a.2.1,vS a.2.2.1,vS a.2.2.2.1,vS a.2.2.2.2.1],W (I eI (I H (I eS eI))) j f.1]) (fun i=>!([3,6,9].contains i)) ku (fun _ _ _ hf=>hf.2) (fun _ _ hf=>hf) (by kernel_rfl)<|have b:=b.drew;show lxE _ _ _ _ _ _ _ [0,1,2,3,4,5,6,7,8,9,10] _ _ from cG 1 Z (b.f [1,2] Z Z)<|cC (b.f [1,2] Z Z) Z Z (fun w d=>bu (k:=1) u61 Z Z nz9 Z) Z<|cC (b.f [1,2] Z Z) Z Z (fun w d=>cb Tryz.underlying9 Z Z (d.u 0 Z 1)) Z<|have n:=b.pick (os':=[W K aA az]++[Y m [V a.1,vS a.2.1,vS a.2.2.1,vS a.2.2.2.1,vS a.2.2.2.2.1],W (I eI (I H (I eS eI))) j f.1]) [0,1,2] (by decide) Z;cq h fun aC ad h=>jQ (b.f [1,2] Z Z) Z Z (by kernel_rfl) Z (mx 2 a.2.1 ad n.give ) Z ?_
 rintro aD w ⟨aM,D,c⟩
 rw[<-D]at c
 have b:=n.p c
 refine cG 1 Z (b.f [1,2] Z Z)<|cC (b.f [1,2] Z Z) Z Z (fun w d=>DN u22 Tryz.underlying5 Tryz.underlying9 Z (ak.now d.fr)) Z<|have n:=b.pick (os':=[W K aD aC]++[Y m [V a.1,vS a.2.1,vS a.2.2.1,vS a.2.2.2.1,vS a.2.2.2.2.1],W (I eI (I H (I eS eI))) j f.1]) [0,1,2] (by decide) Z;cq h fun aE ae h=>jQ (b.f [1,2] Z Z) Z Z (by kernel_rfl) Z (mx 2 a1 ae n.give ) Z ?_
 rintro aF w ⟨aN,E,c⟩
 rw[<-E]at c
 have b:=n.p c
 refine cC (b.f [1,2] Z Z) Z Z (fun w d=>bu (k:=3) u61 Z Z nz9 Z) Z<|cC (b.f [1,2] Z Z) Z Z (fun w d=>cb Tryz.underlying9 Z Z (d.u 0 Z 3)) Z<|have n:=b.pick (os':=[W K aF aE]++[Y m [V a.1,vS a.2.1,vS a.2.2.1,vS a.2.2.2.1,vS a.2.2.2.2.1],W (I eI (I H (I eS eI))) j f.1]) [0,1,2] (by decide) Z;cq h fun s af h=>jQ (b.f [1,2] Z Z) Z Z (by kernel_rfl) Z (mx 2 a.2.2.2.1 af n.give ) Z ?_
 rintro q w ⟨aO,G,c⟩
 rw[<-G]at c
 have b:=n.p c
 refine cG 1 Z (b.f [1,2] Z Z)<|iB (b.f [1,2] Z Z)<|bA<|cI<|C4 (os:=[W K q s,Y m [V a.1,vS a.2.1,vS a.2.2.1,vS a.2.2.2.1,vS a.2.2.2.2.1],W (I eI (I H (I eS eI))) j f.1]) (fun i=>[4,7,10].contains i) (fun i v=>if i=4 then W K v a.2.2.1 else if i=7 then W K v a.2.2.2.1 else W K v a.2.2.2.2.1) b ku (by kernel_rfl)<|show ue _ _ _ _ _ _ _ _ _ _ [0,1,2,3,4,5,6,7,8,9,10,11,12,13,14,15,16,17] _ _ from kf Z Z (fun w d=>bu (k:=0) u61 Z Z Sw Z) Z<|kf Z Z (fun w d=>cb Tryz.underlying29 Z Z (d.u 1 Z 0)) Z<|kf Z Z (fun w d=>bu (k:=2) u61 Z Z nz9 Z) Z<|kf Z Z (fun w d=>cb Tryz.underlying9 Z Z (d.u 1 Z 2)) Z<|sS h fun ag h=>tT (fun v=>W K v a.2.2.1) Z Z (fun v=>Z) (fun w os' b=>(qP Tryz.underlying9 u22 Tryz.underlying5 Z b ag)) Z fun u=>kf Z Z (fun w d=>bu (k:=3) u61 Z Z nz9 Z) Z<|kf Z Z (fun w d=>cb Tryz.underlying9 Z Z (d.u 1 Z 3)) Z<|sS h fun ah h=>tT (fun v=>W K v a.2.2.2.1) Z Z (fun v=>Z) (fun w os' b=>(qP Tryz.underlying9 u22 Tryz.underlying5 Z b ah)) Z fun x=>kf Z Z (fun w d=>bu (k:=4) u61 Z Z nz9 Z) Z<|kf Z Z (fun w d=>cb Tryz.underlying9 Z Z (d.u 1 Z 4)) Z ?_
 refine sS h fun ai h=>tT (fun v=>W K v a.2.2.2.2.1) Z Z (fun v=>Z) (fun w os' b=>(qP Tryz.underlying9 u22 Tryz.underlying5 Z b ai)) Z fun y=>kf Z Z (fun w d=>oN Z) Z<|kf Z Z (fun w d=>dp Z) Z<|kf Z Z (fun w d=>dp Z) Z<|kf Z Z (fun w d=>dp Z) Z<|kf Z Z (fun w d=>dp Z) Z<|kf Z Z (fun w d=>dp Z) Z<|kf Z Z (fun w d=>dp Z) Z<|JX fun w b=>?_
 replace b:St [] o w [W K u a.2.2.1,W K x a.2.2.2.1,W K y a.2.2.2.2.1,W K q s,Y m [V a.1,vS a.2.1,vS a.2.2.1,vS a.2.2.2.1,vS a.2.2.2.2.1],W (I eI (I H (I eS eI))) j f.1]:=b
 replace b:St [] o w [W K y a.2.2.2.2.1,W K x a.2.2.2.1,W K u a.2.2.1,W K q s,Y m [V a.1,vS a.2.1,vS a.2.2.1,vS a.2.2.2.1,vS a.2.2.2.2.1],W (I eI (I H (I eS eI))) j f.1]:=b.f [2,1,0,3,4,5] rfl rfl
 refine bA<|gM ?_
 cases h
 exact ql Z Z Z Z Z Z Z ⟨u,x,y,q,Z,b.f [2,1,0,3] Z Z⟩
theorem pS {j:World} {a1:List Int} {A:List (Int×UInt64×L01×Int)} {D f:Value} {p u:Nat} {S:L02} (a0:UInt64) (B:Bool) {r:Int×Bool}
  (h:F.Uu a0 a1 A B=some r) (hS:St S j j [Y p [f],Y u [U B]]) (hT:TB S j) (G:O S j eI D a1) (E:O S j (I eI (I H (I eS eI))) f A):Calls Tryz.prog 32 #[M a0,D,Q p 0,Q u 0] j (N fun v w=>v=V r.1/\St S j w [Y p [f],Y u [U r.2]]):=by
 refine ca4 29 Tryz.func32 Z Z Z ?_
 unfold F.Uu at h
 let j1:=fun C=>mkJ 4 (F.VX C) (fun g L w=>L=[(7,V C)]/\St S j w [Y p [f],Y u [U g]]) [(7,V C)] []
 exact wk
theorem pR {u:World} {A:List (Int×UInt64×L01×Int)} {f:Value} {B j p:Nat} {S:L02} (a0:UInt64) (a1:Int) (C:Bool) {r:L01×Bool×Bool}
  (h:F.TQ a0 a1 A C=some r) (hS:St S u u [Y B [.func (.func 32) #[] #[Q j 0,Q p 0]],Y j [f],Y p [U C]]) (hT:TB S u) (D:O S u (I eI (I H (I eS eI))) f A):Calls Tryz.prog 35 #[M a0,V a1,Q B 0,Q j 0] u (N fun v w=>v=.tuple #[vS r.1,U r.2.1]/\St S u w [Y B [.func (.func 32) #[] #[Q j 0,Q p 0]],Y j [f],Y p [U r.2.2]]):=by
 refine ca4 21 Tryz.func35 Z Z Z ?_
 unfold F.TQ at h
 exact wk
theorem pN {A:World} {C:List (Int×UInt64×L01×Int)} {p:Value} {B f j:Nat} {S:L02} (a0:UInt64) (E:Bool) {r:Bool×Int×Bool}
  (h:F.TR a0 E C=some r) (hS:St S A A [Y B [.func (.func 32) #[] #[Q j 0,Q f 0]],Y f [U E],Y j [p]]) (hT:TB S A) (T:O S A (I eI (I H (I eS eI))) p C):Calls Tryz.prog 36 #[M a0,Q B 0,Q f 0,Q j 0] A (N fun v w=>v=.agg #[U r.1,V r.2.1]/\St S A w [Y B [.func (.func 32) #[] #[Q j 0,Q f 0]],Y f [U r.2.2],Y j [p]]):=by
 refine ca4 40 Tryz.func36 Z Z Z ?_
 unfold F.TR at h
 let j1:=fun u (G:Int×Bool)=>mkJ 6 (F.aaR C G) (fun g L w=>L=[(3,Q j 0),(5,Q u 0),(6,V G.1)]/\St S A w [Y j [p],Y u [U false,V 0],Y B [.func (.func 32) #[] #[Q j 0,Q f 0]],Y f [U g]]) [(5,Q u 0),(6,V G.1)] [Y u [U false,V 0]]
 let j2:=fun u D=>mkJ 9 (F.abb D) (fun g L w=>L=[(5,Q u 0),(7,V g)]/\St S A w [Y u [U false,V 0],Y B [.func (.func 32) #[] #[Q j 0,Q f 0]],Y j [p],Y f [U D]]) [(5,Q u 0)] [Y u [U false,V 0],Y f [U D]]
 exact wk
end Go.Proofs
