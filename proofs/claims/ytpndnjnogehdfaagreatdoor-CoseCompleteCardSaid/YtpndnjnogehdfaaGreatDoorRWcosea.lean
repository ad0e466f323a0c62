import Derived.Test.YtpndnjnogehdfaaGreatDoorRW0
import Derived.Test.YtpndnjnogehdfaaGreatDoorRAw
import Derived.Test.YtpndnjnogehdfaaGreatDoorGkFman
import Derived.Test.YtpndnjnogehdfaaGreatDoorRWcborc
import Derived.Test.YtpndnjnogehdfaaGreatDoorRWlib
set_option linter.unusedVariables false
set_option linter.unusedSimpArgs false
set_option linter.unusedSectionVars false
set_option maxRecDepth 20000
set_option maxHeartbeats 20000000
namespace Go.Proofs
open Go Go.RowKit Go.Gk
open Go.Gk renaming RP -> N, Ret -> K, al -> O, e8 -> H, eP -> J, own -> W, pB -> R, v64 -> M, vB -> V, vI -> U
open Go.Gk.OE renaming bx -> Y
theorem jv {f:World} (a0:Int) {r:Int×Y3×Y3×Y3×Y3×Int}
  (h:F.Uw a0=some r) :Calls Tryz.prog 18 #[U a0] f (K fun v w=>∃u1 u2 u3 u4:Value,v=.tuple #[U r.1,u1,u2,u3,u4,U r.2.2.2.2.2]/\St [] f w [W H u1 r.2.1,W H u2 r.2.2.1,W H u3 r.2.2.2.1,W H u4 r.2.2.2.2.1]):=by
 refine ca1 9 Tryz.func18 Z Z Z<|have hS:=St.q f;?_
 unfold F.Uw at h
 exact wk
theorem pE {p:World} {C:List (Int×UInt64×Y3×Int)} {f:Value} {u A B:Nat} {S:Y4} (a0:UInt64) (j D:Int) {r:Int×Int×Int}
  (h:F.QL a0 C j D=some r) (hS:St S p p [Y u [f],Y A [U j],Y B [U D]]) (hT:TB S p) (G:N S p (J eI (J e64 (J eS eI))) f C):Calls Tryz.prog 93 #[M a0,R u 0,R A 0,R B 0] p (K fun v w=>v=U r.1/\St S p w [Y u [f],Y A [U r.2.1],Y B [U r.2.2]]):=by
 refine ca4 18 Tryz.func93 Z Z Z ?_
 unfold F.QL at h
 let j1:=fun E=>mkJ 5 (F.XP j E) (fun g L w=>L=[(6,U E)]/\St S p w [Y u [f],Y A [U j],Y B [U g]]) [(6,U E)] []
 exact wk
theorem xM {f:World} {a0:List (Int×UInt64×Y3×Int)} {j:Value} (a1:Int) {r:Int×Int×Bool}
  (h:F.QW a0 a1=some r) (hT:TB [] f) (p:N [] f (J eI (J e64 (J eS eI))) j a0):Calls Tryz.prog 51 #[j,U a1] f (K fun v w=>v=.tuple #[U r.1,U r.2.1,V r.2.2]/\St [] f w []):=by
 refine ca2 36 Tryz.func51 Z Z Z<|have hS:=St.q f;?_
 unfold F.QW at h
 exact wk
theorem ta {E:World} {a0:List (Int×UInt64×Y3×Int)} {G:Value} {r:Int×Y3×Y3×Y3×Y3×Int}
  (h:F.Rc a0=some r) (hT:TB [] E) (ac:N [] E (J eI (J e64 (J eS eI))) G a0):Calls Tryz.prog 20 #[G] E (K fun v w=>v=.tuple #[.agg #[U r.1,vS r.2.1,vS r.2.2.1,vS r.2.2.2.1,vS r.2.2.2.2.1],U r.2.2.2.2.2]/\St [] E w []):=by
 refine ca1 190 Tryz.func20 Z Z Z<|have hS:=St.q E;?_
 unfold F.Rc at h
 let j1:=fun f=>mkJ 5 (F.RH a0) (fun g L w=>L=[(0,G),(2,R f 0),(4,U g)]/\St [] E w [Y f [U 0,vS [],vS [],vS [],vS []]]) [(2,R f 0)] [Y f [U 0,vS [],vS [],vS [],vS []]]
 let j2:=fun f=>mkJ 4 (F.XX a0) (fun g L w=>L=[(0,G),(2,R f 0),(4,U 0),(27,V g)]/\St [] E w [Y f [U 0,vS [],vS [],vS [],vS []]]) [(2,R f 0)] [Y f [U 0,vS [],vS [],vS [],vS []]]
 let j3:=fun f S=>mkJ 6 (F.Rh a0 S) (fun g L w=>L=[(0,G),(2,R f 0),(4,U S),(59,V g)]/\St [] E w [Y f [U 0,vS [],vS [],vS [],vS []]]) [(2,R f 0),(4,U S)] [Y f [U 0,vS [],vS [],vS [],vS []]]
 let j4:=fun f T S=>mkJ 9 (F.Rx a0 S T) (fun g L w=>L=[(0,G),(2,R f 0),(4,U S),(5,U T),(79,V g)]/\St [] E w [Y f [U 0,vS [],vS [],vS [],vS []]]) [(2,R f 0),(4,U S),(5,U T)] [Y f [U 0,vS [],vS [],vS [],vS []]]
 let j5:=fun f j p (u:(Int×UInt64×Y3×Int)) (A:(Int×UInt64×Y3×Int)) (B:(Int×UInt64×Y3×Int)) (D:List (Int×UInt64×Y3×Int)×Int×Int) (C:Int×Int×Bool) (aa:Int×Int×Bool)=>mkJ 19 (F.Rf a0 D C aa u A B) (fun g L w=>L=[(0,G),(2,R f 0),(6,R j 0),(7,p),(10,U C.1),(11,U C.2.1),(14,U aa.2.1),(152,V g)]/\St [] E w [Y f [U 0,vS [],vS [],vS [],vS []],Y j [U 0,vS u.2.2.1,vS [],vS A.2.2.1,vS B.2.2.1],W (J eI (J e64 (J eS eI))) p D.1]) [(2,R f 0),(6,R j 0),(7,p),(10,U C.1),(11,U C.2.1),(14,U aa.2.1)] [Y f [U 0,vS [],vS [],vS [],vS []],Y j [U 0,vS u.2.2.1,vS [],vS A.2.2.1,vS B.2.2.1],W (J eI (J e64 (J eS eI))) p D.1]
 let j6:=fun f j p (u:(Int×UInt64×Y3×Int)) (A:(Int×UInt64×Y3×Int)) (B:(Int×UInt64×Y3×Int)) (D:List (Int×UInt64×Y3×Int)×Int×Int) (C:Int×Int×Bool)=>mkJ 24 (F.Sk D C u A B) (fun g L w=>L=[(2,R f 0),(6,R j 0),(7,p),(10,U C.1)]/\St [] E w [Y f [U 0,vS [],vS [],vS [],vS []],Y j [U 0,vS u.2.2.1,vS g,vS A.2.2.1,vS B.2.2.1],W (J eI (J e64 (J eS eI))) p D.1]) [(2,R f 0),(6,R j 0),(7,p),(10,U C.1)] [Y f [U 0,vS [],vS [],vS [],vS []],W (J eI (J e64 (J eS eI))) p D.1]
 let j7:=fun f j (u:(Int×UInt64×Y3×Int)) (A:(Int×UInt64×Y3×Int)) (B:(Int×UInt64×Y3×Int)) ab=>mkJ 26 (F.Wj u A B ab) (fun g L w=>L=[(2,R f 0),(6,R j 0)]/\St [] E w [Y f [U 0,vS [],vS [],vS [],vS []],Y j [U g,vS u.2.2.1,vS ab,vS A.2.2.1,vS B.2.2.1]]) [(2,R f 0),(6,R j 0)] [Y f [U 0,vS [],vS [],vS [],vS []]]
 exact wk
theorem lN {f:World} {a0:Y3} {p:Value} {S:Y4} (a1:UInt8) (a2:Y3) {r:Y3}
  (h:F.Rp a0 a1 a2=some r) (hS:St S f f [W H p a0]):Calls Tryz.prog 21 #[p,v8 a1,vS a2] f (K fun v w=>∃u0:Value,v=u0/\St S f w [W H u0 r]):=by
 refine ca3 65 Tryz.func21 Z Z Z ?_
 unfold F.Rp at h
 let j1:=mkJ 11 (F.UH a2) (fun g L w=>∃j,L=[(0,j),(2,vS a2)]/\St S f w [W H j g]) [] []
 exact wk
theorem yW {o:World} {a0 a1:Y3} {z A:Value} {r:Int×Y3×Y3×Y3×Y3×Int}
  (h:F.Re a0 a1=some r) (hT:TB [] o) (aj:N [] o H z a0) (ak:N [] o H A a1):Calls Tryz.prog 8 #[z,A] o (K fun v w=>∃u1 u2 u3 u4:Value,v=.tuple #[U r.1,u1,u2,u3,u4,U r.2.2.2.2.2]/\St [] o w [W H u1 r.2.1,W H u2 r.2.2.1,W H u3 r.2.2.2.1,W H u4 r.2.2.2.2.1]):=by
 refine eZ 89 Tryz.func8 Z Z Z<|have b:=St.q o;gl [(0,z),(1,A)] Z ?_
 unfold F.Re at h
 refine gl4<|O 6 Z<|gl2<|O 1 Z<|gl1 ?_
 refine gI (r:=r) (fun (g:Bool) L w=>L=[(0,z),(1,A),(10,.func (.func 18) #[] #[]),(23,V g)]/\St [] o w []) (F.Rz a0 a1) ?_ ?_
 rotate_left
 ·intro B
  refine bC<|O 1 Z<|aT (fc u22 Z (aj.now b.fr)) Z<|O 2 Z ?_
  cases p:(decide ((65536:Int)<(a0.length:Int)))
  case true=>
   have h:=fD h p
   try simp only[p]
   exact O 4 Z<|gl3<|cz (B true _ _ ⟨Z,b⟩ h) Z
  case false=>
   have h:=fE h p
   try simp only[p]
   exact O 1 Z<|cc (t:=19) Z Z (fc u22 Z (ak.now b.fr)) Z<|O 2 Z<|gl3<|cz (B (decide ((65536:Int)<(a1.length:Int))) _ _ ⟨Z,b⟩ h) Z
 rintro aR L w hJ h
 try dsimp only at hJ
 obtain⟨rfl,b⟩:=hJ
 unfold F.Rz at h
 apply gl9 Z h<;>intro h
 ·refine gl4<|O 1 Z<|bZ h fun aS am h=>o7 Z (by kernel_rfl) Z (jv 10 am ) Z ?_
  rintro _ w ⟨aI,aJ,aK,an,rfl,c⟩
  have b:=b.call c
  refine O 12 Z<|gl8 ?_
  cases h
  exact pY Z Z Z Z Z Z Z ⟨aI,aJ,aK,an,Z,b.f [0,1,2,3] Z Z⟩
 refine gl6<|O 1 Z<|bZ h fun f S h=>MG b Z (rn  S (hT.now b.fr) (aj.now b.fr).rp) Z fun j w b=>O 7 Z<|gl1<|gl4<|O 2 Z<|gl3 ?_
 apply gl9 Z h<;>intro h
 ·refine gl4<|O 2 Z<|bZ h fun aP T h=>o7 Z (by kernel_rfl) Z (jv f.2.1 T ) Z ?_
  rintro _ w ⟨ao,ap,aq,ar,rfl,c⟩
  have b:=b.call c
  refine O 12 Z<|gl8 ?_
  cases h
  exact pY Z Z Z Z Z Z Z ⟨ao,ap,aq,ar,Z,b.f [0,1,2,3] Z Z⟩
 refine gl6<|O 1 Z<|bZ h fun a aa h=>nu b Z (ta  aa (hT.now b.fr) (b.ro 0 Z).rp) Z fun w b=>O 3 Z<|oq (kX (cs:=[U 0,vS [],vS [],vS [],vS []]) LV Z b) Z fun m w b=>gh (jf (i:=0) (us:=[U a.1,vS a.2.1,vS a.2.2.1,vS a.2.2.2.1,vS a.2.2.2.2.1]) Z N1 Z Z Z ⟨Z,Z,Z,Z,Z,trivial⟩ Z b) fun w b=>O 1 Z<|gl1<|cb ?_
 refine bC<|O 2 Z<|gl3 ?_
 apply gl9 Z h<;>intro h
 ·refine gl4<|O 2 Z<|bZ h fun aQ ab h=>o7 Z (by kernel_rfl) Z (jv a.2.2.2.2.2 ab ) Z ?_
  rintro _ w ⟨au,av,aw,ax,rfl,c⟩
  have b:=b.call c
  refine O 12 Z<|gl8 ?_
  cases h
  exact pY Z Z Z Z Z Z Z ⟨au,av,aw,ax,Z,b.f [0,1,2,3] Z Z⟩
 refine gl6<|jC (jW (e:=H) (l:=[132]) (vs:=[v8 132]) u22 ti5 Z Z Z Z (by decide) (by decide) b) Z fun ay w b=>have n:=b.pick (os':=[W H ay [132]]++[Y m [U a.1,vS a.2.1,vS a.2.2.1,vS a.2.2.2.1,vS a.2.2.2.2.1],W (J eI (J e64 (J eS eI))) j f.1]) [0,1,2] (by decide) Z;bZ h fun az ac h=>kx Z (lN 3 [83,105,103,110,97,116,117,114,101,49] ac n.give ) Z ?_
 rintro aA w ⟨aL,C,c⟩
 rw[<-C]at c
 have b:=n.j c
 refine O 1 Z<|gl1<|have hsh0:=(b.ro 0 Z).shp;kj (fun w'=>St [] o w' [Y m [U a.1,vS a.2.1,vS a.2.2.1,vS a.2.2.2.1,vS a.2.2.2.2.1],W (J eI (J e64 (J eS eI))) j f.1]) (fun i=>!([3,6,9].contains i)) ky (fun _ _ _ hf=>hf.2) (fun _ _ hf=>hf) (by kernel_rfl)<|have b:=b.drew;show lxE _ _ _ _ _ _ _ [0,1,2,3,4,5,6,7,8,9,10] _ _ from cM 1 Z (b.f [1,2] Z Z)<|dg (b.f [1,2] Z Z) Z Z (fun w d=>bc (k:=1) u69 Z Z nz9 Z) Z<|dg (b.f [1,2] Z Z) Z Z (fun w d=>bY Tryz.underlying9 Z Z (d.s 0 Z 1)) Z<|have n:=b.pick (os':=[W H aA az]++[Y m [U a.1,vS a.2.1,vS a.2.2.1,vS a.2.2.2.1,vS a.2.2.2.2.1],W (J eI (J e64 (J eS eI))) j f.1]) [0,1,2] (by decide) Z;bZ h fun aC ad h=>kf (b.f [1,2] Z Z) Z Z (by kernel_rfl) Z (lN 2 a.2.1 ad n.give ) Z ?_
 rintro aD w ⟨aM,D,c⟩
 rw[<-D]at c
 have b:=n.j c
 refine cM 1 Z (b.f [1,2] Z Z)<|dg (b.f [1,2] Z Z) Z Z (fun w d=>CC u22 Tryz.underlying5 Tryz.underlying9 Z (ak.now d.fr)) Z<|have n:=b.pick (os':=[W H aD aC]++[Y m [U a.1,vS a.2.1,vS a.2.2.1,vS a.2.2.2.1,vS a.2.2.2.2.1],W (J eI (J e64 (J eS eI))) j f.1]) [0,1,2] (by decide) Z;bZ h fun aE ae h=>kf (b.f [1,2] Z Z) Z Z (by kernel_rfl) Z (lN 2 a1 ae n.give ) Z ?_
 rintro aF w ⟨aN,E,c⟩
 rw[<-E]at c
 have b:=n.j c
 refine dg (b.f [1,2] Z Z) Z Z (fun w d=>bc (k:=3) u69 Z Z nz9 Z) Z<|dg (b.f [1,2] Z Z) Z Z (fun w d=>bY Tryz.underlying9 Z Z (d.s 0 Z 3)) Z<|have n:=b.pick (os':=[W H aF aE]++[Y m [U a.1,vS a.2.1,vS a.2.2.1,vS a.2.2.2.1,vS a.2.2.2.2.1],W (J eI (J e64 (J eS eI))) j f.1]) [0,1,2] (by decide) Z;bZ h fun s af h=>kf (b.f [1,2] Z Z) Z Z (by kernel_rfl) Z (lN 2 a.2.2.2.1 af n.give ) Z ?_
 rintro q w ⟨aO,G,c⟩
 rw[<-G]at c
 have b:=n.j c
 refine cM 1 Z (b.f [1,2] Z Z)<|jk (b.f [1,2] Z Z)<|bp<|cb<|BU (os:=[W H q s,Y m [U a.1,vS a.2.1,vS a.2.2.1,vS a.2.2.2.1,vS a.2.2.2.2.1],W (J eI (J e64 (J eS eI))) j f.1]) (fun i=>[4,7,10].contains i) (fun i v=>if i=4 then W H v a.2.2.1 else if i=7 then W H v a.2.2.2.1 else W H v a.2.2.2.2.1) b ky (by kernel_rfl)<|show tm _ _ _ _ _ _ _ _ _ _ [0,1,2,3,4,5,6,7,8,9,10,11,12,13,14,15,16,17] _ _ from jN Z Z (fun w d=>bc (k:=0) u69 Z Z MA Z) Z<|jN Z Z (fun w d=>bY Tryz.underlying35 Z Z (d.s 1 Z 0)) Z<|jN Z Z (fun w d=>bc (k:=2) u69 Z Z nz9 Z) Z<|jN Z Z (fun w d=>bY Tryz.underlying9 Z Z (d.s 1 Z 2)) Z<|sa h fun ag h=>tc (fun v=>W H v a.2.2.1) Z Z (fun v=>Z) (fun w os' b=>(qv Tryz.underlying9 u22 Tryz.underlying5 Z b ag)) Z fun u=>jN Z Z (fun w d=>bc (k:=3) u69 Z Z nz9 Z) Z<|jN Z Z (fun w d=>bY Tryz.underlying9 Z Z (d.s 1 Z 3)) Z<|sa h fun ah h=>tc (fun v=>W H v a.2.2.2.1) Z Z (fun v=>Z) (fun w os' b=>(qv Tryz.underlying9 u22 Tryz.underlying5 Z b ah)) Z fun x=>jN Z Z (fun w d=>bc (k:=4) u69 Z Z nz9 Z) Z<|jN Z Z (fun w d=>bY Tryz.underlying9 Z Z (d.s 1 Z 4)) Z ?_
 refine sa h fun ai h=>tc (fun v=>W H v a.2.2.2.2.1) Z Z (fun v=>Z) (fun w os' b=>(qv Tryz.underlying9 u22 Tryz.underlying5 Z b ai)) Z fun y=>jN Z Z (fun w d=>ow Z) Z<|jN Z Z (fun w d=>dz Z) Z<|jN Z Z (fun w d=>dz Z) Z<|jN Z Z (fun w d=>dz Z) Z<|jN Z Z (fun w d=>dz Z) Z<|jN Z Z (fun w d=>dz Z) Z<|jN Z Z (fun w d=>dz Z) Z<|Io fun w b=>?_
 replace b:St [] o w [W H u a.2.2.1,W H x a.2.2.2.1,W H y a.2.2.2.2.1,W H q s,Y m [U a.1,vS a.2.1,vS a.2.2.1,vS a.2.2.2.1,vS a.2.2.2.2.1],W (J eI (J e64 (J eS eI))) j f.1]:=b
 replace b:St [] o w [W H y a.2.2.2.2.1,W H x a.2.2.2.1,W H u a.2.2.1,W H q s,Y m [U a.1,vS a.2.1,vS a.2.2.1,vS a.2.2.2.1,vS a.2.2.2.2.1],W (J eI (J e64 (J eS eI))) j f.1]:=b.f [2,1,0,3,4,5] rfl rfl
 refine bp<|f5 ?_
 cases h
 exact pY Z Z Z Z Z Z Z ⟨u,x,y,q,Z,b.f [2,1,0,3] Z Z⟩
theorem py {j:World} {a1:List Int} {A:List (Int×UInt64×Y3×Int)} {D f:Value} {p u:Nat} {S:Y4} (a0:UInt64) (B:Bool) {r:Int×Bool}
  (h:F.RT a0 a1 A B=some r) (hS:St S j j [Y p [f],Y u [V B]]) (hT:TB S j) (G:N S j eI D a1) (E:N S j (J eI (J e64 (J eS eI))) f A):Calls Tryz.prog 37 #[M a0,D,R p 0,R u 0] j (K fun v w=>v=U r.1/\St S j w [Y p [f],Y u [V r.2]]):=by
 refine ca4 29 Tryz.func37 Z Z Z ?_
 unfold F.RT at h
 let j1:=fun C=>mkJ 4 (F.Tq C) (fun g L w=>L=[(7,U C)]/\St S j w [Y p [f],Y u [V g]]) [(7,U C)] []
 exact wk
theorem px {u:World} {A:List (Int×UInt64×Y3×Int)} {f:Value} {B j p:Nat} {S:Y4} (a0:UInt64) (a1:Int) (C:Bool) {r:Y3×Bool×Bool}
  (h:F.Rj a0 a1 A C=some r) (hS:St S u u [Y B [.func (.func 37) #[] #[R j 0,R p 0]],Y j [f],Y p [V C]]) (hT:TB S u) (D:N S u (J eI (J e64 (J eS eI))) f A):Calls Tryz.prog 40 #[M a0,U a1,R B 0,R j 0] u (K fun v w=>v=.tuple #[vS r.1,V r.2.1]/\St S u w [Y B [.func (.func 37) #[] #[R j 0,R p 0]],Y j [f],Y p [V r.2.2]]):=by
 refine ca4 21 Tryz.func40 Z Z Z ?_
 unfold F.Rj at h
 exact wk
theorem pt {A:World} {C:List (Int×UInt64×Y3×Int)} {p:Value} {B f j:Nat} {S:Y4} (a0:UInt64) (E:Bool) {r:Bool×Int×Bool}
  (h:F.Rk a0 E C=some r) (hS:St S A A [Y B [.func (.func 37) #[] #[R j 0,R f 0]],Y f [V E],Y j [p]]) (hT:TB S A) (T:N S A (J eI (J e64 (J eS eI))) p C):Calls Tryz.prog 41 #[M a0,R B 0,R f 0,R j 0] A (K fun v w=>v=.agg #[V r.1,U r.2.1]/\St S A w [Y B [.func (.func 37) #[] #[R j 0,R f 0]],Y f [V r.2.2],Y j [p]]):=by
 refine ca4 40 Tryz.func41 Z Z Z ?_
 unfold F.Rk at h
 let j1:=fun u (G:Int×Bool)=>mkJ 6 (F.XK C G) (fun g L w=>L=[(3,R j 0),(5,R u 0),(6,U G.1)]/\St S A w [Y j [p],Y u [V false,U 0],Y B [.func (.func 37) #[] #[R j 0,R f 0]],Y f [V g]]) [(5,R u 0),(6,U G.1)] [Y u [V false,U 0]]
 let j2:=fun u D=>mkJ 9 (F.X7 D) (fun g L w=>L=[(5,R u 0),(7,U g)]/\St S A w [Y u [V false,U 0],Y B [.func (.func 37) #[] #[R j 0,R f 0]],Y j [p],Y f [V D]]) [(5,R u 0)] [Y u [V false,U 0],Y f [V D]]
 exact wk
end Go.Proofs
