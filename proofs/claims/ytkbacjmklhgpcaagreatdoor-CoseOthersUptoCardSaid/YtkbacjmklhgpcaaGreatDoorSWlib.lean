import Derived.Test.YtkbacjmklhgpcaaGreatDoorSW0
import Derived.Test.YtkbacjmklhgpcaaGreatDoorSAw
import Derived.Test.YtkbacjmklhgpcaaGreatDoorQGkFman
set_option linter.unusedVariables false
set_option linter.unusedSimpArgs false
set_option linter.unusedSectionVars false
set_option maxRecDepth 20000
set_option maxHeartbeats 20000000
namespace Go.Proofs
open Go Go.RowKit Go.Gk
open Go.Gk renaming RP -> O, Ret -> N, ar -> J, e8 -> K, own -> W, v64 -> M, vB -> U, vI -> V
theorem uB {f:World} (a0:UInt8) {r:Bool}
  (h:F.Xg a0=some r) :Calls Tryz.prog 137 #[v8 a0] f (N fun v w=>v=U r/\St [] f w []):=by
 refine ca1 6 Tryz.func137 Z Z Z<|have hS:=St.r f;?_
 unfold F.Xg at h
 exact wk
theorem su {f:World} (a0 a1:UInt8) {r:Int}
  (h:F.Y9 a0 a1=some r) :Calls Tryz.prog 89 #[v8 a0,v8 a1] f (N fun v w=>v=V r/\St [] f w []):=by
 refine ca2 20 Tryz.func89 Z Z Z<|have hS:=St.r f;?_
 unfold F.Y9 at h
 exact wk
theorem lE {j:World} {a0 a1:L01} {f p:Value} {r:Int}
  (h:F.X3 a0 a1=some r) (u:O [] j K f a0) (A:O [] j K p a1):Calls Tryz.prog 45 #[f,p] j (N fun v w=>v=V r/\St [] j w []):=by
 refine ca2 36 Tryz.func45 Z Z Z<|have hS:=St.r j;?_
 unfold F.X3 at h
 let i1:=mkI (F.UX a0 a1) (fun s L w=>L=[(0,f),(1,p),(9,f),(10,V (a0.length:Int)),(11,V s)]/\St [] j w [])
 exact wk
theorem oW {f:World} {a0:L01} {j:Value} {r:L01}
  (h:F.Zg a0=some r) (p:O [] f K j a0):Calls Tryz.prog 46 #[j] f (N fun v w=>St [] f w [W K v r]):=by
 refine ca1 8 Tryz.func46 Z Z Z<|have hS:=St.r f;?_
 unfold F.Zg at h
 exact wk
theorem p7 {f:World} {a0:List Int} {j:Value} (a1:Int) {r:Int}
  (h:F.Za a0 a1=some r) (p:O [] f eI j a0):Calls Tryz.prog 84 #[j,V a1] f (N fun v w=>v=V r/\St [] f w []):=by
 refine ca2 19 Tryz.func84 Z Z Z<|have hS:=St.r f;?_
 unfold F.Za at h
 let i1:=mkI (F.Ts a0 a1) (fun s L w=>L=[(0,j),(1,V a1),(7,V (a0.length:Int)),(8,V s)]/\St [] f w [])
 exact wk
theorem ou {f:World} {a0:List Int} {j:Value} (a1:Int) {r:Bool}
  (h:F.UG a0 a1=some r) (p:O [] f eI j a0):Calls Tryz.prog 34 #[j,V a1] f (N fun v w=>v=U r/\St [] f w []):=by
 refine ca2 9 Tryz.func34 Z Z Z<|have hS:=St.r f;?_
 unfold F.UG at h
 exact wk
theorem nG {f:World} {a0:List L01} {j:Value} (a1:L01) {r:Int}
  (h:F.aan a0 a1=some r) (p:O [] f eS j a0):Calls Tryz.prog 42 #[j,vS a1] f (N fun v w=>v=V r/\St [] f w []):=by
 refine ca2 19 Tryz.func42 Z Z Z<|have hS:=St.r f;?_
 unfold F.aan at h
 let i1:=mkI (F.Zo a0 a1) (fun s L w=>L=[(0,j),(1,vS a1),(7,V (a0.length:Int)),(8,V s)]/\St [] f w [])
 exact wk
theorem mV {f:World} {a0:List L01} {j:Value} (a1:L01) {r:Bool}
  (h:F.ZD a0 a1=some r) (p:O [] f eS j a0):Calls Tryz.prog 21 #[j,vS a1] f (N fun v w=>v=U r/\St [] f w []):=by
 refine ca2 9 Tryz.func21 Z Z Z<|have hS:=St.r f;?_
 unfold F.ZD at h
 exact wk
theorem tw {f:World} (a0:UInt32) {r:Int}
  (h:F.Xt a0=some r) :Calls Tryz.prog 100 #[v32 a0] f (N fun v w=>v=V r/\St [] f w []):=by
 refine ca1 19 Tryz.func100 Z Z Z<|have hS:=St.r f;?_
 unfold F.Xt at h
 let j1:=mkJ 5 (F.Yx) (fun g L w=>L=[(0,v32 g.1),(2,V g.2)]/\St [] f w []) [] []
 let j2:=mkJ 8 (F.Yt) (fun g L w=>L=[(0,v32 g.1),(2,V g.2)]/\St [] f w []) [] []
 exact wk
theorem y7 {f:World} {a0:L01} {j:Value} {r:L01}
  (h:F.Uj a0=some r) (p:O [] f K j a0):Calls Tryz.prog 102 #[j] f (N fun v w=>St [] f w [W K v r]):=by
 refine ca1 8 Tryz.func102 Z Z Z<|have hS:=St.r f;?_
 unfold F.Uj at h
 exact wk
theorem n8 {g:World} {a0:L01} {a:Value} {S:L02} {r:L01}
  (h:F.Xi a0=some r) (hS:St S g g [W K a a0]):Calls Tryz.prog 124 #[a] g (N fun v w=>v=.tuple #[]/\St S g w [W K a r]):=by
 refine dN 28 Tryz.func124 Z Z Z<|ig [(0,a)] Z ?_
 unfold F.Xi at h
 refine gl4<|J 1 Z<|aQ (gt u22 Z (hS.ro 0 Z)) Z<|J 2 Z<|kH h fun j n h=>aQ (dp (v:=V j) (by rw[<-n]; rfl)) Z<|gl3<|cR<|ig [(0,a),(2,V 0),(3,V j)] Z ?_
 refine kJ (F.W9) (fun (s:Int×Int×L01) L w=>L=[(0,a),(2,V s.1),(3,V s.2.1)]/\St S g w [W K a s.2.2]) ?_ (0,j,a0) ⟨Z,hS⟩ h
 rintro C ⟨y,z,T⟩ L w aa A o h k
 try dsimp only at A
 obtain⟨rfl,hS⟩:=A
 unfold F.W9 at h
 refine cI<|gl4<|J 3 Z<|gl3 ?_
 apply gl9 Z h<;>intro h
 ·refine gl5<|cI<|cR<|have hsh0:=(hS.ro 0 Z).shp;lH (fun w'=>St S g w' []) (fun i=>!([1007,1011,13,15].contains i)) ku (fun _ _ _ p=>p.2) (fun _ _ p=>p) (by kernel_rfl)<|have hS:=hS.drew;show lxE _ _ _ _ _ _ _ [0,1,2,3,4,5,6,7,8,9,10,11,12,13,14,15] _ _ from cG 6 Z (hS.f [] Z Z)<|cq h fun B l h=>cC (hS.f [] Z Z) Z Z (fun w q=>FP (e:=K) u22 ti5 Z Z hsh0 l) Z<|qT (hS.f [] Z Z) Z Z Z (oX Tryz.underlying5 Z Z (hS.ro 0 Z) l Z) Z<|cG 2 Z (hS.f [] Z Z)<|cq h fun u b h=>cC (hS.f [] Z Z) Z Z (fun w q=>FP (e:=K) u22 ti5 Z Z hsh0 b) Z<|qT (hS.f [] Z Z) Z Z Z (oX Tryz.underlying5 Z Z (hS.ro 0 Z) b Z) Z<|cq h fun D c h=>cC (hS.f [] Z Z) Z Z (fun w q=>FP (e:=K) u22 ti5 Z Z hsh0 c) Z<|qK (hS.f [] Z Z) Z Z (qX (t:=B) ti5 Z Z hS (i:=0) Z c Z) fun w hS=>kH h fun E d h=>?_
  rw[d]at hS
  refine cq h fun G f h=>cC (hS.f [] Z Z) Z Z (fun w q=>FP (e:=K) u22 ti5 Z Z (by rw[<-d,dI]; exact hsh0) f) Z<|qK (hS.f [] Z Z) Z Z (qX (t:=u) ti5 Z Z hS (i:=0) Z f Z) fun w hS=>kH h fun x m h=>?_
  rw[m]at hS
  exact iB trivial<|fk<|bA<|bV<|J 6 Z<|dy<|jk (mr (o (wI (y+1),wI (z - 1),x) _ _ ⟨Z,hS⟩ (jH h k)) Z)
 refine fw<|bB<|bB<|have h:=iR h k;fx ?_
 cases h
 exact s8 Z ⟨Z,hS.f [0] Z Z⟩
theorem tx {f:World} (a0 a1 a2:UInt32) {r:UInt32×UInt32}
  (h:F.YV a0 a1 a2=some r) :Calls Tryz.prog 170 #[v32 a0,v32 a1,v32 a2] f (N fun v w=>v=.tuple #[v32 r.1,v32 r.2]/\St [] f w []):=by
 refine ca3 33 Tryz.func170 Z Z Z<|have hS:=St.r f;?_
 unfold F.YV at h
 let j1:=mkJ 3 (F.ZH a0 a1 a2) (fun g L w=>L=[(0,v32 a0),(1,v32 a1),(2,v32 a2),(15,U g)]/\St [] f w []) [] []
 exact wk
theorem nZ {f:World} (a0:UInt32) {r:Int}
  (h:F.Ym a0=some r) :Calls Tryz.prog 171 #[v32 a0] f (N fun v w=>v=V r/\St [] f w []):=by
 refine ca1 6 Tryz.func171 Z Z Z<|have hS:=St.r f;?_
 unfold F.Ym at h
 exact wk
theorem tv {f:World} (a0 a1 a2:UInt32) {r:UInt32×UInt32}
  (h:F.aaG a0 a1 a2=some r) :Calls Tryz.prog 191 #[v32 a0,v32 a1,v32 a2] f (N fun v w=>v=.tuple #[v32 r.1,v32 r.2]/\St [] f w []):=by
 refine ca3 25 Tryz.func191 Z Z Z<|have hS:=St.r f;?_
 unfold F.aaG at h
 exact wk
theorem oZ {f:World} (a0:UInt32) (a1:Int) {r:UInt32}
  (h:F.S4 a0 a1=some r) :Calls Tryz.prog 192 #[v32 a0,V a1] f (N fun v w=>v=v32 r/\St [] f w []):=by
 refine ca2 17 Tryz.func192 Z Z Z<|have hS:=St.r f;?_
 unfold F.S4 at h
 exact wk
theorem pa {f:World} (a0:UInt64) (a1:Int) {r:UInt64}
  (h:F.S6 a0 a1=some r) :Calls Tryz.prog 193 #[M a0,V a1] f (N fun v w=>v=M r/\St [] f w []):=by
 refine ca2 17 Tryz.func193 Z Z Z<|have hS:=St.r f;?_
 unfold F.S6 at h
 exact wk
theorem y9 {f:World} {a0 a1:L01} {j p:Value} {r:Bool}
  (h:F.VI a0 a1=some r) (u:O [] f K j a0) (A:O [] f K p a1):Calls Tryz.prog 57 #[j,p] f (N fun v w=>v=U r/\St [] f w []):=by
 refine ca2 10 Tryz.func57 Z Z Z<|have hS:=St.r f;?_
 unfold F.VI at h
 exact wk
end Go.Proofs
