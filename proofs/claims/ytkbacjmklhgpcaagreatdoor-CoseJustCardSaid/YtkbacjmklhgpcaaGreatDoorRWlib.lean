import Derived.Test.YtkbacjmklhgpcaaGreatDoorRW0
import Derived.Test.YtkbacjmklhgpcaaGreatDoorRAw
import Derived.Test.YtkbacjmklhgpcaaGreatDoorGkFman
set_option linter.unusedVariables false
set_option linter.unusedSimpArgs false
set_option linter.unusedSectionVars false
set_option maxRecDepth 20000
set_option maxHeartbeats 20000000
namespace Go.Proofs
open Go Go.RowKit Go.Gk
open Go.Gk renaming RP -> O, Ret -> N, aq -> K, e8 -> I, own -> W, v64 -> M, vB -> U, vI -> V
theorem uH {f:World} (a0:UInt8) {r:Bool}
  (h:F.Xh a0=some r) :Calls Tryz.prog 137 #[v8 a0] f (N fun v w=>v=U r/\St [] f w []):=by
 refine ca1 6 Tryz.func137 Z Z Z<|have hS:=St.r f;?_
 unfold F.Xh at h
 exact wk
theorem sF {f:World} (a0 a1:UInt8) {r:Int}
  (h:F.Zd a0 a1=some r) :Calls Tryz.prog 89 #[v8 a0,v8 a1] f (N fun v w=>v=V r/\St [] f w []):=by
 refine ca2 20 Tryz.func89 Z Z Z<|have hS:=St.r f;?_
 unfold F.Zd at h
 exact wk
theorem lD {j:World} {a0 a1:L01} {f p:Value} {r:Int}
  (h:F.X4 a0 a1=some r) (u:O [] j I f a0) (A:O [] j I p a1):Calls Tryz.prog 45 #[f,p] j (N fun v w=>v=V r/\St [] j w []):=by
 refine ca2 36 Tryz.func45 Z Z Z<|have hS:=St.r j;?_
 unfold F.X4 at h
 let i1:=mkI (F.U1 a0 a1) (fun s L w=>L=[(0,f),(1,p),(9,f),(10,V (a0.length:Int)),(11,V s)]/\St [] j w [])
 exact wk
theorem oZ {f:World} {a0:L01} {j:Value} {r:L01}
  (h:F.Zl a0=some r) (p:O [] f I j a0):Calls Tryz.prog 46 #[j] f (N fun v w=>St [] f w [W I v r]):=by
 refine ca1 8 Tryz.func46 Z Z Z<|have hS:=St.r f;?_
 unfold F.Zl at h
 exact wk
theorem qb {f:World} {a0:List Int} {j:Value} (a1:Int) {r:Int}
  (h:F.Ze a0 a1=some r) (p:O [] f eI j a0):Calls Tryz.prog 84 #[j,V a1] f (N fun v w=>v=V r/\St [] f w []):=by
 refine ca2 19 Tryz.func84 Z Z Z<|have hS:=St.r f;?_
 unfold F.Ze at h
 let i1:=mkI (F.Tv a0 a1) (fun s L w=>L=[(0,j),(1,V a1),(7,V (a0.length:Int)),(8,V s)]/\St [] f w [])
 exact wk
theorem oz {f:World} {a0:List Int} {j:Value} (a1:Int) {r:Bool}
  (h:F.UI a0 a1=some r) (p:O [] f eI j a0):Calls Tryz.prog 34 #[j,V a1] f (N fun v w=>v=U r/\St [] f w []):=by
 refine ca2 9 Tryz.func34 Z Z Z<|have hS:=St.r f;?_
 unfold F.UI at h
 exact wk
theorem nL {f:World} {a0:List L01} {j:Value} (a1:L01) {r:Int}
  (h:F.aat a0 a1=some r) (p:O [] f eS j a0):Calls Tryz.prog 42 #[j,vS a1] f (N fun v w=>v=V r/\St [] f w []):=by
 refine ca2 19 Tryz.func42 Z Z Z<|have hS:=St.r f;?_
 unfold F.aat at h
 let i1:=mkI (F.Zt a0 a1) (fun s L w=>L=[(0,j),(1,vS a1),(7,V (a0.length:Int)),(8,V s)]/\St [] f w [])
 exact wk
theorem na {f:World} {a0:List L01} {j:Value} (a1:L01) {r:Bool}
  (h:F.ZI a0 a1=some r) (p:O [] f eS j a0):Calls Tryz.prog 21 #[j,vS a1] f (N fun v w=>v=U r/\St [] f w []):=by
 refine ca2 9 Tryz.func21 Z Z Z<|have hS:=St.r f;?_
 unfold F.ZI at h
 exact wk
theorem tE {f:World} (a0:UInt32) {r:Int}
  (h:F.Xu a0=some r) :Calls Tryz.prog 100 #[v32 a0] f (N fun v w=>v=V r/\St [] f w []):=by
 refine ca1 19 Tryz.func100 Z Z Z<|have hS:=St.r f;?_
 unfold F.Xu at h
 let j1:=mkJ 5 (F.Yz) (fun g L w=>L=[(0,v32 g.1),(2,V g.2)]/\St [] f w []) [] []
 let j2:=mkJ 8 (F.Yv) (fun g L w=>L=[(0,v32 g.1),(2,V g.2)]/\St [] f w []) [] []
 exact wk
theorem zh {f:World} {a0:L01} {j:Value} {r:L01}
  (h:F.Un a0=some r) (p:O [] f I j a0):Calls Tryz.prog 102 #[j] f (N fun v w=>St [] f w [W I v r]):=by
 refine ca1 8 Tryz.func102 Z Z Z<|have hS:=St.r f;?_
 unfold F.Un at h
 exact wk
theorem og {g:World} {a0:L01} {a:Value} {S:L02} {r:L01}
  (h:F.Xj a0=some r) (hS:St S g g [W I a a0]):Calls Tryz.prog 124 #[a] g (N fun v w=>v=.tuple #[]/\St S g w [W I a r]):=by
 refine dY 28 Tryz.func124 Z Z Z<|il [(0,a)] Z ?_
 unfold F.Xj at h
 refine gl4<|K 1 Z<|aO (gx u22 Z (hS.ro 0 Z)) Z<|K 2 Z<|kH h fun j n h=>aO (du (v:=V j) (by rw[<-n]; rfl)) Z<|gl3<|cU<|il [(0,a),(2,V 0),(3,V j)] Z ?_
 refine kJ (F.Xa) (fun (s:Int×Int×L01) L w=>L=[(0,a),(2,V s.1),(3,V s.2.1)]/\St S g w [W I a s.2.2]) ?_ (0,j,a0) ⟨Z,hS⟩ h
 rintro C ⟨y,z,T⟩ L w aa A o h k
 try dsimp only at A
 obtain⟨rfl,hS⟩:=A
 unfold F.Xa at h
 refine cJ<|gl4<|K 3 Z<|gl3 ?_
 apply gl9 Z h<;>intro h
 ·refine gl5<|cJ<|cU<|have hsh0:=(hS.ro 0 Z).shp;lG (fun w'=>St S g w' []) (fun i=>!([1007,1011,13,15].contains i)) kr (fun _ _ _ p=>p.2) (fun _ _ p=>p) (by kernel_rfl)<|have hS:=hS.drew;show lxE _ _ _ _ _ _ _ [0,1,2,3,4,5,6,7,8,9,10,11,12,13,14,15] _ _ from cH 6 Z (hS.f [] Z Z)<|cr h fun B l h=>cC (hS.f [] Z Z) Z Z (fun w q=>FP (e:=I) u22 ti5 Z Z hsh0 l) Z<|q7 (hS.f [] Z Z) Z Z Z (o7 Tryz.underlying5 Z Z (hS.ro 0 Z) l Z) Z<|cH 2 Z (hS.f [] Z Z)<|cr h fun u b h=>cC (hS.f [] Z Z) Z Z (fun w q=>FP (e:=I) u22 ti5 Z Z hsh0 b) Z<|q7 (hS.f [] Z Z) Z Z Z (o7 Tryz.underlying5 Z Z (hS.ro 0 Z) b Z) Z<|cr h fun D c h=>cC (hS.f [] Z Z) Z Z (fun w q=>FP (e:=I) u22 ti5 Z Z hsh0 c) Z<|qS (hS.f [] Z Z) Z Z (rf (t:=B) ti5 Z Z hS (i:=0) Z c Z) fun w hS=>kH h fun E d h=>?_
  rw[d]at hS
  refine cr h fun G f h=>cC (hS.f [] Z Z) Z Z (fun w q=>FP (e:=I) u22 ti5 Z Z (by rw[<-d,dJ]; exact hsh0) f) Z<|qS (hS.f [] Z Z) Z Z (rf (t:=u) ti5 Z Z hS (i:=0) Z f Z) fun w hS=>kH h fun x m h=>?_
  rw[m]at hS
  exact iG trivial<|fg<|bA<|bV<|K 6 Z<|dB<|jl (mx (o (wI (y+1),wI (z - 1),x) _ _ ⟨Z,hS⟩ (jH h k)) Z)
 refine fv<|bB<|bB<|have h:=iV h k;fw ?_
 cases h
 exact tg Z ⟨Z,hS.f [0] Z Z⟩
theorem tF {f:World} (a0 a1 a2:UInt32) {r:UInt32×UInt32}
  (h:F.YY a0 a1 a2=some r) :Calls Tryz.prog 170 #[v32 a0,v32 a1,v32 a2] f (N fun v w=>v=.tuple #[v32 r.1,v32 r.2]/\St [] f w []):=by
 refine ca3 33 Tryz.func170 Z Z Z<|have hS:=St.r f;?_
 unfold F.YY at h
 let j1:=mkJ 3 (F.ZM a0 a1 a2) (fun g L w=>L=[(0,v32 a0),(1,v32 a1),(2,v32 a2),(15,U g)]/\St [] f w []) [] []
 exact wk
theorem ob {f:World} (a0:UInt32) {r:Int}
  (h:F.Yo a0=some r) :Calls Tryz.prog 171 #[v32 a0] f (N fun v w=>v=V r/\St [] f w []):=by
 refine ca1 6 Tryz.func171 Z Z Z<|have hS:=St.r f;?_
 unfold F.Yo at h
 exact wk
theorem tD {f:World} (a0 a1 a2:UInt32) {r:UInt32×UInt32}
  (h:F.aaM a0 a1 a2=some r) :Calls Tryz.prog 191 #[v32 a0,v32 a1,v32 a2] f (N fun v w=>v=.tuple #[v32 r.1,v32 r.2]/\St [] f w []):=by
 refine ca3 25 Tryz.func191 Z Z Z<|have hS:=St.r f;?_
 unfold F.aaM at h
 exact wk
theorem o9 {f:World} (a0:UInt32) (a1:Int) {r:UInt32}
  (h:F.S6 a0 a1=some r) :Calls Tryz.prog 192 #[v32 a0,V a1] f (N fun v w=>v=v32 r/\St [] f w []):=by
 refine ca2 17 Tryz.func192 Z Z Z<|have hS:=St.r f;?_
 unfold F.S6 at h
 exact wk
theorem pf {f:World} (a0:UInt64) (a1:Int) {r:UInt64}
  (h:F.S8 a0 a1=some r) :Calls Tryz.prog 193 #[M a0,V a1] f (N fun v w=>v=M r/\St [] f w []):=by
 refine ca2 17 Tryz.func193 Z Z Z<|have hS:=St.r f;?_
 unfold F.S8 at h
 exact wk
theorem zj {f:World} {a0 a1:L01} {j p:Value} {r:Bool}
  (h:F.VK a0 a1=some r) (u:O [] f I j a0) (A:O [] f I p a1):Calls Tryz.prog 57 #[j,p] f (N fun v w=>v=U r/\St [] f w []):=by
 refine ca2 10 Tryz.func57 Z Z Z<|have hS:=St.r f;?_
 unfold F.VK at h
 exact wk
end Go.Proofs
