import Derived.Test.YtpndnjnogehdfaaGreatDoorRW0
import Derived.Test.YtpndnjnogehdfaaGreatDoorRAw
import Derived.Test.YtpndnjnogehdfaaGreatDoorGkFman
import Derived.Test.YtpndnjnogehdfaaGreatDoorRWlib
set_option linter.unusedVariables false
set_option linter.unusedSimpArgs false
set_option linter.unusedSectionVars false
set_option maxRecDepth 20000
set_option maxHeartbeats 20000000
namespace Go.Proofs
open Go Go.RowKit Go.Gk
open Go.Gk renaming RP -> N, Ret -> K, al -> O, e32 -> X, e8 -> H, own -> W, v64 -> M, vB -> V, vI -> U
theorem AA {l:World} {a0:Y0} {d:Value} {r:Nat}
  (h:F.Rg a0=some r) (a:N [] l X d a0):Calls Tryz.prog 43 #[d] l (K fun v w=>v=slV3 d X.sz 0 r r/\r<=a0.length/\St [] l w []):=by
 refine eZ 26 Tryz.func43 Z Z Z<|have b:=St.q l;gl [(0,d)] Z ?_
 unfold F.Rg at h
 refine gl4<|O 1 Z<|gl1<|cx<|lL [(0,slV d X.sz 0 a0.length)] ⟨(cv some a.1.full),trivial⟩ ?_
 refine ji (F.UE a0) (fun (s:Nat) L w=>L=[(0,slV d X.sz 0 s)]/\s<=a0.length/\St [] l w []) ?_ a0.length ⟨Z,(av _),b⟩ h
 rintro z i L w u x q h m
 try dsimp only at x
 obtain⟨rfl,c,b⟩:=x
 unfold F.UE at h
 refine cb ?_
 refine gI (r:=u) (fun (g:Bool) L w=>L=[(0,slV d X.sz 0 i),(14,V g)]/\St [] l w []) (F.R7 a0 i) ?_ ?_
 rotate_left
 ·intro n
  refine bC<|O 1 Z<|aT (fc u23 Z ((a.now b.fr).tk c)) Z<|O 2 Z ?_
  cases f:(decide ((0:Int)<((a0.take i).length:Int)))
  case true=>
   have h:=fD h f
   try simp only[f]
   exact O 2 Z<|cc (t:=6) Z Z (fc u23 Z ((a.now b.fr).tk c)) Z<|O 1 Z<|bZ h fun p o h=>cc (t:=6) Z Z (FF u23 z6 Z Z (a.now b.fr) c o) Z<|cc (t:=6) Z Z (kW Tryz.underlying97 Z Z (a.now b.fr) (GG o) Z) Z<|cc (t:=6) Z Z (bE Z Z (Ct _ p 0)) Z<|O 1 Z<|gl3<|cz (n (p == 0) _ _ ⟨Z,b⟩ h) Z
  case false=>
   have h:=fE h f
   try simp only[f]
   exact O 8 Z<|gl3<|cz (n false _ _ ⟨Z,b⟩ h) Z
 rintro A L w y h
 try dsimp only at y
 obtain⟨rfl,b⟩:=y
 unfold F.R7 at h
 apply gl9 Z h<;>intro h
 ·exact gl5<|cx<|bC<|O 2 Z<|aT (fc u23 Z ((a.now b.fr).tk c)) Z<|O 1 Z<|sa h fun j h=>aT (EG u23 z6 Z Z (a.now b.fr) (G7 j)) Z<|O 1 Z<|c6<|ef<|gZ (ko (q ((wI (((a0.take i).length:Int) - 1):Int).toNat) _ _ ⟨Z,j.2,b⟩ (ia h m)) Z)
 refine eE<|bu<|bu<|have h:=fV h m;eF<|bp<|gl4<|O 2 Z<|aT (fc u23 Z ((a.now b.fr).tk c)) Z<|O 1 Z<|aT (fc u23 Z ((a.now b.fr).tk c)) Z<|sa h fun k h=>aT (GC u23 z6 Z Z Z ((a.now b.fr).tk c) k) Z<|O 1 Z<|gl3<|f5 ?_
 cases h
 exact gC Z Z ⟨(a.1.cut3 _ _),(bz k.2.1 (BO _ _)),b⟩
theorem B3 {j:World} {a0:Y0} {f:Value} {r:Nat}
  (h:F.Q0 a0=some r) (p:N [] j X f a0):Calls Tryz.prog 16 #[f] j (K fun v w=>v=slV3 f X.sz 0 r r/\r<=a0.length/\St [] j w []):=by
 refine ca1 5 Tryz.func16 Z Z Z<|have hS:=St.q j;?_
 unfold F.Q0 at h
 exact wk
theorem D9 {f:World} {a0:Y0} {j:Value} {r:Int}
  (h:F.Ru a0=some r) (p:N [] f X j a0):Calls Tryz.prog 14 #[j] f (K fun v w=>v=U r/\St [] f w []):=by
 refine ca1 21 Tryz.func14 Z Z Z<|have hS:=St.q f;?_
 unfold F.Ru at h
 exact wk
theorem DI {j:World} {a0:Y3} {a1:Y0} {f p:Value} {S:Y4} {r:Y3}
  (h:F.TM a0 a1=some r) (hS:St S j j [W H f a0]) (A:N S j X p a1):Calls Tryz.prog 15 #[f,p] j (K fun v w=>v=.tuple #[]/\St S j w [W H f r]):=by
 refine ca2 38 Tryz.func15 Z Z Z ?_
 unfold F.TM at h
 let i1:=mkI (F.Wt a0 a1) (fun s L w=>L=[(0,f),(1,p),(7,U (a0.length:Int)),(8,U s.1)]/\St S j w [W H f s.2])
 let j1:=fun u=>mkJ 8 (F.Wm u) (fun g L w=>L=[(0,f),(1,p),(7,U (a0.length:Int)),(8,U u)]/\St S j w [W H f g]) [(8,U u)] []
 exact wk
theorem BW {f:World} {a0:Y0} {j:Value} (a1:Int) {r:Y3×Bool}
  (h:F.RC a0 a1=some r) (p:N [] f X j a0):Calls Tryz.prog 5 #[j,U a1] f (K fun v w=>∃u0:Value,v=.tuple #[u0,V r.2]/\St [] f w [W H u0 r.1]):=by
 refine ca2 28 Tryz.func5 Z Z Z<|have hS:=St.q f;?_
 unfold F.RC at h
 let j1:=mkJ 3 (F.Vp a0 a1) (fun g L w=>L=[(0,j),(1,U a1),(20,V g)]/\St [] f w []) [] []
 exact wk
theorem B0 {f:World} {a0:Y0} {j:Value} {r:Y3}
  (h:F.VG a0=some r) (p:N [] f X j a0):Calls Tryz.prog 153 #[j] f (K fun v w=>St [] f w [W H v r]):=by
 refine ca1 16 Tryz.func153 Z Z Z<|have hS:=St.q f;?_
 unfold F.VG at h
 exact wk
theorem uT {j:World} {a0:Y3} {f:Value} {r:Y0}
  (h:F.RA a0=some r) (u:N [] j H f a0):Calls Tryz.prog 65 #[f] j (K fun v w=>St [] j w [W X v r]):=by
 refine ca1 40 Tryz.func65 Z Z Z<|have hS:=St.q j;?_
 unfold F.RA at h
 let i1:=fun p=>mkI (F.U2 a0) (fun s L w=>L=[(0,f),(3,p),(12,f),(13,U (a0.length:Int)),(14,U s.1)]/\St [] j w [W X p s.2])
 exact wk
theorem wP {f:World} {a0 a1:Y0} {j p:Value} {r:Int}
  (h:F.RD a0 a1=some r) (B:N [] f X j a0) (C:N [] f X p a1):Calls Tryz.prog 56 #[j,p] f (K fun v w=>v=U r/\St [] f w []):=by
 refine ca2 51 Tryz.func56 Z Z Z<|have hS:=St.q f;?_
 unfold F.RD at h
 let i1:=fun u A=>mkI (F.TU a0 a1 u A) (fun s L w=>L=[(5,slV3 j X.sz 0 u u),(6,slV3 p X.sz 0 A A),(7,U s)]/\St [] f w [])
 exact wk
theorem By {f:World} {a0:Y0} {j:Value} (a1:UInt32) {r:Y0×UInt32}
  (h:F.Vv a0 a1=some r) (u:N [] f X j a0):Calls Tryz.prog 98 #[j,v32 a1] f (K fun v w=>∃u0:Value,v=.tuple #[u0,v32 r.2]/\St [] f w [W X u0 r.1]):=by
 refine ca2 34 Tryz.func98 Z Z Z<|have hS:=St.q f;?_
 unfold F.Vv at h
 let i1:=fun p=>mkI (F.Uh a0 a1) (fun s L w=>L=[(0,j),(1,v32 a1),(6,p),(7,v32 s.1),(8,U s.2.1)]/\St [] f w [W X p s.2.2])
 exact wk
theorem wB {f:World} (a0:UInt64) {r:Y0}
  (h:F.VT a0=some r) :Calls Tryz.prog 99 #[M a0] f (K fun v w=>St [] f w [W X v r]):=by
 refine ca1 10 Tryz.func99 Z Z Z<|have hS:=St.q f;?_
 unfold F.VT at h
 exact wk
theorem Ja {A:World} {a0 a1:Y0} {j B C:Value} {S:Y4} (f p:Nat) (a2:Int) {r:Y0}
  (h:F.TY a0 f p a1 a2=some r) (hS:St S A A [W X j a0]) (G:qm j X.sz f p C) (T:N S A X B a1):Calls Tryz.prog 145 #[C,B,U a2] A (K fun v w=>v=.tuple #[]/\St S A w [W X j r]):=by
 refine ca3 37 Tryz.func145 Z Z Z ?_
 unfold F.TY at h
 let i1:=mkI (F.T1 f p a0 a1 a2) (fun s L w=>L=[(0,C),(1,B),(2,U a2),(6,v32 s.1),(10,U (((a0.drop f).take (p - f)).length:Int)),(11,U s.2.1)]/\St S A w [W X j s.2.2])
 let j1:=fun D u E=>mkJ 8 (F.Wk f p a2 D u E) (fun g L w=>L=[(0,C),(1,B),(2,U a2),(6,v32 D),(7,U u),(8,v32 g),(10,U (((a0.drop f).take (p - f)).length:Int)),(11,U u)]/\St S A w [W X j E]) [(6,v32 D),(7,U u),(11,U u)] [W X j E]
 exact wk
theorem v7 {f:World} {a0 a1:Y0} {j p:Value} {r:UInt64}
  (h:F.Wp a0 a1=some r) (u:N [] f X j a0) (A:N [] f X p a1):Calls Tryz.prog 146 #[j,p] f (K fun v w=>v=M r/\St [] f w []):=by
 refine ca2 75 Tryz.func146 Z Z Z<|have hS:=St.q f;?_
 unfold F.Wp at h
 let i1:=mkI (F.Sx a0 a1) (fun s L w=>L=[(0,j),(1,p),(5,U (a1.length:Int)),(7,M s.1),(8,M s.2)]/\St [] f w [])
 let j1:=mkJ 9 (F.XR) (fun g L w=>L=[(7,M g)]/\St [] f w []) [] []
 exact wk
theorem Bz {f:World} {a0 a1:Y0} {j p:Value} {r:Bool}
  (h:F.S5 a0 a1=some r) (u:N [] f X j a0) (A:N [] f X p a1):Calls Tryz.prog 147 #[j,p] f (K fun v w=>v=V r/\St [] f w []):=by
 refine ca2 31 Tryz.func147 Z Z Z<|have hS:=St.q f;?_
 unfold F.S5 at h
 let i1:=mkI (F.Sd a0 a1) (fun s L w=>L=[(0,j),(1,p),(5,U s)]/\St [] f w [])
 exact wk
theorem DP {A:World} {a0 a1:Y0} {j B C:Value} {S:Y4} (f p:Nat) {r:UInt32×Y0}
  (h:F.R4 a0 f p a1=some r) (hS:St S A A [W X j a0]) (G:qm j X.sz f p C) (T:N S A X B a1):Calls Tryz.prog 148 #[C,B] A (K fun v w=>v=v32 r.1/\St S A w [W X j r.2]):=by
 refine ca2 36 Tryz.func148 Z Z Z ?_
 unfold F.R4 at h
 let i1:=mkI (F.Ut f p a0 a1) (fun s L w=>L=[(0,C),(1,B),(5,v32 s.1),(9,U (((a0.drop f).take (p - f)).length:Int)),(10,U s.2.1)]/\St S A w [W X j s.2.2])
 let j1:=fun D u E=>mkJ 9 (F.UU f p D u E) (fun g L w=>L=[(0,C),(1,B),(5,v32 D),(6,U u),(7,v32 g),(9,U (((a0.drop f).take (p - f)).length:Int)),(10,U u)]/\St S A w [W X j E]) [(5,v32 D),(6,U u),(10,U u)] [W X j E]
 exact wk
theorem DH {p:World} {a0:Y0} {f:Value} {S:Y4} (a1:Int) {r:Y0}
  (h:F.UY a0 a1=some r) (hS:St S p p [W X f a0]):Calls Tryz.prog 149 #[f,U a1] p (K fun v w=>v=.tuple #[]/\St S p w [W X f r]):=by
 refine ca2 38 Tryz.func149 Z Z Z ?_
 unfold F.UY at h
 let i1:=mkI (F.UO a0 a1) (fun s L w=>L=[(0,f),(1,U a1),(7,U (a0.length:Int)),(8,U s.1)]/\St S p w [W X f s.2])
 let j1:=fun j u=>mkJ 7 (F.U5 a1 j u) (fun g L w=>L=[(0,f),(1,U a1),(4,U j),(5,M g),(7,U (a0.length:Int)),(8,U j)]/\St S p w [W X f u]) [(4,U j),(8,U j)] [W X f u]
 exact wk
theorem Eb {G:World} {a0 a1:Y0} {T aa:Value} {r:Y0×(Y0×Nat)}
  (h:F.V6 a0 a1=some r) (ab:N [] G X T a0) (ac:N [] G X aa a1):Calls Tryz.prog 100 #[T,aa] G (K fun v w=>∃u0 u1:Value,v=.tuple #[u0,slV u1 X.sz 0 r.2.2]/\r.2.2<=r.2.1.length/\St [] G w [W X u0 r.1,W X u1 r.2.1]):=by
 refine ca2 125 Tryz.func100 Z Z Z<|have hS:=St.q G;?_
 unfold F.V6 at h
 let i1:=fun j p u A E (f:Y0)=>mkI (F.TJ E f) (fun s L w=>L=[(6,U E),(7,u),(8,A),(9,U (f.length:Int)),(10,j),(11,p),(12,U s.1)]/\St [] G w [W X u f,W X A s.2.1,W X j s.2.2.1,W X p s.2.2.2])
 let i2:=fun j p u A B C E D (f:Y0)=>mkI (F.T6 f B C D) (fun s L w=>L=[(6,U E),(7,u),(8,A),(9,U (f.length:Int)),(10,j),(11,p),(12,U B),(13,M s.1)]/\St [] G w [W X u f,W X A C,W X j D,W X p s.2])
 let i3:=fun j p u A B C E D S (f:Y0)=>mkI (F.SJ f B C D S) (fun s L w=>L=[(6,U E),(7,u),(8,A),(9,U (f.length:Int)),(10,j),(11,p),(12,U B),(13,M S),(14,M s.1),(66,u),(67,U (f.length:Int)),(68,U s.2.1)]/\St [] G w [W X u f,W X A C,W X j D,W X p s.2.2])
 exact wk
theorem zZ {f:World} {a0 a1:Y0} {j p:Value} {r:Y0×Y0×Int}
  (h:F.Uo a0 a1=some r) (u:N [] f X j a0) (A:N [] f X p a1):Calls Tryz.prog 57 #[j,p] f (K fun v w=>∃u0 u1:Value,v=.tuple #[u0,u1,U r.2.2]/\St [] f w [W X u0 r.1,W X u1 r.2.1]):=by
 refine ca2 55 Tryz.func57 Z Z Z<|have hS:=St.q f;?_
 unfold F.Uo at h
 exact wk
theorem wO {f:World} {a0:Y0} {j:Value} (a1:Int) {r:Bool}
  (h:F.Ss a0 a1=some r) (p:N [] f X j a0):Calls Tryz.prog 60 #[j,U a1] f (K fun v w=>v=V r/\St [] f w []):=by
 refine ca2 26 Tryz.func60 Z Z Z<|have hS:=St.q f;?_
 unfold F.Ss at h
 exact wk
theorem E5 {f:World} {a0:Y0} {j:Value} (a1:Int) {r:Y0}
  (h:F.R2 a0 a1=some r) (p:N [] f X j a0):Calls Tryz.prog 102 #[j,U a1] f (K fun v w=>St [] f w [W X v r]):=by
 refine ca2 27 Tryz.func102 Z Z Z<|have hS:=St.q f;?_
 unfold F.R2 at h
 exact wk
end Go.Proofs
