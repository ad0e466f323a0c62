import Derived.Test.YtkbacjmklhgpcaaGreatDoorSW0
import Derived.Test.YtkbacjmklhgpcaaGreatDoorSAw
import Derived.Test.YtkbacjmklhgpcaaGreatDoorQGkFman
import Derived.Test.YtkbacjmklhgpcaaGreatDoorSWlib
set_option linter.unusedVariables false
set_option linter.unusedSimpArgs false
set_option linter.unusedSectionVars false
set_option maxRecDepth 20000
set_option maxHeartbeats 20000000
namespace Go.Proofs
open Go Go.RowKit Go.Gk
open Go.Gk renaming RP -> O, Ret -> N, ar -> J, e32 -> X, e8 -> K, own -> W, v64 -> M, vB -> U, vI -> V
theorem Bu {l:World} {a0:L00} {d:Value} {r:Nat}
  (h:F.TJ a0=some r) (a:O [] l X d a0):Calls Tryz.prog 93 #[d] l (N fun v w=>v=slV3 d X.sz 0 r r/\r<=a0.length/\St [] l w []):=by
 refine dN 26 Tryz.func93 Z Z Z<|have b:=St.r l;ig [(0,d)] Z ?_
 unfold F.TJ at h
 refine gl4<|J 1 Z<|gl1<|cR<|km [(0,slV d X.sz 0 a0.length)] ⟨(da some a.1.full),trivial⟩ ?_
 refine kJ (F.Xo a0) (fun (s:Nat) L w=>L=[(0,slV d X.sz 0 s)]/\s<=a0.length/\St [] l w []) ?_ a0.length ⟨Z,(aw _),b⟩ h
 rintro z i L w u x q h m
 try dsimp only at x
 obtain⟨rfl,c,b⟩:=x
 unfold F.Xo at h
 refine cI ?_
 refine ja (r:=u) (fun (g:Bool) L w=>L=[(0,slV d X.sz 0 i),(14,U g)]/\St [] l w []) (F.UM a0 i) ?_ ?_
 rotate_left
 ·intro n
  refine bV<|J 1 Z<|aQ (gt u110 Z ((a.now b.fr).tk c)) Z<|J 2 Z ?_
  cases f:(decide ((0:Int)<((a0.take i).length:Int)))
  case true=>
   have h:=ik h f
   try simp only[f]
   exact J 2 Z<|dJ (t:=6) Z Z (gt u110 Z ((a.now b.fr).tk c)) Z<|J 1 Z<|cq h fun p o h=>dJ (t:=6) Z Z (G5 u110 vC Z Z (a.now b.fr) c o) Z<|dJ (t:=6) Z Z (oX u163 Z Z (a.now b.fr) (H6 o) Z) Z<|dJ (t:=6) Z Z (bH Z Z (DH _ p 0)) Z<|J 1 Z<|gl3<|de (n (p == 0) _ _ ⟨Z,b⟩ h) Z
  case false=>
   have h:=il h f
   try simp only[f]
   exact J 8 Z<|gl3<|de (n false _ _ ⟨Z,b⟩ h) Z
 rintro A L w y h
 try dsimp only at y
 obtain⟨rfl,b⟩:=y
 unfold F.UM at h
 apply gl9 Z h<;>intro h
 ·exact gl5<|cR<|bV<|J 2 Z<|aQ (gt u110 Z ((a.now b.fr).tk c)) Z<|J 1 Z<|sS h fun j h=>aQ (FX u110 vC Z Z (a.now b.fr) (Iw j)) Z<|J 1 Z<|dy<|fk<|jk (mr (q ((wI (((a0.take i).length:Int) - 1):Int).toNat) _ _ ⟨Z,j.2,b⟩ (jH h m)) Z)
 refine fw<|bB<|bB<|have h:=iR h m;fx<|bA<|gl4<|J 2 Z<|aQ (gt u110 Z ((a.now b.fr).tk c)) Z<|J 1 Z<|aQ (gt u110 Z ((a.now b.fr).tk c)) Z<|sS h fun k h=>aQ (H1 u110 vC Z Z Z ((a.now b.fr).tk c) k) Z<|J 1 Z<|gl3<|gM ?_
 cases h
 exact jl Z Z ⟨(a.1.cut3 _ _),(aZ k.2.1 (CX _ _)),b⟩
theorem vK {j:World} {a0:L01} {f:Value} {r:L00}
  (h:F.Tj a0=some r) (u:O [] j K f a0):Calls Tryz.prog 52 #[f] j (N fun v w=>St [] j w [W X v r]):=by
 refine ca1 40 Tryz.func52 Z Z Z<|have hS:=St.r j;?_
 unfold F.Tj at h
 let i1:=fun p=>mkI (F.XQ a0) (fun s L w=>L=[(0,f),(3,p),(12,f),(13,V (a0.length:Int)),(14,V s.1)]/\St [] j w [W X p s.2])
 exact wk
theorem Df {j:World} {a0:L00} {f:Value} {r:Nat}
  (h:F.Ti a0=some r) (p:O [] j X f a0):Calls Tryz.prog 94 #[f] j (N fun v w=>v=slV3 f X.sz 0 r r/\r<=a0.length/\St [] j w []):=by
 refine ca1 5 Tryz.func94 Z Z Z<|have hS:=St.r j;?_
 unfold F.Ti at h
 exact wk
theorem Fh {f:World} {a0:L00} {j:Value} {r:Int}
  (h:F.Tu a0=some r) (p:O [] f X j a0):Calls Tryz.prog 58 #[j] f (N fun v w=>v=V r/\St [] f w []):=by
 refine ca1 21 Tryz.func58 Z Z Z<|have hS:=St.r f;?_
 unfold F.Tu at h
 exact wk
theorem FG {j:World} {a0:L00} {p:Value} {r:UInt64×Bool}
  (h:F.YH a0=some r) (u:O [] j X p a0):Calls Tryz.prog 92 #[p] j (N fun v w=>v=.tuple #[M r.1,U r.2]/\St [] j w []):=by
 refine ca1 29 Tryz.func92 Z Z Z<|have hS:=St.r j;?_
 unfold F.YH at h
 let i1:=fun f=>mkI (F.U6 a0 f) (fun s L w=>L=[(5,M s.1),(13,slV3 p X.sz 0 f f),(14,V ((a0.take f).length:Int)),(15,V s.2)]/\St [] j w [])
 exact wk
theorem xL {f:World} {a0 a1:L00} {j p:Value} {r:Int}
  (h:F.Tb a0 a1=some r) (B:O [] f X j a0) (C:O [] f X p a1):Calls Tryz.prog 53 #[j,p] f (N fun v w=>v=V r/\St [] f w []):=by
 refine ca2 51 Tryz.func53 Z Z Z<|have hS:=St.r f;?_
 unfold F.Tb at h
 let i1:=fun u A=>mkI (F.Wz a0 a1 u A) (fun s L w=>L=[(5,slV3 j X.sz 0 u u),(6,slV3 p X.sz 0 A A),(7,V s)]/\St [] f w [])
 exact wk
theorem Gx {A:World} {a0 a1:L00} {B p:Value} {r:L00}
  (h:F.UN a0 a1=some r) (E:O [] A X B a0) (G:O [] A X p a1):Calls Tryz.prog 97 #[B,p] A (N fun v w=>St [] A w [W X v r]):=by
 refine ca2 73 Tryz.func97 Z Z Z<|have hS:=St.r A;?_
 unfold F.UN at h
 let i1:=fun u j f=>mkI (F.Xn a0 j a1 f) (fun s L w=>L=[(6,slV3 p X.sz 0 f f),(7,u),(23,slV3 B X.sz 0 j j),(24,V ((a0.take j).length:Int)),(25,V s.1)]/\St [] A w [W X u s.2])
 let i2:=fun u j C f D=>mkI (F.VE a1 f D C) (fun s L w=>L=[(6,slV3 p X.sz 0 f f),(7,u),(8,V D),(9,v32 C),(10,M s.1),(23,slV3 B X.sz 0 j j),(24,V ((a0.take j).length:Int)),(25,V D),(30,slV3 p X.sz 0 f f),(31,V ((a1.take f).length:Int)),(32,V s.2.1)]/\St [] A w [W X u s.2.2])
 exact wk
theorem CJ {f:World} {a0:L00} {j:Value} (a1:UInt32) {r:L00×UInt32}
  (h:F.Yl a0 a1=some r) (u:O [] f X j a0):Calls Tryz.prog 126 #[j,v32 a1] f (N fun v w=>∃u0:Value,v=.tuple #[u0,v32 r.2]/\St [] f w [W X u0 r.1]):=by
 refine ca2 34 Tryz.func126 Z Z Z<|have hS:=St.r f;?_
 unfold F.Yl at h
 let i1:=fun p=>mkI (F.WU a0 a1) (fun s L w=>L=[(0,j),(1,v32 a1),(6,p),(7,v32 s.1),(8,V s.2.1)]/\St [] f w [W X p s.2.2])
 exact wk
theorem xw {f:World} (a0:UInt64) {r:L00}
  (h:F.YU a0=some r) :Calls Tryz.prog 127 #[M a0] f (N fun v w=>St [] f w [W X v r]):=by
 refine ca1 10 Tryz.func127 Z Z Z<|have hS:=St.r f;?_
 unfold F.YU at h
 exact wk
theorem KN {A:World} {a0 a1:L00} {j B C:Value} {S:L02} (f p:Nat) (a2:Int) {r:L00}
  (h:F.WE a0 f p a1 a2=some r) (hS:St S A A [W X j a0]) (G:mh j X.sz f p C) (T:O S A X B a1):Calls Tryz.prog 172 #[C,B,V a2] A (N fun v w=>v=.tuple #[]/\St S A w [W X j r]):=by
 refine ca3 37 Tryz.func172 Z Z Z ?_
 unfold F.WE at h
 let i1:=mkI (F.WH f p a0 a1 a2) (fun s L w=>L=[(0,C),(1,B),(2,V a2),(6,v32 s.1),(10,V (((a0.drop f).take (p - f)).length:Int)),(11,V s.2.1)]/\St S A w [W X j s.2.2])
 let j1:=fun D u E=>mkJ 8 (F.Zk f p a2 D u E) (fun g L w=>L=[(0,C),(1,B),(2,V a2),(6,v32 D),(7,V u),(8,v32 g),(10,V (((a0.drop f).take (p - f)).length:Int)),(11,V u)]/\St S A w [W X j E]) [(6,v32 D),(7,V u),(11,V u)] [W X j E]
 exact wk
theorem wY {f:World} {a0 a1:L00} {j p:Value} {r:UInt64}
  (h:F.Zq a0 a1=some r) (u:O [] f X j a0) (A:O [] f X p a1):Calls Tryz.prog 173 #[j,p] f (N fun v w=>v=M r/\St [] f w []):=by
 refine ca2 75 Tryz.func173 Z Z Z<|have hS:=St.r f;?_
 unfold F.Zq at h
 let i1:=mkI (F.UZ a0 a1) (fun s L w=>L=[(0,j),(1,p),(5,V (a1.length:Int)),(7,M s.1),(8,M s.2)]/\St [] f w [])
 let j1:=mkJ 9 (F.aaY) (fun g L w=>L=[(7,M g)]/\St [] f w []) [] []
 exact wk
theorem CK {f:World} {a0 a1:L00} {j p:Value} {r:Bool}
  (h:F.Vy a0 a1=some r) (u:O [] f X j a0) (A:O [] f X p a1):Calls Tryz.prog 174 #[j,p] f (N fun v w=>v=U r/\St [] f w []):=by
 refine ca2 31 Tryz.func174 Z Z Z<|have hS:=St.r f;?_
 unfold F.Vy at h
 let i1:=mkI (F.UQ a0 a1) (fun s L w=>L=[(0,j),(1,p),(5,V s)]/\St [] f w [])
 exact wk
theorem E0 {A:World} {a0 a1:L00} {j B C:Value} {S:L02} (f p:Nat) {r:UInt32×L00}
  (h:F.UI a0 f p a1=some r) (hS:St S A A [W X j a0]) (G:mh j X.sz f p C) (T:O S A X B a1):Calls Tryz.prog 175 #[C,B] A (N fun v w=>v=v32 r.1/\St S A w [W X j r.2]):=by
 refine ca2 36 Tryz.func175 Z Z Z ?_
 unfold F.UI at h
 let i1:=mkI (F.W6 f p a0 a1) (fun s L w=>L=[(0,C),(1,B),(5,v32 s.1),(9,V (((a0.drop f).take (p - f)).length:Int)),(10,V s.2.1)]/\St S A w [W X j s.2.2])
 let j1:=fun D u E=>mkJ 9 (F.XF f p D u E) (fun g L w=>L=[(0,C),(1,B),(5,v32 D),(6,V u),(7,v32 g),(9,V (((a0.drop f).take (p - f)).length:Int)),(10,V u)]/\St S A w [W X j E]) [(5,v32 D),(6,V u),(10,V u)] [W X j E]
 exact wk
theorem ES {p:World} {a0:L00} {f:Value} {S:L02} (a1:Int) {r:L00}
  (h:F.XJ a0 a1=some r) (hS:St S p p [W X f a0]):Calls Tryz.prog 176 #[f,V a1] p (N fun v w=>v=.tuple #[]/\St S p w [W X f r]):=by
 refine ca2 38 Tryz.func176 Z Z Z ?_
 unfold F.XJ at h
 let i1:=mkI (F.XA a0 a1) (fun s L w=>L=[(0,f),(1,V a1),(7,V (a0.length:Int)),(8,V s.1)]/\St S p w [W X f s.2])
 let j1:=fun j u=>mkJ 7 (F.XU a1 j u) (fun g L w=>L=[(0,f),(1,V a1),(4,V j),(5,M g),(7,V (a0.length:Int)),(8,V j)]/\St S p w [W X f u]) [(4,V j),(8,V j)] [W X f u]
 exact wk
theorem Fj {G:World} {a0 a1:L00} {T aa:Value} {r:L00×(L00×Nat)}
  (h:F.Y6 a0 a1=some r) (ab:O [] G X T a0) (ac:O [] G X aa a1):Calls Tryz.prog 128 #[T,aa] G (N fun v w=>∃u0 u1:Value,v=.tuple #[u0,slV u1 X.sz 0 r.2.2]/\r.2.2<=r.2.1.length/\St [] G w [W X u0 r.1,W X u1 r.2.1]):=by
 refine ca2 125 Tryz.func128 Z Z Z<|have hS:=St.r G;?_
 unfold F.Y6 at h
 let i1:=fun j p u A E (f:L00)=>mkI (F.Wm E f) (fun s L w=>L=[(6,V E),(7,u),(8,A),(9,V (f.length:Int)),(10,j),(11,p),(12,V s.1)]/\St [] G w [W X u f,W X A s.2.1,W X j s.2.2.1,W X p s.2.2.2])
 let i2:=fun j p u A B C E D (f:L00)=>mkI (F.WJ f B C D) (fun s L w=>L=[(6,V E),(7,u),(8,A),(9,V (f.length:Int)),(10,j),(11,p),(12,V B),(13,M s.1)]/\St [] G w [W X u f,W X A C,W X j D,W X p s.2])
 let i3:=fun j p u A B C E D S (f:L00)=>mkI (F.U8 f B C D S) (fun s L w=>L=[(6,V E),(7,u),(8,A),(9,V (f.length:Int)),(10,j),(11,p),(12,V B),(13,M S),(14,M s.1),(66,u),(67,V (f.length:Int)),(68,V s.2.1)]/\St [] G w [W X u f,W X A C,W X j D,W X p s.2.2])
 exact wk
theorem AV {f:World} {a0 a1:L00} {j p:Value} {r:L00×L00×Int}
  (h:F.VH a0 a1=some r) (u:O [] f X j a0) (A:O [] f X p a1):Calls Tryz.prog 73 #[j,p] f (N fun v w=>∃u0 u1:Value,v=.tuple #[u0,u1,V r.2.2]/\St [] f w [W X u0 r.1,W X u1 r.2.1]):=by
 refine ca2 55 Tryz.func73 Z Z Z<|have hS:=St.r f;?_
 unfold F.VH at h
 exact wk
theorem Ii {f:World} {a0 a1:L00} {j p:Value} {r:L00×Bool}
  (h:F.UL a0 a1=some r) (u:O [] f X j a0) (A:O [] f X p a1):Calls Tryz.prog 156 #[j,p] f (N fun v w=>∃u0:Value,v=.tuple #[u0,U r.2]/\St [] f w [W X u0 r.1]):=by
 refine ca2 28 Tryz.func156 Z Z Z<|have hS:=St.r f;?_
 unfold F.UL at h
 exact wk
theorem G9 {A:World} {a0 a1:L00} {D E:Value} {r:L00}
  (h:F.UJ a0 a1=some r) (S:O [] A X D a0) (T:O [] A X E a1):Calls Tryz.prog 168 #[D,E] A (N fun v w=>St [] A w [W X v r]):=by
 refine ca2 64 Tryz.func168 Z Z Z<|have hS:=St.r A;?_
 unfold F.UJ at h
 let i1:=fun j p f (B:L00) G=>mkI (F.Wj B G) (fun s L w=>L=[(5,f),(6,j),(7,p),(8,M s.1),(26,f),(27,V (B.length:Int)),(28,V s.2.1)]/\St [] A w [W X p s.2.2])
 let j1:=mkJ 5 (F.Zm) (fun g L w=>∃f j,L=[(5,f),(6,j)]/\O [] A X f g.1/\O [] A X j g.2/\St [] A w []) [] []
 let j2:=fun j p f u C (B:L00)=>mkJ 13 (F.Zy u C) (fun g L w=>L=[(5,f),(6,j),(7,p),(8,M g),(9,V u),(26,f),(27,V (B.length:Int)),(28,V u)]/\St [] A w [W X p C]) [(5,f),(6,j),(7,p),(9,V u),(26,f),(27,V (B.length:Int)),(28,V u)] [W X p C]
 exact wk
end Go.Proofs
