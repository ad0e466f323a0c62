import Derived.Test.YthnmbmmifamifaaGreatDoorRW0
import Derived.Test.YthnmbmmifamifaaGreatDoorRAw
import Derived.Test.YthnmbmmifamifaaGreatDoorGkFman
import Derived.Test.YthnmbmmifamifaaGreatDoorRWlib
set_option linter.unusedVariables false
set_option linter.unusedSimpArgs false
set_option linter.unusedSectionVars false
section
set_option maxRecDepth 20000
set_option maxHeartbeats 20000000
namespace Go.Proofs
open Go Go.RowKit Go.Gk
open Go.Gk renaming RP -> O,Ret -> K,ar -> J,e32 -> Y,e8 -> M,own -> W,v64 -> H,vB -> P,vI -> R
theorem CU {l:World} {a0:L8} {d:Value} {r:Nat}
  (h:F.UI a0=some r) (a:O [] l Y d a0):Calls Tryz.prog 99 #[d] l (K fun v w=>v=slV3 d Y.sz 0 r r/\r<=a0.length/\St [] l w []):=by
 refine dP 26 Tryz.func99 Z Z Z<|have b:=St.r l;eZ [(0,d)] Z ?_
 unfold F.UI at h
 refine gl4<|J 1 Z<|gl1<|cn<|jy [(0,slV d Y.sz 0 a0.length)] ⟨(cD some a.1.full),I⟩ ?_
 refine fN (F.Y0 a0) (fun (s:Nat) L w=>L=[(0,slV d Y.sz 0 s)]/\s<=a0.length/\St [] l w []) ?_ a0.length ⟨Z,(aq _),b⟩ h
 rintro z i L w u x q h m
 try dsimp only at x
 obtain⟨rfl,c,b⟩:=x
 unfold F.Y0 at h
 refine cw ?_
 refine iF (r:=u) (fun (g:Bool) L w=>L=[(0,slV d Y.sz 0 i),(14,P g)]/\St [] l w []) (F.VE a0 i) ?_ ?_
 rotate_left
 ·intro n
  refine bS<|J 1 Z<|aQ (dV u54 Z ((a.f b.fr).tk c)) Z<|J 2 Z ?_
  cases f:(decide ((0:Int)<((a0.take i).length:Int)))
  case true=>
   have h:=md h f
   try simp only[f]
   exact J 2 Z<|kk (t:=6) Z Z (dV u54 Z ((a.f b.fr).tk c)) Z<|J 1 Z<|aK h fun p o h=>kk (t:=6) Z Z (lF u54 xb Z Z (a.f b.fr) c o) Z<|kk (t:=6) Z Z (iu u109 Z Z (a.f b.fr) (lK o) Z) Z<|kk (t:=6) Z Z (bk Z Z (Fk _ p 0)) Z<|J 1 Z<|gl3<|ef (n (p == 0) _ _ ⟨Z,b⟩ h) Z
  case false=>
   have h:=me h f
   try simp only[f]
   exact J 8 Z<|gl3<|ef (n false _ _ ⟨Z,b⟩ h) Z
 rintro A L w y h
 try dsimp only at y
 obtain⟨rfl,b⟩:=y
 unfold F.VE at h
 apply gl9 Z h<;>intro h
 ·exact gl5<|cn<|bS<|J 2 Z<|aQ (dV u54 Z ((a.f b.fr).tk c)) Z<|J 1 Z<|wL h fun j h=>aQ (xY u54 xb Z Z (a.f b.fr) (ye j)) Z<|J 1 Z<|d7<|eH<|iz (iM (q ((wI (((a0.take i).length:Int) - 1):Int).toNat) _ _ ⟨Z,j.2,b⟩ (eG h m)) Z)
 refine fc<|cj<|cj<|have h:=ep h m;fe<|bL<|gl4<|J 2 Z<|aQ (dV u54 Z ((a.f b.fr).tk c)) Z<|J 1 Z<|aQ (dV u54 Z ((a.f b.fr).tk c)) Z<|wL h fun k h=>aQ (JR u54 xb Z Z Z ((a.f b.fr).tk c) k) Z<|J 1 Z<|gl3<|iY ?_
 cases h
 exact gc Z Z ⟨(a.1.cut3 _ _),(aA k.2.1 (Eh _ _)),b⟩
theorem xL {j:World} {a0:L00} {f:Value} {r:L8}
  (h:F.Uh a0=some r) (u:O [] j M f a0):Calls Tryz.prog 33 #[f] j (K fun v w=>St [] j w [W Y v r]):=by
 refine ca1 40 Tryz.func33 Z Z Z<|have hS:=St.r j;?_
 unfold F.Uh at h
 let i1:=fun p=>mkI (F.ZK a0) (fun s L w=>L=[(0,f),(3,p),(12,f),(13,R (a0.length:Int)),(14,R s.1)]/\St [] j w [W Y p s.2])
 exact wk
theorem EG {j:World} {a0:L8} {f:Value} {r:Nat}
  (h:F.Ug a0=some r) (p:O [] j Y f a0):Calls Tryz.prog 100 #[f] j (K fun v w=>v=slV3 f Y.sz 0 r r/\r<=a0.length/\St [] j w []):=by
 refine ca1 5 Tryz.func100 Z Z Z<|have hS:=St.r j;?_
 unfold F.Ug at h
 exact wk
theorem GZ {f:World} {a0:L8} {j:Value} {r:Int}
  (h:F.Uo a0=some r) (p:O [] f Y j a0):Calls Tryz.prog 39 #[j] f (K fun v w=>v=R r/\St [] f w []):=by
 refine ca1 21 Tryz.func39 Z Z Z<|have hS:=St.r f;?_
 unfold F.Uo at h
 exact wk
theorem Hp {j:World} {a0:L8} {p:Value} {r:UInt64×Bool}
  (h:F.aaZ a0=some r) (u:O [] j Y p a0):Calls Tryz.prog 98 #[p] j (K fun v w=>v=.tuple #[H r.1,P r.2]/\St [] j w []):=by
 refine ca1 29 Tryz.func98 Z Z Z<|have hS:=St.r j;?_
 unfold F.aaZ at h
 let i1:=fun f=>mkI (F.VY a0 f) (fun s L w=>L=[(5,H s.1),(13,slV3 p Y.sz 0 f f),(14,R ((a0.take f).length:Int)),(15,R s.2)]/\St [] j w [])
 exact wk
theorem zJ {f:World} {a0 a1:L8} {j p:Value} {r:Int}
  (h:F.Uf a0 a1=some r) (B:O [] f Y j a0) (C:O [] f Y p a1):Calls Tryz.prog 34 #[j,p] f (K fun v w=>v=R r/\St [] f w []):=by
 refine ca2 51 Tryz.func34 Z Z Z<|have hS:=St.r f;?_
 unfold F.Uf at h
 let i1:=fun u A=>mkI (F.XU a0 a1 u A) (fun s L w=>L=[(5,slV3 j Y.sz 0 u u),(6,slV3 p Y.sz 0 A A),(7,R s)]/\St [] f w [])
 exact wk
theorem Im {A:World} {a0 a1:L8} {B p:Value} {r:L8}
  (h:F.VF a0 a1=some r) (E:O [] A Y B a0) (G:O [] A Y p a1):Calls Tryz.prog 103 #[B,p] A (K fun v w=>St [] A w [W Y v r]):=by
 refine ca2 73 Tryz.func103 Z Z Z<|have hS:=St.r A;?_
 unfold F.VF at h
 let i1:=fun u j f=>mkI (F.YZ a0 j a1 f) (fun s L w=>L=[(6,slV3 p Y.sz 0 f f),(7,u),(23,slV3 B Y.sz 0 j j),(24,R ((a0.take j).length:Int)),(25,R s.1)]/\St [] A w [W Y u s.2])
 let i2:=fun u j C f D=>mkI (F.WB a1 f D C) (fun s L w=>L=[(6,slV3 p Y.sz 0 f f),(7,u),(8,R D),(9,v32 C),(10,H s.1),(23,slV3 B Y.sz 0 j j),(24,R ((a0.take j).length:Int)),(25,R D),(30,slV3 p Y.sz 0 f f),(31,R ((a1.take f).length:Int)),(32,R s.2.1)]/\St [] A w [W Y u s.2.2])
 exact wk
theorem DZ {f:World} {a0:L8} {j:Value} (a1:UInt32) {r:L8×UInt32}
  (h:F.aap a0 a1=some r) (u:O [] f Y j a0):Calls Tryz.prog 132 #[j,v32 a1] f (K fun v w=>∃u0:Value,v=.tuple #[u0,v32 r.2]/\St [] f w [W Y u0 r.1]):=by
 refine ca2 34 Tryz.func132 Z Z Z<|have hS:=St.r f;?_
 unfold F.aap at h
 let i1:=fun p=>mkI (F.Yh a0 a1) (fun s L w=>L=[(0,j),(1,v32 a1),(6,p),(7,v32 s.1),(8,R s.2.1)]/\St [] f w [W Y p s.2.2])
 exact wk
theorem zq {f:World} (a0:UInt64) {r:L8}
  (h:F.abe a0=some r) :Calls Tryz.prog 133 #[H a0] f (K fun v w=>St [] f w [W Y v r]):=by
 refine ca1 10 Tryz.func133 Z Z Z<|have hS:=St.r f;?_
 unfold F.abe at h
 exact wk
theorem MH {A:World} {a0 a1:L8} {j B C:Value} {S:L01} (f p:Nat) (a2:Int) {r:L8}
  (h:F.XZ a0 f p a1 a2=some r) (hS:St S A A [W Y j a0]) (G:nY j Y.sz f p C) (T:O S A Y B a1):Calls Tryz.prog 212 #[C,B,R a2] A (K fun v w=>v=.tuple #[]/\St S A w [W Y j r]):=by
 refine ca3 37 Tryz.func212 Z Z Z ?_
 unfold F.XZ at h
 let i1:=mkI (F.X4 f p a0 a1 a2) (fun s L w=>L=[(0,C),(1,B),(2,R a2),(6,v32 s.1),(10,R (((a0.drop f).take (p - f)).length:Int)),(11,R s.2.1)]/\St S A w [W Y j s.2.2])
 let j1:=fun D u E=>mkJ 8 (F.abM f p a2 D u E) (fun g L w=>L=[(0,C),(1,B),(2,R a2),(6,v32 D),(7,R u),(8,v32 g),(10,R (((a0.drop f).take (p - f)).length:Int)),(11,R u)]/\St S A w [W Y j E]) [(6,v32 D),(7,R u),(11,R u)] [W Y j E]
 exact wk
theorem yY {f:World} {a0 a1:L8} {j p:Value} {r:UInt64}
  (h:F.abR a0 a1=some r) (u:O [] f Y j a0) (A:O [] f Y p a1):Calls Tryz.prog 213 #[j,p] f (K fun v w=>v=H r/\St [] f w []):=by
 refine ca2 75 Tryz.func213 Z Z Z<|have hS:=St.r f;?_
 unfold F.abR at h
 let i1:=mkI (F.VQ a0 a1) (fun s L w=>L=[(0,j),(1,p),(5,R (a1.length:Int)),(7,H s.1),(8,H s.2)]/\St [] f w [])
 let j1:=mkJ 9 (F.acV) (fun g L w=>L=[(7,H g)]/\St [] f w []) [] []
 exact wk
theorem D0 {f:World} {a0 a1:L8} {j p:Value} {r:Bool}
  (h:F.Wu a0 a1=some r) (u:O [] f Y j a0) (A:O [] f Y p a1):Calls Tryz.prog 214 #[j,p] f (K fun v w=>v=P r/\St [] f w []):=by
 refine ca2 31 Tryz.func214 Z Z Z<|have hS:=St.r f;?_
 unfold F.Wu at h
 let i1:=mkI (F.VI a0 a1) (fun s L w=>L=[(0,j),(1,p),(5,R s)]/\St [] f w [])
 exact wk
theorem GN {A:World} {a0 a1:L8} {j B C:Value} {S:L01} (f p:Nat) {r:UInt32×L8}
  (h:F.Vz a0 f p a1=some r) (hS:St S A A [W Y j a0]) (G:nY j Y.sz f p C) (T:O S A Y B a1):Calls Tryz.prog 215 #[C,B] A (K fun v w=>v=v32 r.1/\St S A w [W Y j r.2]):=by
 refine ca2 36 Tryz.func215 Z Z Z ?_
 unfold F.Vz at h
 let i1:=mkI (F.Ys f p a0 a1) (fun s L w=>L=[(0,C),(1,B),(5,v32 s.1),(9,R (((a0.drop f).take (p - f)).length:Int)),(10,R s.2.1)]/\St S A w [W Y j s.2.2])
 let j1:=fun D u E=>mkJ 9 (F.Zv f p D u E) (fun g L w=>L=[(0,C),(1,B),(5,v32 D),(6,R u),(7,v32 g),(9,R (((a0.drop f).take (p - f)).length:Int)),(10,R u)]/\St S A w [W Y j E]) [(5,v32 D),(6,R u),(10,R u)] [W Y j E]
 exact wk
theorem GB {p:World} {a0:L8} {f:Value} {S:L01} (a1:Int) {r:L8}
  (h:F.ZA a0 a1=some r) (hS:St S p p [W Y f a0]):Calls Tryz.prog 216 #[f,R a1] p (K fun v w=>v=.tuple #[]/\St S p w [W Y f r]):=by
 refine ca2 38 Tryz.func216 Z Z Z ?_
 unfold F.ZA at h
 let i1:=mkI (F.Zn a0 a1) (fun s L w=>L=[(0,f),(1,R a1),(7,R (a0.length:Int)),(8,R s.1)]/\St S p w [W Y f s.2])
 let j1:=fun j u=>mkJ 7 (F.ZP a1 j u) (fun g L w=>L=[(0,f),(1,R a1),(4,R j),(5,H g),(7,R (a0.length:Int)),(8,R j)]/\St S p w [W Y f u]) [(4,R j),(8,R j)] [W Y f u]
 exact wk
theorem G1 {G:World} {a0 a1:L8} {T aa:Value} {r:L8×(L8×Nat)}
  (h:F.abs a0 a1=some r) (ab:O [] G Y T a0) (ac:O [] G Y aa a1):Calls Tryz.prog 134 #[T,aa] G (K fun v w=>∃u0 u1:Value,v=.tuple #[u0,slV u1 Y.sz 0 r.2.2]/\r.2.2<=r.2.1.length/\St [] G w [W Y u0 r.1,W Y u1 r.2.1]):=by
 refine ca2 125 Tryz.func134 Z Z Z<|have hS:=St.r G;?_
 unfold F.abs at h
 let i1:=fun j p u A E (f:L8)=>mkI (F.Xx E f) (fun s L w=>L=[(6,R E),(7,u),(8,A),(9,R (f.length:Int)),(10,j),(11,p),(12,R s.1)]/\St [] G w [W Y u f,W Y A s.2.1,W Y j s.2.2.1,W Y p s.2.2.2])
 let i2:=fun j p u A B C E D (f:L8)=>mkI (F.X8 f B C D) (fun s L w=>L=[(6,R E),(7,u),(8,A),(9,R (f.length:Int)),(10,j),(11,p),(12,R B),(13,H s.1)]/\St [] G w [W Y u f,W Y A C,W Y j D,W Y p s.2])
 let i3:=fun j p u A B C E D S (f:L8)=>mkI (F.VZ f B C D S) (fun s L w=>L=[(6,R E),(7,u),(8,A),(9,R (f.length:Int)),(10,j),(11,p),(12,R B),(13,H S),(14,H s.1),(66,u),(67,R (f.length:Int)),(68,R s.2.1)]/\St [] G w [W Y u f,W Y A C,W Y j D,W Y p s.2.2])
 exact wk
theorem Ce {f:World} {a0 a1:L8} {j p:Value} {r:L8×L8×Int}
  (h:F.WG a0 a1=some r) (u:O [] f Y j a0) (A:O [] f Y p a1):Calls Tryz.prog 54 #[j,p] f (K fun v w=>∃u0 u1:Value,v=.tuple #[u0,u1,R r.2.2]/\St [] f w [W Y u0 r.1,W Y u1 r.2.1]):=by
 refine ca2 55 Tryz.func54 Z Z Z<|have hS:=St.r f;?_
 unfold F.WG at h
 exact wk
theorem Kg {f:World} {a0 a1:L8} {j p:Value} {r:L8×Bool}
  (h:F.VC a0 a1=some r) (u:O [] f Y j a0) (A:O [] f Y p a1):Calls Tryz.prog 196 #[j,p] f (K fun v w=>∃u0:Value,v=.tuple #[u0,P r.2]/\St [] f w [W Y u0 r.1]):=by
 refine ca2 28 Tryz.func196 Z Z Z<|have hS:=St.r f;?_
 unfold F.VC at h
 exact wk
theorem I0 {A:World} {a0 a1:L8} {D E:Value} {r:L8}
  (h:F.VA a0 a1=some r) (S:O [] A Y D a0) (T:O [] A Y E a1):Calls Tryz.prog 208 #[D,E] A (K fun v w=>St [] A w [W Y v r]):=by
 refine ca2 64 Tryz.func208 Z Z Z<|have hS:=St.r A;?_
 unfold F.VA at h
 let i1:=fun j p f (B:L8) G=>mkI (F.Xt B G) (fun s L w=>L=[(5,f),(6,j),(7,p),(8,H s.1),(26,f),(27,R (B.length:Int)),(28,R s.2.1)]/\St [] A w [W Y p s.2.2])
 let j1:=mkJ 5 (F.abO) (fun g L w=>∃f j,L=[(5,f),(6,j)]/\O [] A Y f g.1/\O [] A Y j g.2/\St [] A w []) [] []
 let j2:=fun j p f u C (B:L8)=>mkJ 13 (F.ab1 u C) (fun g L w=>L=[(5,f),(6,j),(7,p),(8,H g),(9,R u),(26,f),(27,R (B.length:Int)),(28,R u)]/\St [] A w [W Y p C]) [(5,f),(6,j),(7,p),(9,R u),(26,f),(27,R (B.length:Int)),(28,R u)] [W Y p C]
 exact wk
theorem zI {f:World} {a0:L8} {j:Value} (a1:Int) {r:Bool}
  (h:F.Us a0 a1=some r) (p:O [] f Y j a0):Calls Tryz.prog 104 #[j,R a1] f (K fun v w=>v=P r/\St [] f w []):=by
 refine ca2 26 Tryz.func104 Z Z Z<|have hS:=St.r f;?_
 unfold F.Us at h
 exact wk
theorem Ii {f:World} {a0:L8} {j:Value} (a1:Int) {r:L8}
  (h:F.UK a0 a1=some r) (p:O [] f Y j a0):Calls Tryz.prog 194 #[j,R a1] f (K fun v w=>St [] f w [W Y v r]):=by
 refine ca2 27 Tryz.func194 Z Z Z<|have hS:=St.r f;?_
 unfold F.UK at h
 exact wk
theorem GC {j:World} {a0:L00} {a1:L8} {f p:Value} {S:L01} {r:L00}
  (h:F.XB a0 a1=some r) (hS:St S j j [W M f a0]) (A:O S j Y p a1):Calls Tryz.prog 105 #[f,p] j (K fun v w=>v=.tuple #[]/\St S j w [W M f r]):=by
 refine ca2 38 Tryz.func105 Z Z Z ?_
 unfold F.XB at h
 let i1:=mkI (F.abY a0 a1) (fun s L w=>L=[(0,f),(1,p),(7,R (a0.length:Int)),(8,R s.1)]/\St S j w [W M f s.2])
 let j1:=fun u=>mkJ 8 (F.abP u) (fun g L w=>L=[(0,f),(1,p),(7,R (a0.length:Int)),(8,R u)]/\St S j w [W M f g]) [(8,R u)] []
 exact wk
theorem Ex {f:World} {a0:L8} {j:Value} (a1:Int) {r:L00×Bool}
  (h:F.Vh a0 a1=some r) (p:O [] f Y j a0):Calls Tryz.prog 37 #[j,R a1] f (K fun v w=>∃u0:Value,v=.tuple #[u0,P r.2]/\St [] f w [W M u0 r.1]):=by
 refine ca2 28 Tryz.func37 Z Z Z<|have hS:=St.r f;?_
 unfold F.Vh at h
 let j1:=mkJ 3 (F.aah a0 a1) (fun g L w=>L=[(0,j),(1,R a1),(20,P g)]/\St [] f w []) [] []
 exact wk
theorem EB {f:World} {a0:L8} {j:Value} {r:L00}
  (h:F.aaL a0=some r) (p:O [] f Y j a0):Calls Tryz.prog 245 #[j] f (K fun v w=>St [] f w [W M v r]):=by
 refine ca1 16 Tryz.func245 Z Z Z<|have hS:=St.r f;?_
 unfold F.aaL at h
 exact wk
end Go.Proofs
end
