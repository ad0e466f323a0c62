import Derived.Test.YtkbacjmklhgpcaaGreatDoorSW0
import Derived.Test.YtkbacjmklhgpcaaGreatDoorSAw
import Derived.Test.YtkbacjmklhgpcaaGreatDoorQGkFman
import Derived.Test.YtkbacjmklhgpcaaGreatDoorSWbignuma
set_option linter.unusedVariables false
set_option linter.unusedSimpArgs false
set_option linter.unusedSectionVars false
set_option maxRecDepth 20000
set_option maxHeartbeats 20000000
namespace Go.Proofs
open Go Go.RowKit Go.Gk
open Go.Gk renaming RP -> O, Ret -> N, ar -> J, e32 -> X, own -> W, pB -> Q, v64 -> M, vB -> U, vI -> V
open Go.Gk.OE renaming bx -> Y
theorem BJ {S:World} {a0 a1:L00} {aa ab:Value} {r:L00×L00}
  (h:F.Vd a0 a1=some r) (ac:O [] S X aa a0) (ad:O [] S X ab a1):Calls Tryz.prog 202 #[aa,ab] S (N fun v w=>∃u0 u1:Value,v=.tuple #[u0,u1]/\St [] S w [W X u0 r.1,W X u1 r.2]):=by
 refine ca2 273 Tryz.func202 Z Z Z<|have hS:=St.r S;?_
 unfold F.Vd at h
 let i1:=fun j u p E (f:L00) (C:UInt32) (D:UInt32)=>mkI (F.WP E f C D) (fun s L w=>L=[(10,M E),(11,j),(12,u),(13,V (f.length:Int)),(15,p),(16,M C.toUInt64),(17,M D.toUInt64),(18,V s.1)]/\St [] S w [W X j f,W X u s.2.1,W X p s.2.2])
 let i2:=fun j u p E (f:L00) (C:UInt32) (D:UInt32) A G B=>mkI (F.Xf f D A G C B) (fun s L w=>L=[(10,M E),(11,j),(12,u),(13,V (f.length:Int)),(15,p),(16,M C.toUInt64),(17,M D.toUInt64),(18,V A),(20,M s.1),(21,M s.2)]/\St [] S w [W X j f,W X u G,W X p B])
 let i3:=fun j u p E (f:L00) (C:UInt32) (D:UInt32) A B T=>mkI (F.Wd f A T B) (fun s L w=>L=[(10,M E),(11,j),(12,u),(13,V (f.length:Int)),(15,p),(16,M C.toUInt64),(17,M D.toUInt64),(18,V A),(20,M T),(22,M s.1),(23,M s.2.1),(24,V s.2.2.1)]/\St [] S w [W X j f,W X u s.2.2.2,W X p B])
 let i4:=fun j u p E (f:L00) (C:UInt32) (D:UInt32) A B T=>mkI (F.Vh f A T B) (fun s L w=>L=[(10,M E),(11,j),(12,u),(13,V (f.length:Int)),(15,p),(16,M C.toUInt64),(17,M D.toUInt64),(18,V A),(20,M (T - 1)),(22,M s.1),(27,V s.2.1)]/\St [] S w [W X j f,W X u s.2.2,W X p B])
 let j1:=fun j u p E (f:L00) (C:UInt32) (D:UInt32) A G B=>mkJ 29 (F.WB G f A B) (fun g L w=>L=[(10,M E),(11,j),(12,u),(13,V (f.length:Int)),(15,p),(16,M C.toUInt64),(17,M D.toUInt64),(18,V A),(20,M g)]/\St [] S w [W X j f,W X u G,W X p B]) [(10,M E),(11,j),(12,u),(13,V (f.length:Int)),(15,p),(16,M C.toUInt64),(17,M D.toUInt64),(18,V A)] [W X j f,W X u G,W X p B]
 let j2:=fun j u p E (f:L00) (C:UInt32) (D:UInt32) A B=>mkJ 50 (F.VW A B) (fun g L w=>L=[(10,M E),(11,j),(12,u),(13,V (f.length:Int)),(15,p),(16,M C.toUInt64),(17,M D.toUInt64),(18,V A),(20,M g.1)]/\St [] S w [W X j f,W X u g.2,W X p B]) [(10,M E),(11,j),(12,u),(13,V (f.length:Int)),(15,p),(16,M C.toUInt64),(17,M D.toUInt64),(18,V A)] [W X j f,W X p B]
 exact wk
theorem rB {f:World} {D E G T:L00} {j p u A:Value} {B ag ah C:Nat} {S:L02} (aa ab ac ad:Bool) {r:Bool×L00×Bool×L00}
  (h:F.VZ aa D ab E ac G ad T=some r) (hS:St S f f [Y B [U aa,j],W X j D,Y C [U ad,A],W X A T]) (ai:O S f X p E) (hBa1:RB S f ag [U ab,p]) (aj:O S f X u G) (hBa2:RB S f ah [U ac,u]):Calls Tryz.prog 198 #[Q B 0,Q ag 0,Q ah 0,Q C 0] f (N fun v w=>∃ae af:Value,v=.tuple #[Q B 0,Q C 0]/\St S f w [Y B [U r.1,ae],W X ae r.2.1,Y C [U r.2.2.1,af],W X af r.2.2.2]):=by
 refine ca4 46 Tryz.func198 Z Z Z ?_
 unfold F.VZ at h
 exact wk
theorem ph {B:World} {C D E:L00} {j p u:Value} {A ad f:Nat} {S:L02} (G T aa:Bool) {r:Bool×L00×Bool×L00}
  (h:F.aa2 G C T D aa E=some r) (hS:St S B B [Y A [U G,j],W X j C,Y f [U aa,u],W X u E]) (ae:O S B X p D) (hBa2:RB S B ad [U T,p]):Calls Tryz.prog 198 #[Q A 0,Q f 0,Q ad 0,Q f 0] B (N fun v w=>∃ab ac:Value,v=.tuple #[Q A 0,Q f 0]/\St S B w [Y A [U r.1,ab],W X ab r.2.1,Y f [U r.2.2.1,ac],W X ac r.2.2.2]):=by
 refine ca4 46 Tryz.func198 Z Z Z ?_
 unfold F.aa2 at h
 exact wk
theorem pg {B:World} {C D E:L00} {j p u:Value} {f ad A:Nat} {S:L02} (G T aa:Bool) {r:Bool×L00×Bool×L00}
  (h:F.abf G C T D aa E=some r) (hS:St S B B [Y f [U G,j],W X j C,Y A [U aa,u],W X u E]) (ae:O S B X p D) (hBa2:RB S B ad [U T,p]):Calls Tryz.prog 198 #[Q f 0,Q f 0,Q ad 0,Q A 0] B (N fun v w=>∃ab ac:Value,v=.tuple #[Q f 0,Q A 0]/\St S B w [Y f [U r.1,ab],W X ab r.2.1,Y A [U r.2.2.1,ac],W X ac r.2.2.2]):=by
 refine ca4 46 Tryz.func198 Z Z Z ?_
 unfold F.abf at h
 exact wk
theorem qh {A:World} {p:L00} {f:Value} {j:Nat} {S:L02} (u:Bool) (a1:Int) {r:Bool×L00}
  (h:F.VN u p a1=some r) (hS:St S A A [Y j [U u,f],W X f p]):Calls Tryz.prog 160 #[Q j 0,V a1] A (N fun v w=>∃B:Value,v=Q j 0/\St S A w [Y j [U r.1,B],W X B r.2]):=by
 refine ca2 18 Tryz.func160 Z Z Z ?_
 unfold F.VN at h
 let j1:=mkJ 5 (F.Zd u p a1) (fun g L w=>L=[(0,Q j 0),(1,V a1),(5,M g)]/\St S A w [Y j [U u,f],W X f p]) [] []
 exact wk
theorem iu {j:World} (a0:Int) {r:Bool×L00}
  (h:F.TD a0=some r) :Calls Tryz.prog 116 #[V a0] j (N fun v w=>∃f:Value,∃un0:Nat,v=Q un0 0/\St [] j w [Y un0 [U r.1,f],W X f r.2]):=by
 refine ca1 6 Tryz.func116 Z Z Z<|have hS:=St.r j;?_
 unfold F.TD at h
 exact wk
theorem zP {j:World} {a0 a1:L00} {p u:Value} {r:L00}
  (h:F.Vv a0 a1=some r) (C:O [] j X p a0) (D:O [] j X u a1):Calls Tryz.prog 165 #[p,u] j (N fun v w=>St [] j w [W X v r]):=by
 refine ca2 45 Tryz.func165 Z Z Z<|have hS:=St.r j;?_
 unfold F.Vv at h
 let i1:=fun f=>mkI (F.Zp a0 a1) (fun s L w=>L=[(0,p),(1,u),(5,f),(6,M s.1),(7,V s.2.1)]/\St [] j w [W X f s.2.2])
 let j1:=fun f A B=>mkJ 10 (F.XH A B) (fun g L w=>L=[(0,p),(1,u),(5,f),(7,V A),(8,M g)]/\St [] j w [W X f B]) [(5,f),(7,V A)] [W X f B]
 exact wk
theorem oQ {f:World} {a1 a3:L00} {j p:Value} (a0 a2:Bool) {r:Bool×L00}
  (h:F.T4 a0 a1 a2 a3=some r) (u:O [] f X j a1) (A:O [] f X p a3):Calls Tryz.prog 185 #[U a0,j,U a2,p] f (N fun v w=>∃u1:Value,v=.tuple #[U r.1,u1]/\St [] f w [W X u1 r.2]):=by
 refine ca4 29 Tryz.func185 Z Z Z<|have hS:=St.r f;?_
 unfold F.T4 at h
 exact wk
theorem mK {f:World} {B C D:L00} {j p u:Value} {A ab ac:Nat} {S:L02} (E G T:Bool) {r:Bool×L00}
  (h:F.WI E B G C T D=some r) (hS:St S f f [Y A [U E,j],W X j B]) (ad:O S f X p C) (hBa1:RB S f ab [U G,p]) (ae:O S f X u D) (hBa2:RB S f ac [U T,u]):Calls Tryz.prog 147 #[Q A 0,Q ab 0,Q ac 0] f (N fun v w=>∃aa:Value,v=Q A 0/\St S f w [Y A [U r.1,aa],W X aa r.2]):=by
 refine ca3 28 Tryz.func147 Z Z Z ?_
 unfold F.WI at h
 have cf:Cf 0:=trivial
 exact wk
theorem qB {f:World} {g m:L00} {b l:Value} {a n:Nat} {S:L02} (c j:Bool) {r:Bool×L00}
  (h:F.Uy c g j m=some r) (hS:St S f f [Y a [U c,b],W X b g]) (q:O S f X l m) (hBa2:RB S f n [U j,l]):Calls Tryz.prog 147 #[Q a 0,Q a 0,Q n 0] f (N fun v w=>∃o:Value,v=Q a 0/\St S f w [Y a [U r.1,o],W X o r.2]):=by
 refine dN 28 Tryz.func147 Z Z Z<|ig [(0,Q a 0),(1,Q a 0),(2,Q n 0)] Z ?_
 unfold F.Uy at h
 refine gl4<|J 1 Z<|gl1<|have hsh1:=(hS.ro 1 Z).shp;kL (fun w'=>St S f w' []) (fun i=>!([1004,1008,17,20].contains i)) ku (fun _ _ _ t=>t.2) (fun _ _ t=>t) (by kernel_rfl)<|have hS:=hS.drew;show lxE _ _ _ _ _ _ _ [0,1,2,3,4,5,6,7,8,9,10,11,12,13,14,15,16,17,18,19,20,21] _ _ from cG 2 Z (hS.f [] Z Z)<|cC (hS.f [] Z Z) Z Z (fun w d=>gW Z) Z<|cC (hS.f [] Z Z) Z Z (fun w d=>bu (k:=0) u186 Z Z nz4 Z) Z<|qT (hS.f [] Z Z) Z Z Z (cb Tryz.underlying4 Z Z (hS.u 0 Z 0)) Z<|cG 1 Z (hS.f [] Z Z)<|cC (hS.f [] Z Z) Z Z (fun w d=>gW Z) Z<|cC (hS.f [] Z Z) Z Z (fun w d=>bu (k:=1) u186 Z Z vl Z) Z<|qT (hS.f [] Z Z) Z Z Z (cb u110 Z Z (hS.u 0 Z 1)) Z<|cG 1 Z (hS.f [] Z Z)<|cC (hS.f [] Z Z) Z Z (fun w d=>gW Z) Z<|cC (hS.f [] Z Z) Z Z (fun w d=>bu (k:=0) u186 Z Z nz4 Z) Z<|cC (hS.f [] Z Z) Z Z (fun w d=>cb Tryz.underlying4 Z Z (hBa2.cell d.fr 0 Z)) Z<|cG 1 Z (hS.f [] Z Z)<|cC (hS.f [] Z Z) Z Z (fun w d=>gW Z) Z<|cC (hS.f [] Z Z) Z Z (fun w d=>bu (k:=1) u186 Z Z vl Z) Z<|cC (hS.f [] Z Z) Z Z (fun w d=>cb u110 Z Z (hBa2.cell d.fr 1 Z)) Z ?_
 refine cq h fun s u h=>jQ (hS.f [] Z Z) Z Z (by kernel_rfl) Z (oQ c j u (hS.ro 1 Z).rp (q.now hS.fr).rp) Z ?_
 rintro _ w ⟨y,rfl,p⟩
 have hS:=hS.j p
 refine cG 2 Z (hS.f [] Z Z)<|have z:=hS.pick (os':=[Y a [U c,b],W X b g,W X y s.2]++[]) [1,2,0] (by decide) Z;cq h fun B x h=>jQ (hS.f [] Z Z) Z Z (by kernel_rfl) Z (mi c s.1 x z.give ) Z ?_
 rintro _ w ⟨A,rfl,p⟩
 have hS:=z.p p
 refine cG 1 Z (hS.f [] Z Z)<|iB (hS.f [] Z Z)<|bA<|gM ?_
 cases h
 exact jl Z Z ⟨A,Z,hS.f [0,1] Z Z⟩
theorem uF {f:World} {B C D:L00} {j p u:Value} {A ab ac:Nat} {S:L02} (E G T:Bool) {r:Bool×L00}
  (h:F.Wb E B G C T D=some r) (hS:St S f f [Y A [U E,j],W X j B]) (ad:O S f X p C) (hBa1:RB S f ab [U G,p]) (ae:O S f X u D) (hBa2:RB S f ac [U T,u]):Calls Tryz.prog 183 #[Q A 0,Q ab 0,Q ac 0] f (N fun v w=>∃aa:Value,v=Q A 0/\St S f w [Y A [U r.1,aa],W X aa r.2]):=by
 refine ca3 29 Tryz.func183 Z Z Z ?_
 unfold F.Wb at h
 have cf:Cf 0:=trivial
 exact wk
theorem rf {u:World} {A B:L00} {j p:Value} {f G:Nat} {S:L02} (C D:Bool) {r:Bool×L00}
  (h:F.UP C A D B=some r) (hS:St S u u [Y f [U C,j],W X j A]) (T:O S u X p B) (hBa2:RB S u G [U D,p]):Calls Tryz.prog 183 #[Q f 0,Q f 0,Q G 0] u (N fun v w=>∃E:Value,v=Q f 0/\St S u w [Y f [U r.1,E],W X E r.2]):=by
 refine ca3 29 Tryz.func183 Z Z Z ?_
 unfold F.UP at h
 have cf:Cf 3:=trivial
 exact wk
theorem qY {f:World} {g m:L00} {b l:Value} {a n:Nat} {S:L02} (c j:Bool) {r:Bool×L00}
  (h:F.XL c g j m=some r) (hS:St S f f [Y a [U c,b],W X b g]) (q:O S f X l m) (hBa1:RB S f n [U j,l]):Calls Tryz.prog 183 #[Q a 0,Q n 0,Q a 0] f (N fun v w=>∃o:Value,v=Q a 0/\St S f w [Y a [U r.1,o],W X o r.2]):=by
 refine dN 29 Tryz.func183 Z Z Z<|ig [(0,Q a 0),(1,Q n 0),(2,Q a 0)] Z ?_
 unfold F.XL at h
 refine gl4<|J 1 Z<|gl1<|have hsh1:=(hS.ro 1 Z).shp;kL (fun w'=>St S f w' []) (fun i=>!([1012,1017,18,21].contains i)) ku (fun _ _ _ t=>t.2) (fun _ _ t=>t) (by kernel_rfl)<|have hS:=hS.drew;show lxE _ _ _ _ _ _ _ [0,1,2,3,4,5,6,7,8,9,10,11,12,13,14,15,16,17,18,19,20,21,22] _ _ from cG 2 Z (hS.f [] Z Z)<|cC (hS.f [] Z Z) Z Z (fun w d=>gW Z) Z<|cC (hS.f [] Z Z) Z Z (fun w d=>bu (k:=0) u186 Z Z nz4 Z) Z<|cC (hS.f [] Z Z) Z Z (fun w d=>cb Tryz.underlying4 Z Z (hBa1.cell d.fr 0 Z)) Z<|cG 1 Z (hS.f [] Z Z)<|cC (hS.f [] Z Z) Z Z (fun w d=>gW Z) Z<|cC (hS.f [] Z Z) Z Z (fun w d=>bu (k:=1) u186 Z Z vl Z) Z<|cC (hS.f [] Z Z) Z Z (fun w d=>cb u110 Z Z (hBa1.cell d.fr 1 Z)) Z<|cG 1 Z (hS.f [] Z Z)<|cC (hS.f [] Z Z) Z Z (fun w d=>gW Z) Z<|cC (hS.f [] Z Z) Z Z (fun w d=>bu (k:=0) u186 Z Z nz4 Z) Z<|qT (hS.f [] Z Z) Z Z Z (cb Tryz.underlying4 Z Z (hS.u 0 Z 0)) Z<|cG 2 Z (hS.f [] Z Z)<|cC (hS.f [] Z Z) Z Z (fun w d=>gW Z) Z<|cC (hS.f [] Z Z) Z Z (fun w d=>bu (k:=1) u186 Z Z vl Z) Z<|qT (hS.f [] Z Z) Z Z Z (cb u110 Z Z (hS.u 0 Z 1)) Z ?_
 refine cq h fun s u h=>jQ (hS.f [] Z Z) Z Z (by kernel_rfl) Z (oQ j (!c) u (q.now hS.fr).rp (hS.ro 1 Z).rp) Z ?_
 rintro _ w ⟨y,rfl,p⟩
 have hS:=hS.j p
 refine cG 2 Z (hS.f [] Z Z)<|have z:=hS.pick (os':=[Y a [U c,b],W X b g,W X y s.2]++[]) [1,2,0] (by decide) Z;cq h fun B x h=>jQ (hS.f [] Z Z) Z Z (by kernel_rfl) Z (mi c s.1 x z.give ) Z ?_
 rintro _ w ⟨A,rfl,p⟩
 have hS:=z.p p
 refine cG 1 Z (hS.f [] Z Z)<|iB (hS.f [] Z Z)<|bA<|gM ?_
 cases h
 exact jl Z Z ⟨A,Z,hS.f [0,1] Z Z⟩
theorem rz {p:World} {D E G T:L00} {u A B C:Value} {f ai aj j:Nat} {S:L02} (aa ab ac ad:Bool) {r:Bool×L00×Bool×L00}
  (h:F.Wa aa D ab E ac G ad T=some r) (hS:St S p p [Y f [U aa,u],W X u D,Y j [U ad,C],W X C T]) (ak:O S p X A E) (hBa1:RB S p ai [U ab,A]) (al:O S p X B G) (hBa2:RB S p aj [U ac,B]):Calls Tryz.prog 196 #[Q f 0,Q ai 0,Q aj 0,Q j 0] p (N fun v w=>∃ae af:Value,v=.tuple #[Q f 0,Q j 0]/\St S p w [Y f [U r.1,ae],W X ae r.2.1,Y j [U r.2.2.1,af],W X af r.2.2.2]):=by
 refine ca4 45 Tryz.func196 Z Z Z ?_
 unfold F.Wa at h
 let j1:=mkJ 10 (F.aai) (fun g L w=>∃ag ah,L=[(0,Q f 0),(3,Q j 0)]/\St S p w [Y f [U g.1,ag],Y j [U g.2.2.1,ah],W X ag g.2.1,W X ah g.2.2.2]) [] []
 exact wk
theorem pf {p:World} {C D E:L00} {u A B:Value} {j af f:Nat} {S:L02} (G T aa:Bool) {r:Bool×L00×Bool×L00}
  (h:F.ZJ G C T D aa E=some r) (hS:St S p p [Y j [U G,u],W X u C,Y f [U aa,B],W X B E]) (ag:O S p X A D) (hBa2:RB S p af [U T,A]):Calls Tryz.prog 196 #[Q j 0,Q f 0,Q af 0,Q f 0] p (N fun v w=>∃ab ac:Value,v=.tuple #[Q j 0,Q f 0]/\St S p w [Y j [U r.1,ab],W X ab r.2.1,Y f [U r.2.2.1,ac],W X ac r.2.2.2]):=by
 refine ca4 45 Tryz.func196 Z Z Z ?_
 unfold F.ZJ at h
 let j1:=mkJ 10 (F.aas) (fun g L w=>∃ad ae,L=[(0,Q j 0),(3,Q f 0)]/\St S p w [Y j [U g.1,ad],Y f [U g.2.2.1,ae],W X ad g.2.1,W X ae g.2.2.2]) [] []
 exact wk
theorem tV {f:World} {B C D:L00} {j p u:Value} {A ab ac:Nat} {S:L02} (E G T:Bool) {r:Bool×L00}
  (h:F.Xu E B G C T D=some r) (hS:St S f f [Y A [U E,j],W X j B]) (ad:O S f X p C) (hBa1:RB S f ab [U G,p]) (ae:O S f X u D) (hBa2:RB S f ac [U T,u]):Calls Tryz.prog 184 #[Q A 0,Q ab 0,Q ac 0] f (N fun v w=>∃aa:Value,v=Q A 0/\St S f w [Y A [U r.1,aa],W X aa r.2]):=by
 refine ca3 13 Tryz.func184 Z Z Z ?_
 unfold F.Xu at h
 exact wk
theorem qH {u:World} {A B:L00} {j p:Value} {f G:Nat} {S:L02} (C D:Bool) {r:Bool×L00}
  (h:F.Ze C A D B=some r) (hS:St S u u [Y f [U C,j],W X j A]) (T:O S u X p B) (hBa2:RB S u G [U D,p]):Calls Tryz.prog 184 #[Q f 0,Q f 0,Q G 0] u (N fun v w=>∃E:Value,v=Q f 0/\St S u w [Y f [U r.1,E],W X E r.2]):=by
 refine ca3 13 Tryz.func184 Z Z Z ?_
 unfold F.Ze at h
 exact wk
end Go.Proofs
