import Derived.Test.YtkbacjmklhgpcaaGreatDoorSW0
import Derived.Test.YtkbacjmklhgpcaaGreatDoorSAw
import Derived.Test.YtkbacjmklhgpcaaGreatDoorQGkFman
import Derived.Test.YtkbacjmklhgpcaaGreatDoorSWnatb
set_option linter.unusedVariables false
set_option linter.unusedSimpArgs false
set_option linter.unusedSectionVars false
set_option maxRecDepth 20000
set_option maxHeartbeats 20000000
namespace Go.Proofs
open Go Go.RowKit Go.Gk
open Go.Gk renaming RP -> O, Ret -> N, ar -> J, e32 -> X, own -> W, red -> P, vI -> V
open Go.Gk.Rds renaming cons -> R
theorem Dd {f:World} {a0:L00} {j:Value} {r:Int}
  (h:F.Yb a0=some r) (p:O [] f X j a0):Calls Tryz.prog 139 #[j] f (N fun v w=>v=V r/\St [] f w []):=by
 refine ca1 7 Tryz.func139 Z Z Z<|have hS:=St.r f;?_
 unfold F.Yb at h
 exact wk
theorem sk {j:World} {a0:List L00} {f:Value} {s0:List SV} {r:Int}
  (h:F.TY a0=some r) (p:O [] j eV f s0) (hl0:jE [] j X s0 a0):Calls Tryz.prog 95 #[f] j (N fun v w=>v=V r/\St [] j w []):=by
 refine ca1 23 Tryz.func95 Z Z Z<|have hS:=St.r j;?_
 unfold F.TY at h
 let i1:=mkI (F.Vr a0) (fun s L w=>L=[(0,f),(5,f),(6,V (a0.length:Int)),(7,V s)]/\St [] j w [])
 exact wk
theorem pJ {f:World} {a0 a1:L00} {j p:Value} {r:L00}
  (h:F.Tv a0 a1=some r) (u:O [] f X j a0) (A:O [] f X p a1):Calls Tryz.prog 96 #[j,p] f (N fun v w=>St [] f w [W X v r]):=by
 refine ca2 16 Tryz.func96 Z Z Z<|have hS:=St.r f;?_
 unfold F.Tv at h
 exact wk
theorem EY {f:World} {a0 a1 a2:L00} {j p u:Value} {r:L00×Int}
  (h:F.V6 a0 a1 a2=some r) (A:O [] f X j a0) (B:O [] f X p a1) (C:O [] f X u a2):Calls Tryz.prog 66 #[j,p,u] f (N fun v w=>∃u0:Value,v=.tuple #[u0,V r.2]/\St [] f w [W X u0 r.1]):=by
 refine ca3 22 Tryz.func66 Z Z Z<|have hS:=St.r f;?_
 unfold F.V6 at h
 exact wk
theorem AT {f:World} {a0 a1 a2:L00} {p u A:Value} {r:L00}
  (h:F.VU a0 a1 a2=some r) (B:O [] f X p a0) (C:O [] f X u a1) (D:O [] f X A a2):Calls Tryz.prog 157 #[p,u,A] f (N fun v w=>St [] f w [W X v r]):=by
 refine ca3 26 Tryz.func157 Z Z Z<|have hS:=St.r f;?_
 unfold F.VU at h
 let j1:=mkJ 5 (F.aau) (fun g L w=>∃j,L=[(7,j)]/\St [] f w [W X j g]) [] []
 exact wk
theorem EX {f:World} {a0 a1 a2:L00} {j p u:Value} {r:L00×Int}
  (h:F.Y7 a0 a1 a2=some r) (A:O [] f X j a0) (B:O [] f X p a1) (C:O [] f X u a2):Calls Tryz.prog 129 #[j,p,u] f (N fun v w=>∃u0:Value,v=.tuple #[u0,V r.2]/\St [] f w [W X u0 r.1]):=by
 refine ca3 25 Tryz.func129 Z Z Z<|have hS:=St.r f;?_
 unfold F.Y7 at h
 exact wk
theorem Es {f:World} {a0 a1 a2:L00} {j p u:Value} {r:L00×Int}
  (h:F.YD a0 a1 a2=some r) (A:O [] f X j a0) (B:O [] f X p a1) (C:O [] f X u a2):Calls Tryz.prog 177 #[j,p,u] f (N fun v w=>∃u0:Value,v=.tuple #[u0,V r.2]/\St [] f w [W X u0 r.1]):=by
 refine ca3 22 Tryz.func177 Z Z Z<|have hS:=St.r f;?_
 unfold F.YD at h
 exact wk
theorem CY {f:World} {a0 a1:L00} {j p:Value} {r:L00}
  (h:F.WY a0 a1=some r) (u:O [] f X j a0) (A:O [] f X p a1):Calls Tryz.prog 155 #[j,p] f (N fun v w=>St [] f w [W X v r]):=by
 refine ca2 12 Tryz.func155 Z Z Z<|have hS:=St.r f;?_
 unfold F.WY at h
 exact wk
theorem vA {j:World} {a0 a1:L00} {C f:Value} {T:L02} {r:L00×L00}
  (h:F.Vb a0 a1=some r) (hTT:TOk [] T j) (af:O T j X C a0) (ag:O T j X f a1):Calls Tryz.prog 112 #[C,f] j (N fun v w=>∃u0:Value,∃u1:Value,v=.tuple #[u0,u1]/\St [] j w []/\Rds T w [P X u1 r.2,P X u0 r.1]):=by
 refine ca2 59 Tryz.func112 Z Z Z<|have hS:=St.r j;have hZ:=Fz.r (S:=[]) (w0:=j);?_
 have hA0:Rds T j [P X f a1,P X C a0]:=R (O.q (ao Z) ag) (R (O.q (ao Z) af) (Rds.nil))
 have hA:=hA0.all
 have hP:=hA0.off Z
 unfold F.Vb at h
 let i1:=mkI (F.W7 a1) (fun s L w=>∃D p E u,L=[(1,f),(6,D),(7,p),(8,E),(9,u)]/\SfT [] T j w [P X u s.2.2.2,P X E s.2.2.1,P X p s.2.1,P X D s.1,P X f a1] [])
 let i2:=fun p u G aa=>mkI (F.Zf a1 G aa) (fun s L w=>∃A B,L=[(1,f),(6,A),(7,p),(8,B),(9,u)]/\SfT [] T j w [P X u aa,P X B s.2,P X p G,P X A s.1,P X f a1] [])
 let i3:=fun A B ab ac=>mkI (F.XY a1 ab ac) (fun s L w=>∃ad ae,L=[(1,f),(6,A),(7,ad),(8,B),(9,ae)]/\SfT [] T j w [P X ae s.2,P X B ac,P X ad s.1,P X A ab,P X f a1] [])
 exact wk
theorem EF {f:World} {a0 a1:L00} {c d:Value} {r:L00×Int}
  (h:F.Ut a0 a1=some r) (s:O [] f X c a0) (t:O [] f X d a1):Calls Tryz.prog 65 #[c,d] f (N fun v w=>∃u0:Value,v=.tuple #[u0,V r.2]/\St [] f w [W X u0 r.1]):=by
 refine dN 40 Tryz.func65 Z Z Z<|have a:=St.r f;have g:=Fz.r (S:=[]) (w0:=f);?_
 have hTT:TOk [] [] f:=TOk.nil
 have b:Rds [] f [P X d a1,P X c a0]:=R (O.q (ao Z) t) (R (O.q (ao Z) s) (Rds.nil))
 have i:Off [] [P X d a1,P X c a0]:=Off.emp
 refine ig [(0,c),(1,d)] Z ?_
 unfold F.Ut at h
 refine gl4<|J 2 Z<|gl3<|E4 0 Z<|gl4<|J 2 Z<|gl1<|gl4<|J 2 Z<|kQ (kx (e:=eV) (l:=([SV.of c,SV.of d]:List SV)) (vs:=[c,d]) Tryz.underlying217 QO Z Z Z (sE ((b.rp 0 Z).now a.fr).sv (sE ((b.rp 1 Z).now a.fr).sv Z)) (by decide) (by decide) a) Z fun u w a=>cq h fun aa m h=>pe a Z (sk  m (a.ro 0 Z).rp ⟨((b.rp 0 Z).now a.fr).svrp,((b.rp 1 Z).now a.fr).svrp,trivial⟩) Z fun w a=>J 1 Z<|gl2<|J 2 Z<|gl3 ?_
 apply gl9 Z h<;>intro h
 ·refine gl4<|J 3 Z<|gl8<|I6 ?_
  cases h
  replace a:=g.st a
  exact jP Z Z Z ⟨L03,Z,(a.nil X).f [0] Z Z⟩
 refine gl6<|J 2 Z<|cq h fun x n h=>vr a Z (pJ  n ((b.rp 0 Z).now a.fr).rp ((b.rp 1 Z).now a.fr).rp) Z fun y w a=>J 1 Z<|gl1<|gl4<|J 1 Z<|cq h fun ab o h=>pe a Z (xK 0 o ((b.rp 1 Z).now a.fr).rp) Z fun w a=>gl3 ?_
 apply gl9 Z h<;>intro h
 ·refine gl4<|J 2 Z ?_
  replace a:=a.pick (os':=[W X y x,W eV u ([SV.of c,SV.of d]:List SV)]++[]) [0,1] (by decide) rfl
  obtain⟨g,b,i,a⟩:=g.frzK hTT b i a
  refine cq h fun ac p h=>lU Z (vA  p (g.okT hTT a) (b.rpT i 3 Z) (b.rpT i 1 Z)) Z ?_
  rintro _ w ⟨C,D,rfl,z,A⟩
  obtain⟨E,B,g,b,i,a⟩:=g.callK b i a z A rfl
  refine J 5 Z<|gl3<|J1<|Gh<|JB<|cI<|gl5<|cI<|gl4<|J 1 Z<|kQ (kx (e:=X) (l:=([1]:L00)) (vs:=[v32 1]) Tryz.underlying111 vC Z Z Z Z (by decide) (by decide) a) Z fun G w a=>cq h fun L j h=>pe a Z (xL  j ((b.rp 4 Z).now a.fr).rp (a.ro 0 Z).rp) Z fun w a=>J 1 Z<|gl3 ?_
  apply gl9 Z h<;>intro h
  ·refine gl4<|J 2 Z<|gl8<|B7 ?_
   cases h
   replace a:=g.st a
   exact jP Z Z Z ⟨L03,Z,(a.nil X).f [0] Z Z⟩
  refine gl6<|J 2 Z<|cq h fun T k h=>vr a Z (pJ  k ((b.rp 5 Z).now a.fr).rp ((b.rp 1 Z).now a.fr).rp) Z fun q w a=>J 2 Z<|gl3<|gM<|B7 ?_
  cases h
  replace a:=g.st a
  exact jP Z Z Z ⟨q,Z,a.f [0] Z Z⟩
 refine gl6<|J 2 Z ?_
 cases h
theorem Et {j:World} {a0 a1 a2:L00} {E A B:Value} {r:L00×Int}
  (h:F.VG a0 a1 a2=some r) (G:O [] j X E a0) (S:O [] j X A a1) (T:O [] j X B a2):Calls Tryz.prog 55 #[E,A,B] j (N fun v w=>∃u0:Value,v=.tuple #[u0,V r.2]/\St [] j w [W X u0 r.1]):=by
 refine ca3 46 Tryz.func55 Z Z Z<|have hS:=St.r j;?_
 unfold F.VG at h
 let i1:=fun f p=>mkI (F.X8 a1 a2 p) (fun s L w=>∃C,L=[(0,f),(1,A),(2,B),(9,C),(10,V s.2)]/\St [] j w [W X C s.1,W X f p])
 let j1:=fun f u p=>mkJ 9 (F.XT u) (fun g L w=>∃D,L=[(0,f),(1,A),(2,B),(9,D),(10,V u)]/\St [] j w [W X D g,W X f p]) [(0,f),(10,V u)] [W X f p]
 exact wk
end Go.Proofs
