import Derived.Test.YtkbacjmklhgpcaaGreatDoorSW0
import Derived.Test.YtkbacjmklhgpcaaGreatDoorSAw
import Derived.Test.YtkbacjmklhgpcaaGreatDoorQGkFman
import Derived.Test.YtkbacjmklhgpcaaGreatDoorSWlib
import Derived.Test.YtkbacjmklhgpcaaGreatDoorSWmodn
import Derived.Test.YtkbacjmklhgpcaaGreatDoorSWnatb
set_option linter.unusedVariables false
set_option linter.unusedSimpArgs false
set_option linter.unusedSectionVars false
set_option maxRecDepth 20000
set_option maxHeartbeats 20000000
namespace Go.Proofs
open Go Go.RowKit Go.Gk
open Go.Gk renaming RP -> O, Ret -> N, ar -> J, e32 -> X, e8 -> K, own -> W, pB -> Q, red -> P, vB -> U, vI -> V
open Go.Gk.OE renaming bx -> Y
open Go.Gk.Rds renaming cons -> R
theorem CL {f:World} {a0:L01} {j:Value} {r:L00}
  (h:F.Vo a0=some r) (p:O [] f K j a0):Calls Tryz.prog 71 #[j] f (N fun v w=>St [] f w [W X v r]):=by
 refine ca1 10 Tryz.func71 Z Z Z<|have hS:=St.r f;?_
 unfold F.Vo at h
 exact wk
theorem q7 {d:World} (a:L00) {r:L00}
  (h:F.UV a=some r) (c:a.length=8):Calls Tryz.prog 125 #[.agg (X.fl a).toArray] d (N fun v w=>St [] d w [W X v r]):=by
 refine dN 4 Tryz.func125 Z Z Z<|have b:=St.r d;ig [(0,.agg (X.fl a).toArray)] Z ?_
 unfold F.UV at h
 refine gl4<|qd (sU (cs:=X.fl a) Z Z b) Z fun f w b=>J 1 Z<|gl2<|aQ (Rf u206 Qs Z) Z ?_
 replace b:=b.bxOwn (i:=0) rfl c rfl rfl
 refine J 1 Z<|gl3<|gM ?_
 cases h
 exact jl Z Z (b.f [0] Z Z)
theorem EQ {f:World}  {r:L00}
  (h:F.TO =some r) (hT:TB [] f):Calls Tryz.prog 122 #[] f (N fun v w=>St [] f w [W X v r]):=by
 refine dN 3 Tryz.func122 Z Z Z<|have hS:=St.r f;km [] trivial ?_
 unfold F.TO at h
 exact wk
theorem lV {f:World} {a0 a1:L00} {j p:Value} {r:L00}
  (h:F.SZ a0 a1=some r) (hT:TB [] f) (u:O [] f X j a0) (A:O [] f X p a1):Calls Tryz.prog 131 #[j,p] f (N fun v w=>St [] f w [W X v r]):=by
 refine ca2 15 Tryz.func131 Z Z Z<|have hS:=St.r f;?_
 unfold F.SZ at h
 exact wk
theorem lN {f:World} {a0 a1:L00} {j p:Value} {r:L00}
  (h:F.TF a0 a1=some r) (hT:TB [] f) (u:O [] f X j a0) (A:O [] f X p a1):Calls Tryz.prog 74 #[j,p] f (N fun v w=>St [] f w [W X v r]):=by
 refine ca2 15 Tryz.func74 Z Z Z<|have hS:=St.r f;?_
 unfold F.TF at h
 exact wk
theorem Fy {f:World}  {r:L00}
  (h:F.Vq =some r) (hT:TB [] f):Calls Tryz.prog 134 #[] f (N fun v w=>St [] f w [W X v r]):=by
 refine dN 3 Tryz.func134 Z Z Z<|have hS:=St.r f;km [] trivial ?_
 unfold F.Vq at h
 exact wk
theorem JS {f:World} {a0 a1:L00} {j p:Value} {r:L00}
  (h:F.Tr a0 a1=some r) (hT:TB [] f) (u:O [] f X j a0) (A:O [] f X p a1):Calls Tryz.prog 133 #[j,p] f (N fun v w=>St [] f w [W X v r]):=by
 refine ca2 15 Tryz.func133 Z Z Z<|have hS:=St.r f;?_
 unfold F.Tr at h
 exact wk
theorem AD {f:World} {a0:L00} {j:Value} {r:L00}
  (h:F.Xd a0=some r) (hT:TB [] f) (p:O [] f X j a0):Calls Tryz.prog 135 #[j] f (N fun v w=>St [] f w [W X v r]):=by
 refine ca1 12 Tryz.func135 Z Z Z<|have hS:=St.r f;?_
 unfold F.Xd at h
 exact wk
theorem FH {f:World} {a0 a1:L00} {j p:Value} {r:L00}
  (h:F.Zz a0 a1=some r) (hT:TB [] f) (u:O [] f X j a0) (A:O [] f X p a1):Calls Tryz.prog 167 #[j,p] f (N fun v w=>St [] f w [W X v r]):=by
 refine ca2 15 Tryz.func167 Z Z Z<|have hS:=St.r f;?_
 unfold F.Zz at h
 exact wk
theorem GK {f:World}  {r:L00}
  (h:F.aax =some r) (hT:TB [] f):Calls Tryz.prog 169 #[] f (N fun v w=>St [] f w [W X v r]):=by
 refine dN 3 Tryz.func169 Z Z Z<|have hS:=St.r f;km [] trivial ?_
 unfold F.aax at h
 exact wk
theorem yU {p:World} {a0:L00} {C:Value} (a1:Bool) {r:L00×Bool}
  (h:F.Y5 a0 a1=some r) (hT:TB [] p) (D:O [] p X C a0):Calls Tryz.prog 123 #[C,U a1] p (N fun v w=>∃u0:Value,v=.tuple #[u0,U r.2]/\St [] p w [W X u0 r.1]):=by
 refine ca2 58 Tryz.func123 Z Z Z<|have hS:=St.r p;?_
 unfold F.Y5 at h
 let j1:=fun j u=>mkJ 7 (F.YC a1 u) (fun g L w=>∃f,L=[(1,U a1),(7,j),(8,f)]/\St [] p w [W X f g,W X j u]) [(7,j)] [W X j u]
 let j2:=fun f A=>mkJ 8 (F.Wk a1 A) (fun g L w=>L=[(1,U a1),(8,f),(50,U g)]/\St [] p w [W X f A]) [(8,f)] [W X f A]
 let j3:=mkJ 11 (F.abt) (fun g L w=>∃B,L=[(8,B)]/\St [] p w [W X B g]) [] []
 exact wk
theorem De {f:World} {a0:L01} {u:Value} {r:L00×L00×Bool×Int}
  (h:F.Xl a0=some r) (hT:TB [] f) (A:O [] f K u a0):Calls Tryz.prog 70 #[u] f (N fun v w=>∃j p:Value,v=.tuple #[.agg #[j,p,U r.2.2.1],V r.2.2.2]/\St [] f w [W X j r.1,W X p r.2.1]):=by
 refine ca1 44 Tryz.func70 Z Z Z<|have hS:=St.r f;?_
 unfold F.Xl at h
 exact wk
theorem Ev {f:World}  {r:L00}
  (h:F.Yf =some r) (hT:TB [] f):Calls Tryz.prog 72 #[] f (N fun v w=>St [] f w [W X v r]):=by
 refine dN 3 Tryz.func72 Z Z Z<|have hS:=St.r f;km [] trivial ?_
 unfold F.Yf at h
 exact wk
theorem lh {f:World}  {r:L00×L00×Bool}
  (h:F.aaq =some r) (q:TB [] f):Calls Tryz.prog 76 #[] f (N fun v w=>∃g j:Value,v=.agg #[g,j,U r.2.2]/\St [] f w [W X g r.1,W X j r.2.1]):=by
 refine dN 8 Tryz.func76 Z Z Z<|have a:=St.r f;km [] trivial ?_
 unfold F.aaq at h
 refine gl4<|qd (mU (cs:=[L03,L03,U false]) LM Z a) Z fun s w a=>gl1<|lH (fun w'=>St [] f w' [Y s [L03,L03,U false]]) (fun i=>!([2,5,7].contains i)) ku (fun _ _ _ m=>m.2) (fun _ _ m=>m) (by kernel_rfl)<|have a:=a.drew;show lxE _ _ _ _ _ _ _ [0,1,2,3,4,5,6,7] _ _ from cC a Z Z (fun w d=>kw Tryz.underlying213 qG Z Z (by decide) (by decide)) Z<|cC a Z Z (fun w d=>mQ (us:=X.fl F.TZ) u206 Z qG (fu (show F.TZ.length=8 from Z) Z) Z (q.ed_baseLimbs.part d.fr (l1:=F.TZ) Z)) Z<|cq h fun t n h=>jQ a Z Z (by kernel_rfl) Z (q7 F.TZ n (show F.TZ.length=8 from Z)) Z fun b w k=>have a:=a.j k;have o:=(a.ro 0 Z).one;cC (a.f [1] Z Z) Z Z (fun w d=>kw Tryz.underlying213 qG Z Z (by decide) (by decide)) Z<|cC (a.f [1] Z Z) Z Z (fun w d=>mQ (us:=X.fl F.TW) u206 Z qG (fu (show F.TW.length=8 from Z) Z) Z (q.ed_baseLimbs.part d.fr (l1:=F.TW) Z)) Z<|cq h fun u p h=>jQ (a.f [1] Z Z) Z Z (by kernel_rfl) Z (q7 F.TW p (show F.TW.length=8 from Z)) Z fun c w k=>have a:=a.j k;have l:=(a.ro 0 Z).one;cC (a.f [2] Z Z) Z Z (fun w d=>sF (vs:=[(0,b,[b]),(1,c,[c])]) (cells:=[b,c,U false]) Z Hi ⟨(jI o),(jI l),trivial⟩ Z) Z ?_
 refine qK (a.f [2] Z Z) Z Z (jN (i:=2) (us:=[b,c,U false]) Z F8 Z Z Z ⟨(a.ro 1 Z).one,(a.ro 0 Z).one,Z,trivial⟩ Z a) fun w a=>iB trivial<|bA<|gM ?_
 cases h
 exact Ik Z ⟨_,Z,xJ (us:=[b,c,U false]) Tryz.underlying122 Z F8 (a.bxs 2 Z Z)⟩ ⟨b,c,Z,a.f [1,0] Z Z⟩
theorem kX {f:World} {a0:L00} {j:Value} {r:L00}
  (h:F.WX a0=some r) (hT:TB [] f) (p:O [] f X j a0):Calls Tryz.prog 130 #[j] f (N fun v w=>St [] f w [W X v r]):=by
 refine ca1 5 Tryz.func130 Z Z Z<|have hS:=St.r f;?_
 unfold F.WX at h
 exact wk
theorem jX {D:World} {E G:L00} {A B:Value} (ab:Bool) {r:L00×L00×L00×L00}
  (h:F.Xx E G ab=some r) (hT:TB [] D) (ah:O [] D X A E) (ai:O [] D X B G):Calls Tryz.prog 75 #[.agg #[A,B,U ab]] D (N fun v w=>∃ac ad ae af:Value,v=.agg #[ac,ad,ae,af]/\St [] D w [W X ac r.1,W X ad r.2.1,W X ae r.2.2.1,W X af r.2.2.2]):=by
 refine ca1 16 Tryz.func75 Z Z Z<|have hS:=St.r D;have hZ:=Fz.r (S:=[]) (w0:=D);?_
 have hTT:TOk [] [] D:=TOk.nil
 have hA:Rds [] D [P X B G,P X A E]:=R (O.q (ao Z) ai) (R (O.q (ao Z) ah) (Rds.nil))
 have hP:Off [] [P X B G,P X A E]:=Off.emp
 unfold F.Xx at h
 let m1c3:=fun (T:L00) (aa:L00) (C:L00) (ag:Nat) (rid:Nat)=>mkM rid [(2,[],[],[],[]),(5,[],[],[],[]),(6,[],[],[],[]),(11,[],[],[],[]),(12,[2,5,6,11],[2,5,6,11],[],[]),(13,[2,5,6,11],[12],[],[])] [2,5,6,11,12,13] [13] [(13,[Y ag [L03,L03,L03,L03]])] [Y ag [L03,L03,L03,L03]] [(2,fun h v x y=>∃p:Value,v=p/\x=[W X p T]/\y=[]),(5,fun h v x y=>∃u:Value,v=u/\x=[W X u aa]/\y=[]),(6,fun h v x y=>∃f:Value,v=f/\x=[W X f ([1]:L00)]/\y=[]),(11,fun h v x y=>∃j:Value,v=j/\x=[W X j C]/\y=[]),(12,fun h v x y=>∃p:Value,∃u:Value,∃f:Value,∃j:Value,h=[(p,[W X p T],[]),(u,[W X u aa],[]),(f,[W X f ([1]:L00)],[]),(j,[W X j C],[])]/\v=.agg #[p,u,f,j]/\x=[W X p T,W X u aa,W X f ([1]:L00),W X j C]/\y=[]),(13,fun h v x y=>∃p:Value,∃u:Value,∃f:Value,∃j:Value,h=[(p,[W X p T],[]),(u,[W X u aa],[]),(f,[W X f ([1]:L00)],[]),(j,[W X j C],[])]/\v=undef/\x=[W X p T,W X u aa,W X f ([1]:L00),W X j C,Y ag [p,u,f,j]]/\y=[])] []
 exact wk
theorem u5 {f:World} {B C D E:L00} {j p u A:Value} {r:L00×L00×L00×L00}
  (h:F.YG B C D E=some r) (hT:TB [] f) (ab:O [] f X j B) (ac:O [] f X p C) (ad:O [] f X u D) (ae:O [] f X A E):Calls Tryz.prog 132 #[.agg #[j,p,u,A]] f (N fun v w=>∃G S T aa:Value,v=.agg #[G,S,T,aa]/\St [] f w [W X G r.1,W X S r.2.1,W X T r.2.2.1,W X aa r.2.2.2]):=by
 refine ca1 61 Tryz.func132 Z Z Z<|have hS:=St.r f;?_
 unfold F.YG at h
 exact wk
theorem iT {f:World} {G S T aa ab ac ad ae:L00} {j p u A B C D E:Value} {r:L00×L00×L00×L00}
  (h:F.Xb G S T aa ab ac ad ae=some r) (hT:TB [] f) (aj:O [] f X j G) (ak:O [] f X p S) (al:O [] f X u T) (am:O [] f X A aa) (an:O [] f X B ab) (ap:O [] f X C ac) (aq:O [] f X D ad) (J:O [] f X E ae):Calls Tryz.prog 78 #[.agg #[j,p,u,A],.agg #[B,C,D,E]] f (N fun v w=>∃af ag ah ai:Value,v=.agg #[af,ag,ah,ai]/\St [] f w [W X af r.1,W X ag r.2.1,W X ah r.2.2.1,W X ai r.2.2.2]):=by
 refine ca2 77 Tryz.func78 Z Z Z<|have hS:=St.r f;?_
 unfold F.Xb at h
 exact wk
theorem ip {A:World} {E G S T a1:L00} {f j p u ab:Value} {r:L00×L00×L00×L00}
  (h:F.Xc E G S T a1=some r) (hT:TB [] A) (ap:O [] A X f E) (aq:O [] A X j G) (J:O [] A X p S) (au:O [] A X u T) (av:O [] A X ab a1):Calls Tryz.prog 77 #[.agg #[f,j,p,u],ab] A (N fun v w=>∃ac ad ae af:Value,v=.agg #[ac,ad,ae,af]/\St [] A w [W X ac r.1,W X ad r.2.1,W X ae r.2.2.1,W X af r.2.2.2]):=by
 refine ca2 26 Tryz.func77 Z Z Z<|have hS:=St.r A;?_
 unfold F.Xc at h
 let i1:=fun B C D=>mkI (F.XN E G S T a1) (fun s L w=>∃ag ah ai aj,L=[(1,ab),(2,Q B 0),(4,Q C 0),(5,Q D 0),(6,V s.1)]/\St [] A w [Y B [f,j,p,u],Y C [L03,L03,L03,L03],Y D [ag,ah,ai,aj],W X ag s.2.1,W X ah s.2.2.1,W X ai s.2.2.2.1,W X aj s.2.2.2.2])
 let j1:=fun B C D aa=>mkJ 5 (F.Y3 aa) (fun g L w=>∃ak al am an,L=[(1,ab),(2,Q B 0),(4,Q C 0),(5,Q D 0),(6,V aa)]/\St [] A w [Y B [f,j,p,u],Y C [L03,L03,L03,L03],Y D [ak,al,am,an],W X ak g.1,W X al g.2.1,W X am g.2.2.1,W X an g.2.2.2]) [(2,Q B 0),(4,Q C 0),(5,Q D 0),(6,V aa)] [Y B [f,j,p,u],Y C [L03,L03,L03,L03]]
 exact wk
theorem io {f:World} {B C D E:L00} {j p u A:Value} {r:L00×L00×Bool}
  (h:F.YA B C D E=some r) (hT:TB [] f) (T:O [] f X j B) (aa:O [] f X p C) (ab:O [] f X u D) (ac:O [] f X A E):Calls Tryz.prog 79 #[.agg #[j,p,u,A]] f (N fun v w=>∃G S:Value,v=.agg #[G,S,U r.2.2]/\St [] f w [W X G r.1,W X S r.2.1]):=by
 refine ca1 16 Tryz.func79 Z Z Z<|have hS:=St.r f;?_
 unfold F.YA at h
 exact wk
theorem L4 {p:World} {u A:L00} {f j:Value} (B:Bool) {r:Bool}
  (h:F.YM u A B=some r) (hT:TB [] p) (D:O [] p X f u) (E:O [] p X j A):Calls Tryz.prog 136 #[.agg #[f,j,U B]] p (N fun v w=>v=U r/\St [] p w []):=by
 refine ca1 43 Tryz.func136 Z Z Z<|have hS:=St.r p;?_
 unfold F.YM at h
 let j1:=fun C=>mkJ 3 (F.Yy u A) (fun g L w=>L=[(1,Q C 0),(20,U g.1)]/\St [] p w [Y C [f,j,U g.2]]) [(1,Q C 0)] []
 exact wk
theorem Dj {f:World} {u A:L00} {j p:Value} (B:Bool) {r:L01×Int}
  (h:F.XK u A B=some r) (hT:TB [] f) (D:O [] f X j u) (E:O [] f X p A):Calls Tryz.prog 80 #[.agg #[j,p,U B]] f (N fun v w=>∃u0:Value,v=.tuple #[u0,V r.2]/\St [] f w [W K u0 r.1]):=by
 refine ca1 26 Tryz.func80 Z Z Z<|have hS:=St.r f;?_
 unfold F.XK at h
 let j1:=fun C=>mkJ 8 (F.ZO) (fun g L w=>L=[(4,C)]/\St [] f w [W K C g]) [(4,C)] []
 exact wk
end Go.Proofs
